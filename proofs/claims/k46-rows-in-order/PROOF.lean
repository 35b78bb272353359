import PyProof.Rows.All
import Wide.All
import OpenK.AllK
import Wide.FinOn
import HandS.ForMost
import HandS.TupAny
import HandS.WideBits
import HandS.Wide
import HandS.Style
import HandS.Deep
import HandS.IsInst
import HandS.Codes
import HandS.TupMul
import HandS.More
import HandS.Exc
import HandS.ExcOwn
import HandS.WordsExc
import HandS.CallSlots
import HandS.Comp
import HandS.Iter
import HandS.Zip
import HandS.WordsList
import HandS.Dict
import KE.GoesNew
import KE.GoesEnum
import HandS.EndBits
import HandS.Small
import PyProof.StrOps2
import HandS.TryMany
import HandS.TryOnly
import HandS.ExcField
import HandS.ExcIs
import KE.KExcIs
import HandS.ExcInit
import HandS.FStr
import PyProof.FitsInt
import KE.IntBitsLaws
import PySem.Challenge.RW_gluebridge_k46_rows_in_order
set_option Elab.async false
set_option linter.all false
set_option maxRecDepth 100000
/-! Pm: a translator's core. Pure data D, a small store S of what is changed, results R; how they stand to the layer's values V and heaps Hp; combinators of simulation. -/
namespace Pm
open PySem PySem.Spec PyProof.Rows L2

/-! ### data, store, results -/
/-- data: lst, tup, ins are finished (nothing changes them any more); ref n is the n-th thing of the store -/
inductive D where
  | non | bl (b : Bool) | int (i : Int) | str (x : Str)
  | tup (xs : List D) | lst (xs : List D) | ref (n : Nat)
  | ins (C : Str) (fs : List (Str × D))
  | glo (a : Addr) | ty (n : String)
  | dic (kvs : List (Str × D))
  /-- an exception that a suite holds: its number, its class, its fields -/
  | exn (k : Nat) (C : Str) (fs : List (Str × D))
/-- where the classes stand; the exception that the suite holds: its number, its address, its dict's, its class's -/
structure Cl where
  of : Str → Option Addr
  ex : Option (Nat × Addr × Addr × Addr)
instance : CoeFun Cl fun _ => Str → Option Addr := ⟨Cl.of⟩
/-- a thing of the store -/
inductive O where
  | lst (xs : List D)
  | ins (C : Str) (fs : List (Str × D))
  /-- a dict with number and text keys -/
  | dK (kvs : List (Key × D))
abbrev S := List O
abbrev Rho := List (Option D)
inductive R (α : Type) where
  | ok (a : α) (s : S)
  | exc (x : D) (s : S)
  | bad
def R.bind {α β : Type} (r : R α) (f : α → S → R β) : R β := match r with
  | .ok a s => f a s
  | .exc x s => .exc x s
  | .bad => .bad
theorem R.bind_ok {α β : Type} (a : α) (s : S) (f : α → S → R β) : (R.ok a s).bind f = f a s := rfl
theorem R.bind_exc {α β : Type} (x : D) (s : S) (f : α → S → R β) : (R.exc x s : R α).bind f = .exc x s := rfl
theorem R.bind_bad {α β : Type} (f : α → S → R β) : (R.bad : R α).bind f = .bad := rfl
/-- how a statement ends -/
inductive C where
  | nx (ρ : Rho) | rt (d : D) | bk (ρ : Rho) | ct (ρ : Rho)
/-- a statement's result: an exception leaves with the slots as they stand -/
inductive RS where
  | ok (c : C) (s : S)
  | exc (x : D) (ρ : Rho) (s : S)
  | bad
abbrev ME := Rho → S → R D
abbrev MT := Rho → S → R Bool
abbrev MA := Rho → S → R (List D)
abbrev MS := Rho → S → RS
/-- an expression in a statement at the slots ρ -/
def R.st {α : Type} (r : R α) (ρ : Rho) (f : α → S → RS) : RS := match r with
  | .ok a s => f a s
  | .exc x s => .exc x ρ s
  | .bad => .bad
def RS.andThen (r : RS) (f : Rho → S → RS) : RS := match r with
  | .ok (.nx ρ) s => f ρ s
  | .ok c s => .ok c s
  | .exc x ρ s => .exc x ρ s
  | .bad => .bad

/-! ### how data stand to values -/
section
variable (K : PySem.W.Frag) (w : World) (cl : Cl)
abbrev LsQ (H : Hp) (a : Addr) (xs : List V) : Prop := SqL K H a xs
def SL (ι : List Addr) (H : Hp) (a : Addr) (xs : List V) : Prop := (Rd H a (.lst xs) ∧ a ∉ ι) ∨
  ∃ (o : Obj) (its : Array Value) (n : Nat), K.lookup a = some o ∧ o.cls = .type "list" ∧ o.dict = none ∧ o.data = .seq its n ∧ its.size ≤ sizeLine ∧ Vals xs its.toList
def ST (ι : List Addr) (H : Hp) (a : Addr) (xs : List V) : Prop := (Rd H a (.tup xs) ∧ a ∉ ι) ∨
  ∃ (o : Obj) (its : Array Value) (n : Nat), K.lookup a = some o ∧ o.cls = .type "tuple" ∧ o.data = .seq its n ∧ its.size ≤ sizeLine ∧ Vals xs its.toList
/-- a dict of the written part, its keys texts -/
def KDx (a : Addr) (vs : List (Str × V)) : Prop := ∃ (es : Array DictEntry) (n : Nat) (us : List (Str × Value)), K.lookup a = some ⟨.type "dict", none, .dict es n, #[]⟩ ∧ PySem.W.KeysLit w.params es.toList ∧ (a == sysModules) = false ∧
  (∀ z : Str, PySem.W.nsIn K a z = some (us.lookup z)) ∧ Paired (fun (p : Str × V) (q : Str × Value) => p.1 = q.1 ∧ RelV p.2 q.2) vs us
mutual
inductive RelD (ι : List Addr) (H : Hp) : D → V → Prop
  | non : RelD ι H .non .non
  | bl (b : Bool) : RelD ι H (.bl b) (.bl b)
  | int (i : Int) : RelD ι H (.int i) (.int i)
  | str (x : Str) : RelD ι H (.str x) (.str x)
  | tup {ds : List D} {a : Addr} {vs : List V} (h : ST K ι H a vs) (r : RelDs ι H ds vs) : RelD ι H (.tup ds) (.ref a)
  | lst {ds : List D} {a : Addr} {vs : List V} (h : SL K ι H a vs) (r : RelDs ι H ds vs) : RelD ι H (.lst ds) (.ref a)
  | ref {n : Nat} {a : Addr} (h : ι[n]? = some a) : RelD ι H (.ref n) (.ref a)
  | ins {c : Str} {A a dx : Addr} {fs : List (Str × D)} {vs : List (Str × V)} (hc : cl c = some A) (hk : Cls K A) (h : H a = some (.ins A dx vs)) (ha : a ∉ ι) (r : RelFs ι H fs vs) : RelD ι H (.ins c fs) (.ref a)
  | glo (a : Addr) : RelD ι H (.glo a) (.ref a)
  | ty (n : String) : RelD ι H (.ty n) (.ty n)
  | dic {kvs : List (Str × D)} {a : Addr} {vs : List (Str × V)} (h : KDx K w a vs) (r : RelFs ι H kvs vs) : RelD ι H (.dic kvs) (.ref a)
  | exn {k : Nat} {c : Str} {A a dd : Addr} {fs : List (Str × D)} {vs : List (Str × V)} (he : cl.ex = some (k, a, dd, A)) (hc : cl c = some A) (h : H dd = some (.xd vs)) (ha : dd ∉ ι) (r : RelFs ι H fs vs) : RelD ι H (.exn k c fs) (.ref a)
  | old {k : Nat} {c : Str} {a : Addr} {fs : List (Str × D)} (he : ∀ t, cl.ex = some t → t.1 ≠ k) : RelD ι H (.exn k c fs) (.ref a)
inductive RelDs (ι : List Addr) (H : Hp) : List D → List V → Prop
  | nil : RelDs ι H [] []
  | cons {d : D} {v : V} {ds : List D} {vs : List V} (r : RelD ι H d v) (t : RelDs ι H ds vs) : RelDs ι H (d :: ds) (v :: vs)
inductive RelFs (ι : List Addr) (H : Hp) : List (Str × D) → List (Str × V) → Prop
  | nil : RelFs ι H [] []
  | cons {f : Str} {d : D} {v : V} {ds : List (Str × D)} {vs : List (Str × V)} (r : RelD ι H d v) (t : RelFs ι H ds vs) : RelFs ι H ((f, d) :: ds) ((f, v) :: vs)
end
end

/-- not the objects that are being made -/
def Dat : HO → Prop
  | .ext _ => False
  | _ => True
/-- data stay data -/
structure Ext0 (ι : List Addr) (H : Hp) (ι' : List Addr) (H' : Hp) : Prop where
  pre : ∃ l, ι' = ι ++ l
  keep : ∀ a o, H a = some o → a ∉ ι → Dat o → H' a = some o ∧ a ∉ ι'
/-- what lies behind: new things come last in ι; all that was tracked outside of ι is as it was; nothing is gone -/
structure Ext (ι : List Addr) (H : Hp) (ι' : List Addr) (H' : Hp) : Prop where
  pre : ∃ l, ι' = ι ++ l
  keep : ∀ a o, H a = some o → a ∉ ι → H' a = some o ∧ a ∉ ι'
  dom : ∀ a, H' a = none → H a = none
theorem Ext.toExt0 {ι ι' : List Addr} {H H' : Hp} (x : Ext ι H ι' H') : Ext0 ι H ι' H' := ⟨x.pre, fun a o h n _ => x.keep a o h n⟩
theorem Ext.refl (ι : List Addr) (H : Hp) : Ext ι H ι H := ⟨⟨[], (List.append_nil ι).symm⟩, fun _ _ h n => ⟨h, n⟩, fun _ h => h⟩
theorem Ext.trans {ι ι1 ι2 : List Addr} {H H1 H2 : Hp} (a : Ext ι H ι1 H1) (b : Ext ι1 H1 ι2 H2) : Ext ι H ι2 H2 := by
  obtain ⟨l1, e1⟩ := a.pre
  obtain ⟨l2, e2⟩ := b.pre
  refine ⟨⟨l1 ++ l2, by rw [e2, e1, List.append_assoc]⟩, fun x o h n => ?_, fun x h => a.dom x (b.dom x h)⟩
  obtain ⟨h1, n1⟩ := a.keep x o h n
  exact b.keep x o h1 n1
theorem upd_none {H : Hp} {p a : Addr} {o : HO} (h : upd H p o a = none) : H a = none := by
  by_cases e : a = p
  · subst e; rw [upd_same] at h; cases h
  · rw [upd_ne e] at h; exact h
/-- a new object that the store does not know -/
theorem Ext.new {ι : List Addr} {H : Hp} {p : Addr} {o : HO} (h : H p = none) : Ext ι H ι (upd H p o) :=
  ⟨⟨[], (List.append_nil ι).symm⟩, fun a o' e n => ⟨by rw [upd_ne (ne_of_none e h)]; exact e, n⟩, fun _ => upd_none⟩
/-- a new thing of the store -/
theorem Ext.push {ι : List Addr} {H : Hp} {p : Addr} {o : HO} (h : H p = none) : Ext ι H (ι ++ [p]) (upd H p o) :=
  ⟨⟨[p], rfl⟩, fun a o' e n => ⟨by rw [upd_ne (ne_of_none e h)]; exact e, fun m => by
    rcases List.mem_append.mp m with m | m
    · exact n m
    · exact ne_of_none e h (List.mem_singleton.mp m)⟩, fun _ => upd_none⟩
/-- a thing of the store is changed -/
theorem Ext.write {ι : List Addr} {H : Hp} {p : Addr} {o : HO} (h : p ∈ ι) : Ext ι H ι (upd H p o) :=
  ⟨⟨[], (List.append_nil ι).symm⟩, fun a o' e n => ⟨by rw [upd_ne (fun z => n (by rw [z]; exact h))]; exact e, n⟩, fun _ => upd_none⟩
/-- .. of what was not there -/
theorem Ext.up {ι ι' : List Addr} {H H' : Hp} {p : Addr} {o : HO} (x : Ext ι H ι' H') (h : H p = none) : Ext ι H ι' (upd H' p o) :=
  ⟨x.pre, fun a o' e n => ⟨by rw [upd_ne (ne_of_none e h)]; exact (x.keep a o' e n).1, (x.keep a o' e n).2⟩, fun _ e => x.dom _ (upd_none e)⟩
/-- an object that is being made goes on -/
theorem Ext0.made {ι : List Addr} {H : Hp} {p : Addr} {o o' : HO} (h : H p = some o) (n : ¬ Dat o) : Ext0 ι H ι (upd H p o') :=
  ⟨⟨[], (List.append_nil ι).symm⟩, fun a u e m d => ⟨by rw [upd_ne (fun z => by rw [z, h] at e; cases e; exact n d)]; exact e, m⟩⟩
section
variable {K : PySem.W.Frag} {w : World} {cl : Cl} {ι ι' : List Addr} {H H' : Hp}
theorem Rd.ext0 {a : Addr} {u : HO} (x : Ext0 ι H ι' H') (h : Rd H a u) (n : a ∉ ι) (d : Dat u) : Rd H' a u ∧ a ∉ ι' := by
  rcases h with h | ⟨o, h⟩
  · exact ⟨.inl (x.keep _ _ h n d).1, (x.keep _ _ h n d).2⟩
  · exact ⟨.inr ⟨o, (x.keep _ _ h n trivial).1⟩, (x.keep _ _ h n trivial).2⟩
theorem SL.ext0 {a : Addr} {xs : List V} (x : Ext0 ι H ι' H') (h : SL K ι H a xs) : SL K ι' H' a xs := by
  rcases h with ⟨h, n⟩ | h
  · exact .inl (Rd.ext0 x h n trivial)
  · exact .inr h
theorem ST.ext0 {a : Addr} {xs : List V} (x : Ext0 ι H ι' H') (h : ST K ι H a xs) : ST K ι' H' a xs := by
  rcases h with ⟨h, n⟩ | h
  · exact .inl (Rd.ext0 x h n trivial)
  · exact .inr h
theorem LsQ.sq {a : Addr} {xs : List V} (h : LsQ K H a xs) : SqL K H a xs := h
theorem SL.ls {a : Addr} {xs : List V} (h : SL K ι H a xs) : LsQ K H a xs := by
  rcases h with ⟨h, n⟩ | h
  · exact .inl h
  · exact .inr h
theorem SL.sq {a : Addr} {xs : List V} (h : SL K ι H a xs) : SqL K H a xs := SL.ls h
theorem ST.sq {a : Addr} {xs : List V} (h : ST K ι H a xs) : SqT K H a xs := by
  rcases h with ⟨h, n⟩ | h
  · exact .inl h
  · exact .inr h
theorem Ext0.at {n : Nat} {a : Addr} (x : Ext0 ι H ι' H') (h : ι[n]? = some a) : ι'[n]? = some a := by
  obtain ⟨l, e⟩ := x.pre
  obtain ⟨hn, e2⟩ := List.getElem?_eq_some_iff.mp h
  rw [e, List.getElem?_append_left hn]
  exact h
mutual
theorem RelD.ext0 (x : Ext0 ι H ι' H') : ∀ {d : D} {v : V}, RelD K w cl ι H d v → RelD K w cl ι' H' d v
  | _, _, .non => .non
  | _, _, .bl b => .bl b
  | _, _, .int i => .int i
  | _, _, .str y => .str y
  | _, _, .tup h r => .tup (h.ext0 x) (RelDs.ext0 x r)
  | _, _, .lst h r => .lst (h.ext0 x) (RelDs.ext0 x r)
  | _, _, .ref h => .ref (x.at h)
  | _, _, .ins hc hk h ha r => .ins hc hk (x.keep _ _ h ha trivial).1 (x.keep _ _ h ha trivial).2 (RelFs.ext0 x r)
  | _, _, .glo a => .glo a
  | _, _, .ty n => .ty n
  | _, _, .dic h r => .dic h (RelFs.ext0 x r)
  | _, _, .exn he hc h ha r => .exn he hc (x.keep _ _ h ha trivial).1 (x.keep _ _ h ha trivial).2 (RelFs.ext0 x r)
  | _, _, .old he => .old he
theorem RelDs.ext0 (x : Ext0 ι H ι' H') : ∀ {ds : List D} {vs : List V}, RelDs K w cl ι H ds vs → RelDs K w cl ι' H' ds vs
  | _, _, .nil => .nil
  | _, _, .cons r t => .cons (RelD.ext0 x r) (RelDs.ext0 x t)
theorem RelFs.ext0 (x : Ext0 ι H ι' H') : ∀ {ds : List (Str × D)} {vs : List (Str × V)}, RelFs K w cl ι H ds vs → RelFs K w cl ι' H' ds vs
  | _, _, .nil => .nil
  | _, _, .cons r t => .cons (RelD.ext0 x r) (RelFs.ext0 x t)
end
theorem Rd.ext {a : Addr} {u : HO} (x : Ext ι H ι' H') (h : Rd H a u) (n : a ∉ ι) (d : Dat u) : Rd H' a u ∧ a ∉ ι' := Rd.ext0 x.toExt0 h n d
theorem SL.ext {a : Addr} {xs : List V} (x : Ext ι H ι' H') (h : SL K ι H a xs) : SL K ι' H' a xs := SL.ext0 x.toExt0 h
theorem ST.ext {a : Addr} {xs : List V} (x : Ext ι H ι' H') (h : ST K ι H a xs) : ST K ι' H' a xs := ST.ext0 x.toExt0 h
theorem Ext.at {n : Nat} {a : Addr} (x : Ext ι H ι' H') (h : ι[n]? = some a) : ι'[n]? = some a := x.toExt0.at h
theorem RelD.ext {d : D} {v : V} (x : Ext ι H ι' H') (h : RelD K w cl ι H d v) : RelD K w cl ι' H' d v := RelD.ext0 x.toExt0 h
theorem RelDs.ext {d : List D} {v : List V} (x : Ext ι H ι' H') (h : RelDs K w cl ι H d v) : RelDs K w cl ι' H' d v := RelDs.ext0 x.toExt0 h
theorem RelFs.ext {d : List (Str × D)} {v : List (Str × V)} (x : Ext ι H ι' H') (h : RelFs K w cl ι H d v) : RelFs K w cl ι' H' d v := RelFs.ext0 x.toExt0 h
end

/-- a thing of the store as it stands -/
def RelO (K : PySem.W.Frag) (w : World) (cl : Cl) (ι : List Addr) (H : Hp) : O → Addr → Prop
  | .lst ds, a => ∃ vs, H a = some (.lst vs) ∧ RelDs K w cl ι H ds vs
  | .ins c fs, a => ∃ A dx vs, cl c = some A ∧ Cls K A ∧ H a = some (.ins A dx vs) ∧ RelFs K w cl ι H fs vs
  | .dK kvs, a => ∃ vs, H a = some (.dK vs) ∧ kvs.map (·.1) = vs.map (·.1) ∧ RelDs K w cl ι H (kvs.map (·.2)) (vs.map (·.2))
structure RelS (K : PySem.W.Frag) (w : World) (cl : Cl) (ι : List Addr) (s : S) (H : Hp) : Prop where
  len : ι.length = s.length
  nd : ι.Nodup
  at_ : ∀ (n : Nat) (o : O), s[n]? = some o → ∃ a, ι[n]? = some a ∧ RelO K w cl ι H o a
/-- the slots -/
structure RelE (K : PySem.W.Frag) (w : World) (cl : Cl) (ι : List Addr) (H : Hp) (ρ : Rho) (σ : L2.St) : Prop where
  len : ρ.length = σ.length
  at_ : ∀ (i : Nat) (d : D), ρ[i]? = some (some d) → ∃ v, σ[i]? = some (some v) ∧ RelD K w cl ι H d v
theorem RelE.ext {K : PySem.W.Frag} {w : World} {cl : Cl} {ι ι' : List Addr} {H H' : Hp} {ρ : Rho} {σ : L2.St} (x : Ext ι H ι' H') (e : RelE K w cl ι H ρ σ) : RelE K w cl ι' H' ρ σ :=
  ⟨e.len, fun i d h => let ⟨v, h1, h2⟩ := e.at_ i d h; ⟨v, h1, h2.ext x⟩⟩
theorem RelE.set {K : PySem.W.Frag} {w : World} {cl : Cl} {ι : List Addr} {H : Hp} {ρ : Rho} {σ : L2.St} {i : Nat} {d : D} {v : V} (e : RelE K w cl ι H ρ σ) (r : RelD K w cl ι H d v) : RelE K w cl ι H (ρ.set i (some d)) (σ.set i (some v)) := by
  refine ⟨by rw [List.length_set, List.length_set]; exact e.len, fun j d' h => ?_⟩
  by_cases hij : i = j
  · subst hij
    by_cases hi : i < ρ.length
    · rw [List.getElem?_set_self hi] at h
      cases h
      exact ⟨v, List.getElem?_set_self (by rw [← e.len]; exact hi), r⟩
    · rw [List.getElem?_eq_none (by rw [List.length_set]; omega)] at h
      cases h
  · rw [List.getElem?_set_ne hij] at h ⊢
    exact e.at_ j d' h

/-! ### what an end asks -/
section
variable (K : PySem.W.Frag) (w : World) (cl : Cl)
/-- an exception: an instance by its class and fields -/
def RelX (ι : List Addr) (H : Hp) (x : D) (c : Value) (d : Option Addr) : Prop :=
  ∃ C fs A, x = .ins C fs ∧ cl C = some A ∧ c = .ref A ∧ ∃ dd vs, d = some dd ∧ H dd = some (.xd vs) ∧ RelFs K w cl ι H fs vs
/-- the wish of exceptions: WX of the layer, told at the data's level -/
abbrev Wish := Value → Option Addr → L2.St → Hp → Prop
def PoE (W : Wish) (ι : List Addr) (H : Hp) (σ : L2.St) (Q : VK) : R D → Prop
  | .ok d s => ∀ ι' H' v, Ext ι H ι' H' → RelS K w cl ι' s H' → RelD K w cl ι' H' d v → Q v H'
  | .exc x s => ∀ ι' H' c d, Ext ι H ι' H' → RelS K w cl ι' s H' → RelX K w cl ι' H' x c d → W c d σ H'
  | .bad => False
def PoT (W : Wish) (ι : List Addr) (H : Hp) (σ : L2.St) (Q : Bool → Hp → Prop) : R Bool → Prop
  | .ok b s => ∀ ι' H', Ext ι H ι' H' → RelS K w cl ι' s H' → Q b H'
  | .exc x s => ∀ ι' H' c d, Ext ι H ι' H' → RelS K w cl ι' s H' → RelX K w cl ι' H' x c d → W c d σ H'
  | .bad => False
def PoA (W : Wish) (ι : List Addr) (H : Hp) (σ : L2.St) (Q : List V → Hp → Prop) : R (List D) → Prop
  | .ok ds s => ∀ ι' H' vs, Ext ι H ι' H' → RelS K w cl ι' s H' → RelDs K w cl ι' H' ds vs → Q vs H'
  | .exc x s => ∀ ι' H' c d, Ext ι H ι' H' → RelS K w cl ι' s H' → RelX K w cl ι' H' x c d → W c d σ H'
  | .bad => False
def PoS (W : Wish) (ι : List Addr) (H : Hp) (Dn : Ends) : RS → Prop
  | .ok (.nx ρ) s => ∀ ι' H' σ, Ext ι H ι' H' → RelS K w cl ι' s H' → RelE K w cl ι' H' ρ σ → Dn.nx σ H'
  | .ok (.bk ρ) s => ∀ ι' H' σ, Ext ι H ι' H' → RelS K w cl ι' s H' → RelE K w cl ι' H' ρ σ → Dn.bk σ H'
  | .ok (.ct ρ) s => ∀ ι' H' σ, Ext ι H ι' H' → RelS K w cl ι' s H' → RelE K w cl ι' H' ρ σ → Dn.ct σ H'
  | .ok (.rt d) s => ∀ ι' H' v, Ext ι H ι' H' → RelS K w cl ι' s H' → RelD K w cl ι' H' d v → Dn.rt v H'
  | .exc x ρ s => ∀ ι' H' σ c d, Ext ι H ι' H' → RelS K w cl ι' s H' → RelE K w cl ι' H' ρ σ → RelX K w cl ι' H' x c d → W c d σ H'
  | .bad => False
end
/-- an expression's, a test's, an argument list's, a statement's simulation -/
structure SE (X : Cx) (cl : Cl) (W : Wish) (e : Expr) (m : ME) : Prop where
  ex : ∃ t, PE X e t ∧ ∀ σ H Q ρ ι s, RelE X.K X.w cl ι H ρ σ → RelS X.K X.w cl ι s H → PoE X.K X.w cl W ι H σ Q (m ρ s) → t σ H Q
structure SB (X : Cx) (cl : Cl) (W : Wish) (e : Expr) (m : MT) : Prop where
  ex : ∃ t, PT X e t ∧ ∀ σ H Q ρ ι s, RelE X.K X.w cl ι H ρ σ → RelS X.K X.w cl ι s H → PoT X.K X.w cl W ι H σ Q (m ρ s) → t σ H Q
structure SA (X : Cx) (cl : Cl) (W : Wish) (es : List Expr) (m : MA) : Prop where
  ex : ∃ t, PA X es t ∧ ∀ σ H Q ρ ι s, RelE X.K X.w cl ι H ρ σ → RelS X.K X.w cl ι s H → PoA X.K X.w cl W ι H σ Q (m ρ s) → t σ H Q
structure SS (X : Cx) (cl : Cl) (W : Wish) (st : Stmt) (m : MS) : Prop where
  ex : ∃ t, PS X st t ∧ ∀ Dn σ H ρ ι s, RelE X.K X.w cl ι H ρ σ → RelS X.K X.w cl ι s H → PoS X.K X.w cl W ι H Dn (m ρ s) → t Dn σ H
structure SSs (X : Cx) (cl : Cl) (W : Wish) (sts : List Stmt) (m : MS) : Prop where
  ex : ∃ t, PSs X sts t ∧ ∀ Dn σ H ρ ι s, RelE X.K X.w cl ι H ρ σ → RelS X.K X.w cl ι s H → PoS X.K X.w cl W ι H Dn (m ρ s) → t Dn σ H

/-! ### ends compose -/
section
variable {K : PySem.W.Frag} {w : World} {cl : Cl} {W : Wish} {ι ι' : List Addr} {H H' : Hp} {σ : L2.St}
theorem PoE.mono {Q Q' : VK} {r : R D} (x : Ext ι H ι' H') (h : PoE K w cl W ι H σ Q r) (k : ∀ v H2, Q v H2 → Q' v H2) : PoE K w cl W ι' H' σ Q' r := by
  cases r with
  | ok d s => exact fun ι2 H2 v x2 rs rd => k _ _ (h ι2 H2 v (x.trans x2) rs rd)
  | exc d s => exact fun ι2 H2 c dd x2 => h ι2 H2 c dd (x.trans x2)
  | bad => exact h
theorem PoS.ext {Dn : Ends} {r : RS} (x : Ext ι H ι' H') (h : PoS K w cl W ι H Dn r) : PoS K w cl W ι' H' Dn r := by
  cases r with
  | ok c s => cases c <;> exact fun ι2 H2 v x2 => h ι2 H2 v (x.trans x2)
  | exc d ρ s => exact fun ι2 H2 σ c dd x2 => h ι2 H2 σ c dd (x.trans x2)
  | bad => exact h
/-- behind a first part -/
theorem PoE.step {Q : VK} {Q1 : VK} {r : R D} {f : D → S → R D} (h : PoE K w cl W ι H σ Q (r.bind f))
    (k : ∀ d s ι' H' v, r = .ok d s → Ext ι H ι' H' → RelS K w cl ι' s H' → RelD K w cl ι' H' d v → PoE K w cl W ι' H' σ Q (f d s) → Q1 v H') : PoE K w cl W ι H σ Q1 r := by
  cases r with
  | ok d s => exact fun ι2 H2 v x2 rs rd => k d s ι2 H2 v rfl x2 rs rd (PoE.mono x2 h fun _ _ q => q)
  | exc d s => exact h
  | bad => exact h
theorem PoE.stepA {Q : VK} {Q1 : List V → Hp → Prop} {r : R (List D)} {f : List D → S → R D} (h : PoE K w cl W ι H σ Q (r.bind f))
    (k : ∀ d s ι' H' v, r = .ok d s → Ext ι H ι' H' → RelS K w cl ι' s H' → RelDs K w cl ι' H' d v → PoE K w cl W ι' H' σ Q (f d s) → Q1 v H') : PoA K w cl W ι H σ Q1 r := by
  cases r with
  | ok d s => exact fun ι2 H2 v x2 rs rd => k d s ι2 H2 v rfl x2 rs rd (PoE.mono x2 h fun _ _ q => q)
  | exc d s => exact h
  | bad => exact h
theorem PoE.stepT {Q : VK} {Q1 : Bool → Hp → Prop} {r : R Bool} {f : Bool → S → R D} (h : PoE K w cl W ι H σ Q (r.bind f))
    (k : ∀ b s ι' H', r = .ok b s → Ext ι H ι' H' → RelS K w cl ι' s H' → PoE K w cl W ι' H' σ Q (f b s) → Q1 b H') : PoT K w cl W ι H σ Q1 r := by
  cases r with
  | ok d s => exact fun ι2 H2 x2 rs => k d s ι2 H2 rfl x2 rs (PoE.mono x2 h fun _ _ q => q)
  | exc d s => exact h
  | bad => exact h
theorem PoT.mono {Q Q' : Bool → Hp → Prop} {r : R Bool} (x : Ext ι H ι' H') (h : PoT K w cl W ι H σ Q r) (k : ∀ v H2, Q v H2 → Q' v H2) : PoT K w cl W ι' H' σ Q' r := by
  cases r with
  | ok d s => exact fun ι2 H2 x2 rs => k _ _ (h ι2 H2 (x.trans x2) rs)
  | exc d s => exact fun ι2 H2 c dd x2 => h ι2 H2 c dd (x.trans x2)
  | bad => exact h
theorem PoT.stepT {Q Q1 : Bool → Hp → Prop} {r : R Bool} {f : Bool → S → R Bool} (h : PoT K w cl W ι H σ Q (r.bind f))
    (k : ∀ b s ι' H', r = .ok b s → Ext ι H ι' H' → RelS K w cl ι' s H' → PoT K w cl W ι' H' σ Q (f b s) → Q1 b H') : PoT K w cl W ι H σ Q1 r := by
  cases r with
  | ok d s => exact fun ι2 H2 x2 rs => k d s ι2 H2 rfl x2 rs (PoT.mono x2 h fun _ _ q => q)
  | exc d s => exact h
  | bad => exact h
theorem PoT.stepE {Q : Bool → Hp → Prop} {Q1 : VK} {r : R D} {f : D → S → R Bool} (h : PoT K w cl W ι H σ Q (r.bind f))
    (k : ∀ d s ι' H' v, r = .ok d s → Ext ι H ι' H' → RelS K w cl ι' s H' → RelD K w cl ι' H' d v → PoT K w cl W ι' H' σ Q (f d s) → Q1 v H') : PoE K w cl W ι H σ Q1 r := by
  cases r with
  | ok d s => exact fun ι2 H2 v x2 rs rd => k d s ι2 H2 v rfl x2 rs rd (PoT.mono x2 h fun _ _ q => q)
  | exc d s => exact h
  | bad => exact h
theorem PoA.mono {Q Q' : List V → Hp → Prop} {r : R (List D)} (x : Ext ι H ι' H') (h : PoA K w cl W ι H σ Q r) (k : ∀ v H2, Q v H2 → Q' v H2) : PoA K w cl W ι' H' σ Q' r := by
  cases r with
  | ok d s => exact fun ι2 H2 v x2 rs rd => k _ _ (h ι2 H2 v (x.trans x2) rs rd)
  | exc d s => exact fun ι2 H2 c dd x2 => h ι2 H2 c dd (x.trans x2)
  | bad => exact h
theorem PoA.stepE {Q : List V → Hp → Prop} {Q1 : VK} {r : R D} {f : D → S → R (List D)} (h : PoA K w cl W ι H σ Q (r.bind f))
    (k : ∀ d s ι' H' v, r = .ok d s → Ext ι H ι' H' → RelS K w cl ι' s H' → RelD K w cl ι' H' d v → PoA K w cl W ι' H' σ Q (f d s) → Q1 v H') : PoE K w cl W ι H σ Q1 r := by
  cases r with
  | ok d s => exact fun ι2 H2 v x2 rs rd => k d s ι2 H2 v rfl x2 rs rd (PoA.mono x2 h fun _ _ q => q)
  | exc d s => exact h
  | bad => exact h
theorem PoA.stepA {Q : List V → Hp → Prop} {Q1 : List V → Hp → Prop} {r : R (List D)} {f : List D → S → R (List D)} (h : PoA K w cl W ι H σ Q (r.bind f))
    (k : ∀ d s ι' H' v, r = .ok d s → Ext ι H ι' H' → RelS K w cl ι' s H' → RelDs K w cl ι' H' d v → PoA K w cl W ι' H' σ Q (f d s) → Q1 v H') : PoA K w cl W ι H σ Q1 r := by
  cases r with
  | ok d s => exact fun ι2 H2 v x2 rs rd => k d s ι2 H2 v rfl x2 rs rd (PoA.mono x2 h fun _ _ q => q)
  | exc d s => exact h
  | bad => exact h
variable {Dn : Ends} {ρ : Rho}
theorem PoS.stepE {Q1 : VK} {r : R D} {f : D → S → RS} (e : RelE K w cl ι H ρ σ) (h : PoS K w cl W ι H Dn (r.st ρ f))
    (k : ∀ d s ι' H' v, r = .ok d s → Ext ι H ι' H' → RelS K w cl ι' s H' → RelD K w cl ι' H' d v → PoS K w cl W ι' H' Dn (f d s) → Q1 v H') : PoE K w cl W ι H σ Q1 r := by
  cases r with
  | ok d s => exact fun ι2 H2 v x2 rs rd => k d s ι2 H2 v rfl x2 rs rd (PoS.ext x2 h)
  | exc d s => exact fun ι2 H2 c dd x2 rs rx => h ι2 H2 σ c dd x2 rs (e.ext x2) rx
  | bad => exact h
theorem PoS.stepT {Q1 : Bool → Hp → Prop} {r : R Bool} {f : Bool → S → RS} (e : RelE K w cl ι H ρ σ) (h : PoS K w cl W ι H Dn (r.st ρ f))
    (k : ∀ b s ι' H', r = .ok b s → Ext ι H ι' H' → RelS K w cl ι' s H' → PoS K w cl W ι' H' Dn (f b s) → Q1 b H') : PoT K w cl W ι H σ Q1 r := by
  cases r with
  | ok d s => exact fun ι2 H2 x2 rs => k d s ι2 H2 rfl x2 rs (PoS.ext x2 h)
  | exc d s => exact fun ι2 H2 c dd x2 rs rx => h ι2 H2 σ c dd x2 rs (e.ext x2) rx
  | bad => exact h
theorem PoS.stepA {Q1 : List V → Hp → Prop} {r : R (List D)} {f : List D → S → RS} (e : RelE K w cl ι H ρ σ) (h : PoS K w cl W ι H Dn (r.st ρ f))
    (k : ∀ d s ι' H' v, r = .ok d s → Ext ι H ι' H' → RelS K w cl ι' s H' → RelDs K w cl ι' H' d v → PoS K w cl W ι' H' Dn (f d s) → Q1 v H') : PoA K w cl W ι H σ Q1 r := by
  cases r with
  | ok d s => exact fun ι2 H2 v x2 rs rd => k d s ι2 H2 v rfl x2 rs rd (PoS.ext x2 h)
  | exc d s => exact fun ι2 H2 c dd x2 rs rx => h ι2 H2 σ c dd x2 rs (e.ext x2) rx
  | bad => exact h
end
end Pm
namespace Pm
open PySem PySem.Spec PyProof.Rows L2

/-! ### expressions -/
def mVar (i : Nat) : ME := fun ρ s => match ρ[i]? with
  | some (some d) => .ok d s
  | _ => .bad
def mC (d : D) : ME := fun _ s => .ok d s
def m1 (f : D → S → R D) (a : ME) : ME := fun ρ s => (a ρ s).bind f
def m2 (f : D → D → S → R D) (a b : ME) : ME := fun ρ s => (a ρ s).bind fun x s1 => (b ρ s1).bind fun y s2 => f x y s2
def aNil : MA := fun _ s => .ok [] s
def aCons (a : ME) (r : MA) : MA := fun ρ s => (a ρ s).bind fun x s1 => (r ρ s1).bind fun xs s2 => .ok (x :: xs) s2
def mN (f : List D → S → R D) (a : MA) : ME := fun ρ s => (a ρ s).bind f
/-- a built-in type's method: the object, then the arguments -/
def mM (f : D → List D → S → R D) (a : ME) (as : MA) : ME := fun ρ s => (a ρ s).bind fun x s1 => (as ρ s1).bind fun xs s2 => f x xs s2
def mIf (c : MT) (a b : ME) : ME := fun ρ s => (c ρ s).bind fun k s1 => if k = true then a ρ s1 else b ρ s1
def tTru (f : D → S → Option Bool) (a : ME) : MT := fun ρ s => (a ρ s).bind fun d s1 => match f d s1 with
  | some b => .ok b s1
  | none => .bad
def tAnd2 (a b : MT) : MT := fun ρ s => (a ρ s).bind fun k s1 => if k = true then b ρ s1 else .ok false s1
def tOr2 (a b : MT) : MT := fun ρ s => (a ρ s).bind fun k s1 => if k = true then .ok true s1 else b ρ s1
def tNot1 (a : MT) : MT := fun ρ s => (a ρ s).bind fun k s1 => .ok (!k) s1
/-- a value that is a bool, as a test -/
def tBool (a : ME) : MT := fun ρ s => (a ρ s).bind fun d s1 => match d with
  | .bl b => .ok b s1
  | _ => .bad
/-- and, or, not as values over bools -/
def mAnd (a b : ME) : ME := fun ρ s => (a ρ s).bind fun d s1 => match d with
  | .bl true => b ρ s1
  | .bl false => .ok (.bl false) s1
  | _ => .bad
def mOr (a b : ME) : ME := fun ρ s => (a ρ s).bind fun d s1 => match d with
  | .bl true => .ok (.bl true) s1
  | .bl false => b ρ s1
  | _ => .bad
def mNot (a : ME) : ME := fun ρ s => (a ρ s).bind fun d s1 => match d with
  | .bl b => .ok (.bl (!b)) s1
  | _ => .bad
/-- a < b < c -/
def mChain (f g : D → D → S → R D) (a b c : ME) : ME := fun ρ s => (a ρ s).bind fun x s1 => (b ρ s1).bind fun y s2 => (f x y s2).bind fun k s3 => match k with
  | .bl true => (c ρ s3).bind fun z s4 => g y z s4
  | .bl false => .ok (.bl false) s3
  | _ => .bad

/-! ### rules by values: any rule of the layer will do -/
section
variable {X : Cx} {cl : Cl} {W : Wish}
def AnyOp (X : Cx) (f : Value → Value → Sem Value) : R2 := fun x y H Q => ∃ r, OpR X f r ∧ r x y H Q
theorem anyOp {f : Value → Value → Sem Value} : OpR X f (AnyOp X f) := fun pins s σ H x y v u Q I rx ry ⟨r, h, q⟩ => h pins s σ H x y v u Q I rx ry q
def AnyUn (X : Cx) (f : Value → Sem Value) : V → Hp → VK → Prop := fun x H Q => ∃ r, UnR X f r ∧ r x H Q
theorem anyUn {f : Value → Sem Value} : UnR X f (AnyUn X f) := fun pins s σ H x v Q I rx ⟨r, h, q⟩ => h pins s σ H x v Q I rx q
def AnyCall (X : Cx) (f : Value) : List V → Hp → VK → Prop := fun xs H Q => ∃ r, CallR X f r ∧ r xs H Q
theorem anyCall {f : Value} : CallR X f (AnyCall X f) := fun pins s σ H xs us Q I rx ⟨r, h, q⟩ => h pins s σ H xs us Q I rx q
def AnyIx (X : Cx) : R2 := fun x y H Q => ∃ r, IxR X r ∧ r x y H Q
theorem anyIx : IxR X (AnyIx X) := fun a b pins s σ H x y v u Q I rx ry ⟨r, h, q⟩ => h a b pins s σ H x y v u Q I rx ry q
def AnyMt (X : Cx) (id : String) : V → List V → Hp → VK → Prop := fun x xs H Q => ∃ r, MtR X id r ∧ r x xs H Q
theorem anyMt {id : String} : MtR X id (AnyMt X id) := fun pins s σ H x xs v us Q I rx rxs ⟨r, h, q⟩ => h pins s σ H x xs v us Q I rx rxs q
def OpD (X : Cx) (cl : Cl) (f : Value → Value → Sem Value) (g : D → D → S → R D) : Prop :=
  ∀ (W : Wish) (ι : List Addr) (H : Hp) (σ : L2.St) (Q : VK) (s : S) (dx dy : D) (x y : V), RelS X.K X.w cl ι s H → RelD X.K X.w cl ι H dx x → RelD X.K X.w cl ι H dy y → PoE X.K X.w cl W ι H σ Q (g dx dy s) → AnyOp X f x y H Q
def UnD (X : Cx) (cl : Cl) (f : Value → Sem Value) (g : D → S → R D) : Prop :=
  ∀ (W : Wish) (ι : List Addr) (H : Hp) (σ : L2.St) (Q : VK) (s : S) (dx : D) (x : V), RelS X.K X.w cl ι s H → RelD X.K X.w cl ι H dx x → PoE X.K X.w cl W ι H σ Q (g dx s) → AnyUn X f x H Q
def CallD (X : Cx) (cl : Cl) (f : Value) (g : List D → S → R D) : Prop :=
  ∀ (W : Wish) (ι : List Addr) (H : Hp) (σ : L2.St) (Q : VK) (s : S) (ds : List D) (xs : List V), RelS X.K X.w cl ι s H → RelDs X.K X.w cl ι H ds xs → PoE X.K X.w cl W ι H σ Q (g ds s) → AnyCall X f xs H Q
def IxD (X : Cx) (cl : Cl) (g : D → D → S → R D) : Prop :=
  ∀ (W : Wish) (ι : List Addr) (H : Hp) (σ : L2.St) (Q : VK) (s : S) (dx dy : D) (x y : V), RelS X.K X.w cl ι s H → RelD X.K X.w cl ι H dx x → RelD X.K X.w cl ι H dy y → PoE X.K X.w cl W ι H σ Q (g dx dy s) → AnyIx X x y H Q

theorem se_var {x : Str} {pos : Pos} (i : Nat) (hN : X.N[i]? = some x := by rfl) (hv : Vis X.env.scope x := by first | exact Or.inl rfl | exact Or.inr (Or.inl rfl) | exact Or.inr (Or.inr rfl)) (hd : (x == ("__debug__" : Str)) = false := by decide)
    (hcd : (x == ("__classdict__" : Str)) = false := by decide) : SE X cl W (.Name x pos) (mVar i) := by
  refine ⟨_, pe_var hN hv hd hcd, fun σ H Q ρ ι s e r h => ?_⟩
  unfold mVar at h
  split at h
  · rename_i d hd'
    obtain ⟨v, hv', rd⟩ := e.at_ i d hd'
    exact ⟨v, hv', h ι H v (Ext.refl _ _) r rd⟩
  · exact False.elim h
theorem se_con {e : Expr} {d : D} {v : V} (h : PE X e (tC v)) (r : ∀ ι H, RelD X.K X.w cl ι H d v) : SE X cl W e (mC d) :=
  ⟨_, h, fun σ H Q ρ ι s _ rs q => q ι H v (Ext.refl _ _) rs (r ι H)⟩
theorem se_int {i j pos} : SE X cl W (.Constant (.int i) j pos) (mC (.int i)) := se_con pe_int fun _ _ => .int i
theorem se_bl {b j pos} : SE X cl W (.Constant (.bool b) j pos) (mC (.bl b)) := se_con pe_bl fun _ _ => .bl b
theorem se_non {j pos} : SE X cl W (.Constant .none j pos) (mC .non) := se_con pe_non fun _ _ => .non
theorem se_str {x j pos} : SE X cl W (.Constant (.str x) j pos) (mC (.str x)) := se_con pe_str fun _ _ => .str x
theorem se_glob {x : Str} {d : D} {v : V} {u : Value} {pos : Pos} (hg : Gl X x) (hm : X.mg x = some u) (rv : RelV v u) (r : ∀ ι H, RelD X.K X.w cl ι H d v) (hd : (x == ("__debug__" : Str)) = false := by decide) : SE X cl W (.Name x pos) (mC d) :=
  se_con (pe_glob hg hm rv hd) r
variable {a b c : Expr} {ma mb mc : ME} {pos : Pos}
theorem se_op {op : Operator} {g : D → D → S → R D} (ho : OpD X cl (binaryOp op) g) (ha : SE X cl W a ma) (hb : SE X cl W b mb) : SE X cl W (.BinOp a op b pos) (m2 g ma mb) := by
  obtain ⟨ta, pa, qa⟩ := ha.ex
  obtain ⟨tb, pb, qb⟩ := hb.ex
  refine ⟨_, pe_op anyOp pa pb, fun σ H Q ρ ι s e r h => ?_⟩
  refine qa σ H _ ρ ι s e r (PoE.step h fun d s1 ι1 H1 v e1 x1 r1 d1 h1 => ?_)
  refine qb σ H1 _ ρ ι1 s1 (e.ext x1) r1 (PoE.step h1 fun d2 s2 ι2 H2 v2 e2 x2 r2 dd2 h2 => ?_)
  exact ho W ι2 H2 σ Q s2 d d2 v v2 r2 (d1.ext x2) dd2 h2
theorem se_un {op : UnaryOp} {g : D → S → R D} (ho : UnD X cl (unaryOp op) g) (ha : SE X cl W a ma) : SE X cl W (.UnaryOp op a pos) (m1 g ma) := by
  obtain ⟨ta, pa, qa⟩ := ha.ex
  refine ⟨_, pe_un anyUn pa, fun σ H Q ρ ι s e r h => ?_⟩
  refine qa σ H _ ρ ι s e r (PoE.step h fun d s1 ι1 H1 v e1 x1 r1 d1 h1 => ?_)
  exact ho W ι1 H1 σ Q s1 d v r1 d1 h1
theorem se_cmp {op : CmpOp} {g : D → D → S → R D} (ho : OpD X cl (compareOp op) g) (ha : SE X cl W a ma) (hb : SE X cl W b mb) (hm : behindInMarks op b = false := by first | exact nomark _ | rfl) : SE X cl W (.Compare a [op] [b] pos) (m2 g ma mb) := by
  obtain ⟨ta, pa, qa⟩ := ha.ex
  obtain ⟨tb, pb, qb⟩ := hb.ex
  refine ⟨_, pe_cmpR anyOp pa pb hm, fun σ H Q ρ ι s e r h => ?_⟩
  refine qa σ H _ ρ ι s e r (PoE.step h fun d s1 ι1 H1 v e1 x1 r1 d1 h1 => ?_)
  refine qb σ H1 _ ρ ι1 s1 (e.ext x1) r1 (PoE.step h1 fun d2 s2 ι2 H2 v2 e2 x2 r2 dd2 h2 => ?_)
  exact ho W ι2 H2 σ Q s2 d d2 v v2 r2 (d1.ext x2) dd2 h2
theorem sb_cmp {op : CmpOp} {g : D → D → S → R D} (ho : OpD X cl (compareOp op) g) (ha : SE X cl W a ma) (hb : SE X cl W b mb) (hm : behindInMarks op b = false := by first | exact nomark _ | rfl) : SB X cl W (.Compare a [op] [b] pos) (tBool (m2 g ma mb)) := by
  obtain ⟨ta, pa, qa⟩ := ha.ex
  obtain ⟨tb, pb, qb⟩ := hb.ex
  refine ⟨_, pt_cmpR anyOp pa pb hm, fun σ H Q ρ ι s e r h => ?_⟩
  unfold tBool m2 at h
  have h' : PoT X.K X.w cl W ι H σ Q ((ma ρ s).bind fun x s1 => (mb ρ s1).bind fun y s2 => (g x y s2).bind fun d s3 => match d with | .bl b => .ok b s3 | _ => .bad) := by
    cases e1 : ma ρ s <;> simp only [e1, R.bind] at h ⊢ <;> try exact h
    rename_i d1 s1
    cases e2 : mb ρ s1 <;> simp only [e2, R.bind] at h ⊢ <;> exact h
  refine qa σ H _ ρ ι s e r (PoT.stepE h' fun d s1 ι1 H1 v e1 x1 r1 d1 h1 => ?_)
  refine qb σ H1 _ ρ ι1 s1 (e.ext x1) r1 (PoT.stepE h1 fun d2 s2 ι2 H2 v2 e2 x2 r2 dd2 h2 => ?_)
  refine ho W ι2 H2 σ _ s2 d d2 v v2 r2 (d1.ext x2) dd2 (PoT.stepE h2 fun d3 s3 ι3 H3 v3 e3 x3 r3 dd3 h3 => ?_)
  cases dd3 <;> first
    | exact ⟨_, rfl, h3 ι3 H3 (Ext.refl _ _) r3⟩
    | exact False.elim h3
/-- any expression whose value is a bool, as a test -/
theorem sb_val (ha : SE X cl W a ma) (he : ∀ whole, isTrue a X.env whole = (do let v ← whole; standAt a.pos; holding [v] (truthy v)) := by intro _; rfl) : SB X cl W a (tBool ma) := by
  obtain ⟨ta, pa, qa⟩ := ha.ex
  refine ⟨_, pt_truth pa he, fun σ H Q ρ ι s e r h => ?_⟩
  refine qa σ H _ ρ ι s e r (PoT.stepE h fun d3 s3 ι3 H3 v3 e3 x3 r3 dd3 h3 => ?_)
  cases dd3 <;> first
    | exact ⟨_, rfl, h3 ι3 H3 (Ext.refl _ _) r3⟩
    | exact False.elim h3
/-- a value's truth -/
def dTru : D → S → Option Bool
  | .non, _ => some false
  | .bl b, _ => some b
  | .int i, _ => some (i != 0)
  | .str x, _ => if x.length ≤ sizeLine then some ((x.length : Int) != 0) else none
  | .tup xs, _ => some (!xs.isEmpty)
  | .lst xs, _ => some (!xs.isEmpty)
  | .ref n, s => match s[n]? with
    | some (.lst xs) => some (!xs.isEmpty)
    | _ => none
  | _, _ => none
theorem RelDs.length {K : PySem.W.Frag} {w : World} {ι : List Addr} {H : Hp} : ∀ {ds : List D} {vs : List V}, RelDs K w cl ι H ds vs → ds.length = vs.length
  | _, _, .nil => rfl
  | _, _, .cons _ t => congrArg (· + 1) (RelDs.length t)
theorem RelDs.isEmpty {K : PySem.W.Frag} {w : World} {ι : List Addr} {H : Hp} {ds : List D} {vs : List V} : RelDs K w cl ι H ds vs → ds.isEmpty = vs.isEmpty
  | .nil => rfl
  | .cons _ _ => rfl
theorem dTru_ok {K : PySem.W.Frag} {w : World} {ι : List Addr} {H : Hp} {s : S} {d : D} {v : V} {b : Bool} (rs : RelS K w cl ι s H) (r : RelD K w cl ι H d v) (h : dTru d s = some b) : TruV K v H b := by
  cases r <;> simp only [dTru] at h
  · exact (Option.some.inj h).symm
  · exact (Option.some.inj h).symm
  · exact (Option.some.inj h).symm
  · split at h
    · exact ⟨by assumption, (Option.some.inj h).symm⟩
    · cases h
  · rename_i h1 r1
    exact .inr (.inl ⟨_, h1.sq, by rw [← r1.isEmpty]; exact (Option.some.inj h).symm⟩)
  · rename_i h1 r1
    exact .inl ⟨_, h1.sq, by rw [← r1.isEmpty]; exact (Option.some.inj h).symm⟩
  · rename_i n a h1
    split at h
    · rename_i xs e
      obtain ⟨a', ea, vs, ha, r1⟩ := rs.at_ n _ e
      rw [h1] at ea
      cases ea
      exact .inl ⟨_, SqL.of ha, by rw [← r1.isEmpty]; exact (Option.some.inj h).symm⟩
    · cases h
  all_goals cases h
theorem sb_tru (ha : SE X cl W a ma) (he : ∀ whole, isTrue a X.env whole = (do let v ← whole; standAt a.pos; holding [v] (truthy v)) := by intro _; rfl) : SB X cl W a (tTru dTru ma) := by
  obtain ⟨ta, pa, qa⟩ := ha.ex
  refine ⟨_, pt_truth pa he, fun σ H Q ρ ι s e r h => ?_⟩
  refine qa σ H _ ρ ι s e r (PoT.stepE h fun d3 s3 ι3 H3 v3 e3 x3 r3 dd3 h3 => ?_)
  split at h3
  · rename_i b eb
    exact ⟨b, dTru_ok r3 dd3 eb, h3 ι3 H3 (Ext.refl _ _) r3⟩
  · exact False.elim h3
variable {ta tb : MT}
theorem sb_not (ha : SB X cl W a ta) : SB X cl W (.UnaryOp .Not a pos) (tNot1 ta) := by
  obtain ⟨t, pa, qa⟩ := ha.ex
  refine ⟨_, pt_not pa, fun σ H Q ρ ι s e r h => ?_⟩
  exact qa σ H _ ρ ι s e r (PoT.stepT h fun k s1 ι1 H1 e1 x1 r1 h1 => h1 ι1 H1 (Ext.refl _ _) r1)
/-- a test whatever its 'whole' is -/
structure SW (X : Cx) (cl : Cl) (W : Wish) (e : Expr) (m : MT) : Prop where
  ex : ∃ t, PW X e t ∧ ∀ σ H Q ρ ι s, RelE X.K X.w cl ι H ρ σ → RelS X.K X.w cl ι s H → PoT X.K X.w cl W ι H σ Q (m ρ s) → t σ H Q
theorem sw_and1 (ha : SB X cl W a ta) : SW X cl W (.BoolOp .And [a] pos) ta := by
  obtain ⟨t, pa, qa⟩ := ha.ex
  exact ⟨_, pw_and1 pa, qa⟩
theorem sw_or1 (ha : SB X cl W a ta) : SW X cl W (.BoolOp .Or [a] pos) ta := by
  obtain ⟨t, pa, qa⟩ := ha.ex
  exact ⟨_, pw_or1 pa, qa⟩
variable {rest : List Expr}
theorem sw_and (ha : SB X cl W a ta) (hb : SW X cl W (.BoolOp .And (b :: rest) pos) tb) : SW X cl W (.BoolOp .And (a :: b :: rest) pos) (tAnd2 ta tb) := by
  obtain ⟨t, pa, qa⟩ := ha.ex
  obtain ⟨u, pb, qb⟩ := hb.ex
  refine ⟨_, pw_and pa pb, fun σ H Q ρ ι s e r h => ?_⟩
  refine qa σ H _ ρ ι s e r (PoT.stepT h fun k s1 ι1 H1 e1 x1 r1 h1 => ?_)
  cases k with
  | true => exact qb σ H1 _ ρ ι1 s1 (e.ext x1) r1 h1
  | false => exact h1 ι1 H1 (Ext.refl _ _) r1
theorem sw_or (ha : SB X cl W a ta) (hb : SW X cl W (.BoolOp .Or (b :: rest) pos) tb) : SW X cl W (.BoolOp .Or (a :: b :: rest) pos) (tOr2 ta tb) := by
  obtain ⟨t, pa, qa⟩ := ha.ex
  obtain ⟨u, pb, qb⟩ := hb.ex
  refine ⟨_, pw_or pa pb, fun σ H Q ρ ι s e r h => ?_⟩
  refine qa σ H _ ρ ι s e r (PoT.stepT h fun k s1 ι1 H1 e1 x1 r1 h1 => ?_)
  cases k with
  | true => exact h1 ι1 H1 (Ext.refl _ _) r1
  | false => exact qb σ H1 _ ρ ι1 s1 (e.ext x1) r1 h1
theorem sb_bool (h : SW X cl W a ta) : SB X cl W a ta := by
  obtain ⟨t, pa, qa⟩ := h.ex
  exact ⟨_, pa.pt, qa⟩
theorem se_if {c : Expr} {tc : MT} (hc : SB X cl W c tc) (ha : SE X cl W a ma) (hb : SE X cl W b mb) : SE X cl W (.IfExp c a b pos) (mIf tc ma mb) := by
  obtain ⟨t, pc, qc⟩ := hc.ex
  obtain ⟨ta, pa, qa⟩ := ha.ex
  obtain ⟨tb, pb, qb⟩ := hb.ex
  refine ⟨_, pe_ifExp pc pa pb, fun σ H Q ρ ι s e r h => ?_⟩
  refine qc σ H _ ρ ι s e r (PoE.stepT h fun k s1 ι1 H1 e1 x1 r1 h1 => ?_)
  cases k with
  | true => exact qa σ H1 _ ρ ι1 s1 (e.ext x1) r1 h1
  | false => exact qb σ H1 _ ρ ι1 s1 (e.ext x1) r1 h1
theorem se_one {op} (h : SE X cl W a ma) : SE X cl W (.BoolOp op [a] pos) ma := by
  obtain ⟨ta, pa, qa⟩ := h.ex
  exact ⟨_, pe_one pa, qa⟩
theorem se_and (ha : SE X cl W a ma) (hb : SE X cl W (.BoolOp .And (b :: rest) pos) mb) : SE X cl W (.BoolOp .And (a :: b :: rest) pos) (mAnd ma mb) := by
  obtain ⟨ta, pa, qa⟩ := ha.ex
  obtain ⟨tb, pb, qb⟩ := hb.ex
  refine ⟨_, pe_and pa pb, fun σ H Q ρ ι s e r h => ?_⟩
  refine qa σ H _ ρ ι s e r (PoE.step h fun d s1 ι1 H1 v e1 x1 r1 d1 h1 => ?_)
  cases d1 <;> first
    | (rename_i k
       cases k with
       | true => exact ⟨true, rfl, qb σ H1 _ ρ ι1 s1 (e.ext x1) r1 h1⟩
       | false => exact ⟨false, rfl, h1 ι1 H1 _ (Ext.refl _ _) r1 (.bl _)⟩)
    | exact False.elim h1
theorem se_or (ha : SE X cl W a ma) (hb : SE X cl W (.BoolOp .Or (b :: rest) pos) mb) : SE X cl W (.BoolOp .Or (a :: b :: rest) pos) (mOr ma mb) := by
  obtain ⟨ta, pa, qa⟩ := ha.ex
  obtain ⟨tb, pb, qb⟩ := hb.ex
  refine ⟨_, pe_or pa pb, fun σ H Q ρ ι s e r h => ?_⟩
  refine qa σ H _ ρ ι s e r (PoE.step h fun d s1 ι1 H1 v e1 x1 r1 d1 h1 => ?_)
  cases d1 <;> first
    | (rename_i k
       cases k with
       | true => exact ⟨true, rfl, h1 ι1 H1 _ (Ext.refl _ _) r1 (.bl _)⟩
       | false => exact ⟨false, rfl, qb σ H1 _ ρ ι1 s1 (e.ext x1) r1 h1⟩)
    | exact False.elim h1
theorem se_not (ha : SE X cl W a ma) : SE X cl W (.UnaryOp .Not a pos) (mNot ma) := by
  obtain ⟨ta, pa, qa⟩ := ha.ex
  refine ⟨_, pe_not pa, fun σ H Q ρ ι s e r h => ?_⟩
  refine qa σ H _ ρ ι s e r (PoE.step h fun d s1 ι1 H1 v e1 x1 r1 d1 h1 => ?_)
  cases d1 <;> first
    | exact ⟨_, rfl, h1 ι1 H1 _ (Ext.refl _ _) r1 (.bl _)⟩
    | exact False.elim h1
theorem tBool_po {K : PySem.W.Frag} {w : World} {ι : List Addr} {H : Hp} {σ : L2.St} {Q : Bool → Hp → Prop} {m : ME} {ρ : Rho} {s : S} (h : PoT K w cl W ι H σ Q (tBool m ρ s)) : PoE K w cl W ι H σ (fun v H' => ∃ k, v = .bl k ∧ Q k H') (m ρ s) := by
  unfold tBool at h
  cases e1 : m ρ s with
  | bad => rw [e1] at h; exact h
  | exc x s1 => rw [e1] at h; exact h
  | ok d s1 =>
    rw [e1] at h
    simp only [R.bind] at h
    intro ι' H' v x r rd
    cases rd <;> first
      | exact ⟨_, rfl, h ι' H' x r⟩
      | exact False.elim h
theorem chain_rd {op op' : CmpOp} {f g : D → D → S → R D} (ho : OpD X cl (compareOp op) f) (ho' : OpD X cl (compareOp op') g) {ta tb tc : TE}
    (qa : ∀ σ H Q ρ ι s, RelE X.K X.w cl ι H ρ σ → RelS X.K X.w cl ι s H → PoE X.K X.w cl W ι H σ Q (ma ρ s) → ta σ H Q) (qb : ∀ σ H Q ρ ι s, RelE X.K X.w cl ι H ρ σ → RelS X.K X.w cl ι s H → PoE X.K X.w cl W ι H σ Q (mb ρ s) → tb σ H Q)
    (qc : ∀ σ H Q ρ ι s, RelE X.K X.w cl ι H ρ σ → RelS X.K X.w cl ι s H → PoE X.K X.w cl W ι H σ Q (mc ρ s) → tc σ H Q) {σ : L2.St} {H : Hp} {Q : VK} {ρ : Rho} {ι : List Addr} {s : S} (e : RelE X.K X.w cl ι H ρ σ) (r : RelS X.K X.w cl ι s H)
    (h : PoE X.K X.w cl W ι H σ Q (mChain f g ma mb mc ρ s)) : tChain (AnyOp X (compareOp op)) (AnyOp X (compareOp op')) ta tb tc σ H Q := by
  refine qa σ H _ ρ ι s e r (PoE.step h fun d s1 ι1 H1 v e1 x1 r1 d1 h1 => ?_)
  refine qb σ H1 _ ρ ι1 s1 (e.ext x1) r1 (PoE.step h1 fun d2 s2 ι2 H2 v2 e2 x2 r2 dd2 h2 => ?_)
  refine ho W ι2 H2 σ _ s2 d d2 v v2 r2 (d1.ext x2) dd2 (PoE.step h2 fun d3 s3 ι3 H3 v3 e3 x3 r3 dd3 h3 => ?_)
  cases dd3 <;> first
    | (rename_i k
       cases k with
       | true =>
         refine ⟨true, rfl, ?_⟩
         refine qc σ H3 _ ρ ι3 s3 (((e.ext x1).ext x2).ext x3) r3 (PoE.step h3 fun d4 s4 ι4 H4 v4 e4 x4 r4 dd4 h4 => ?_)
         exact ho' W ι4 H4 σ Q s4 d2 d4 v2 v4 r4 ((dd2.ext x3).ext x4) dd4 h4
       | false => exact ⟨false, rfl, h3 ι3 H3 _ (Ext.refl _ _) r3 (.bl _)⟩)
    | exact False.elim h3
theorem se_chain {op op' : CmpOp} {f g : D → D → S → R D} (ho : OpD X cl (compareOp op) f) (ho' : OpD X cl (compareOp op') g) (ha : SE X cl W a ma) (hb : SE X cl W b mb) (hc : SE X cl W c mc)
    (hm : lastMarks [op, op'] [b, c] = false := by with_unfolding_all rfl) : SE X cl W (.Compare a [op, op'] [b, c] pos) (mChain f g ma mb mc) := by
  obtain ⟨ta, pa, qa⟩ := ha.ex
  obtain ⟨tb, pb, qb⟩ := hb.ex
  obtain ⟨tc, pc, qc⟩ := hc.ex
  refine ⟨_, pe_chain anyOp anyOp pa pb pc hm, fun σ H Q ρ ι s e r h => chain_rd ho ho' qa qb qc e r h⟩
theorem sb_chain {op op' : CmpOp} {f g : D → D → S → R D} (ho : OpD X cl (compareOp op) f) (ho' : OpD X cl (compareOp op') g) (ha : SE X cl W a ma) (hb : SE X cl W b mb) (hc : SE X cl W c mc)
    (hm : lastMarks [op, op'] [b, c] = false := by with_unfolding_all rfl) : SB X cl W (.Compare a [op, op'] [b, c] pos) (tBool (mChain f g ma mb mc)) := by
  obtain ⟨ta, pa, qa⟩ := ha.ex
  obtain ⟨tb, pb, qb⟩ := hb.ex
  obtain ⟨tc, pc, qc⟩ := hc.ex
  exact ⟨_, pt_chain anyOp anyOp pa pb pc hm, fun σ H Q ρ ι s e r h => chain_rd ho ho' qa qb qc e r (tBool_po h)⟩
end
end Pm
namespace Pm
open PySem PySem.Spec PyProof.Rows L2

/-! ### sequences -/
def lview (s : S) : D → Option (List D)
  | .lst xs => some xs
  | .ref n => match s[n]? with
    | some (.lst xs) => some xs
    | _ => none
  | _ => none
section
variable {X : Cx} {cl : Cl} {W : Wish} {K : PySem.W.Frag} {w : World} {ι : List Addr} {H : Hp} {s : S}
theorem lview_at {d : D} {xs : List D} {v : V} (rs : RelS K w cl ι s H) (r : RelD K w cl ι H d v) (h : lview s d = some xs) : ∃ a vs, v = .ref a ∧ LsQ K H a vs ∧ RelDs K w cl ι H xs vs := by
  cases r <;> simp only [lview] at h <;> try cases h
  · rename_i h1 r1
    exact ⟨_, _, rfl, h1.ls, r1⟩
  · rename_i n a h1
    split at h
    · rename_i ys e
      cases h
      obtain ⟨a', ea, vs, ha, r1⟩ := rs.at_ n _ e
      rw [h1] at ea
      cases ea
      exact ⟨_, _, rfl, .inl (.inl ha), r1⟩
    · cases h
theorem RelDs.append {xs ys : List D} {vs us : List V} : RelDs K w cl ι H xs vs → RelDs K w cl ι H ys us → RelDs K w cl ι H (xs ++ ys) (vs ++ us)
  | .nil, q => q
  | .cons r t, q => .cons r (RelDs.append t q)
theorem RelDs.get : ∀ {xs : List D} {vs : List V} {i : Nat} {d : D}, RelDs K w cl ι H xs vs → xs[i]? = some d → ∃ v, vs[i]? = some v ∧ RelD K w cl ι H d v
  | _, _, _, _, .nil, e => by simp at e
  | _, _, 0, _, .cons r _, e => by simp at e; subst e; exact ⟨_, rfl, r⟩
  | _, _, i + 1, d, .cons _ t, e => by
    obtain ⟨u, h1, h2⟩ := RelDs.get (i := i) (d := d) t (by simpa using e)
    exact ⟨u, by simpa using h1, h2⟩
theorem RelDs.set {d : D} {v : V} (r : RelD K w cl ι H d v) : ∀ {xs : List D} {vs : List V} (i : Nat), RelDs K w cl ι H xs vs → RelDs K w cl ι H (xs.set i d) (vs.set i v)
  | _, _, _, .nil => .nil
  | _, _, 0, .cons _ t => .cons r t
  | _, _, i + 1, .cons q t => .cons q (RelDs.set r i t)
theorem RelDs.take : ∀ {xs : List D} {vs : List V} (n : Nat), RelDs K w cl ι H xs vs → RelDs K w cl ι H (xs.take n) (vs.take n)
  | _, _, 0, _ => .nil
  | _, _, _ + 1, .nil => .nil
  | _, _, n + 1, .cons r t => .cons r (RelDs.take n t)
theorem RelDs.drop : ∀ {xs : List D} {vs : List V} (n : Nat), RelDs K w cl ι H xs vs → RelDs K w cl ι H (xs.drop n) (vs.drop n)
  | _, _, 0, r => r
  | _, _, _ + 1, .nil => .nil
  | _, _, n + 1, .cons _ t => RelDs.drop n t
theorem RelDs.reverse {xs : List D} {vs : List V} (h : RelDs K w cl ι H xs vs) : RelDs K w cl ι H xs.reverse vs.reverse := by
  induction xs generalizing vs with
  | nil => cases h; exact .nil
  | cons d ds ih =>
    cases h with
    | cons r t =>
      rw [List.reverse_cons, List.reverse_cons]
      exact (ih t).append (.cons r .nil)
theorem RelDs.dropLast : ∀ {xs : List D} {vs : List V}, RelDs K w cl ι H xs vs → RelDs K w cl ι H xs.dropLast vs.dropLast
  | _, _, .nil => .nil
  | _, _, .cons _ .nil => .nil
  | _, _, .cons r (.cons q t) => .cons r (RelDs.dropLast (.cons q t))
theorem RelDs.rep {xs : List D} {vs : List V} (h : RelDs K w cl ι H xs vs) : ∀ k : Nat, RelDs K w cl ι H (List.replicate k xs).flatten (List.replicate k vs).flatten
  | 0 => .nil
  | k + 1 => by
    rw [List.replicate_succ, List.replicate_succ, List.flatten_cons, List.flatten_cons]
    exact h.append (RelDs.rep h k)
theorem RelDs.one {d : D} {vs : List V} (h : RelDs K w cl ι H [d] vs) : ∃ v, vs = [v] ∧ RelD K w cl ι H d v := by
  cases h with
  | cons r t => cases t; exact ⟨_, rfl, r⟩
theorem RelDs.two {d e : D} {vs : List V} (h : RelDs K w cl ι H [d, e] vs) : ∃ v u, vs = [v, u] ∧ RelD K w cl ι H d v ∧ RelD K w cl ι H e u := by
  cases h with
  | cons r t => cases t with
    | cons q t2 => cases t2; exact ⟨_, _, rfl, r, q⟩
theorem RelDs.zero {vs : List V} (h : RelDs K w cl ι H [] vs) : vs = [] := by
  cases h; rfl
/-- a new list, tuple that the store does not know -/
theorem new_lst {xs : List D} {vs : List V} {p : Addr} (rs : RelS K w cl ι s H) (r : RelDs K w cl ι H xs vs) (hp : H p = none) : Ext ι H ι (upd H p (.lst vs)) ∧ RelS K w cl ι s (upd H p (.lst vs)) ∧ RelD K w cl ι (upd H p (.lst vs)) (.lst xs) (.ref p) := by
  have x : Ext ι H ι (upd H p (.lst vs)) := Ext.new hp
  have np : p ∉ ι := fun m => by
    obtain ⟨n, hn⟩ := List.getElem?_of_mem m
    have hlt : n < s.length := by rw [← rs.len]; exact (List.getElem?_eq_some_iff.mp hn).1
    obtain ⟨a, ea, ro⟩ := rs.at_ n s[n] (List.getElem?_eq_getElem hlt)
    rw [hn] at ea
    cases ea
    cases e : s[n] <;> rw [e] at ro
    · obtain ⟨vs, h1, _⟩ := ro; rw [hp] at h1; cases h1
    · obtain ⟨_, _, _, _, _, h1, _⟩ := ro; rw [hp] at h1; cases h1
    · obtain ⟨vs, h1, _⟩ := ro; rw [hp] at h1; cases h1
  refine ⟨x, ⟨rs.len, rs.nd, fun n o e => ?_⟩, .lst (.inl ⟨.inl upd_same, np⟩) (r.ext x)⟩
  obtain ⟨a, ea, ro⟩ := rs.at_ n o e
  refine ⟨a, ea, ?_⟩
  have na : a ≠ p := fun z => np (by rw [← z]; exact List.mem_of_getElem? ea)
  cases o with
  | lst ds => obtain ⟨us, h1, h2⟩ := ro; exact ⟨us, by rw [upd_ne na]; exact h1, h2.ext x⟩
  | ins c fs => obtain ⟨A, dx, us, hc, hk, h1, h2⟩ := ro; exact ⟨A, dx, us, hc, hk, by rw [upd_ne na]; exact h1, h2.ext x⟩
  | dK kvs => obtain ⟨us, h1, hk, h2⟩ := ro; exact ⟨us, by rw [upd_ne na]; exact h1, hk, h2.ext x⟩
theorem RelS.notin {p : Addr} (rs : RelS K w cl ι s H) (hp : H p = none) : p ∉ ι := fun m => by
  obtain ⟨n, hn⟩ := List.getElem?_of_mem m
  have hlt : n < s.length := by rw [← rs.len]; exact (List.getElem?_eq_some_iff.mp hn).1
  obtain ⟨a, ea, ro⟩ := rs.at_ n s[n] (List.getElem?_eq_getElem hlt)
  rw [hn] at ea
  cases ea
  cases e : s[n] <;> rw [e] at ro
  · obtain ⟨vs, h1, _⟩ := ro; rw [hp] at h1; cases h1
  · obtain ⟨_, _, _, _, _, h1, _⟩ := ro; rw [hp] at h1; cases h1
  · obtain ⟨vs, h1, _⟩ := ro; rw [hp] at h1; cases h1
theorem RelO.ext {o : O} {a : Addr} {ι' : List Addr} {H' : Hp} (x : Ext ι H ι' H') (e : H' a = H a) (ro : RelO K w cl ι H o a) : RelO K w cl ι' H' o a := by
  cases o with
  | lst ds => obtain ⟨us, h1, h2⟩ := ro; exact ⟨us, by rw [e]; exact h1, h2.ext x⟩
  | ins c fs => obtain ⟨A, dx, us, hc, hk, h1, h2⟩ := ro; exact ⟨A, dx, us, hc, hk, by rw [e]; exact h1, h2.ext x⟩
  | dK kvs => obtain ⟨us, h1, hk, h2⟩ := ro; exact ⟨us, by rw [e]; exact h1, hk, h2.ext x⟩
/-- anything new that the store does not know -/
theorem RelS.laid {p : Addr} {o : HO} (rs : RelS K w cl ι s H) (hp : H p = none) : RelS K w cl ι s (upd H p o) :=
  ⟨rs.len, rs.nd, fun n o' e => let ⟨a, ea, ro⟩ := rs.at_ n o' e; ⟨a, ea, ro.ext (Ext.new hp) (upd_ne fun z => rs.notin hp (by rw [← z]; exact List.mem_of_getElem? ea))⟩⟩
theorem new_tup {xs : List D} {vs : List V} {p : Addr} (rs : RelS K w cl ι s H) (r : RelDs K w cl ι H xs vs) (hp : H p = none) : Ext ι H ι (upd H p (.tup vs)) ∧ RelS K w cl ι s (upd H p (.tup vs)) ∧ RelD K w cl ι (upd H p (.tup vs)) (.tup xs) (.ref p) :=
  ⟨Ext.new hp, rs.laid hp, .tup (.inl ⟨.inl upd_same, rs.notin hp⟩) (r.ext (Ext.new hp))⟩
/-- a new thing of the store -/
theorem RelS.push {p : Addr} {o : HO} {ob : O} (rs : RelS K w cl ι s H) (hp : H p = none) (ro : RelO K w cl (ι ++ [p]) (upd H p o) ob p) : RelS K w cl (ι ++ [p]) (s ++ [ob]) (upd H p o) := by
  refine ⟨by rw [List.length_append, List.length_append, rs.len]; rfl, List.nodup_append.mpr ⟨rs.nd, by simp, fun a ha b hb => ?_⟩, fun n o' e => ?_⟩
  · rw [List.mem_singleton.mp hb]
    rintro rfl
    exact rs.notin hp ha
  · by_cases hn : n < s.length
    · rw [List.getElem?_append_left hn] at e
      obtain ⟨a, ea, ro'⟩ := rs.at_ n o' e
      exact ⟨a, by rw [List.getElem?_append_left (by rw [rs.len]; exact hn)]; exact ea, ro'.ext (Ext.push hp) (upd_ne fun z => rs.notin hp (by rw [← z]; exact List.mem_of_getElem? ea))⟩
    · have hn' : n = s.length := by
        have := (List.getElem?_eq_some_iff.mp e).1
        rw [List.length_append] at this
        simp at this
        omega
      subst hn'
      rw [List.getElem?_append_right (Nat.le_refl _)] at e
      simp at e
      subst e
      exact ⟨p, by rw [List.getElem?_append_right (by rw [rs.len]; exact Nat.le_refl _), rs.len]; simp, ro⟩
/-- a thing of the store is changed -/
theorem RelS.write {n : Nat} {a : Addr} {o : HO} {ob : O} (rs : RelS K w cl ι s H) (hn : ι[n]? = some a) (ro : RelO K w cl ι (upd H a o) ob a) : RelS K w cl ι (s.set n ob) (upd H a o) := by
  have hm : a ∈ ι := List.mem_of_getElem? hn
  refine ⟨by rw [List.length_set]; exact rs.len, rs.nd, fun m o' e => ?_⟩
  by_cases hmn : n = m
  · subst hmn
    have hlt : n < s.length := by rw [← rs.len]; exact (List.getElem?_eq_some_iff.mp hn).1
    rw [List.getElem?_set_self hlt] at e
    cases e
    exact ⟨a, hn, ro⟩
  · rw [List.getElem?_set_ne hmn] at e
    obtain ⟨b, eb, ro'⟩ := rs.at_ m o' e
    refine ⟨b, eb, ro'.ext (Ext.write hm) (upd_ne fun z => hmn ?_)⟩
    subst z
    obtain ⟨h1, e1⟩ := List.getElem?_eq_some_iff.mp hn
    obtain ⟨h2, e2⟩ := List.getElem?_eq_some_iff.mp eb
    exact (List.getElem_inj rs.nd).mp (e1.trans e2.symm)
end

/-! ### displays -/
def dTup (ds : List D) (s : S) : R D := if ds.length ≤ sizeLine then .ok (.tup ds) s else .bad
def dLst (ds : List D) (s : S) : R D := if ds.length ≤ sizeLine then .ok (.lst ds) s else .bad
def dNew (ds : List D) (s : S) : R D := if ds.length ≤ sizeLine then .ok (.ref s.length) (s ++ [.lst ds]) else .bad
section
variable {X : Cx} {cl : Cl} {W : Wish} {pos : Pos} {e : Expr} {es : List Expr} {m : ME} {ms : MA}
theorem sa_nil : SA X cl W [] aNil := ⟨_, pa_nil, fun σ H Q ρ ι s _ r h => h ι H [] (Ext.refl _ _) r .nil⟩
theorem sa_cons (he : SE X cl W e m) (hr : SA X cl W es ms) (hs : starEach (e :: es) X.env = (false, eval e X.env) :: starEach es X.env := by rfl) : SA X cl W (e :: es) (aCons m ms) := by
  obtain ⟨ta, pa, qa⟩ := he.ex
  obtain ⟨tr, pr, qr⟩ := hr.ex
  refine ⟨_, pa_cons pa pr hs, fun σ H Q ρ ι s en r h => ?_⟩
  refine qa σ H _ ρ ι s en r (PoA.stepE h fun d s1 ι1 H1 v e1 x1 r1 d1 h1 => ?_)
  refine qr σ H1 _ ρ ι1 s1 (en.ext x1) r1 (PoA.stepA h1 fun ds s2 ι2 H2 vs e2 x2 r2 d2 h2 => ?_)
  exact h2 ι2 H2 _ (Ext.refl _ _) r2 (.cons (d1.ext x2) d2)
theorem se_tup {x1} (h : SA X cl W es ms) : SE X cl W (.Tuple es x1 pos) (mN dTup ms) := by
  obtain ⟨ta, pa, qa⟩ := h.ex
  refine ⟨_, pe_tup pa, fun σ H Q ρ ι s en r h => ?_⟩
  refine qa σ H _ ρ ι s en r (PoE.stepA h fun ds s1 ι1 H1 vs e1 x1 r1 d1 h1 => ?_)
  unfold dTup at h1
  split at h1
  · rename_i hl
    refine ⟨by rw [← d1.length]; exact hl, fun p hp => ?_⟩
    obtain ⟨a, b, c⟩ := new_tup r1 d1 hp
    exact h1 _ _ _ a b c
  · exact False.elim h1
theorem se_lst (h : SA X cl W es ms) : SE X cl W (.List es pos) (mN dLst ms) := by
  obtain ⟨ta, pa, qa⟩ := h.ex
  refine ⟨_, pe_lst pa, fun σ H Q ρ ι s en r h => ?_⟩
  refine qa σ H _ ρ ι s en r (PoE.stepA h fun ds s1 ι1 H1 vs e1 x1 r1 d1 h1 => ?_)
  unfold dLst at h1
  split at h1
  · rename_i hl
    refine ⟨by rw [← d1.length]; exact hl, fun p hp => ?_⟩
    obtain ⟨a, b, c⟩ := new_lst r1 d1 hp
    exact h1 _ _ _ a b c
  · exact False.elim h1
theorem new_ref {K : PySem.W.Frag} {w : World} {ι : List Addr} {H : Hp} {s : S} {xs : List D} {vs : List V} {p : Addr} (rs : RelS K w cl ι s H) (r : RelDs K w cl ι H xs vs) (hp : H p = none) :
    Ext ι H (ι ++ [p]) (upd H p (.lst vs)) ∧ RelS K w cl (ι ++ [p]) (s ++ [.lst xs]) (upd H p (.lst vs)) ∧ RelD K w cl (ι ++ [p]) (upd H p (.lst vs)) (.ref s.length) (.ref p) :=
  ⟨Ext.push hp, rs.push hp ⟨vs, upd_same, r.ext (Ext.push hp)⟩, .ref (by rw [List.getElem?_append_right (by rw [rs.len]; exact Nat.le_refl _), rs.len]; simp)⟩
theorem se_new (h : SA X cl W es ms) : SE X cl W (.List es pos) (mN dNew ms) := by
  obtain ⟨ta, pa, qa⟩ := h.ex
  refine ⟨_, pe_lst pa, fun σ H Q ρ ι s en r h => ?_⟩
  refine qa σ H _ ρ ι s en r (PoE.stepA h fun ds s1 ι1 H1 vs e1 x1 r1 d1 h1 => ?_)
  unfold dNew at h1
  split at h1
  · rename_i hl
    refine ⟨by rw [← d1.length]; exact hl, fun p hp => ?_⟩
    obtain ⟨a, b, c⟩ := new_ref r1 d1 hp
    exact h1 _ _ _ a b c
  · exact False.elim h1
end
/-- [..] * k -/
def mRep (ms : MA) (mk : ME) (new : Bool) : ME := fun ρ s => (ms ρ s).bind fun ds s1 => if ds.length ≤ sizeLine then (mk ρ s1).bind fun d s2 => match d with
  | .int k => if -(2 ^ 63) ≤ k ∧ k < 2 ^ 63 ∧ ds.length * k.toNat ≤ sizeLine then
      (if new then .ok (.ref s2.length) (s2 ++ [.lst (List.replicate k.toNat ds).flatten]) else .ok (.lst (List.replicate k.toNat ds).flatten) s2) else .bad
  | _ => .bad
  else .bad
section
variable {X : Cx} {cl : Cl} {W : Wish} {pos pos2 : Pos} {e : Expr} {es : List Expr} {m : ME} {ms : MA}
theorem se_rep (new : Bool) (h : SA X cl W es ms) (hk : SE X cl W e m) : SE X cl W (.BinOp (.List es pos2) .Mult e pos) (mRep ms m new) := by
  obtain ⟨ta, pa, qa⟩ := h.ex
  obtain ⟨tb, pb, qb⟩ := hk.ex
  refine ⟨_, pe_op op_rep (pe_lst pa) pb, fun σ H Q ρ ι s en r h => ?_⟩
  refine qa σ H _ ρ ι s en r (PoE.stepA h fun ds s1 ι1 H1 vs e1 x1 r1 d1 h1 => ?_)
  by_cases hz : ds.length ≤ sizeLine
  rotate_left
  · rw [if_neg hz] at h1; exact False.elim h1
  rw [if_pos hz] at h1
  refine ⟨by rw [← d1.length]; exact hz, fun p hp => ?_⟩
  have xn : Ext ι1 H1 ι1 (upd H1 p (.lst vs)) := Ext.new hp
  have np : p ∉ ι1 := r1.notin hp
  refine qb σ _ _ ρ ι1 s1 ((en.ext x1).ext xn) (r1.laid hp) (PoE.step (PoE.mono xn h1 fun _ _ q => q) fun d s2 ι2 H2 v e2 x2 r2 d2 h2 => ?_)
  cases d2 <;> first
    | exact False.elim h2
    | skip
  rename_i k
  simp only at h2
  split at h2
  · rename_i hh
    obtain ⟨hp2, np2⟩ := x2.keep p _ upd_same np
    refine ⟨p, k, vs, rfl, rfl, hp2, hh.1, hh.2.1, by rw [← d1.length]; exact hh.2.2, fun q hq => ?_⟩
    have dd := ((d1.ext xn).ext x2).rep k.toNat
    cases new with
    | true =>
      obtain ⟨a, b, c⟩ := new_ref r2 dd hq
      exact h2 _ _ _ a b c
    | false =>
      obtain ⟨a, b, c⟩ := new_lst r2 dd hq
      exact h2 _ _ _ a b c
  · exact False.elim h2
end
/-- a finished list becomes a thing of the store: for lists that a rule has made anew -/
def mkRef (r : R D) : R D := match r with
  | .ok (.lst xs) s => .ok (.ref s.length) (s ++ [.lst xs])
  | _ => .bad

/-! ### operators -/
def iBits (i : Int) : Int := Builtin.Int.intBits i
def dAdd : D → D → S → R D
  | .int a, .int b, s => .ok (.int (a + b)) s
  | .str a, .str b, s => if a.length + b.length ≤ sizeLine then .ok (.str (a ++ b)) s else .bad
  | .tup a, .tup b, s => if a.length + b.length ≤ sizeLine then .ok (.tup (a ++ b)) s else .bad
  | .int a, .bl b, s => .ok (.int (a + if b then 1 else 0)) s
  | x, y, s => match lview s x, lview s y with
    | some a, some b => if a.length + b.length ≤ sizeLine then .ok (.lst (a ++ b)) s else .bad
    | _, _ => .bad
def dSub : D → D → S → R D
  | .int a, .int b, s => .ok (.int (a - b)) s
  | _, _, _ => .bad
def dMul : D → D → S → R D
  | .int a, .int b, s => if iBits a + iBits b ≤ 134217728 then .ok (.int (a * b)) s else .bad
  | _, _, _ => .bad
def dMod : D → D → S → R D
  | .int a, .int b, s => if 0 < b then .ok (.int (a % b)) s else .bad
  | _, _, _ => .bad
def dFdiv : D → D → S → R D
  | .int a, .int b, s => if 0 < b ∧ b.natAbs.log2 < 9000 then .ok (.int (a / b)) s else .bad
  | _, _, _ => .bad
def dPow : D → D → S → R D
  | .int a, .int b, s => if 0 ≤ b ∧ b ≤ 1000000 ∧ a.natAbs < 2 ^ 64 then .ok (.int (a ^ b.toNat)) s else .bad
  | _, _, _ => .bad
def dNeg : D → S → R D
  | .int a, s => .ok (.int (-a)) s
  | _, _ => .bad
def dLt : D → D → S → R D
  | .int a, .int b, s => .ok (.bl (decide (a < b))) s
  | _, _, _ => .bad
def dLe : D → D → S → R D
  | .int a, .int b, s => .ok (.bl (decide (a ≤ b))) s
  | _, _, _ => .bad
def dGt : D → D → S → R D
  | .int a, .int b, s => .ok (.bl (decide (b < a))) s
  | _, _, _ => .bad
def dGe : D → D → S → R D
  | .int a, .int b, s => .ok (.bl (decide (b ≤ a))) s
  | _, _, _ => .bad
section
variable {X : Cx}
/-- a + b of lists -/
theorem op_catS : OpR X (binaryOp .Add) (fun x y H Q => ∃ l b xs zs, x = .ref l ∧ y = .ref b ∧ SqL X.K H l xs ∧ SqL X.K H b zs ∧ xs.length + zs.length ≤ sizeLine ∧ ∀ p, H p = none → Q (.ref p) (upd H p (.lst (xs ++ zs)))) := by
  intro pins s σ H x y v u Q I rx ry h
  obtain ⟨l, b, xs, zs, rfl, rfl, hH, hB, hz, q⟩ := h
  cases rx
  cases ry
  obtain ⟨vs, r, ⟨⟨cls, dd, data, sl⟩, n, ho, hc, hdd, hd⟩, _⟩ := I.list hH
  obtain ⟨ws, r2, ⟨⟨cls2, dd2, data2, sl2⟩, n2, ho2, hc2, hdd2, hd2⟩, _⟩ := I.list hB
  simp only at hc hd hc2 hd2
  subst hc hd hc2 hd2
  have e : vs.toArray ++ ws.toArray = (vs ++ ws).toArray := by simp
  refine concat_meets ⟨_, ho, rfl⟩ ⟨_, ho2, rfl⟩ noFill_list_add seq_list_add PySem.F.slot_list_add PySem.F.entry_list_add (PySem.F.args_list_add_2 _ _) (list_addW l b vs.toArray ws.toArray n n2 dd dd2 sl sl2 (by
    have h1 := r.length
    have h2 := r2.length
    simp only [List.size_toArray]
    omega)) ⟨ho, ho2, ?_⟩
  rw [e]
  exact ⟨.ref _, _, I.lnew (t' := s.toks) (r.append r2) (by rw [List.length_append]; omega), rfl, q _ I.fresh⟩
end
section
variable {X : Cx} {cl : Cl}
theorem d_add : OpD X cl (binaryOp .Add) dAdd := by
  intro W ι H σ Q s dx dy x y rs rx ry h
  unfold dAdd at h
  split at h
  · cases rx; cases ry
    exact ⟨_, op_add, _, _, rfl, rfl, h ι H _ (Ext.refl _ _) rs (.int _)⟩
  · cases rx; cases ry
    split at h
    · exact ⟨_, op_add_str, _, _, rfl, rfl, by assumption, h ι H _ (Ext.refl _ _) rs (.str _)⟩
    · exact False.elim h
  · cases rx with
    | tup h1 r1 =>
    cases ry with
    | tup h2 r2 =>
    split at h
    · rename_i a b _ hl
      refine ⟨_, op_catA, _, _, _, _, rfl, rfl, h1.sq, h2.sq, by rw [← r1.length, ← r2.length]; exact hl, fun e => ?_, fun e1 e2 => ?_, fun e1 e2 p hp => ?_⟩
      · subst e
        cases r1
        exact h ι H _ (Ext.refl _ _) rs (.tup h2 r2)
      · subst e2
        cases r2
        exact h ι H _ (Ext.refl _ _) rs (.tup h1 (by rw [List.append_nil]; exact r1))
      · obtain ⟨a, b, c⟩ := new_tup rs (r1.append r2) hp
        exact h _ _ _ a b c
    · exact False.elim h
  · cases rx; cases ry
    rename_i a b
    refine ⟨_, op_add_ib, _, _, rfl, rfl, ?_⟩
    have := h ι H _ (Ext.refl _ _) rs (.int _)
    cases b <;> exact this
  · split at h
    · rename_i a b ea eb
      split at h
      · rename_i hl
        obtain ⟨p1, vs1, rfl, q1, r1⟩ := lview_at rs rx ea
        obtain ⟨p2, vs2, rfl, q2, r2⟩ := lview_at rs ry eb
        refine ⟨_, op_catS, _, _, _, _, rfl, rfl, q1, q2, by rw [← r1.length, ← r2.length]; exact hl, fun p hp => ?_⟩
        obtain ⟨a, b, c⟩ := new_lst rs (r1.append r2) hp
        exact h _ _ _ a b c
      · exact False.elim h
    · exact False.elim h
theorem d_sub : OpD X cl (binaryOp .Sub) dSub := by
  intro W ι H σ Q s dx dy x y rs rx ry h
  unfold dSub at h
  split at h
  · cases rx; cases ry
    exact ⟨_, op_sub, _, _, rfl, rfl, h ι H _ (Ext.refl _ _) rs (.int _)⟩
  · exact False.elim h
theorem d_mul : OpD X cl (binaryOp .Mult) dMul := by
  intro W ι H σ Q s dx dy x y rs rx ry h
  unfold dMul at h
  split at h
  · cases rx; cases ry
    split at h
    · exact ⟨_, op_mulX, _, _, rfl, rfl, by assumption, h ι H _ (Ext.refl _ _) rs (.int _)⟩
    · exact False.elim h
  · exact False.elim h
theorem d_mod : OpD X cl (binaryOp .Mod) dMod := by
  intro W ι H σ Q s dx dy x y rs rx ry h
  unfold dMod at h
  split at h
  · cases rx; cases ry
    split at h
    · exact ⟨_, op_mod, _, _, rfl, rfl, by assumption, h ι H _ (Ext.refl _ _) rs (.int _)⟩
    · exact False.elim h
  · exact False.elim h
theorem d_fdiv : OpD X cl (binaryOp .FloorDiv) dFdiv := by
  intro W ι H σ Q s dx dy x y rs rx ry h
  unfold dFdiv at h
  split at h
  · cases rx; cases ry
    split at h
    · exact ⟨_, op_fdivW, _, _, rfl, rfl, by assumption, h ι H _ (Ext.refl _ _) rs (.int _)⟩
    · exact False.elim h
  · exact False.elim h
theorem d_pow : OpD X cl (binaryOp .Pow) dPow := by
  intro W ι H σ Q s dx dy x y rs rx ry h
  unfold dPow at h
  split at h
  · cases rx; cases ry
    split at h
    · exact ⟨_, op_pow, _, _, rfl, rfl, by assumption, h ι H _ (Ext.refl _ _) rs (.int _)⟩
    · exact False.elim h
  · exact False.elim h
theorem d_neg : UnD X cl (unaryOp .USub) dNeg := by
  intro W ι H σ Q s dx x rs rx h
  unfold dNeg at h
  split at h
  · cases rx
    exact ⟨_, un_neg, _, rfl, h ι H _ (Ext.refl _ _) rs (.int _)⟩
  · exact False.elim h
theorem d_lt : OpD X cl (compareOp .Lt) dLt := by
  intro W ι H σ Q s dx dy x y rs rx ry h
  unfold dLt at h
  split at h
  · cases rx; cases ry
    exact ⟨_, op_lt, _, _, rfl, rfl, h ι H _ (Ext.refl _ _) rs (.bl _)⟩
  · exact False.elim h
theorem d_le : OpD X cl (compareOp .LtE) dLe := by
  intro W ι H σ Q s dx dy x y rs rx ry h
  unfold dLe at h
  split at h
  · cases rx; cases ry
    exact ⟨_, op_le, _, _, rfl, rfl, h ι H _ (Ext.refl _ _) rs (.bl _)⟩
  · exact False.elim h
theorem d_gt : OpD X cl (compareOp .Gt) dGt := by
  intro W ι H σ Q s dx dy x y rs rx ry h
  unfold dGt at h
  split at h
  · cases rx; cases ry
    exact ⟨_, op_gt, _, _, rfl, rfl, h ι H _ (Ext.refl _ _) rs (.bl _)⟩
  · exact False.elim h
theorem d_ge : OpD X cl (compareOp .GtE) dGe := by
  intro W ι H σ Q s dx dy x y rs rx ry h
  unfold dGe at h
  split at h
  · cases rx; cases ry
    exact ⟨_, op_ge, _, _, rfl, rfl, h ι H _ (Ext.refl _ _) rs (.bl _)⟩
  · exact False.elim h
end
end Pm
namespace Pm
open PySem PySem.Spec PyProof.Rows L2

/-! ### equality of data -/
def optAll (f : D → Option PyData) : List D → Option (List PyData)
  | [] => some []
  | x :: xs => match f x, optAll f xs with
    | some p, some ps => some (p :: ps)
    | _, _ => none
def toPy (s : S) : Nat → D → Option PyData
  | 0, _ => none
  | _ + 1, .non => some .none
  | _ + 1, .bl b => some (.bool b)
  | _ + 1, .int i => some (.int i)
  | _ + 1, .str x => if PySem.PyData.strOk x = true then some (.str x) else none
  | k + 1, .tup xs => (optAll (toPy s k) xs).map .tuple
  | k + 1, .lst xs => (optAll (toPy s k) xs).map .list
  | k + 1, .ref n => match s[n]? with
    | some (.lst xs) => (optAll (toPy s k) xs).map .list
    | _ => none
  | _ + 1, _ => none
def dEq : D → D → S → R D := fun x y s => match toPy s 60 x, toPy s 60 y with
  | some p, some q => .ok (.bl (PyData.eqv p q)) s
  | _, _ => .bad
def dNe : D → D → S → R D := fun x y s => match toPy s 60 x, toPy s 60 y with
  | some p, some q => .ok (.bl (!PyData.eqv p q)) s
  | _, _ => .bad
section
variable {X : Cx} {cl : Cl} {K : PySem.W.Frag} {w : World} {ι : List Addr} {H : Hp} {s : S}
theorem optAll_dp {f : D → Option PyData} (hf : ∀ d p v, f d = some p → RelD K w cl ι H d v → Dp K H v p) : ∀ {xs : List D} {ps : List PyData} {vs : List V}, optAll f xs = some ps → RelDs K w cl ι H xs vs → DpAll K H vs ps
  | [], ps, _, e, .nil => by cases e; exact .nil
  | x :: xs, ps, _, e, .cons r t => by
    simp only [optAll] at e
    split at e
    · rename_i p qs e1 e2
      cases e
      exact .cons (hf _ _ _ e1 r) (optAll_dp hf e2 t)
    · cases e
theorem toPy_dp (rs : RelS K w cl ι s H) : ∀ (k : Nat) (d : D) (p : PyData) (v : V), toPy s k d = some p → RelD K w cl ι H d v → Dp K H v p
  | 0, d, p, v, e, r => by cases e
  | k + 1, d, p, v, e, r => by
    have ih := toPy_dp rs k
    cases r <;> simp only [toPy] at e
    · cases e; exact .non
    · cases e; exact .bl _
    · cases e; exact .int _
    · split at e
      · cases e; exact .str _
      · cases e
    · rename_i h1 r1
      obtain ⟨ps, e1, rfl⟩ := Option.map_eq_some_iff.mp e
      exact .tup h1.sq (optAll_dp ih e1 r1)
    · rename_i h1 r1
      obtain ⟨ps, e1, rfl⟩ := Option.map_eq_some_iff.mp e
      exact .lst h1.sq (optAll_dp ih e1 r1)
    · rename_i n a h1
      split at e
      · rename_i xs e2
        obtain ⟨ps, e1, rfl⟩ := Option.map_eq_some_iff.mp e
        obtain ⟨a', ea, vs, ha, r1⟩ := rs.at_ n _ e2
        rw [h1] at ea
        cases ea
        exact .lst (SqL.of ha) (optAll_dp ih e1 r1)
      · cases e
    all_goals cases e
theorem optAll_lay {f : D → Option PyData} {k : Nat} (hf : ∀ d p, f d = some p → p.canLay0 = true ∧ p.depth ≤ k) : ∀ {xs : List D} {ps : List PyData}, optAll f xs = some ps → PyData.canLayAll0 ps = true ∧ PyData.depthAll ps ≤ k
  | [], ps, e => by cases e; exact ⟨rfl, by simp [PyData.depthAll]⟩
  | x :: xs, ps, e => by
    simp only [optAll] at e
    split at e
    · rename_i p qs e1 e2
      cases e
      obtain ⟨h1, h2⟩ := hf _ _ e1
      obtain ⟨h3, h4⟩ := optAll_lay hf e2
      refine ⟨by simp [PyData.canLayAll0, h1, h3], ?_⟩
      simp only [PyData.depthAll]
      omega
    · cases e
theorem toPy_lay : ∀ (k : Nat) (d : D) (p : PyData), toPy s k d = some p → p.canLay0 = true ∧ p.depth ≤ k
  | 0, d, p, e => by cases e
  | k + 1, d, p, e => by
    have ih := toPy_lay k
    cases d <;> simp only [toPy] at e
    · cases e; exact ⟨rfl, by simp [PyData.depth]⟩
    · cases e; exact ⟨rfl, by simp [PyData.depth]⟩
    · cases e; exact ⟨rfl, by simp [PyData.depth]⟩
    · split at e
      · rename_i h1; cases e; exact ⟨h1, by simp [PyData.depth]⟩
      · cases e
    · obtain ⟨ps, e1, rfl⟩ := Option.map_eq_some_iff.mp e
      obtain ⟨h1, h2⟩ := optAll_lay ih e1
      exact ⟨h1, by simp only [PyData.depth]; omega⟩
    · obtain ⟨ps, e1, rfl⟩ := Option.map_eq_some_iff.mp e
      obtain ⟨h1, h2⟩ := optAll_lay ih e1
      exact ⟨h1, by simp only [PyData.depth]; omega⟩
    · split at e
      · obtain ⟨ps, e1, rfl⟩ := Option.map_eq_some_iff.mp e
        obtain ⟨h1, h2⟩ := optAll_lay ih e1
        exact ⟨h1, by simp only [PyData.depth]; omega⟩
      · cases e
    all_goals cases e
theorem toPy_shaped {d : D} {p : PyData} (e : toPy s 60 d = some p) : SeqAt.shaped p = true := by
  obtain ⟨h1, h2⟩ := toPy_lay _ _ _ e
  unfold SeqAt.shaped
  rw [h1, Bool.true_and]
  exact decide_eq_true (by omega)
theorem d_eq (hu : X.A.units + 64 < cLine) : OpD X cl (compareOp .Eq) dEq := by
  intro W ι H σ Q s dx dy x y rs rx ry h
  unfold dEq at h
  split at h
  · rename_i p q e1 e2
    exact ⟨_, op_eqD hu, p, q, toPy_dp rs _ _ _ _ e1 rx, toPy_dp rs _ _ _ _ e2 ry, toPy_shaped e1, toPy_shaped e2, h ι H _ (Ext.refl _ _) rs (.bl _)⟩
  · exact False.elim h
theorem d_ne (hu : X.A.units + 64 < cLine) : OpD X cl (compareOp .NotEq) dNe := by
  intro W ι H σ Q s dx dy x y rs rx ry h
  unfold dNe at h
  split at h
  · rename_i p q e1 e2
    exact ⟨_, op_neD hu, p, q, toPy_dp rs _ _ _ _ e1 rx, toPy_dp rs _ _ _ _ e2 ry, toPy_shaped e1, toPy_shaped e2, h ι H _ (Ext.refl _ _) rs (.bl _)⟩
  · exact False.elim h

/-! ### is -/
def isNonD : D → Bool
  | .non => true
  | _ => false
def dIs : D → D → S → R D
  | x, .non, s => .ok (.bl (isNonD x)) s
  | .bl a, .bl b, s => .ok (.bl (decide (a = b))) s
  | .non, .bl _, s => .ok (.bl false) s
  | _, _, _ => .bad
def dIsNot : D → D → S → R D
  | x, .non, s => .ok (.bl (!isNonD x)) s
  | .bl a, .bl b, s => .ok (.bl (!decide (a = b))) s
  | .non, .bl _, s => .ok (.bl true) s
  | _, _, _ => .bad
theorem isNonD_ok {d : D} {v : V} (r : RelD K w cl ι H d v) : decide (v = V.non) = isNonD d := by
  cases r <;> rfl
theorem op_isNB : OpR X (compareOp .Is) (fun x y H Q => ∃ b, x = .non ∧ y = .bl b ∧ Q (.bl false) H) := by
  intro pins s σ H x y v u Q I rx ry h
  obtain ⟨b, rfl, rfl, q⟩ := h
  cases (show v = Value.none from rx)
  cases (show u = Value.bool b from ry)
  exact wpAny_is_other rfl (fun z => nomatch z) ⟨.bl false, H, I, rfl, q⟩
theorem op_notNB : OpR X (compareOp .IsNot) (fun x y H Q => ∃ b, x = .non ∧ y = .bl b ∧ Q (.bl true) H) := by
  intro pins s σ H x y v u Q I rx ry h
  obtain ⟨b, rfl, rfl, q⟩ := h
  cases (show v = Value.none from rx)
  cases (show u = Value.bool b from ry)
  exact wpAny_isNot_other rfl (fun z => nomatch z) ⟨.bl true, H, I, rfl, q⟩
theorem d_is : OpD X cl (compareOp .Is) dIs := by
  intro W ι H σ Q s dx dy x y rs rx ry h
  unfold dIs at h
  split at h
  · cases ry
    exact ⟨_, op_isN, rfl, by rw [isNonD_ok rx]; exact h ι H _ (Ext.refl _ _) rs (.bl _)⟩
  · cases rx; cases ry
    exact ⟨_, op_isBl, _, _, rfl, rfl, h ι H _ (Ext.refl _ _) rs (.bl _)⟩
  · cases rx; cases ry
    exact ⟨_, op_isNB, _, rfl, rfl, h ι H _ (Ext.refl _ _) rs (.bl _)⟩
  · exact False.elim h
theorem d_isnot : OpD X cl (compareOp .IsNot) dIsNot := by
  intro W ι H σ Q s dx dy x y rs rx ry h
  unfold dIsNot at h
  split at h
  · cases ry
    exact ⟨_, op_notN, rfl, by rw [isNonD_ok rx]; exact h ι H _ (Ext.refl _ _) rs (.bl _)⟩
  · cases rx; cases ry
    exact ⟨_, op_notBl, _, _, rfl, rfl, h ι H _ (Ext.refl _ _) rs (.bl _)⟩
  · cases rx; cases ry
    exact ⟨_, op_notNB, _, rfl, rfl, h ι H _ (Ext.refl _ _) rs (.bl _)⟩
  · exact False.elim h

/-! ### in -/
def strIn (i j : Str) : Bool := !(Builtin.Str.occurrences j i 0 j.length 1).isEmpty
/-- scalars -/
def flatD : D → Bool
  | .non => true
  | .bl _ => true
  | .int _ => true
  | .str _ => true
  | _ => false
/-- == of scalars -/
def sEq : D → D → Bool
  | .non, .non => true
  | .bl a, .bl b => a == b
  | .bl a, .int b => (if a then 1 else 0) == b
  | .int a, .bl b => a == (if b then 1 else 0)
  | .int a, .int b => a == b
  | .str a, .str b => a == b
  | _, _ => false
def dMem (x : D) (y : D) (s : S) : Option Bool := match x, y with
  | .str i, .str j => some (strIn i j)
  | .str i, .dic kvs => some (kvs.lookup i).isSome
  | x, .tup ys => if flatD x && ys.all flatD then some (ys.any fun z => sEq z x) else none
  | x, y => match lview s y with
    | some ys => if flatD x && ys.all flatD then some (ys.any fun z => sEq z x) else
        match toPy s 60 x, optAll (toPy s 59) ys with
        | some p, some ps => some (ps.any fun z => PyData.eqv z p)
        | _, _ => none
    | none => none
def dIn (x y : D) (s : S) : R D := match dMem x y s with
  | some b => .ok (.bl b) s
  | none => .bad
def dNotIn (x y : D) (s : S) : R D := match dMem x y s with
  | some b => .ok (.bl (!b)) s
  | none => .bad
theorem flat_V {d : D} {v : V} (r : RelD K w cl ι H d v) (f : flatD d = true) : flatV v = true := by
  cases r <;> first
    | rfl
    | cases f
theorem sEq_V {d e : D} {v u : V} (r : RelD K w cl ι H d v) (q : RelD K w cl ι H e u) (f : flatD d = true) (g : flatD e = true) : eqV v u = sEq d e := by
  cases r <;> cases q <;> first
    | rfl
    | cases f
    | cases g
theorem flats_V : ∀ {ds : List D} {vs : List V}, RelDs K w cl ι H ds vs → ds.all flatD = true → vs.all flatV = true
  | _, _, .nil, _ => rfl
  | _, _, .cons r t, f => by
    rw [List.all_cons, Bool.and_eq_true] at f
    rw [List.all_cons, flat_V r f.1, flats_V t f.2]
    rfl
theorem inV_ok {d : D} {v : V} (r : RelD K w cl ι H d v) (f : flatD d = true) : ∀ {ds : List D} {vs : List V}, RelDs K w cl ι H ds vs → ds.all flatD = true → inV v vs = ds.any fun z => sEq z d
  | _, _, .nil, _ => rfl
  | _, _, .cons q t, g => by
    rw [List.all_cons, Bool.and_eq_true] at g
    have ih := inV_ok r f t g.2
    unfold inV at ih ⊢
    rw [List.any_cons, List.any_cons, ih, sEq_V q r g.1 f]
theorem kdx_lookup {kvs : List (Str × D)} {vs : List (Str × V)} (r : RelFs K w cl ι H kvs vs) (z : Str) : match kvs.lookup z with
    | some d => ∃ v, vs.lookup z = some v ∧ RelD K w cl ι H d v
    | none => vs.lookup z = none := by
  induction kvs generalizing vs with
  | nil => cases r; rfl
  | cons p t ih =>
    cases r with
    | @cons f d v ds us r1 t1 =>
      have := ih t1
      rw [List.lookup_cons, List.lookup_cons]
      by_cases e : z == f
      · simp only [e]
        exact ⟨v, rfl, r1⟩
      · simp only [Bool.eq_false_iff.mpr e]
        exact this
theorem paired_lookup : ∀ {vs : List (Str × V)} {us : List (Str × Value)}, Paired (fun (p : Str × V) (q : Str × Value) => p.1 = q.1 ∧ RelV p.2 q.2) vs us → ∀ z : Str, match vs.lookup z with
    | some v => ∃ u, us.lookup z = some u ∧ RelV v u
    | none => us.lookup z = none
  | _, _, .nil, z => rfl
  | (f, v) :: vs, (g, u) :: us, .cons ⟨e1, r⟩ t, z => by
    have ih := paired_lookup t z
    simp only at e1 r
    subst e1
    rw [List.lookup_cons, List.lookup_cons]
    by_cases e : z == f
    · simp only [e]
      exact ⟨u, rfl, r⟩
    · simp only [Bool.eq_false_iff.mpr e]
      exact ih
theorem in_gen {op : CmpOp} {neg : Bool} (h1 : OpR X (compareOp op) (rIn X.K neg)) (h2 : OpR X (compareOp op) (fun x y H Q => ∃ i j, x = .str i ∧ y = .str j ∧ Q (.bl (if neg then !strIn i j else strIn i j)) H))
    (h3 : ∀ {d : Addr} {es : Array DictEntry} {n : Nat}, KDict X.K X.w d es n → OpR X (compareOp op) (fun x y H Q => ∃ (z : Str) (r : Option Value), x = .str z ∧ y = .ref d ∧ PySem.W.nsIn X.K d z = some r ∧ Q (.bl (if neg then !r.isSome else r.isSome)) H))
    (h4 : OpR X (compareOp op) (fun x y H Q => ∃ d ds, Dp X.K H x d ∧ Dp X.K H y (.list ds) ∧ SeqAt.shaped d = true ∧ SeqAt.shaped (.list ds) = true ∧ Q (.bl (if neg then !ds.any (fun z => PyData.eqv z d) else ds.any fun z => PyData.eqv z d)) H))
    {W : Wish} {σ : L2.St} {Q : VK} {s : S} {ι : List Addr} {H : Hp} {dx dy : D} {x y : V} {b : Bool} (rs : RelS X.K X.w cl ι s H) (rx : RelD X.K X.w cl ι H dx x) (ry : RelD X.K X.w cl ι H dy y) (e : dMem dx dy s = some b)
    (q : Q (.bl (if neg then !b else b)) H) : AnyOp X (compareOp op) x y H Q := by
  unfold dMem at e
  split at e
  · cases rx; cases ry
    cases e
    exact ⟨_, h2, _, _, rfl, rfl, q⟩
  · rename_i i kvs
    cases rx
    cases ry with
    | @dic kvs a vs hk r =>
    obtain ⟨es, n, us, k1, k2, k3, k4, k5⟩ := hk
    have kl := kdx_lookup r i
    have pl := paired_lookup k5 i
    refine ⟨_, h3 ⟨k1, k2, k3⟩, i, _, rfl, rfl, k4 i, ?_⟩
    have eb : (us.lookup i).isSome = b := by
      cases e
      cases e1 : kvs.lookup i with
      | none => rw [e1] at kl; simp only at kl; rw [kl] at pl; simp only at pl; rw [pl]; rfl
      | some d => rw [e1] at kl; obtain ⟨v, e2, _⟩ := kl; rw [e2] at pl; obtain ⟨u, e3, _⟩ := pl; rw [e3]; rfl
    rw [eb]
    exact q
  · rename_i ys
    split at e
    · rename_i f
      rw [Bool.and_eq_true] at f
      cases e
      cases ry with
      | tup h5 r5 =>
      exact ⟨_, h1, _, _, rfl, .inr h5.sq, flat_V rx f.1, flats_V r5 f.2, by rw [inV_ok rx f.1 r5 f.2]; exact q⟩
    · cases e
  · split at e
    · rename_i ys e5
      obtain ⟨a, vs, rfl, hl, r5⟩ := lview_at rs ry e5
      split at e
      · rename_i f
        rw [Bool.and_eq_true] at f
        cases e
        exact ⟨_, h1, _, _, rfl, .inl hl.sq, flat_V rx f.1, flats_V r5 f.2, by rw [inV_ok rx f.1 r5 f.2]; exact q⟩
      · split at e
        · rename_i p ps e6 e7
          cases e
          refine ⟨_, h4, p, ps, toPy_dp rs _ _ _ _ e6 rx, .lst hl.sq (optAll_dp (toPy_dp rs 59) e7 r5), toPy_shaped e6, ?_, q⟩
          obtain ⟨g1, g2⟩ := optAll_lay (k := 59) (toPy_lay 59) e7
          unfold SeqAt.shaped
          rw [show (PyData.list ps).canLay0 = true from g1, Bool.true_and]
          exact decide_eq_true (by simp only [PyData.depth]; omega)
        · cases e
    · cases e
theorem d_in (hu : X.A.units + 65 < cLine) : OpD X cl (compareOp .In) dIn := by
  intro W ι H σ Q s dx dy x y rs rx ry h
  unfold dIn at h
  split at h
  · rename_i b e
    exact in_gen (neg := false) (W := W) (σ := σ) op_in_seq op_in_str (fun D => op_in_kd D) (op_inD hu) rs rx ry e (h ι H _ (Ext.refl _ _) rs (.bl _))
  · exact False.elim h
theorem d_notin (hu : X.A.units + 65 < cLine) : OpD X cl (compareOp .NotIn) dNotIn := by
  intro W ι H σ Q s dx dy x y rs rx ry h
  unfold dNotIn at h
  split at h
  · rename_i b e
    exact in_gen (neg := true) (W := W) (σ := σ) op_notIn_seq L2.op_notIn_str (fun D => op_notIn_kd D) (op_notInD hu) rs rx ry e (h ι H _ (Ext.refl _ _) rs (.bl _))
  · exact False.elim h

/-! ### places -/
def dIx : D → D → S → R D
  | .str z, .int i, s => if z.length ≤ sizeLine then (match atI z.cps.toList i with
    | some c => .ok (.str ⟨#[c]⟩) s
    | none => .bad) else .bad
  | .tup xs, .int i, s => (match atI xs i with
    | some d => .ok d s
    | none => .bad)
  | .dic kvs, .str z, s => (match kvs.lookup z with
    | some d => .ok d s
    | none => .bad)
  | x, .int i, s => (match lview s x with
    | some xs => (match atI xs i with
      | some d => .ok d s
      | none => .bad)
    | none => .bad)
  | _, _, _ => .bad
theorem atI_rel {xs : List D} {vs : List V} {i : Int} {d : D} (r : RelDs K w cl ι H xs vs) (e : atI xs i = some d) : ∃ v, atI vs i = some v ∧ RelD K w cl ι H d v := by
  unfold atI at e ⊢
  rw [← r.length]
  cases h : ixN xs.length i with
  | none => rw [h] at e; cases e
  | some j => rw [h] at e; exact r.get e
theorem d_ix : IxD X cl dIx := by
  intro W ι H σ Q s dx dy x y rs rx ry h
  unfold dIx at h
  split at h
  · cases rx; cases ry
    split at h
    · split at h
      · exact ⟨_, ix_str, _, _, _, rfl, rfl, by assumption, by assumption, h ι H _ (Ext.refl _ _) rs (.str _)⟩
      · exact False.elim h
    · exact False.elim h
  · cases ry
    cases rx with
    | tup h1 r1 =>
    split at h
    · rename_i d e
      obtain ⟨v, e1, rd⟩ := atI_rel r1 e
      exact ⟨_, ix_tup, _, _, _, _, rfl, rfl, h1.sq, e1, h ι H _ (Ext.refl _ _) rs rd⟩
    · exact False.elim h
  · cases ry
    rename_i kvs z
    cases rx with
    | @dic kvs a vs hk r =>
    split at h
    · rename_i d e
      obtain ⟨es, n, us, k1, k2, k3, k4, k5⟩ := hk
      have kl := kdx_lookup r z
      have pl := paired_lookup k5 z
      rw [e] at kl
      obtain ⟨v, e2, rd⟩ := kl
      rw [e2] at pl
      obtain ⟨u, e3, rv⟩ := pl
      exact ⟨_, ix_kdict, a, z, v, rfl, rfl, ⟨es, n, u, k1, k2, by rw [k4, e3], rv⟩, h ι H _ (Ext.refl _ _) rs rd⟩
    · exact False.elim h
  · cases ry
    split at h
    · rename_i xs e5
      obtain ⟨a, vs, rfl, hl, r5⟩ := lview_at rs rx e5
      split at h
      · rename_i d e
        obtain ⟨v, e1, rd⟩ := atI_rel r5 e
        exact ⟨_, ix_list, _, _, _, _, rfl, rfl, hl.sq, e1, h ι H _ (Ext.refl _ _) rs rd⟩
      · exact False.elim h
    · exact False.elim h
  · exact False.elim h
variable {W : Wish} {a b c : Expr} {ma mb mc : ME} {pos : Pos}
theorem se_ix (ha : SE X cl W a ma) (hb : SE X cl W b mb) (hs : PlainIx b := by exact fun _ _ => rfl) : SE X cl W (.Subscript a b pos) (m2 dIx ma mb) := by
  obtain ⟨ta, pa, qa⟩ := ha.ex
  obtain ⟨tb, pb, qb⟩ := hb.ex
  refine ⟨_, pe_ix anyIx pa pb hs, fun σ H Q ρ ι s e r h => ?_⟩
  refine qa σ H _ ρ ι s e r (PoE.step h fun d s1 ι1 H1 v e1 x1 r1 d1 h1 => ?_)
  refine qb σ H1 _ ρ ι1 s1 (e.ext x1) r1 (PoE.step h1 fun d2 s2 ι2 H2 v2 e2 x2 r2 dd2 h2 => ?_)
  exact d_ix W ι2 H2 σ Q s2 d d2 v v2 r2 (d1.ext x2) dd2 h2
/-- slices -/
def dCut (xs : List D) (lo hi : Option Int) : List D := (xs.drop (HT.sIx xs.length 0 lo)).take (HT.sIx xs.length xs.length hi - HT.sIx xs.length 0 lo)
def dSl (lo hi : Option Int) : D → S → R D
  | .str z, s => if z.length ≤ sizeLine then .ok (.str (Txt.slice z lo hi)) s else .bad
  | .tup xs, s => .ok (.tup (dCut xs lo hi)) s
  | x, s => match lview s x with
    | some xs => .ok (.lst (dCut xs lo hi)) s
    | none => .bad
theorem dCut_rel {xs : List D} {vs : List V} {lo hi : Option Int} (r : RelDs K w cl ι H xs vs) : RelDs K w cl ι H (dCut xs lo hi) (cutV vs lo hi) := by
  unfold dCut cutV
  rw [r.length]
  exact (r.drop _).take _
/-- an optional bound: nothing, or an int -/
def oNone : Rho → S → R (Option Int) := fun _ s => .ok none s
def oSome (m : ME) : Rho → S → R (Option Int) := fun ρ s => (m ρ s).bind fun d s1 => match d with
  | .int i => .ok (some i) s1
  | _ => .bad
def mSl (m : ME) (lo hi : Rho → S → R (Option Int)) : ME := fun ρ s => (m ρ s).bind fun d s1 => (lo ρ s1).bind fun l s2 => (hi ρ s2).bind fun h s3 => dSl l h d s3
structure SO (X : Cx) (cl : Cl) (W : Wish) (e : Option Expr) (m : Rho → S → R (Option Int)) : Prop where
  ex : ∃ t, PO X e t ∧ ∀ (σ : L2.St) (H : Hp) (Q : Option Int → Hp → Prop) ρ ι s, RelE X.K X.w cl ι H ρ σ → RelS X.K X.w cl ι s H →
    (match m ρ s with
      | .ok o s1 => ∀ ι' H', Ext ι H ι' H' → RelS X.K X.w cl ι' s1 H' → Q o H'
      | .exc x s1 => ∀ ι' H' c d, Ext ι H ι' H' → RelS X.K X.w cl ι' s1 H' → RelX X.K X.w cl ι' H' x c d → W c d σ H'
      | .bad => False) → t σ H Q
theorem so_none : SO X cl W none oNone := ⟨_, po_none, fun σ H Q ρ ι s _ r h => h ι H (Ext.refl _ _) r⟩
theorem so_some (ha : SE X cl W a ma) : SO X cl W (some a) (oSome ma) := by
  obtain ⟨ta, pa, qa⟩ := ha.ex
  refine ⟨_, po_some pa, fun σ H Q ρ ι s e r h => ?_⟩
  unfold oSome at h
  refine qa σ H _ ρ ι s e r ?_
  cases e1 : ma ρ s with
  | ok d s1 =>
    rw [e1] at h
    intro ι1 H1 v x1 r1 rd
    simp only [R.bind] at h
    cases rd <;> first
      | exact ⟨_, rfl, h ι1 H1 x1 r1⟩
      | exact False.elim h
  | exc d s1 => rw [e1] at h; exact h
  | bad => rw [e1] at h; exact h
theorem se_slice {p2 : Pos} {lo hi : Option Expr} {ml mh : Rho → S → R (Option Int)} (ha : SE X cl W a ma) (hl : SO X cl W lo ml) (hh : SO X cl W hi mh) : SE X cl W (.Subscript a (.Slice lo hi none p2) pos) (mSl ma ml mh) := by
  obtain ⟨ta, pa, qa⟩ := ha.ex
  obtain ⟨tl, pl, ql⟩ := hl.ex
  obtain ⟨th, ph, qh⟩ := hh.ex
  refine ⟨_, pe_slice (SlR.or sl_tupA (SlR.or sl_list C8.sl_txt)) pa pl ph, fun σ H Q ρ ι s e r h => ?_⟩
  refine qa σ H _ ρ ι s e r (PoE.step h fun d s1 ι1 H1 v e1 x1 r1 d1 h1 => ?_)
  refine ql σ H1 _ ρ ι1 s1 (e.ext x1) r1 ?_
  cases e2 : ml ρ s1 with
  | exc dd ss => rw [e2] at h1; exact h1
  | bad => rw [e2] at h1; exact h1
  | ok l s2 =>
  rw [e2] at h1
  intro ι2 H2 x2 r2
  have h2 : PoE X.K X.w cl W ι2 H2 σ Q ((mh ρ s2).bind fun h s3 => dSl l h d s3) := PoE.mono x2 h1 fun _ _ q => q
  refine qh σ H2 _ ρ ι2 s2 ((e.ext x1).ext x2) r2 ?_
  cases e3 : mh ρ s2 with
  | exc dd ss => rw [e3] at h2; exact h2
  | bad => rw [e3] at h2; exact h2
  | ok u s3 =>
  rw [e3] at h2
  intro ι3 H3 x3 r3
  have h3 : PoE X.K X.w cl W ι3 H3 σ Q (dSl l u d s3) := PoE.mono x3 h2 fun _ _ q => q
  have d3 := (d1.ext x2).ext x3
  unfold dSl at h3
  split at h3
  · cases d3
    split at h3
    · exact .inr (.inr ⟨_, rfl, by assumption, h3 ι3 H3 _ (Ext.refl _ _) r3 (.str _)⟩)
    · exact False.elim h3
  · rename_i ds
    cases d3 with
    | tup ht rt =>
    refine .inl ⟨_, _, rfl, ht.sq, fun z => ?_, fun z p hp => ?_⟩
    · refine h3 ι3 H3 _ (Ext.refl _ _) r3 (.tup ht ?_)
      have e4 : dCut ds l u = ds := by
        unfold dCut
        have hz := rt.length
        rw [hz, z.1, z.2, ← hz]
        simp
      rw [e4]
      exact rt
    · obtain ⟨a, b, c⟩ := new_tup r3 (dCut_rel (lo := l) (hi := u) rt) hp
      exact h3 _ _ _ a b c
  · split at h3
    · rename_i xs e5
      obtain ⟨aa, vs, rfl, hl', r5⟩ := lview_at r3 d3 e5
      refine .inr (.inl ⟨_, _, rfl, hl'.sq, fun p hp => ?_⟩)
      obtain ⟨a, b, c⟩ := new_lst r3 (dCut_rel (lo := l) (hi := u) r5) hp
      exact h3 _ _ _ a b c
    · exact False.elim h3
end
end Pm
namespace Pm
open PySem PySem.Spec PyProof.Rows L2

/-! ### statements -/
def ssNil : MS := fun ρ s => .ok (.nx ρ) s
def ssCons (a b : MS) : MS := fun ρ s => (a ρ s).andThen b
def sSet (i : Nat) (m : ME) : MS := fun ρ s => (m ρ s).st ρ fun d s1 => .ok (.nx (ρ.set i (some d))) s1
def sExpr (m : ME) : MS := fun ρ s => (m ρ s).st ρ fun _ s1 => .ok (.nx ρ) s1
def sRet (m : ME) : MS := fun ρ s => (m ρ s).st ρ fun d s1 => .ok (.rt d) s1
def sRetN : MS := fun _ s => .ok (.rt .non) s
def sIf (c : MT) (a b : MS) : MS := fun ρ s => (c ρ s).st ρ fun k s1 => if k = true then a ρ s1 else b ρ s1
def sPass : MS := fun ρ s => .ok (.nx ρ) s
def sBreak : MS := fun ρ s => .ok (.bk ρ) s
def sCont : MS := fun ρ s => .ok (.ct ρ) s
def sNever : MS := fun _ _ => .bad
/-- a target: a name, a tuple of targets, a place -/
abbrev MG := D → Rho → S → R Rho
def gSlot (i : Nat) : MG := fun d ρ s => .ok (ρ.set i (some d)) s
abbrev MGs := List D → Rho → S → R Rho
def gsNil : MGs := fun ds ρ s => match ds with
  | [] => .ok ρ s
  | _ => .bad
def gsCons (g : MG) (r : MGs) : MGs := fun ds ρ s => match ds with
  | d :: t => (g d ρ s).bind fun ρ1 s1 => r t ρ1 s1
  | [] => .bad
def gTupD (n : Nat) (r : MGs) : MG := fun d ρ s => match d with
  | .tup ds => if ds.length = n then r ds ρ s else .bad
  | _ => .bad
def dStore : D → D → D → S → Option S
  | .ref n, .int k, v, s => match s[n]? with
    | some (.lst xs) => (match ixN xs.length k with
      | some j => some (s.set n (.lst (xs.set j v)))
      | none => none)
    | _ => none
  | _, _, _, _ => none
def gSubD (o i : ME) : MG := fun v ρ s => (o ρ s).bind fun x s1 => (i ρ s1).bind fun y s2 => match dStore x y v s2 with
  | some s3 => .ok ρ s3
  | none => .bad
def sAsg (m : ME) (g : MG) : MS := fun ρ s => (m ρ s).st ρ fun d s1 => match g d ρ s1 with
  | .ok ρ1 s2 => .ok (.nx ρ1) s2
  | _ => .bad
def sAug (i : Nat) (f : D → D → S → R D) (m : ME) : MS := fun ρ s => match ρ[i]? with
  | some (some x) => (m ρ s).st ρ fun y s1 => (f x y s1).st ρ fun z s2 => .ok (.nx (ρ.set i (some z))) s2
  | _ => .bad
section
variable {X : Cx} {cl : Cl} {W : Wish} {pos : Pos} {e c : Expr} {m mo mi : ME} {st : Stmt} {rest a b : List Stmt} {ms mr ma mb : MS} {mt : MT}
theorem ss_nil : SSs X cl W [] ssNil := ⟨_, pss_nil, fun Dn σ H ρ ι s e r h => h ι H σ (Ext.refl _ _) r e⟩
theorem ss_cons (h1 : SS X cl W st ms) (h2 : SSs X cl W rest mr) : SSs X cl W (st :: rest) (ssCons ms mr) := by
  obtain ⟨t, p1, q1⟩ := h1.ex
  obtain ⟨u, p2, q2⟩ := h2.ex
  refine ⟨_, pss_cons p1 p2, fun Dn σ H ρ ι s e r h => ?_⟩
  unfold ssCons RS.andThen at h
  refine q1 _ σ H ρ ι s e r ?_
  cases hr : ms ρ s with
  | bad => rw [hr] at h; exact h
  | exc x ρ1 s1 => rw [hr] at h; exact h
  | ok c1 s1 =>
    rw [hr] at h
    cases c1 with
    | nx ρ1 => exact fun ι1 H1 σ1 x1 r1 e1 => q2 Dn σ1 H1 ρ1 ι1 s1 e1 r1 (PoS.ext x1 h)
    | rt d => exact h
    | bk ρ1 => exact h
    | ct ρ1 => exact h
theorem ss_one (h1 : SS X cl W st ms) : SSs X cl W [st] ms := by
  obtain ⟨t, p1, q1⟩ := h1.ex
  exact ⟨_, pss_one p1, q1⟩
theorem ss_pass : SS X cl W (.Pass pos) sPass := ⟨_, ps_pass, fun Dn σ H ρ ι s e r h => h ι H σ (Ext.refl _ _) r e⟩
theorem ss_break : SS X cl W (.Break pos) sBreak := ⟨_, ps_break, fun Dn σ H ρ ι s e r h => h ι H σ (Ext.refl _ _) r e⟩
theorem ss_cont : SS X cl W (.Continue pos) sCont := ⟨_, ps_continue, fun Dn σ H ρ ι s e r h => h ι H σ (Ext.refl _ _) r e⟩
theorem ss_never : SS X cl W st sNever := ⟨_, ps_never, fun Dn σ H ρ ι s e r h => h⟩
theorem sss_never : SSs X cl W rest sNever := ⟨_, pss_never, fun Dn σ H ρ ι s e r h => h⟩
theorem ss_expr (he : SE X cl W e m) (hs : swapsWith e none pos.line X.env = pure false := by rfl) : SS X cl W (.Expr e pos) (sExpr m) := by
  obtain ⟨t, p, q⟩ := he.ex
  refine ⟨_, ps_expr p hs, fun Dn σ H ρ ι s en r h => ?_⟩
  exact q σ H _ ρ ι s en r (PoS.stepE en h fun d s1 ι1 H1 v e1 x1 r1 d1 h1 => h1 ι1 H1 σ (Ext.refl _ _) r1 (en.ext x1))
theorem ss_doc {x j pos'} : SS X cl W (.Expr (.Constant (.str x) j pos) pos') sPass := ⟨_, ps_doc, fun Dn σ H ρ ι s e r h => h ι H σ (Ext.refl _ _) r e⟩
theorem ss_ret (he : SE X cl W e m) : SS X cl W (.Return (some e) pos) (sRet m) := by
  obtain ⟨t, p, q⟩ := he.ex
  refine ⟨_, ps_ret p, fun Dn σ H ρ ι s en r h => ?_⟩
  exact q σ H _ ρ ι s en r (PoS.stepE en h fun d s1 ι1 H1 v e1 x1 r1 d1 h1 => h1 ι1 H1 v (Ext.refl _ _) r1 d1)
theorem ss_retN : SS X cl W (.Return none pos) sRetN := ⟨_, ps_retN, fun Dn σ H ρ ι s e r h => h ι H .non (Ext.refl _ _) r .non⟩
theorem ss_if (hc : SB X cl W c mt) (ha : SSs X cl W a ma) (hb : SSs X cl W b mb) : SS X cl W (.If c a b pos) (sIf mt ma mb) := by
  obtain ⟨t, p, q⟩ := hc.ex
  obtain ⟨ta, pa, qa⟩ := ha.ex
  obtain ⟨tb, pb, qb⟩ := hb.ex
  refine ⟨_, ps_if p pa pb, fun Dn σ H ρ ι s en r h => ?_⟩
  refine q σ H _ ρ ι s en r (PoS.stepT en h fun k s1 ι1 H1 e1 x1 r1 h1 => ?_)
  cases k with
  | true => exact qa Dn σ H1 ρ ι1 s1 (en.ext x1) r1 h1
  | false => exact qb Dn σ H1 ρ ι1 s1 (en.ext x1) r1 h1
/-- a name = e -/
theorem ss_set {x : Str} {pos' : Pos} (i : Nat) (hN : X.N.Nodup) (he : SE X cl W e m) (hi : X.N[i]? = some x := by rfl) (hx : Loc X.env.scope x := by first | exact Or.inl rfl | exact Or.inr rfl)
    (hs : swapsWith e (some (.Name x pos')) pos.line X.env = pure false := by rfl) (hf : X.fn x = true ∨ X.env.scope.names.lookup x = some .local := by first | exact .inl rfl | exact .inr rfl) : SS X cl W (.Assign [.Name x pos'] e pos) (sSet i m) := by
  obtain ⟨t, p, q⟩ := he.ex
  refine ⟨_, ps_set hN hi hx p hs hf, fun Dn σ H ρ ι s en r h => ?_⟩
  exact q σ H _ ρ ι s en r (PoS.stepE en h fun d s1 ι1 H1 v e1 x1 r1 d1 h1 => h1 ι1 H1 _ (Ext.refl _ _) r1 ((en.ext x1).set d1))
/-! targets -/
structure SG (X : Cx) (cl : Cl) (W : Wish) (tg : Expr) (g : MG) : Prop where
  ex : ∃ t, PG X tg t ∧ ∀ d v σ H (Q : L2.St → Hp → Prop) ρ ι s, RelE X.K X.w cl ι H ρ σ → RelS X.K X.w cl ι s H → RelD X.K X.w cl ι H d v →
    (∃ ρ1 s1, g d ρ s = .ok ρ1 s1 ∧ ∀ ι' H' σ', Ext ι H ι' H' → RelS X.K X.w cl ι' s1 H' → RelE X.K X.w cl ι' H' ρ1 σ' → Q σ' H') → t v σ H Q
structure SGs (X : Cx) (cl : Cl) (W : Wish) (tgs : List Expr) (g : MGs) : Prop where
  ex : ∃ t, PGs X tgs t ∧ ∀ ds vs σ H (Q : L2.St → Hp → Prop) ρ ι s, RelE X.K X.w cl ι H ρ σ → RelS X.K X.w cl ι s H → RelDs X.K X.w cl ι H ds vs →
    (∃ ρ1 s1, g ds ρ s = .ok ρ1 s1 ∧ ∀ ι' H' σ', Ext ι H ι' H' → RelS X.K X.w cl ι' s1 H' → RelE X.K X.w cl ι' H' ρ1 σ' → Q σ' H') → t vs σ H Q
theorem sg_name {x : Str} (i : Nat) (hN : X.N.Nodup) (hi : X.N[i]? = some x := by rfl) (hx : Loc X.env.scope x := by first | exact Or.inl rfl | exact Or.inr rfl)
    (hf : X.fn x = true ∨ X.env.scope.names.lookup x = some .local := by first | exact .inl rfl | exact .inr rfl) : SG X cl W (.Name x pos) (gSlot i) := by
  refine ⟨_, pg_name hN hi hx hf, fun d v σ H Q ρ ι s en r rd ⟨ρ1, s1, e1, h⟩ => ?_⟩
  cases e1
  exact h ι H _ (Ext.refl _ _) r (en.set rd)
theorem sgs_nil : SGs X cl W [] gsNil := by
  refine ⟨_, pgs_nil, fun ds vs σ H Q ρ ι s en r rd ⟨ρ1, s1, e1, h⟩ => ?_⟩
  unfold gsNil at e1
  cases rd with
  | nil => cases e1; exact ⟨rfl, h ι H _ (Ext.refl _ _) r en⟩
  | cons _ _ => cases e1
theorem sgs_cons {tg : Expr} {tgs : List Expr} {g : MG} {gr : MGs} (h1 : SG X cl W tg g) (h2 : SGs X cl W tgs gr)
    (hs : (assignEach (tg :: tgs) X.env).map (·.2) = assign tg X.env :: (assignEach tgs X.env).map (·.2) := by rfl) : SGs X cl W (tg :: tgs) (gsCons g gr) := by
  obtain ⟨t, p, q⟩ := h1.ex
  obtain ⟨u, p2, q2⟩ := h2.ex
  refine ⟨_, pgs_cons p p2 hs, fun ds vs σ H Q ρ ι s en r rd ⟨ρ1, s1, e1, h⟩ => ?_⟩
  unfold gsCons at e1
  cases rd with
  | nil => cases e1
  | @cons d v ds vs rd rds =>
    refine ⟨v, vs, rfl, q d v σ H _ ρ ι s en r rd ?_⟩
    cases e2 : g d ρ s with
    | ok ρ2 s2 =>
      refine ⟨ρ2, s2, rfl, fun ι2 H2 σ2 x2 r2 en2 => ?_⟩
      simp only [e2, R.bind] at e1
      exact q2 ds vs σ2 H2 Q ρ2 ι2 s2 en2 r2 (rds.ext x2) ⟨ρ1, s1, e1, fun ι3 H3 σ3 x3 => h ι3 H3 σ3 (x2.trans x3)⟩
    | exc x s2 => simp only [e2, R.bind] at e1; cases e1
    | bad => simp only [e2, R.bind] at e1; cases e1
theorem sg_tup {es : List Expr} {k n : Nat} {gr : MGs} (hc : X.calm = true) (h : SGs X cl W es gr) (hn : (assignEach es X.env).length = n := by rfl) (hst : (assignEach es X.env).findIdx? (·.1) = none := by rfl) : SG X cl W (.Tuple es k pos) (gTupD n gr) := by
  obtain ⟨t, p, q⟩ := h.ex
  refine ⟨_, pg_tup hc p hn hst, fun d v σ H Q ρ ι s en r rd ⟨ρ1, s1, e1, h⟩ => ?_⟩
  unfold gTupD at e1
  cases rd with
  | @tup ds a vs ht rt =>
    simp only at e1
    split at e1
    · rename_i hl
      exact ⟨a, vs, rfl, ht.sq, by rw [← rt.length]; exact hl, q ds vs σ H Q ρ ι s en r rt ⟨ρ1, s1, e1, h⟩⟩
    · cases e1
  | _ => cases e1
def AnySet (X : Cx) : TSet := fun o i v H Q => ∃ t, PSet X t ∧ t o i v H Q
theorem anySet : PSet X (AnySet X) := fun pins s σ H o i v ov iv u Q I ro ri rv ⟨t, p, h⟩ => p pins s σ H o i v ov iv u Q I ro ri rv h
theorem sg_sub {o i : Expr} (ho : SE X cl W o mo) (hi : SE X cl W i mi)
    (ha : ∀ v, assign (.Subscript o i pos) X.env v = (do
      let ov ← holding [v] (eval o X.env)
      let iv ← holding [v, ov] (eval i X.env)
      standAt pos
      holding [v, ov, iv] (setItem ov iv v)
      release [v, ov, iv] []) := by intro _; rfl) : SG X cl W (.Subscript o i pos) (gSubD mo mi) := by
  obtain ⟨t, p, q⟩ := ho.ex
  obtain ⟨u, p2, q2⟩ := hi.ex
  refine ⟨_, pg_sub p p2 anySet ha, fun d v σ H Q ρ ι s en r rd ⟨ρ1, s1, e1, h⟩ => ?_⟩
  unfold gSubD at e1
  refine q σ H _ ρ ι s en r ?_
  cases e2 : mo ρ s with
  | bad => simp only [e2, R.bind] at e1; cases e1
  | exc x s2 => simp only [e2, R.bind] at e1; cases e1
  | ok x s2 =>
  simp only [e2, R.bind] at e1
  intro ι2 H2 v2 x2 r2 rx
  refine q2 σ H2 _ ρ ι2 s2 (en.ext x2) r2 ?_
  cases e3 : mi ρ s2 with
  | bad => simp only [e3] at e1; cases e1
  | exc x s3 => simp only [e3] at e1; cases e1
  | ok y s3 =>
  simp only [e3] at e1
  intro ι3 H3 v3 x3 r3 ry
  split at e1
  · rename_i s4 e4
    cases e1
    unfold dStore at e4
    split at e4
    · rename_i n k
      split at e4
      · rename_i xs e5
        split at e4
        · rename_i j e6
          cases e4
          have rx3 := rx.ext x3
          cases rx3 with
          | ref hn =>
          cases ry
          obtain ⟨a', ea, vs, hv, rv⟩ := r3.at_ n _ e5
          rw [hn] at ea
          obtain rfl := Option.some.inj ea
          rename_i a'
          refine ⟨_, set_list, a', vs, k, j, rfl, rfl, hv, by rw [← rv.length]; exact e6, ?_⟩
          have hm : a' ∈ ι3 := List.mem_of_getElem? hn
          have xw : Ext ι3 H3 ι3 (upd H3 a' (.lst (vs.set j v))) := Ext.write hm
          exact h ι3 _ σ ((x2.trans x3).trans xw) (r3.write hn ⟨_, upd_same, (RelDs.set ((rd.ext x2).ext x3) j rv).ext xw⟩) (((en.ext x2).ext x3).ext xw)
        · cases e4
      · cases e4
    · cases e4
  · cases e1
theorem ss_asg {tg : Expr} {g : MG} (he : SE X cl W e m) (hg : SG X cl W tg g) (hs : swapsWithSole [tg] e pos.line X.env = pure false := by rfl) (hw : swappedStores [tg] e X.env = pure none := by rfl) (ha : (assignEach [tg] X.env).map (·.2) = [assign tg X.env] := by rfl) : SS X cl W (.Assign [tg] e pos) (sAsg m g) := by
  obtain ⟨t, p, q⟩ := he.ex
  obtain ⟨u, p2, q2⟩ := hg.ex
  refine ⟨_, ps_asg p p2 hs hw ha, fun Dn σ H ρ ι s en r h => ?_⟩
  refine q σ H _ ρ ι s en r (PoS.stepE en h fun d s1 ι1 H1 v e1 x1 r1 d1 h1 => ?_)
  refine q2 d v σ H1 _ ρ ι1 s1 (en.ext x1) r1 d1 ?_
  cases e2 : g d ρ s1 with
  | ok ρ2 s2 => simp only [e2] at h1; exact ⟨ρ2, s2, rfl, h1⟩
  | exc x s2 => simp only [e2] at h1; exact False.elim h1
  | bad => simp only [e2] at h1; exact False.elim h1
/-! op= -/
def AnyIp (X : Cx) (op : Operator) : TIp := fun x y H Q => ∃ t, PIp X op t ∧ t x y H Q
theorem anyIp {op : Operator} : PIp X op (AnyIp X op) := fun pins s σ H x y v u Q I rx ry ⟨t, p, h⟩ => p pins s σ H x y v u Q I rx ry h
def IpD (X : Cx) (cl : Cl) (op : Operator) (g : D → D → S → R D) : Prop :=
  ∀ (W : Wish) (ι : List Addr) (H : Hp) (σ : L2.St) (Q : VK) (s : S) (dx dy : D) (x y : V), RelS X.K X.w cl ι s H → RelD X.K X.w cl ι H dx x → RelD X.K X.w cl ι H dy y → PoE X.K X.w cl W ι H σ Q (g dx dy s) → AnyIp X op x y H Q
def dIAdd : D → D → S → R D
  | .int a, .int b, s => .ok (.int (a + b)) s
  | .str a, .str b, s => if a.length + b.length ≤ sizeLine then .ok (.str (a ++ b)) s else .bad
  | _, _, _ => .bad
theorem d_iadd : IpD X cl .Add dIAdd := by
  intro W ι H σ Q s dx dy x y rs rx ry h
  unfold dIAdd at h
  split at h
  · cases rx; cases ry
    exact ⟨_, ip_add, _, _, rfl, rfl, h ι H _ (Ext.refl _ _) rs (.int _)⟩
  · cases rx; cases ry
    split at h
    · exact ⟨_, iop_add_str, _, _, rfl, rfl, by assumption, h ι H _ (Ext.refl _ _) rs (.str _)⟩
    · exact False.elim h
  · exact False.elim h
theorem ss_aug {x : Str} {pos' : Pos} {op : Operator} {g : D → D → S → R D} (i : Nat) (hN : X.N.Nodup) (ho : IpD X cl op g) (he : SE X cl W e m) (hi : X.N[i]? = some x := by rfl) (hx : Loc X.env.scope x := by first | exact Or.inl rfl | exact Or.inr rfl)
    (hf : X.fn x = true ∨ X.env.scope.names.lookup x = some .local := by first | exact .inl rfl | exact .inr rfl) : SS X cl W (.AugAssign (.Name x pos') op e pos) (sAug i g m) := by
  obtain ⟨t, p, q⟩ := he.ex
  refine ⟨_, ps_aug hN hi hx p anyIp hf, fun Dn σ H ρ ι s en r h => ?_⟩
  unfold sAug at h
  split at h
  · rename_i d ed
    obtain ⟨v, ev, rd⟩ := en.at_ i d ed
    refine ⟨v, ev, q σ H _ ρ ι s en r (PoS.stepE en h fun d1 s1 ι1 H1 v1 e1 x1 r1 rd1 h1 => ?_)⟩
    refine ho W ι1 H1 σ _ s1 d d1 v v1 r1 (rd.ext x1) rd1 (PoS.stepE (en.ext x1) h1 fun d2 s2 ι2 H2 v2 e2 x2 r2 rd2 h2 => ?_)
    exact h2 ι2 H2 _ (Ext.refl _ _) r2 (((en.ext x1).ext x2).set rd2)
  · exact False.elim h
end

/-! ### loops -/
def gOk : Option Nat → List D → S → Prop
  | none, _, _ => True
  | some n, l, s => s[n]? = some (.lst l)
open Classical in
noncomputable def forL (gd : Option Nat) (all : List D) (g : MG) (b : MS) : List D → Rho → S → RS
  | [], ρ, s => if gOk gd all s then .ok (.nx ρ) s else .bad
  | x :: xs, ρ, s => if gOk gd all s then match g x ρ s with
    | .ok ρ1 s1 => match b ρ1 s1 with
      | .ok (.nx ρ2) s2 => forL gd all g b xs ρ2 s2
      | .ok (.ct ρ2) s2 => forL gd all g b xs ρ2 s2
      | .ok (.bk ρ2) s2 => .ok (.nx ρ2) s2
      | .ok (.rt d) s2 => .ok (.rt d) s2
      | .exc x ρ2 s2 => .exc x ρ2 s2
      | .bad => .bad
    | _ => .bad
    else .bad
abbrev MI := Rho → S → R (List D × Option Nat)
noncomputable def sFor (it : MI) (g : MG) (b : MS) : MS := fun ρ s => (it ρ s).st ρ fun p s1 => forL p.2 p.1 g b p.1 ρ s1
/-- a heap without what stands at an address -/
def hd : Option Addr → Hp → Hp
  | none, H => H
  | some a, H => fun b => if b = a then none else H b
theorem hd_none {H : Hp} : hd none H = H := rfl
theorem hd_ne {a b : Addr} {H : Hp} (h : b ≠ a) : hd (some a) H b = H b := if_neg h
theorem hd_self {a : Addr} {H : Hp} : hd (some a) H a = none := if_pos rfl
/-- the items come in their order; z: an address that is hidden from the data (a comprehension's own list) -/
def ItOk (K : PySem.W.Frag) (w : World) (cl : Cl) (p : List D × Option Nat) (J : It) (ι0 : List Addr) (H0 : Hp) : Prop :=
  ∀ (z : Option Addr) (i : Nat) (ι : List Addr) (H : Hp) (s : S), (∀ a, z = some a → H a ≠ none) → Ext ι0 H0 ι (hd z H) → RelS K w cl ι s (hd z H) → gOk p.2 p.1 s →
    (i < p.1.length → J.go i H ∧ ∀ x H', J.yld i H x H' → (∀ a, z = some a → H' a = H a) ∧ ∃ d, p.1[i]? = some d ∧ Ext ι (hd z H) ι (hd z H') ∧ RelS K w cl ι s (hd z H') ∧ RelD K w cl ι (hd z H') d x) ∧ (i = p.1.length → J.stop i H)
structure SI (X : Cx) (cl : Cl) (W : Wish) (tg iter : Expr) (m : MI) : Prop where
  ex : ∃ wi, PI X tg iter wi ∧ ∀ (σ : L2.St) (H : Hp) (Q : It → Hp → Prop) ρ ι s, RelE X.K X.w cl ι H ρ σ → RelS X.K X.w cl ι s H →
    (match m ρ s with
      | .ok p s1 => ∀ ι' H' J, Ext ι H ι' H' → RelS X.K X.w cl ι' s1 H' → ItOk X.K X.w cl p J ι' H' → Q J H'
      | .exc x s1 => ∀ ι' H' c d, Ext ι H ι' H' → RelS X.K X.w cl ι' s1 H' → RelX X.K X.w cl ι' H' x c d → W c d σ H'
      | .bad => False) → wi σ H Q
section
variable {X : Cx} {cl : Cl} {W : Wish} {pos : Pos} {tg iter c : Expr} {body : List Stmt} {it : MI} {g : MG} {b : MS} {mt : MT}
theorem ss_for (hp : PassesOwn (model X.prog X.w) X.A X.env X.xe) (hc : X.calm = true) (hi : SI X cl W tg iter it) (hg : SG X cl W tg g) (hb : SSs X cl W body b)
    (hs : ∀ x, foldedSetIterable iter X.env x = pure x := by intro _; rfl) : SS X cl W (.For tg iter body [] pos) (sFor it g b) := by
  obtain ⟨wi, p1, q1⟩ := hi.ex
  obtain ⟨tg', p2, q2⟩ := hg.ex
  obtain ⟨tb, p3, q3⟩ := hb.ex
  refine ⟨_, ps_for hp hc p1 p2 p3 hs, fun Dn σ H ρ ι s en r h => ?_⟩
  unfold sFor at h
  refine q1 σ H _ ρ ι s en r ?_
  cases e1 : it ρ s with
  | bad => rw [e1] at h; exact h
  | exc x s1 => rw [e1] at h; exact fun ι2 H2 c dd x2 rs rx => h ι2 H2 σ c dd x2 rs (en.ext x2) rx
  | ok p s1 =>
  rw [e1] at h
  intro ι1 H1 J x1 r1 ok
  have h1 : PoS X.K X.w cl W ι1 H1 Dn (forL p.2 p.1 g b p.1 ρ s1) := PoS.ext x1 h
  refine ⟨fun i m σ' H' => m = p.1.length - i ∧ i ≤ p.1.length ∧ ∃ ρ' ι' s', Ext ι1 H1 ι' H' ∧ RelS X.K X.w cl ι' s' H' ∧ RelE X.K X.w cl ι' H' ρ' σ' ∧ PoS X.K X.w cl W ι' H' Dn (forL p.2 p.1 g b (p.1.drop i) ρ' s'),
    ⟨p.1.length, rfl, Nat.zero_le _, ρ, ι1, s1, Ext.refl _ _, r1, en.ext x1, h1⟩, ?_⟩
  rintro i m σ2 H2 ⟨rfl, hi2, ρ2, ι2, s2, x2, r2, en2, h2⟩
  by_cases hlt : i < p.1.length
  · have ed : p.1.drop i = p.1[i] :: p.1.drop (i + 1) := List.drop_eq_getElem_cons hlt
    rw [ed] at h2
    unfold forL at h2
    split at h2
    · rename_i hg2
      obtain ⟨go, yl⟩ := (ok none i ι2 H2 s2 (fun _ z => nomatch z) x2 r2 hg2).1 hlt
      refine .inr ⟨go, fun σ' H' => i + 1 ≤ p.1.length ∧ ∃ ρ' ι' s', Ext ι1 H1 ι' H' ∧ RelS X.K X.w cl ι' s' H' ∧ RelE X.K X.w cl ι' H' ρ' σ' ∧ PoS X.K X.w cl W ι' H' Dn (forL p.2 p.1 g b (p.1.drop (i + 1)) ρ' s'), fun σ' H' ⟨h5, h6⟩ => ⟨p.1.length - (i + 1), by omega, rfl, h5, h6⟩, fun x H3 y => ?_⟩
      obtain ⟨_, d, ed2, x3, r3, rd⟩ := yl x H3 y
      rw [hd_none, hd_none] at x3
      rw [hd_none] at r3 rd
      rw [List.getElem?_eq_getElem hlt] at ed2
      cases ed2
      refine q2 p.1[i] x σ2 H3 _ ρ2 ι2 s2 (en2.ext x3) r3 rd ?_
      cases e4 : g p.1[i] ρ2 s2 with
      | bad => rw [e4] at h2; exact False.elim h2
      | exc x s4 => rw [e4] at h2; exact False.elim h2
      | ok ρ4 s4 =>
      rw [e4] at h2
      refine ⟨ρ4, s4, rfl, fun ι4 H4 σ4 x4 r4 en4 => ?_⟩
      have h4 := PoS.ext (x3.trans x4) h2
      refine q3 _ σ4 H4 ρ4 ι4 s4 en4 r4 ?_
      simp only at h4
      have x14 := (x2.trans x3).trans x4
      cases e5 : b ρ4 s4 with
      | bad => rw [e5] at h4; exact h4
      | exc x ρ5 s5 => rw [e5] at h4; exact h4
      | ok c5 s5 =>
        rw [e5] at h4
        cases c5 with
        | nx ρ5 => exact fun ι5 H5 σ5 x5 r5 en5 => ⟨hlt, ρ5, ι5, s5, x14.trans x5, r5, en5, PoS.ext x5 h4⟩
        | ct ρ5 => exact fun ι5 H5 σ5 x5 r5 en5 => ⟨hlt, ρ5, ι5, s5, x14.trans x5, r5, en5, PoS.ext x5 h4⟩
        | bk ρ5 => exact h4
        | rt d5 => exact h4
    · exact False.elim h2
  · have e : p.1.drop i = [] := List.drop_eq_nil_of_le (by omega)
    rw [e] at h2
    unfold forL at h2
    split at h2
    · rename_i hg2
      exact .inl ⟨(ok none i ι2 H2 s2 (fun _ z => nomatch z) x2 r2 hg2).2 (by omega), h2 ι2 H2 σ2 (Ext.refl _ _) r2 en2⟩
    · exact False.elim h2
end
end Pm
namespace Pm
open PySem PySem.Spec PyProof.Rows L2

/-! ### what a for walks -/
def iSeq (m : ME) : MI := fun ρ s => (m ρ s).bind fun d s1 => match d with
  | .lst xs => .ok (xs, none) s1
  | .ref n => (match s1[n]? with
    | some (.lst xs) => .ok (xs, some n) s1
    | _ => .bad)
  | _ => .bad
def iTupD (m : ME) : MI := fun ρ s => (m ρ s).bind fun d s1 => match d with
  | .tup xs => .ok (xs, none) s1
  | _ => .bad
def iStrD (m : ME) : MI := fun ρ s => (m ρ s).bind fun d s1 => match d with
  | .str x => .ok (x.cps.toList.map fun c => .str ⟨#[c]⟩, none) s1
  | _ => .bad
def rng (lo : Int) (n : Nat) : List D := (List.range n).map fun i => .int (lo + (i : Nat))
def iRange1 (m : ME) : MI := fun ρ s => (m ρ s).bind fun d s1 => match d with
  | .int j => if -(2 ^ 62) ≤ j ∧ j < 2 ^ 62 then .ok (rng 0 j.toNat, none) s1 else .bad
  | _ => .bad
def iRange2 (m1 m2 : ME) : MI := fun ρ s => (m1 ρ s).bind fun d s1 => (m2 ρ s1).bind fun e s2 => match d, e with
  | .int i, .int j => if -(2 ^ 62) ≤ i ∧ i < 2 ^ 62 ∧ -(2 ^ 62) ≤ j ∧ j < 2 ^ 62 then .ok (rng i (j - i).toNat, none) s2 else .bad
  | _, _ => .bad
section
variable {K : PySem.W.Frag} {w : World} {cl : Cl} {ι ι' : List Addr} {H H' : Hp} {z : Option Addr}
theorem hd_some {a : Addr} {o : HO} (h : hd z H a = some o) : H a = some o := by
  cases z with
  | none => exact h
  | some b =>
    unfold hd at h
    simp only at h
    split at h
    · cases h
    · exact h
theorem rd_act {a : Addr} {u : HO} (h : Rd (hd z H) a u) : Rd H a u := by
  rcases h with h | ⟨o, h⟩
  · exact .inl (hd_some h)
  · exact .inr ⟨o, hd_some h⟩
theorem SL.act {a : Addr} {xs : List V} (h : SL K ι (hd z H) a xs) : SqL K H a xs := by
  rcases h with ⟨h, n⟩ | h
  · exact .inl (rd_act h)
  · exact .inr h
theorem ST.act {a : Addr} {xs : List V} (h : ST K ι (hd z H) a xs) : SqT K H a xs := by
  rcases h with ⟨h, n⟩ | h
  · exact .inl (rd_act h)
  · exact .inr h
/-- items of a list of data, one by one -/
theorem list_ok {ds : List D} {gd : Option Nat} {a : Addr} {ι1 : List Addr} {H1 : Hp}
    (h : ∀ z ι H s, Ext ι1 H1 ι (hd z H) → RelS K w cl ι s (hd z H) → gOk gd ds s → ∃ vs, SqL K H a vs ∧ RelDs K w cl ι (hd z H) ds vs) : ItOk K w cl (ds, gd) (Itl K a) ι1 H1 := by
  intro z i ι2 H2 s2 hz x2 r2 g2
  obtain ⟨vs, hl2, rl2⟩ := h z ι2 H2 s2 x2 r2 g2
  refine ⟨fun hi => ?_, fun hi => ?_⟩
  · obtain ⟨v, ev, rv⟩ := rl2.get (List.getElem?_eq_getElem hi)
    refine ⟨⟨_, v, hl2, ev⟩, fun x H' ⟨eH, y⟩ => ?_⟩
    subst eH
    have ex := y _ hl2
    rw [ev] at ex
    cases ex
    exact ⟨fun _ _ => rfl, _, List.getElem?_eq_getElem hi, Ext.refl _ _, r2, rv⟩
  · exact ⟨_, hl2, by rw [← rl2.length]; exact Nat.le_of_eq hi.symm⟩
theorem tup_ok {ds : List D} {a : Addr} {ι1 : List Addr} {H1 : Hp}
    (h : ∀ z ι H s, Ext ι1 H1 ι (hd z H) → RelS K w cl ι s (hd z H) → ∃ vs, SqT K H a vs ∧ RelDs K w cl ι (hd z H) ds vs) : ItOk K w cl (ds, none) (Itt K a) ι1 H1 := by
  intro z i ι2 H2 s2 hz x2 r2 g2
  obtain ⟨vs, hl2, rl2⟩ := h z ι2 H2 s2 x2 r2
  refine ⟨fun hi => ?_, fun hi => ?_⟩
  · obtain ⟨v, ev, rv⟩ := rl2.get (List.getElem?_eq_getElem hi)
    refine ⟨⟨_, v, hl2, ev⟩, fun x H' ⟨eH, y⟩ => ?_⟩
    subst eH
    have ex := y _ hl2
    rw [ev] at ex
    cases ex
    exact ⟨fun _ _ => rfl, _, List.getElem?_eq_getElem hi, Ext.refl _ _, r2, rv⟩
  · exact ⟨_, hl2, by rw [← rl2.length]; exact Nat.le_of_eq hi.symm⟩
theorem rng_ok {lo : Int} {n : Nat} {ι : List Addr} {H : Hp} : ItOk K w cl (rng lo n, none) (Itr lo n) ι H := by
  intro z i ι2 H2 s2 hz x2 r2 _
  refine ⟨fun hi => ?_, fun hi => ?_⟩
  · have hi' : i < n := by simpa [rng] using hi
    refine ⟨hi', fun y H' ⟨eH, ey⟩ => ?_⟩
    subst eH ey
    refine ⟨fun _ _ => rfl, .int (lo + i), ?_, Ext.refl _ _, r2, .int _⟩
    show (rng lo n)[i]? = _
    unfold rng
    rw [List.getElem?_map, List.getElem?_range hi']
    rfl
  · have hi' : n ≤ i := Nat.le_of_eq (by simpa [rng] using hi.symm)
    exact hi'
theorem str_ok {x : Str} {ι : List Addr} {H : Hp} : ItOk K w cl (x.cps.toList.map fun c => D.str ⟨#[c]⟩, none) (Its x) ι H := by
  intro z i ι2 H2 s2 hz x2 r2 _
  refine ⟨fun hi => ?_, fun hi => ?_⟩
  · have hi' : i < x.cps.size := by simpa using hi
    refine ⟨hi', fun y H' ⟨eH, c, ec, ey⟩ => ?_⟩
    subst eH ey
    refine ⟨fun _ _ => rfl, .str ⟨#[c]⟩, ?_, Ext.refl _ _, r2, .str _⟩
    rw [List.getElem?_map, Array.getElem?_toList, ec]
    rfl
  · have hi' : x.cps.size ≤ i := Nat.le_of_eq (by simpa using hi.symm)
    exact hi'
end
section
variable {X : Cx} {cl : Cl} {W : Wish} {pos p : Pos} {tg e e2 : Expr} {m mb : ME}
theorem si_seq (he : SE X cl W e m) : SI X cl W tg e (iSeq m) := by
  obtain ⟨t, p, q⟩ := he.ex
  refine ⟨_, pi_list p, fun σ H Q ρ ι s en r h => ?_⟩
  unfold iSeq at h
  refine q σ H _ ρ ι s en r ?_
  cases e1 : m ρ s with
  | bad => rw [e1] at h; exact h
  | exc x s1 => rw [e1] at h; exact h
  | ok d s1 =>
  rw [e1] at h
  intro ι1 H1 v x1 r1 rd
  simp only [R.bind] at h
  cases rd with
  | @lst ds a vs hl rl => exact ⟨a, rfl, ⟨_, hl.sq⟩, h ι1 H1 _ x1 r1 (list_ok fun z ι H s x r _ => ⟨_, (hl.ext x).act, rl.ext x⟩)⟩
  | @ref n a hn =>
    simp only at h
    cases e5 : s1[n]? with
    | none => rw [e5] at h; exact False.elim h
    | some o =>
    cases o with
    | ins c fs => rw [e5] at h; exact False.elim h
    | dK kvs => rw [e5] at h; exact False.elim h
    | lst xs =>
    rw [e5] at h
    obtain ⟨a', ea, vs, hv, rv⟩ := r1.at_ n _ e5
    rw [hn] at ea
    obtain rfl := Option.some.inj ea
    refine ⟨_, rfl, ⟨_, SqL.of hv⟩, h ι1 H1 _ x1 r1 (list_ok fun z ι H s x r g => ?_)⟩
    obtain ⟨a2, ea2, vs2, hv2, rv2⟩ := r.at_ n _ g
    rw [x.at hn] at ea2
    obtain rfl := Option.some.inj ea2
    exact ⟨_, SqL.of (hd_some hv2), rv2⟩
  | _ => exact False.elim h
theorem si_tup (he : SE X cl W e m) : SI X cl W tg e (iTupD m) := by
  obtain ⟨t, p, q⟩ := he.ex
  refine ⟨_, pi_tup p, fun σ H Q ρ ι s en r h => ?_⟩
  unfold iTupD at h
  refine q σ H _ ρ ι s en r ?_
  cases e1 : m ρ s with
  | bad => rw [e1] at h; exact h
  | exc x s1 => rw [e1] at h; exact h
  | ok d s1 =>
  rw [e1] at h
  intro ι1 H1 v x1 r1 rd
  simp only [R.bind] at h
  cases rd with
  | @tup ds a vs hl rl => exact ⟨a, rfl, ⟨_, hl.sq⟩, h ι1 H1 _ x1 r1 (tup_ok fun z ι H s x r => ⟨_, (hl.ext x).act, rl.ext x⟩)⟩
  | _ => exact False.elim h
theorem si_str (he : SE X cl W e m) : SI X cl W tg e (iStrD m) := by
  obtain ⟨t, p, q⟩ := he.ex
  refine ⟨_, pi_str p, fun σ H Q ρ ι s en r h => ?_⟩
  unfold iStrD at h
  refine q σ H _ ρ ι s en r ?_
  cases e1 : m ρ s with
  | bad => rw [e1] at h; exact h
  | exc x s1 => rw [e1] at h; exact h
  | ok d s1 =>
  rw [e1] at h
  intro ι1 H1 v x1 r1 rd
  simp only [R.bind] at h
  cases rd with
  | str x => exact ⟨x, rfl, h ι1 H1 _ x1 r1 str_ok⟩
  | _ => exact False.elim h
/-- a list, a tuple or a text, whichever comes -/
def iAny (m : ME) : MI := fun ρ s => (m ρ s).bind fun d s1 => match d with
  | .lst xs => .ok (xs, none) s1
  | .tup xs => .ok (xs, none) s1
  | .str x => .ok (x.cps.toList.map fun c => .str ⟨#[c]⟩, none) s1
  | .ref n => (match s1[n]? with
    | some (.lst xs) => .ok (xs, some n) s1
    | _ => .bad)
  | _ => .bad
theorem si_any (he : SE X cl W e m) : SI X cl W tg e (iAny m) := by
  obtain ⟨w1, p1, q1⟩ := (si_seq (tg := tg) he).ex
  obtain ⟨w2, p2, q2⟩ := (si_tup (tg := tg) he).ex
  obtain ⟨w3, p3, q3⟩ := (si_str (tg := tg) he).ex
  refine ⟨fun σ H R => w1 σ H R ∨ w2 σ H R ∨ w3 σ H R, ⟨fun pins s σ H R I h => ?_⟩, fun σ H Q ρ ι s en r h => ?_⟩
  · rcases h with h | h | h
    · exact p1.run pins s σ H R I h
    · exact p2.run pins s σ H R I h
    · exact p3.run pins s σ H R I h
  unfold iAny at h
  cases e1 : m ρ s with
  | bad => rw [e1] at h; exact h.elim
  | exc x s1 => exact .inl (q1 σ H Q ρ ι s en r (by unfold iSeq; rw [e1] at h ⊢; exact h))
  | ok d s1 =>
    cases d with
    | tup xs => exact .inr (.inl (q2 σ H Q ρ ι s en r (by unfold iTupD; rw [e1] at h ⊢; exact h)))
    | str x => exact .inr (.inr (q3 σ H Q ρ ι s en r (by unfold iStrD; rw [e1] at h ⊢; exact h)))
    | _ => exact .inl (q1 σ H Q ρ ι s en r (by unfold iSeq; rw [e1] at h ⊢; exact h))
theorem si_range1 (hg : Gl X "range") (hm : X.mg "range" = none) (he : SE X cl W e m) (hs : starEach [e] X.env = [(false, eval e X.env)] := by rfl) : SI X cl W tg (.Call (.Name "range" p) [e] [] pos) (iRange1 m) := by
  obtain ⟨t, p, q⟩ := he.ex
  refine ⟨_, pi_range1 hg hm (pa_cons p pa_nil (by rw [hs]; rfl)) hs, fun σ H Q ρ ι s en r h => ?_⟩
  unfold iRange1 at h
  refine q σ H _ ρ ι s en r ?_
  cases e1 : m ρ s with
  | bad => rw [e1] at h; exact h
  | exc x s1 => rw [e1] at h; exact h
  | ok d s1 =>
  rw [e1] at h
  intro ι1 H1 v x1 r1 rd
  simp only [R.bind] at h
  cases rd with
  | int j =>
    simp only at h
    by_cases hj : -(2 ^ 62) ≤ j ∧ j < 2 ^ 62
    · rw [if_pos hj] at h
      exact ⟨j, rfl, hj.1, hj.2, h ι1 H1 _ x1 r1 rng_ok⟩
    · rw [if_neg hj] at h; exact False.elim h
  | _ => exact False.elim h
theorem si_range2 (hg : Gl X "range") (hm : X.mg "range" = none) (he : SE X cl W e m) (hb : SE X cl W e2 mb) (hs : starEach [e, e2] X.env = [(false, eval e X.env), (false, eval e2 X.env)] := by rfl) (hs2 : starEach [e2] X.env = [(false, eval e2 X.env)] := by rfl) :
    SI X cl W tg (.Call (.Name "range" p) [e, e2] [] pos) (iRange2 m mb) := by
  obtain ⟨t, p, q⟩ := he.ex
  obtain ⟨u, p2, q2⟩ := hb.ex
  refine ⟨_, pi_range2 hg hm (pa_cons p (pa_cons p2 pa_nil (by rw [hs2]; rfl)) (by rw [hs, hs2])) hs hs2, fun σ H Q ρ ι s en r h => ?_⟩
  unfold iRange2 at h
  refine q σ H _ ρ ι s en r ?_
  cases e1 : m ρ s with
  | bad => rw [e1] at h; exact h
  | exc x s1 => rw [e1] at h; exact h
  | ok d s1 =>
  rw [e1] at h
  intro ι1 H1 v x1 r1 rd
  simp only [R.bind] at h
  refine q2 σ H1 _ ρ ι1 s1 (en.ext x1) r1 ?_
  cases e3 : mb ρ s1 with
  | bad => rw [e3] at h; exact h
  | exc x s2 => rw [e3] at h; exact fun ι2 H2 c dd x2 => h ι2 H2 c dd (x1.trans x2)
  | ok d2 s2 =>
  rw [e3] at h
  intro ι2 H2 v2 x2 r2 rd2
  simp only at h
  cases rd with
  | int i =>
    cases rd2 with
    | int j =>
      simp only at h
      by_cases hj : -(2 ^ 62) ≤ i ∧ i < 2 ^ 62 ∧ -(2 ^ 62) ≤ j ∧ j < 2 ^ 62
      · rw [if_pos hj] at h
        exact ⟨i, j, rfl, hj, h ι2 H2 _ (x1.trans x2) r2 rng_ok⟩
      · rw [if_neg hj] at h; exact False.elim h
    | _ => exact False.elim h
  | _ => exact False.elim h
end
end Pm
namespace Pm
open PySem PySem.Spec PyProof.Rows L2

/-! ### a list that is being made is hidden while its items are reckoned -/
section
variable {X : Cx}
theorem fs_none {pins : List (Addr × Obj)} {σ : L2.St} {H : Hp} {s : Shared} (I : Inv X pins σ H s) {b : Addr} (hb : b ∈ X.fs) : H b = none := by
  obtain ⟨_, o, ho, _⟩ := I.ok.funs.mem hb
  exact I.base.free b o ho (I.ok.frf b hb) fun z => I.ok.exfs b z hb
/-- hidden: its object is pinned -/
theorem hide_in {pins : List (Addr × Obj)} {σ : L2.St} {H : Hp} {s : Shared} {D : Addr} {vs : List V} (I : Inv X pins σ H s) (hD : H D = some (.lst vs)) :
    ∃ its n, Vals vs its ∧ vs.length ≤ sizeLine ∧ Inv X (pins ++ [(D, ({ cls := .type "list", data := .seq its.toArray n } : Obj))]) σ (hd (some D) H) s := by
  obtain ⟨z, its, n, r, hl, e⟩ := I.lstM hD
  refine ⟨its, n, r, z, ?_⟩
  have ne : ∀ {b : Addr} {u : HO}, H b = some u → u ≠ .lst vs → hd (some D) H b = some u := fun {b u} h1 h2 => by
    rw [hd_ne (fun z => h2 (by rw [z, hD] at h1; exact (Option.some.inj h1).symm))]; exact h1
  have no : ∀ {b : Addr}, H b = none → hd (some D) H b = none := fun {b} h1 => by
    by_cases hb : b = D
    · rw [hb]; exact hd_self
    · rw [hd_ne hb]; exact h1
  refine ⟨I.ok, I.os, I.bare, ⟨I.base.keep, I.base.slot, fun b o h1 h2 h3 => no (I.base.free b o h1 h2 h3), I.base.there, fun b xs h1 => ne (I.base.tups b xs h1) (fun z => nomatch z), fun b o u h1 => ne (I.base.frzs b o u h1) (fun z => nomatch z), fun b ps h1 => ?_⟩, I.loc, I.cell, no I.free, fun x c h1 => no (I.freeC x c h1), fun p hp => ?_, fun a o h1 => ?_, I.len⟩
  · obtain ⟨more, h2⟩ := I.base.tbls b ps h1
    exact ⟨more, ne h2 fun z => nomatch z⟩
  · rw [← List.append_assoc] at hp
    rcases List.mem_append.mp hp with h1 | h1
    · obtain ⟨a1, a2, a3, a4, a5⟩ := I.pin p h1
      exact ⟨a1, no a2, a3, a4, a5⟩
    · obtain rfl := List.mem_singleton.mp h1
      refine ⟨e, hd_self, fun z => ?_, fun z => ?_, fun v z => nomatch z⟩
      · rw [show D = X.env.locals from z, I.free] at hD; cases hD
      · rw [fs_none I (show D ∈ X.fs from z)] at hD; cases hD
  · have na : a ≠ D := fun z => by rw [z, hd_self] at h1; cases h1
    rw [hd_ne na] at h1
    exact (I.hok a o h1).stay (fun b u _ q => q) (fun b q => ne q fun z => nomatch z) fun b xs q => ne q fun z => nomatch z
theorem hide_out {pins : List (Addr × Obj)} {σ σ' : L2.St} {H H' : Hp} {s s' : Shared} {D : Addr} {vs : List V} {its : List Value} {n : Nat} (I : Inv X pins σ H s) (hD : H D = some (.lst vs)) (r : Vals vs its) (z : vs.length ≤ sizeLine)
    (J : Inv X (pins ++ [(D, ({ cls := .type "list", data := .seq its.toArray n } : Obj))]) σ' H' s') : H' D = none ∧ Inv X pins σ' (upd H' D (.lst vs)) s' := by
  obtain ⟨e, hn, _⟩ := J.pin (D, _) (List.mem_append_right _ (List.mem_append_right _ List.mem_cons_self))
  have e' : s'.heap.get? D = some ({ cls := .type "list", data := .seq its.toArray n } : Obj) := e
  have hn' : H' D = none := hn
  have ne : ∀ {b : Addr} {u : HO}, H' b = some u → upd H' D (.lst vs) b = some u := fun {b u} h1 => by
    rw [upd_ne (fun z => by rw [z, hn'] at h1; cases h1)]; exact h1
  have no : ∀ {b : Addr}, b ≠ D → H' b = none → upd H' D (.lst vs) b = none := fun {b} h1 h2 => by rw [upd_ne h1]; exact h2
  have nL : X.env.locals ≠ D := fun z => by
    have h1 := I.free
    rw [z, hD] at h1
    cases h1
  refine ⟨hn', J.ok, J.os, J.bare, ⟨J.base.keep, J.base.slot, fun b o h1 h2 h3 => no (fun z => ?_) (J.base.free b o h1 h2 h3), J.base.there, fun b xs h1 => ne (J.base.tups b xs h1), fun b o u h1 => ne (J.base.frzs b o u h1), fun b ps h1 => ?_⟩, J.loc, J.cell, no nL J.free, fun x c h1 => no (fun z => ?_) (J.freeC x c h1), fun p hp => ?_, fun a o h1 => ?_, J.len⟩
  · have h4 := I.base.free b o h1 h2 h3
    rw [z, hD] at h4
    cases h4
  · obtain ⟨more, h2⟩ := J.base.tbls b ps h1
    exact ⟨more, ne h2⟩
  · have h4 := I.freeC x c h1
    rw [z, hD] at h4
    cases h4
  · obtain ⟨a1, a2, a3, a4, a5⟩ := J.pin p (by rw [← List.append_assoc]; exact List.mem_append_left _ hp)
    refine ⟨a1, no (fun z => ?_) a2, a3, a4, a5⟩
    have h4 := (I.pin p hp).2.1
    rw [z, hD] at h4
    cases h4
  · by_cases na : a = D
    · subst na
      rw [upd_same] at h1
      cases h1
      exact ⟨z, its, n, r, e'⟩
    · rw [upd_ne na] at h1
      exact (J.hok a o h1).stay (fun b u _ q => q) (fun b q => ne q) fun b xs q => ne q
def tHide (D : Addr) (t : TE) : TE := fun σ H Q => ∃ vs, H D = some (.lst vs) ∧ t σ (hd (some D) H) fun v H' => H' D = none → Q v (upd H' D (.lst vs))
def tHideT (D : Addr) (t : TT) : TT := fun σ H Q => ∃ vs, H D = some (.lst vs) ∧ t σ (hd (some D) H) fun v H' => H' D = none → Q v (upd H' D (.lst vs))
theorem pe_hide {e : Expr} {t : TE} (D : Addr) (h : PE X e t) : PE X e (tHide D t) := by
  refine ⟨fun pins s σ H Q I ⟨vs, hD, hw⟩ => ?_⟩
  obtain ⟨its, n, r, z, J⟩ := hide_in I hD
  refine thn (h.run _ s σ _ _ J hw) fun u s1 ⟨v, H', J', rv, q⟩ => ?_
  obtain ⟨hn, I'⟩ := hide_out I hD r z J'
  exact ⟨v, _, I', rv, q hn⟩
theorem pts_hide {es : List Expr} {t : TT} (D : Addr) (h : PTs X es t) : PTs X es (tHideT D t) := by
  refine ⟨fun pins s σ H Q I ⟨vs, hD, hw⟩ => ?_⟩
  obtain ⟨its, n, r, z, J⟩ := hide_in I hD
  refine thn (h.run _ s σ _ _ J hw) fun u s1 ⟨H', J', q⟩ => ?_
  obtain ⟨hn, I'⟩ := hide_out I hD r z J'
  exact ⟨_, I', q hn⟩
/-- for any D that the reading chooses -/
theorem pe_hideA {e : Expr} {t : TE} (h : PE X e t) : PE X e (fun σ H Q => ∃ D, tHide D t σ H Q) := ⟨fun pins s σ H Q I ⟨D, hw⟩ => (pe_hide D h).run pins s σ H Q I hw⟩
theorem pts_hideA {es : List Expr} {t : TT} (h : PTs X es t) : PTs X es (fun σ H Q => ∃ D, tHideT D t σ H Q) := ⟨fun pins s σ H Q I ⟨D, hw⟩ => (pts_hide D h).run pins s σ H Q I hw⟩
end

/-! ### comprehensions -/
/-- the block's own slots forgotten -/
def wipeD (ρ : Rho) : List Nat → Rho
  | [] => ρ
  | v :: vs => (wipeD ρ vs).set v none
open Classical in
noncomputable def mapL (gd : Option Nat) (all : List D) (g : MG) (t : MT) (m : ME) : List D → Rho → S → R (List D)
  | [], _, s => if gOk gd all s then .ok [] s else .bad
  | x :: xs, ρ, s => if gOk gd all s then match g x ρ s with
      | .ok ρ1 s1 => (match t ρ1 s1 with
        | .ok true s2 => (match m ρ1 s2 with
          | .ok d s3 => (match mapL gd all g t m xs ρ s3 with
            | .ok ds s4 => .ok (d :: ds) s4
            | _ => .bad)
          | _ => .bad)
        | .ok false s2 => mapL gd all g t m xs ρ s2
        | _ => .bad)
      | _ => .bad
    else .bad
noncomputable def mLc (it : MI) (g : MG) (t : MT) (m : ME) (own : List Nat) : ME := fun ρ s => (it ρ s).bind fun p s1 => match mapL p.2 p.1 g t m p.1 (wipeD ρ own) s1 with
  | .ok ds s2 => if p.1.length ≤ sizeLine then .ok (.lst ds) s2 else .bad
  | _ => .bad
def tAll : MT := fun _ s => .ok true s
theorem RelE.wipe {K : PySem.W.Frag} {w : World} {cl : Cl} {ι : List Addr} {H : Hp} {ρ : Rho} {σ : L2.St} (e : RelE K w cl ι H ρ σ) : ∀ own : List Nat, RelE K w cl ι H (wipeD ρ own) (L2.wipe σ own)
  | [] => e
  | v :: vs => by
    have ih := RelE.wipe e vs
    unfold wipeD L2.wipe
    refine ⟨by rw [List.length_set, List.length_set]; exact ih.len, fun i d h => ?_⟩
    by_cases hv : v = i
    · subst hv
      by_cases hl : v < (wipeD ρ vs).length
      · rw [List.getElem?_set_self hl] at h; cases h
      · rw [List.getElem?_eq_none (by rw [List.length_set]; omega)] at h; cases h
    · rw [List.getElem?_set_ne hv] at h ⊢
      exact ih.at_ i d h
abbrev W0 : Wish := fun _ _ _ _ => False
/-- the least that M asks -/
def tOfE (K : PySem.W.Frag) (w : World) (cl : Cl) (m : ME) : TE := fun σ H Q => ∃ ρ ι s, RelE K w cl ι H ρ σ ∧ RelS K w cl ι s H ∧ PoE K w cl W0 ι H σ Q (m ρ s)
def tOfT (K : PySem.W.Frag) (w : World) (cl : Cl) (m : MT) : TT := fun σ H Q => ∃ ρ ι s, RelE K w cl ι H ρ σ ∧ RelS K w cl ι s H ∧ PoT K w cl W0 ι H σ Q (m ρ s)
structure SP1 (X : Cx) (cl : Cl) (W : Wish) (ifs : List Expr) (m : MT) : Prop where
  ex : ∃ t, PTs X ifs t ∧ ∀ σ H Q ρ ι s, RelE X.K X.w cl ι H ρ σ → RelS X.K X.w cl ι s H → PoT X.K X.w cl W ι H σ Q (m ρ s) → t σ H Q
theorem sp_nil {X : Cx} {cl : Cl} {W : Wish} : SP1 X cl W [] tAll := ⟨_, pts_nil, fun σ H Q ρ ι s _ r h => h ι H (Ext.refl _ _) r⟩
theorem sp_one {X : Cx} {cl : Cl} {W : Wish} {c : Expr} {m : MT} (h : SB X cl W c m) : SP1 X cl W [c] m := by
  obtain ⟨t, p, q⟩ := h.ex
  exact ⟨_, pts_one p, q⟩
theorem SE.pe {X : Cx} {cl : Cl} {e : Expr} {m : ME} (h : SE X cl W0 e m) : PE X e (tOfE X.K X.w cl m) := by
  obtain ⟨t, p, q⟩ := h.ex
  exact ⟨fun pins s σ H Q I ⟨ρ, ι, s0, en, r, hh⟩ => p.run pins s σ H Q I (q σ H Q ρ ι s0 en r hh)⟩
theorem SP1.pe {X : Cx} {cl : Cl} {e : List Expr} {m : MT} (h : SP1 X cl W0 e m) : PTs X e (tOfT X.K X.w cl m) := by
  obtain ⟨t, p, q⟩ := h.ex
  exact ⟨fun pins s σ H Q I ⟨ρ, ι, s0, en, r, hh⟩ => p.run pins s σ H Q I (q σ H Q ρ ι s0 en r hh)⟩
/-- a target of a comprehension, over data -/
inductive OwnG (K : PySem.W.Frag) : TG → MG → List Nat → Prop
  | name (i : Nat) (own : List Nat) (h : i ∈ own) : OwnG K (gName i) (gSlot i) own
  | two (i j : Nat) (own : List Nat) (h : i ∈ own) (h2 : j ∈ own) : OwnG K (gTup K 2 (gCons (gName i) (gCons (gName j) gNil))) (gTupD 2 (gsCons (gSlot i) (gsCons (gSlot j) gsNil))) own
theorem wipe_get {σ : L2.St} {i : Nat} : ∀ {own : List Nat}, (L2.wipe σ own)[i]? = if i ∈ own ∧ i < σ.length then some none else σ[i]?
  | [] => by simp [L2.wipe]
  | v :: vs => by
    unfold L2.wipe
    by_cases hv : v = i
    · subst hv
      by_cases hl : v < σ.length
      · rw [List.getElem?_set_self (by rw [wipe_length]; exact hl), if_pos ⟨List.mem_cons_self, hl⟩]
      · rw [List.getElem?_eq_none (by rw [List.length_set, wipe_length]; omega), if_neg (fun z => hl z.2), List.getElem?_eq_none (by omega)]
    · rw [List.getElem?_set_ne hv, wipe_get (own := vs)]
      have : (i ∈ v :: vs) ↔ (i ∈ vs) := by simp [Ne.symm hv]
      simp only [this]
theorem wipe_set {σ : L2.St} {i : Nat} {x : Option V} {own : List Nat} (h : i ∈ own) : L2.wipe (σ.set i x) own = L2.wipe σ own := by
  apply List.ext_getElem?
  intro j
  rw [wipe_get, wipe_get, List.length_set]
  by_cases hj : i = j
  · subst hj
    by_cases hl : i < σ.length
    · rw [if_pos ⟨h, hl⟩, if_pos ⟨h, hl⟩]
    · rw [if_neg (fun z => hl z.2), if_neg (fun z => hl z.2), List.getElem?_eq_none (by rw [List.length_set]; omega), List.getElem?_eq_none (by omega)]
  · rw [List.getElem?_set_ne hj]
theorem wipe_wipe {σ : L2.St} {own : List Nat} : L2.wipe (L2.wipe σ own) own = L2.wipe σ own := by
  apply List.ext_getElem?
  intro j
  rw [wipe_get, wipe_get, wipe_length]
  by_cases h : j ∈ own ∧ j < σ.length
  · rw [if_pos h, if_pos h]
  · rw [if_neg h, if_neg h]
theorem OwnG.run {K : PySem.W.Frag} {w : World} {cl : Cl} {tg : TG} {g : MG} {own : List Nat} (G : OwnG K tg g own) {z : Option Addr} {ι : List Addr} {H : Hp} {s s1 : S} {ρ ρ1 : Rho} {σ : L2.St} {d : D} {v : V} {Q : L2.St → Hp → Prop}
    (en : RelE K w cl ι (hd z H) ρ σ) (rd : RelD K w cl ι (hd z H) d v) (e : g d ρ s = .ok ρ1 s1) (h : s1 = s → ∀ σ', RelE K w cl ι (hd z H) ρ1 σ' → L2.wipe σ' own = L2.wipe σ own → Q σ' H) : tg v σ H Q := by
  cases G with
  | name i _ hi =>
    cases e
    exact h rfl _ (en.set rd) (wipe_set hi)
  | two i j _ hi hj =>
    unfold gTupD at e
    cases rd with
    | @tup ds a vs ht rt =>
      simp only at e
      split at e
      · rename_i hl
        match ds, hl with
        | [d1, d2], _ =>
          obtain ⟨v1, v2, rfl, q1, q2⟩ := rt.two
          cases e
          refine ⟨a, _, rfl, ht.act, rfl, v1, [v2], rfl, v2, [], rfl, rfl, ?_⟩
          exact h rfl _ ((en.set q1).set q2) (by rw [wipe_set hj, wipe_set hi])
      · cases e
    | _ => cases e
section
variable {K : PySem.W.Frag} {w : World} {cl : Cl} {ι : List Addr} {H : Hp} {D : Addr}
theorem hd_upd {H : Hp} {D : Addr} {o : HO} : hd (some D) (upd H D o) = hd (some D) H := by
  funext b
  by_cases hb : b = D
  · rw [hb, hd_self, hd_self]
  · rw [hd_ne hb, hd_ne hb, upd_ne hb]
theorem hd_id {H : Hp} {D : Addr} (h : H D = none) : hd (some D) H = H := by
  funext b
  by_cases hb : b = D
  · rw [hb, hd_self, h]
  · rw [hd_ne hb]
theorem hd_noneD {a D : Addr} {H : Hp} (e : H a = none) : hd (some D) H a = none := by
  show (if a = D then none else H a) = none
  rw [e, ite_self]
theorem Ext.unhide (h : H D ≠ none) : Ext ι (hd (some D) H) ι H := ⟨⟨[], (List.append_nil ι).symm⟩, fun a o e n => ⟨hd_some e, n⟩, fun a e => hd_noneD e⟩
theorem RelS.unhide {s : S} (r : RelS K w cl ι s (hd (some D) H)) (h : H D ≠ none) : RelS K w cl ι s H :=
  ⟨r.len, r.nd, fun n o e => let ⟨a, ea, ro⟩ := r.at_ n o e; ⟨a, ea, by
    cases o with
    | lst ds => obtain ⟨us, h1, h2⟩ := ro; exact ⟨us, hd_some h1, h2.ext (Ext.unhide h)⟩
    | ins c fs => obtain ⟨A, dx, us, hc, hk, h1, h2⟩ := ro; exact ⟨A, dx, us, hc, hk, hd_some h1, h2.ext (Ext.unhide h)⟩
    | dK kvs => obtain ⟨us, h1, hk, h2⟩ := ro; exact ⟨us, hd_some h1, hk, h2.ext (Ext.unhide h)⟩⟩⟩
end
/-- the reading of a comprehension -/
theorem lc_read {X : Cx} {cl : Cl} {W : Wish} {it : MI} {g : MG} {mt : MT} {m : ME} {tg' : TG} {wi : TI} {ow : List Nat} (G : OwnG X.K tg' g ow)
    (q1 : ∀ (σ : L2.St) (H : Hp) (Q : It → Hp → Prop) ρ ι s, RelE X.K X.w cl ι H ρ σ → RelS X.K X.w cl ι s H →
    (match it ρ s with
      | .ok p s1 => ∀ ι' H' J, Ext ι H ι' H' → RelS X.K X.w cl ι' s1 H' → ItOk X.K X.w cl p J ι' H' → Q J H'
      | .exc x s1 => ∀ ι' H' c d, Ext ι H ι' H' → RelS X.K X.w cl ι' s1 H' → RelX X.K X.w cl ι' H' x c d → W c d σ H'
      | .bad => False) → wi σ H Q)
    {σ : L2.St} {H : Hp} {Q : VK} {ρ : Rho} {ι : List Addr} {s : S} (en : RelE X.K X.w cl ι H ρ σ) (r : RelS X.K X.w cl ι s H) (h : PoE X.K X.w cl W ι H σ Q (mLc it g mt m ow ρ s)) :
    tLc wi tg' (fun σ H Q => ∃ D, tHideT D (tOfT X.K X.w cl mt) σ H Q) (fun σ H Q => ∃ D, tHide D (tOfE X.K X.w cl m) σ H Q) ow σ H Q := by
  unfold mLc at h
  refine q1 σ H _ ρ ι s en r ?_
  cases e1 : it ρ s with
  | bad => rw [e1] at h; exact h
  | exc x s1 => rw [e1] at h; exact h
  | ok p s1 =>
  rw [e1] at h
  intro ι1 H1 J x1 r1 iok D hD
  simp only [R.bind] at h
  cases e2 : mapL p.2 p.1 g mt m p.1 (wipeD ρ ow) s1 with
  | bad => rw [e2] at h; exact False.elim h
  | exc x s2 => rw [e2] at h; exact False.elim h
  | ok ds s2 =>
  rw [e2] at h
  simp only at h
  by_cases hlen : p.1.length ≤ sizeLine
  rotate_left
  · rw [if_neg hlen] at h; exact False.elim h
  rw [if_pos hlen] at h
  have hid1 : hd (some D) (upd H1 D (.lst [])) = H1 := by rw [hd_upd, hd_id hD]
  -- what is made so far stands at D, hidden from the data; what is left gives the rest
  refine ⟨fun i k H' => k = p.1.length - i ∧ i ≤ p.1.length ∧ ∃ ι' s' acc vs ds', Ext ι1 H1 ι' (hd (some D) H') ∧ RelS X.K X.w cl ι' s' (hd (some D) H') ∧ H' D = some (.lst vs) ∧ RelDs X.K X.w cl ι' (hd (some D) H') acc vs ∧ acc.length ≤ i ∧
      mapL p.2 p.1 g mt m (p.1.drop i) (wipeD ρ ow) s' = .ok ds' s2 ∧ acc ++ ds' = ds,
    ⟨p.1.length, rfl, Nat.zero_le _, ι1, s1, [], [], ds, by rw [hid1]; exact Ext.refl _ _, by rw [hid1]; exact r1, upd_same, .nil, Nat.le_refl _, e2, rfl⟩, ?_⟩
  rintro i k H2 ⟨rfl, hi2, ι2, s3, acc, vs, ds', x2, r2, hD2, rv, hacc, em, ed⟩
  have nD2 : ∀ a, some D = some a → H2 a ≠ none := fun a ea => by cases ea; rw [hD2]; exact fun z => nomatch z
  by_cases hlt : i < p.1.length
  · have edr : p.1.drop i = p.1[i] :: p.1.drop (i + 1) := List.drop_eq_getElem_cons hlt
    rw [edr] at em
    unfold mapL at em
    by_cases hg2 : gOk p.2 p.1 s3
    rotate_left
    · rw [if_neg hg2] at em; cases em
    rw [if_pos hg2] at em
    obtain ⟨go, yl⟩ := (iok (some D) i ι2 H2 s3 nD2 x2 r2 hg2).1 hlt
    refine .inr ⟨go, fun H' => i + 1 ≤ p.1.length ∧ ∃ ι' s' acc vs ds', Ext ι1 H1 ι' (hd (some D) H') ∧ RelS X.K X.w cl ι' s' (hd (some D) H') ∧ H' D = some (.lst vs) ∧ RelDs X.K X.w cl ι' (hd (some D) H') acc vs ∧ acc.length ≤ i + 1 ∧
      mapL p.2 p.1 g mt m (p.1.drop (i + 1)) (wipeD ρ ow) s' = .ok ds' s2 ∧ acc ++ ds' = ds, fun H' ⟨h5, h6⟩ => ⟨p.1.length - (i + 1), by omega, rfl, h5, h6⟩, fun x H3 y => ?_⟩
    obtain ⟨sameD, d, ed2, x3, r3, rd⟩ := yl x H3 y
    rw [List.getElem?_eq_getElem hlt] at ed2
    cases ed2
    have hD3 : H3 D = some (.lst vs) := by rw [sameD D rfl]; exact hD2
    have en3 : RelE X.K X.w cl ι2 (hd (some D) H3) (wipeD ρ ow) (L2.wipe σ ow) := (((en.ext x1).ext x2).ext x3).wipe _
    cases e4 : g p.1[i] (wipeD ρ ow) s3 with
    | bad => rw [e4] at em; cases em
    | exc x s4 => rw [e4] at em; cases em
    | ok ρ4 s4 =>
    rw [e4] at em
    simp only at em
    refine G.run (z := some D) en3 rd e4 fun es σ4 en4 hw => ⟨by rw [hw, wipe_wipe], D, vs, hD3, ρ4, ι2, s4, en4, by rw [es]; exact r3, ?_⟩
    cases e5 : mt ρ4 s4 with
    | bad => rw [e5] at em; cases em
    | exc x s5 => rw [e5] at em; cases em
    | ok b s5 =>
    rw [e5] at em
    intro ι5 H5 x5 r5 hn5
    have h5 : hd (some D) (upd H5 D (.lst vs)) = H5 := by rw [hd_upd, hd_id hn5]
    cases b with
    | true =>
      simp only [if_true] at em ⊢
      refine ⟨D, vs, upd_same, ρ4, ι5, s5, by rw [h5]; exact en4.ext x5, by rw [h5]; exact r5, ?_⟩
      cases e6 : m ρ4 s5 with
      | bad => rw [e6] at em; cases em
      | exc x s6 => rw [e6] at em; cases em
      | ok d6 s6 =>
      rw [e6] at em
      intro ι6 H6 v6 x6 r6 rd6 hn6
      rw [h5] at x6
      simp only at em
      cases e7 : mapL p.2 p.1 g mt m (p.1.drop (i + 1)) (wipeD ρ ow) s6 with
      | bad => rw [e7] at em; cases em
      | exc x s7 => rw [e7] at em; cases em
      | ok ds7 s7 =>
      rw [e7] at em
      cases em
      have hvl : vs.length = acc.length := rv.length.symm
      have h6 : hd (some D) (upd (upd H6 D (.lst vs)) D (.lst (vs ++ [v6]))) = H6 := by rw [hd_upd, hd_upd, hd_id hn6]
      refine ⟨vs, upd_same, by omega, hlt, ι6, s6, acc ++ [d6], vs ++ [v6], ds7, ?_, ?_, upd_same, ?_, ?_, e7, by rw [List.append_assoc]; exact ed⟩
      · rw [h6]; exact ((x2.trans x3).trans x5).trans x6
      · rw [h6]; exact r6
      · rw [h6]; exact (((rv.ext x3).ext x5).ext x6).append (.cons rd6 .nil)
      · rw [List.length_append]; exact Nat.succ_le_succ hacc
    | false =>
      simp only [Bool.false_eq_true, if_false] at em ⊢
      refine ⟨hlt, ι5, s5, acc, vs, ds', ?_, ?_, upd_same, ?_, by omega, em, ed⟩
      · rw [h5]; exact (x2.trans x3).trans x5
      · rw [h5]; exact r5
      · rw [h5]; exact (rv.ext x3).ext x5
  · have e : p.1.drop i = [] := List.drop_eq_nil_of_le (by omega)
    rw [e] at em
    unfold mapL at em
    by_cases hg2 : gOk p.2 p.1 s3
    · rw [if_pos hg2] at em
      cases em
      rw [List.append_nil] at ed
      subst ed
      have nD : H2 D ≠ none := by rw [hD2]; exact fun z => nomatch z
      refine .inl ⟨(iok (some D) i ι2 H2 _ nD2 x2 r2 hg2).2 (by omega), ?_⟩
      have rs2 := r2.unhide nD
      have nDi : D ∉ ι2 := r2.notin hd_self
      refine h ι2 H2 (.ref D) ((x1.trans x2).trans (Ext.unhide nD)) rs2 (.lst (.inl ⟨.inl hD2, nDi⟩) (rv.ext (Ext.unhide nD)))
    · rw [if_neg hg2] at em; cases em
theorem se_lc {X : Cx} {cl : Cl} {W : Wish} {elt tg iter : Expr} {ifs : List Expr} {scope : Scope} {own : List (Str × Nat)} {pos : Pos} {it : MI} {g : MG} {mt : MT} {m : ME} {tg' : TG}
    (hc : X.calm = true) (hN : X.N.Nodup) (hi : SI X cl W tg iter it) (ok : BlkOk X.N X.env.scope scope own) (G : OwnG X.K tg' g (own.map (·.2)))
    (hg : ∀ (s : Shared) (H : Hp) (C : Addr) (cs : List (Str × Addr)) (fp : List Addr), PG (X.blk s H scope (compEnvC scope cs C X.env) fp) tg tg')
    (ht : ∀ (s : Shared) (H : Hp) (C : Addr) (cs : List (Str × Addr)) (fp : List Addr), SP1 (X.blk s H scope (compEnvC scope cs C X.env) fp) cl W0 ifs mt)
    (he : ∀ (s : Shared) (H : Hp) (C : Addr) (cs : List (Str × Addr)) (fp : List Addr), SE (X.blk s H scope (compEnvC scope cs C X.env) fp) cl W0 elt m)
    (hs : ∀ x, foldedSetIterable iter X.env x = pure x := by intro _; rfl) : SE X cl W (.ListComp elt [⟨tg, iter, ifs, 0⟩] scope pos) (mLc it g mt m (own.map (·.2))) := by
  obtain ⟨wi, p1, q1⟩ := hi.ex
  have ht' : ∀ (s : Shared) (H : Hp) (C : Addr) (cs : List (Str × Addr)) (fp : List Addr), PTs (X.blk s H scope (compEnvC scope cs C X.env) fp) ifs (fun σ H Q => ∃ D, tHideT D (tOfT X.K X.w cl mt) σ H Q) := fun s H C cs fp => pts_hideA (SP1.pe (ht s H C cs fp))
  have he' : ∀ (s : Shared) (H : Hp) (C : Addr) (cs : List (Str × Addr)) (fp : List Addr), PE (X.blk s H scope (compEnvC scope cs C X.env) fp) elt (fun σ H Q => ∃ D, tHide D (tOfE X.K X.w cl m) σ H Q) := fun s H C cs fp => pe_hideA (SE.pe (he s H C cs fp))
  exact ⟨_, pe_lc hc hN p1 ok hg ht' he' hs, fun σ H Q ρ ι s en r h => lc_read (W := W) G q1 en r h⟩
/-- y = [..] on one line -/
theorem ss_setLc {X : Cx} {cl : Cl} {W : Wish} {y : Str} {py spos : Pos} {elt tg iter : Expr} {ifs : List Expr} {scope : Scope} {own : List (Str × Nat)} {pos : Pos} {it : MI} {g : MG} {mt : MT} {m : ME} {tg' : TG} (i : Nat)
    (hc : X.calm = true) (hN : X.N.Nodup) (hi : SI X cl W tg iter it) (ok : BlkOk X.N X.env.scope scope own) (G : OwnG X.K tg' g (own.map (·.2)))
    (hg : ∀ (s : Shared) (H : Hp) (C : Addr) (cs : List (Str × Addr)) (fp : List Addr), PG (X.blk s H scope (compEnvC scope cs C X.env) fp) tg tg')
    (ht : ∀ (s : Shared) (H : Hp) (C : Addr) (cs : List (Str × Addr)) (fp : List Addr), SP1 (X.blk s H scope (compEnvC scope cs C X.env) fp) cl W0 ifs mt)
    (he : ∀ (s : Shared) (H : Hp) (C : Addr) (cs : List (Str × Addr)) (fp : List Addr), SE (X.blk s H scope (compEnvC scope cs C X.env) fp) cl W0 elt m)
    (hsw : swapsWith (.ListComp elt [⟨tg, iter, ifs, 0⟩] scope pos) (some (.Name y py)) spos.line X.env = pure true)
    (hy : X.N[i]? = some y := by rfl) (hyl : X.env.scope.names.lookup y = some .local := by rfl)
    (hs : ∀ x, foldedSetIterable iter X.env x = pure x := by intro _; rfl) : SS X cl W (.Assign [.Name y py] (.ListComp elt [⟨tg, iter, ifs, 0⟩] scope pos) spos) (sSet i (mLc it g mt m (own.map (·.2)))) := by
  obtain ⟨wi, p1, q1⟩ := hi.ex
  have ht' : ∀ (s : Shared) (H : Hp) (C : Addr) (cs : List (Str × Addr)) (fp : List Addr), PTs (X.blk s H scope (compEnvC scope cs C X.env) fp) ifs (fun σ H Q => ∃ D, tHideT D (tOfT X.K X.w cl mt) σ H Q) := fun s H C cs fp => pts_hideA (SP1.pe (ht s H C cs fp))
  have he' : ∀ (s : Shared) (H : Hp) (C : Addr) (cs : List (Str × Addr)) (fp : List Addr), PE (X.blk s H scope (compEnvC scope cs C X.env) fp) elt (fun σ H Q => ∃ D, tHide D (tOfE X.K X.w cl m) σ H Q) := fun s H C cs fp => pe_hideA (SE.pe (he s H C cs fp))
  refine ⟨_, ps_setLc hc hN hy hyl hsw p1 ok hg ht' he' hs, fun Dn σ H ρ ι s en r h => ?_⟩
  refine lc_read (W := W) G q1 en r (PoS.stepE en h fun d s1 ι1 H1 v e1 x1 r1 d1 h1 => h1 ι1 H1 _ (Ext.refl _ _) r1 ((en.ext x1).set d1))
end Pm
namespace Pm
open PySem PySem.Spec PyProof.Rows L2

/-! ### defs -/
/-- a def over data: n parameters, tot slots -/
def mkFn (n tot : Nat) (m : MS) (ds : List D) (s : S) : R D := if ds.length = n then (match m (ds.map some ++ List.replicate (tot - n) none) s with
  | .ok (.rt d) s1 => .ok d s1
  | .ok (.nx _) s1 => .ok .non s1
  | .exc x _ s1 => .exc x s1
  | _ => .bad) else .bad
def spD (K : PySem.W.Frag) (w : World) (cl : Cl) (n : Nat) (F : List D → S → R D) : Sp := fun vs H Q E =>
  vs.length = n ∧ ∃ ι s ds, RelS K w cl ι s H ∧ RelDs K w cl ι H ds vs ∧ PoE K w cl (fun c d _ H' => E c d H') ι H [] Q (F ds s)
section
variable {P : Program} {w : World} {K : PySem.W.Frag} {mg : Str → Option Value} {base : Heap} {cl : Cl}
theorem start_rel {ι : List Addr} {H : Hp} {tot : Nat} {N : List Str} (hN : N.length = tot) : ∀ {ds : List D} {vs : List V} {n : Nat}, n = ds.length → RelDs K w cl ι H ds vs → RelE K w cl ι H (ds.map some ++ List.replicate (tot - n) none) (L2.start N vs) := by
  intro ds vs n hn r
  have hl := r.length
  refine ⟨?_, fun i d h => ?_⟩
  · unfold L2.start
    simp only [List.length_append, List.length_map, List.length_replicate]
    omega
  · unfold L2.start
    by_cases hi : i < ds.length
    · rw [List.getElem?_append_left (by rw [List.length_map]; exact hi), List.getElem?_map] at h
      obtain ⟨e, he, h2⟩ := Option.map_eq_some_iff.mp h
      cases h2
      obtain ⟨v, hv, rv⟩ := r.get he
      exact ⟨v, by rw [List.getElem?_append_left (by rw [List.length_map]; omega), List.getElem?_map, hv]; rfl, rv⟩
    · rw [List.getElem?_append_right (by rw [List.length_map]; omega), List.getElem?_replicate] at h
      split at h <;> cases h
/-- a def keeps: what M gives -/
theorem fn_ok {x qual : Str} {st : Stmt} {f : Addr} {fd : FuncData} {N ps : List Str} {k : Nat} {m : MS} (F : Fun K x qual st f fd) (Sc : FnScope N ps (defScope st))
    (hb : ∀ (cdv : Value) (A : Around) (outer : List Env) (s : Shared) (H : Hp) (E : XK), Room k (A.deeper (envOfC qual (defScope st) s.heap.objs.size f cdv)) →
      SSs (cxOf (L2.CX P w) P w K mg base N qual (defScope st) f cdv A outer s H E) cl (fun c d _ H' => E c d H') (defBody st) m) :
    FnOk P w K mg base (L2.CX P w) (k + 1) f fd ps (spD K w cl ps.length (mkFn ps.length N.length m)) := by
  refine F.okX Sc (fun vs H Q E h => h.1) fun cdv A outer s H vs Q E hr ⟨hl, ι, s0, ds, rs, rd, h⟩ => ?_
  obtain ⟨t, p, q⟩ := (hb cdv A outer s H E hr).ex
  refine ⟨t, p, ?_⟩
  have hdl : ds.length = ps.length := by rw [rd.length]; exact hl
  unfold mkFn at h
  rw [if_pos hdl] at h
  refine q _ (L2.start N vs) H _ ι s0 (start_rel rfl hdl.symm rd) rs ?_
  cases hm : m (ds.map some ++ List.replicate (N.length - ps.length) none) s0 with
  | bad => rw [hm] at h; exact h
  | exc x ρ1 s1 => rw [hm] at h; exact fun ι2 H2 σ2 c d x2 r2 _ rx => h ι2 H2 c d x2 r2 rx
  | ok c1 s1 =>
    rw [hm] at h
    cases c1 with
    | nx ρ1 => exact fun ι2 H2 σ2 x2 r2 _ => h ι2 H2 .non x2 r2 .non
    | rt d => exact h
    | bk ρ1 => exact False.elim h
    | ct ρ1 => exact False.elim h
theorem fn_imp {f : Addr} {fd : FuncData} {ps : List Str} {k n : Nat} {F G : List D → S → R D} (h : FnOk P w K mg base (L2.CX P w) k f fd ps (spD K w cl n F))
    (hg : ∀ (E : XK) (ι : List Addr) (H : Hp) (Q : VK) ds s, RelS K w cl ι s H → PoE K w cl (fun c d _ H' => E c d H') ι H [] Q (G ds s) → PoE K w cl (fun c d _ H' => E c d H') ι H [] Q (F ds s)) : FnOk P w K mg base (L2.CX P w) k f fd ps (spD K w cl n G) :=
  h.imp fun vs H Q E ⟨hl, ι, s, ds, rs, rd, q⟩ => ⟨hl, ι, s, ds, rs, rd, hg E ι H Q ds s rs q⟩
end
section
variable {X : Cx} {cl : Cl} {W : Wish} {pos p : Pos} {x : Str} {e : Expr} {es : List Expr} {ms : MA} {f : Addr} {fd : FuncData} {ps : List Str} {k n : Nat} {G : List D → S → R D}
theorem call_po {ι : List Addr} {H : Hp} {σ : L2.St} {Q : VK} {ds : List D} {vs : List V} {s : S} (hn : ∀ ds s, ds.length ≠ n → G ds s = .bad) (r : RelS X.K X.w cl ι s H) (rd : RelDs X.K X.w cl ι H ds vs) (h : PoE X.K X.w cl W ι H σ Q (G ds s)) : spD X.K X.w cl n G vs H Q (WE W σ) := by
  refine ⟨?_, ι, s, ds, r, rd, ?_⟩
  · by_cases hl : ds.length = n
    · rw [← rd.length]; exact hl
    · rw [hn ds s hl] at h; exact False.elim h
  · cases hg : G ds s with
    | ok d s1 => rw [hg] at h; exact h
    | exc x s1 => rw [hg] at h; exact h
    | bad => rw [hg] at h; exact h
/-- f(..) -/
theorem se_call (tk : Takes X W) (F : FnOk X.prog X.w X.K X.mg X.base (L2.CX X.prog X.w) k f fd ps (spD X.K X.w cl n G)) (hn : ∀ ds s, ds.length ≠ n → G ds s = .bad) (hr : Room k X.A) (hg : Gl X x) (hm : X.mg x = some (.ref f)) (hk : PySem.W.keepIn X.K (.ref f) = true) (hb : Binds X.K fd ps [])
    (ha : SA X cl W (e :: es) ms) (hdb : (x == ("__debug__" : Str)) = false := by decide) (he : starEach (e :: es) X.env = (false, eval e X.env) :: starEach es X.env := by rfl) (hpl : (backTo pos (starEach es X.env)).any (·.1) = false := by rfl) :
    SE X cl W (.Call (.Name x p) (e :: es) [] pos) (mN G ms) := by
  obtain ⟨ta, pa, qa⟩ := ha.ex
  refine ⟨_, pe_callS (E := WE W) F hr hg hm hk hb (fun σ => passAt tk σ) pa hdb he hpl, fun σ H Q ρ ι s en r h => ?_⟩
  exact qa σ H _ ρ ι s en r (PoE.stepA h fun ds s1 ι1 H1 vs e1 x1 r1 d1 h1 => call_po hn r1 d1 h1)
end

/-! ### finishing: what a def made and hands back is not changed any more -/
mutual
def ltD (n : Nat) : D → Bool
  | .ref m => decide (m < n)
  | .tup xs => ltDs n xs
  | .lst xs => ltDs n xs
  | .ins _ fs => ltFs n fs
  | .dic kvs => ltFs n kvs
  | .exn _ _ _ => false
  | _ => true
def ltDs (n : Nat) : List D → Bool
  | [] => true
  | x :: xs => ltD n x && ltDs n xs
def ltFs (n : Nat) : List (Str × D) → Bool
  | [] => true
  | (_, x) :: xs => ltD n x && ltFs n xs
end
def ltO (n : Nat) : O → Bool
  | .lst xs => ltDs n xs
  | .ins _ fs => ltFs n fs
  | .dK kvs => ltDs n (kvs.map (·.2))
section
variable {K : PySem.W.Frag} {w : World} {cl : Cl} {e : Option (Nat × Addr × Addr × Addr)} {ι : List Addr} {H : Hp} {n : Nat}
theorem notin_take {a : Addr} (h : a ∉ ι) : a ∉ ι.take n := fun z => h (List.mem_of_mem_take z)
mutual
theorem ltD_relX : ∀ {d : D} {v : V}, RelD K w cl ι H d v → ltD n d = true → RelD K w ⟨cl.of, e⟩ (ι.take n) H d v
  | _, _, .non, _ => .non
  | _, _, .bl b, _ => .bl b
  | _, _, .int i, _ => .int i
  | _, _, .str y, _ => .str y
  | _, _, .tup h r, l => .tup (by
      rcases h with ⟨h, k⟩ | h
      · exact .inl ⟨h, notin_take k⟩
      · exact .inr h) (ltDs_relX r (by simpa [ltD] using l))
  | _, _, .lst h r, l => .lst (by
      rcases h with ⟨h, k⟩ | h
      · exact .inl ⟨h, notin_take k⟩
      · exact .inr h) (ltDs_relX r (by simpa [ltD] using l))
  | _, _, .ref h, l => .ref (by
      rw [List.getElem?_take, if_pos (by simpa [ltD] using l)]
      exact h)
  | _, _, .ins hc hk h ha r, l => .ins hc hk h (notin_take ha) (ltFs_relX r (by simpa [ltD] using l))
  | _, _, .glo a, _ => .glo a
  | _, _, .ty m, _ => .ty m
  | _, _, .dic h r, l => .dic h (ltFs_relX r (by simpa [ltD] using l))
  | _, _, .exn _ _ _ _ _, l => by simp [ltD] at l
  | _, _, .old _, l => by simp [ltD] at l
theorem ltDs_relX : ∀ {ds : List D} {vs : List V}, RelDs K w cl ι H ds vs → ltDs n ds = true → RelDs K w ⟨cl.of, e⟩ (ι.take n) H ds vs
  | _, _, .nil, _ => .nil
  | _, _, .cons r t, l => .cons (ltD_relX r (by simp only [ltDs, Bool.and_eq_true] at l; exact l.1)) (ltDs_relX t (by simp only [ltDs, Bool.and_eq_true] at l; exact l.2))
theorem ltFs_relX : ∀ {ds : List (Str × D)} {vs : List (Str × V)}, RelFs K w cl ι H ds vs → ltFs n ds = true → RelFs K w ⟨cl.of, e⟩ (ι.take n) H ds vs
  | _, _, .nil, _ => .nil
  | _, _, .cons r t, l => .cons (ltD_relX r (by simp only [ltFs, Bool.and_eq_true] at l; exact l.1)) (ltFs_relX t (by simp only [ltFs, Bool.and_eq_true] at l; exact l.2))
end
theorem ltD_rel {d : D} {v : V} (h : RelD K w cl ι H d v) (l : ltD n d = true) : RelD K w cl (ι.take n) H d v := ltD_relX (e := cl.ex) h l
theorem ltDs_rel {ds : List D} {vs : List V} (h : RelDs K w cl ι H ds vs) (l : ltDs n ds = true) : RelDs K w cl (ι.take n) H ds vs := ltDs_relX (e := cl.ex) h l
theorem ltFs_rel {ds : List (Str × D)} {vs : List (Str × V)} (h : RelFs K w cl ι H ds vs) (l : ltFs n ds = true) : RelFs K w cl (ι.take n) H ds vs := ltFs_relX (e := cl.ex) h l
end
def allD (f : D → Option D) : List D → Option (List D)
  | [] => some []
  | x :: xs => match f x, allD f xs with
    | some y, some ys => some (y :: ys)
    | _, _ => none
def allF (f : D → Option D) : List (Str × D) → Option (List (Str × D))
  | [] => some []
  | (g, x) :: xs => match f x, allF f xs with
    | some y, some ys => some ((g, y) :: ys)
    | _, _ => none
/-- the things from n on become data -/
def frzD (s : S) (n : Nat) : Nat → D → Option D
  | 0, _ => none
  | k + 1, .ref m => if m < n then some (.ref m) else match s[m]? with
    | some (.lst xs) => (allD (frzD s n k) xs).map .lst
    | some (.ins c fs) => (allF (frzD s n k) fs).map (.ins c)
    | some (.dK _) => none
    | none => none
  | k + 1, .tup xs => (allD (frzD s n k) xs).map .tup
  | k + 1, .lst xs => (allD (frzD s n k) xs).map .lst
  | k + 1, .ins c fs => (allF (frzD s n k) fs).map (.ins c)
  | _ + 1, .dic kvs => if ltFs n kvs then some (.dic kvs) else none
  | _ + 1, .exn _ _ _ => none
  | _ + 1, d => some d
def stOk (n : Nat) (s : S) : Bool := (s.take n).all (ltO n)
def frzR (n : Nat) : R D → R D
  | .ok d s => match frzD s n 20 d with
    | some d' => if stOk n s = true then .ok d' (s.take n) else .bad
    | none => .bad
  | .exc x s => match frzD s n 20 x with
    | some x' => if stOk n s = true then .exc x' (s.take n) else .bad
    | none => .bad
  | .bad => .bad
def mkFz (F : List D → S → R D) (ds : List D) (s : S) : R D := frzR s.length (F ds s)
section
variable {K : PySem.W.Frag} {w : World} {cl : Cl} {ι : List Addr} {H : Hp} {n : Nat} {s : S}
theorem allD_rel {f : D → Option D} (hf : ∀ d d' v, f d = some d' → RelD K w cl ι H d v → RelD K w cl (ι.take n) H d' v) : ∀ {xs ys : List D} {vs : List V}, allD f xs = some ys → RelDs K w cl ι H xs vs → RelDs K w cl (ι.take n) H ys vs
  | [], ys, _, e, .nil => by cases e; exact .nil
  | x :: xs, ys, _, e, .cons r t => by
    simp only [allD] at e
    split at e
    · rename_i p qs e1 e2
      cases e
      exact .cons (hf _ _ _ e1 r) (allD_rel hf e2 t)
    · cases e
theorem allF_rel {f : D → Option D} (hf : ∀ d d' v, f d = some d' → RelD K w cl ι H d v → RelD K w cl (ι.take n) H d' v) : ∀ {xs ys : List (Str × D)} {vs : List (Str × V)}, allF f xs = some ys → RelFs K w cl ι H xs vs → RelFs K w cl (ι.take n) H ys vs
  | [], ys, _, e, .nil => by cases e; exact .nil
  | (g, x) :: xs, ys, _, e, .cons r t => by
    simp only [allF] at e
    split at e
    · rename_i p qs e1 e2
      cases e
      exact .cons (hf _ _ _ e1 r) (allF_rel hf e2 t)
    · cases e
theorem frzD_rel (rs : RelS K w cl ι s H) : ∀ (k : Nat) (d d' : D) (v : V), frzD s n k d = some d' → RelD K w cl ι H d v → RelD K w cl (ι.take n) H d' v
  | 0, _, _, _, e, _ => by cases e
  | k + 1, d, d', v, e, r => by
    have ih := frzD_rel rs k
    have seqs : ∀ {T : Prop} {a : Addr}, (T ∧ a ∉ ι) → T ∧ a ∉ ι.take n := fun h => ⟨h.1, notin_take h.2⟩
    cases r <;> simp only [frzD] at e
    · cases e; exact .non
    · cases e; exact .bl _
    · cases e; exact .int _
    · cases e; exact .str _
    · rename_i h r
      obtain ⟨ys, e1, rfl⟩ := Option.map_eq_some_iff.mp e
      exact .tup (h.imp seqs id) (allD_rel ih e1 r)
    · rename_i h r
      obtain ⟨ys, e1, rfl⟩ := Option.map_eq_some_iff.mp e
      exact .lst (h.imp seqs id) (allD_rel ih e1 r)
    · rename_i m a hm
      by_cases hmn : m < n
      · rw [if_pos hmn] at e
        cases e
        exact .ref (by rw [List.getElem?_take, if_pos hmn]; exact hm)
      · rw [if_neg hmn] at e
        have na : a ∉ ι.take n := fun z => by
          obtain ⟨j, hj⟩ := List.getElem?_of_mem z
          rw [List.getElem?_take] at hj
          split at hj
          · rename_i hjn
            obtain ⟨h1, e1⟩ := List.getElem?_eq_some_iff.mp hm
            obtain ⟨h2, e2⟩ := List.getElem?_eq_some_iff.mp hj
            have := (List.getElem_inj rs.nd).mp (e1.trans e2.symm)
            omega
          · cases hj
        cases e5 : s[m]? with
        | none => rw [e5] at e; cases e
        | some o =>
        rw [e5] at e
        obtain ⟨a', ea, ro⟩ := rs.at_ m _ e5
        rw [hm] at ea
        obtain rfl := Option.some.inj ea
        cases o with
        | lst xs =>
          obtain ⟨ys, e1, rfl⟩ := Option.map_eq_some_iff.mp e
          obtain ⟨vs, hv, rv⟩ := ro
          exact .lst (.inl ⟨.inl hv, na⟩) (allD_rel ih e1 rv)
        | ins c fs =>
          obtain ⟨ys, e1, rfl⟩ := Option.map_eq_some_iff.mp e
          obtain ⟨A, dx, vs, hc, hk, hv, rv⟩ := ro
          exact .ins hc hk hv na (allF_rel ih e1 rv)
        | dK kvs => cases e
    · rename_i hc hk h ha r
      obtain ⟨ys, e1, rfl⟩ := Option.map_eq_some_iff.mp e
      exact .ins hc hk h (notin_take ha) (allF_rel ih e1 r)
    · cases e; exact .glo _
    · cases e; exact .ty _
    · rename_i h r
      split at e
      · rename_i hl
        cases e
        exact .dic h (ltFs_rel r hl)
      · cases e
    · cases e
    · cases e
theorem stOk_rel (rs : RelS K w cl ι s H) (h : stOk n s = true) : RelS K w cl (ι.take n) (s.take n) H := by
  refine ⟨by rw [List.length_take, List.length_take, rs.len], List.Nodup.sublist (List.take_sublist n ι) rs.nd, fun m o e => ?_⟩
  have hm : o ∈ s.take n := List.mem_of_getElem? e
  have hl := List.all_eq_true.mp h o hm
  rw [List.getElem?_take] at e
  split at e
  · rename_i hmn
    obtain ⟨a, ea, ro⟩ := rs.at_ m o e
    refine ⟨a, by rw [List.getElem?_take, if_pos hmn]; exact ea, ?_⟩
    cases o with
    | lst xs => obtain ⟨vs, hv, rv⟩ := ro; exact ⟨vs, hv, ltDs_rel rv hl⟩
    | ins c fs => obtain ⟨A, dx, vs, hc, hk, hv, rv⟩ := ro; exact ⟨A, dx, vs, hc, hk, hv, ltFs_rel rv hl⟩
    | dK kvs => obtain ⟨vs, hv, hk, rv⟩ := ro; exact ⟨vs, hv, hk, ltDs_rel rv hl⟩
  · cases e
theorem Ext.cut {ι' : List Addr} {H' : Hp} (x : Ext ι H ι' H') (hn : ι.length = n) : ι'.take n = ι ∧ Ext ι H ι H' := by
  obtain ⟨l, e⟩ := x.pre
  refine ⟨by rw [e, ← hn, List.take_left], ⟨[], (List.append_nil ι).symm⟩, fun a o h na => ⟨(x.keep a o h na).1, na⟩, x.dom⟩
theorem frz_po {W : Wish} {σ : L2.St} {Q : VK} {r : R D} {ι0 : List Addr} {H0 : Hp} (hn : ι0.length = n) (h : PoE K w cl W ι0 H0 σ Q (frzR n r)) : PoE K w cl W ι0 H0 σ Q r := by
  cases r with
  | bad => exact h
  | ok d s =>
    unfold frzR at h
    simp only at h
    split at h
    · rename_i d' e
      split at h
      · rename_i hs
        intro ι1 H1 v x1 r1 rd
        obtain ⟨et, xc⟩ := x1.cut hn
        have r2 := stOk_rel r1 hs
        have d2 := frzD_rel (n := n) r1 _ _ _ _ e rd
        rw [et] at r2 d2
        exact h ι0 H1 v xc r2 d2
      · exact False.elim h
    · exact False.elim h
  | exc x s =>
    unfold frzR at h
    simp only at h
    split at h
    · rename_i d' e
      split at h
      · rename_i hs
        intro ι1 H1 c dd x1 r1 rx
        obtain ⟨et, xc⟩ := x1.cut hn
        have r2 := stOk_rel r1 hs
        rw [et] at r2
        refine h ι0 H1 c dd xc r2 ?_
        obtain ⟨C, fs, A, rfl, hc, rfl, d0, vs, rfl, hx, rf⟩ := rx
        obtain ⟨ys, e1, rfl⟩ := Option.map_eq_some_iff.mp (show (allF (frzD s n 19) fs).map (D.ins C) = some d' from e)
        have rf2 := allF_rel (n := n) (frzD_rel r1 19) e1 rf
        rw [et] at rf2
        exact ⟨C, ys, A, rfl, hc, rfl, d0, vs, rfl, hx, rf2⟩
      · exact False.elim h
    · exact False.elim h
end
theorem fn_frz {P : Program} {w : World} {K : PySem.W.Frag} {mg : Str → Option Value} {base : Heap} {cl : Cl} {f : Addr} {fd : FuncData} {ps : List Str} {k n : Nat} {F : List D → S → R D} (h : FnOk P w K mg base (L2.CX P w) k f fd ps (spD K w cl n F)) :
    FnOk P w K mg base (L2.CX P w) k f fd ps (spD K w cl n (mkFz F)) := fn_imp h fun E ι H Q ds s rs q => frz_po rs.len q
/-- an expression whose new things are finished at once -/
def mFz (m : ME) : ME := fun ρ s => frzR s.length (m ρ s)
theorem se_frz {X : Cx} {cl : Cl} {W : Wish} {e : Expr} {m : ME} (h : SE X cl W e m) : SE X cl W e (mFz m) := by
  obtain ⟨t, p, q⟩ := h.ex
  exact ⟨t, p, fun σ H Q ρ ι s en r h => q σ H Q ρ ι s en r (frz_po r.len h)⟩
/-! ### a suite that leaves nothing new behind: the store is cut at its end -/
def cutO (n : Nat) : Option D → Option D
  | some d => if ltD n d = true then some d else none
  | none => none
def cutRho (n : Nat) (ρ : Rho) : Rho := ρ.map (cutO n)
def cutS (n : Nat) : RS → RS
  | .ok (.nx ρ) s => if stOk n s = true then .ok (.nx (cutRho n ρ)) (s.take n) else .bad
  | .ok (.ct ρ) s => if stOk n s = true then .ok (.ct (cutRho n ρ)) (s.take n) else .bad
  | .ok (.bk ρ) s => if stOk n s = true then .ok (.bk (cutRho n ρ)) (s.take n) else .bad
  | r => r
def sCut (m : MS) : MS := fun ρ s => cutS s.length (m ρ s)
section
variable {K : PySem.W.Frag} {w : World} {cl : Cl} {ι : List Addr} {H : Hp} {n : Nat} {s : S}
theorem RelE.cut {ρ : Rho} {σ : L2.St} (e : RelE K w cl ι H ρ σ) : RelE K w cl (ι.take n) H (cutRho n ρ) σ := by
  refine ⟨by unfold cutRho; rw [List.length_map]; exact e.len, fun i d h => ?_⟩
  unfold cutRho at h
  rw [List.getElem?_map] at h
  obtain ⟨o, h1, h2⟩ := Option.map_eq_some_iff.mp h
  cases o with
  | none => cases h2
  | some d' =>
    unfold cutO at h2
    simp only at h2
    split at h2
    · rename_i hl
      cases h2
      obtain ⟨v, hv, rv⟩ := e.at_ i d h1
      exact ⟨v, hv, ltD_rel rv hl⟩
    · cases h2
theorem cut_po {W : Wish} {Dn : Ends} {r : RS} {ι0 : List Addr} {H0 : Hp} (hn : ι0.length = n) (h : PoS K w cl W ι0 H0 Dn (cutS n r)) : PoS K w cl W ι0 H0 Dn r := by
  cases r with
  | bad => exact h
  | exc x ρ s => exact h
  | ok c s =>
    cases c with
    | rt d => exact h
    | nx ρ =>
      have h2 : PoS K w cl W ι0 H0 Dn (if stOk n s = true then RS.ok (.nx (cutRho n ρ)) (s.take n) else .bad) := h
      by_cases hs : stOk n s = true
      · rw [if_pos hs] at h2
        intro ι1 H1 σ1 x1 r1 e1
        obtain ⟨et, xc⟩ := x1.cut hn
        have r2 := stOk_rel r1 hs
        have e2 := RelE.cut (n := n) e1
        rw [et] at r2 e2
        exact h2 ι0 H1 σ1 xc r2 e2
      · rw [if_neg hs] at h2
        exact False.elim h2
    | ct ρ =>
      have h2 : PoS K w cl W ι0 H0 Dn (if stOk n s = true then RS.ok (.ct (cutRho n ρ)) (s.take n) else .bad) := h
      by_cases hs : stOk n s = true
      · rw [if_pos hs] at h2
        intro ι1 H1 σ1 x1 r1 e1
        obtain ⟨et, xc⟩ := x1.cut hn
        have r2 := stOk_rel r1 hs
        have e2 := RelE.cut (n := n) e1
        rw [et] at r2 e2
        exact h2 ι0 H1 σ1 xc r2 e2
      · rw [if_neg hs] at h2
        exact False.elim h2
    | bk ρ =>
      have h2 : PoS K w cl W ι0 H0 Dn (if stOk n s = true then RS.ok (.bk (cutRho n ρ)) (s.take n) else .bad) := h
      by_cases hs : stOk n s = true
      · rw [if_pos hs] at h2
        intro ι1 H1 σ1 x1 r1 e1
        obtain ⟨et, xc⟩ := x1.cut hn
        have r2 := stOk_rel r1 hs
        have e2 := RelE.cut (n := n) e1
        rw [et] at r2 e2
        exact h2 ι0 H1 σ1 xc r2 e2
      · rw [if_neg hs] at h2
        exact False.elim h2
theorem sss_cut {X : Cx} {cl : Cl} {W : Wish} {sts : List Stmt} {m : MS} (h : SSs X cl W sts m) : SSs X cl W sts (sCut m) := by
  obtain ⟨t, p, q⟩ := h.ex
  exact ⟨t, p, fun Dn σ H ρ ι s en r hh => q Dn σ H ρ ι s en r (cut_po r.len hh)⟩
end
end Pm
namespace Pm
open PySem PySem.Spec PyProof.Rows L2

/-! ### while -/
def whileN (c : MT) (b : MS) : Nat → Rho → S → Option RS
  | 0, _, _ => none
  | k + 1, ρ, s => match c ρ s with
    | .ok true s1 => (match b ρ s1 with
      | .ok (.nx ρ2) s2 => whileN c b k ρ2 s2
      | .ok (.ct ρ2) s2 => whileN c b k ρ2 s2
      | .ok (.bk ρ2) s2 => some (.ok (.nx ρ2) s2)
      | r => some r)
    | .ok false s1 => some (.ok (.nx ρ) s1)
    | .exc x s1 => some (.exc x ρ s1)
    | .bad => some .bad
open Classical in
noncomputable def sWhile (c : MT) (b : MS) : MS := fun ρ s => if h : ∃ k r, whileN c b k ρ s = some r then h.choose_spec.choose else .bad
theorem whileN_mono (c : MT) (b : MS) : ∀ (k : Nat) (ρ : Rho) (s : S) (r : RS), whileN c b k ρ s = some r → whileN c b (k + 1) ρ s = some r
  | 0, _, _, _, h => by cases h
  | k + 1, ρ, s, r, h => by
    have ih := whileN_mono c b k
    unfold whileN at h ⊢
    cases hc : c ρ s with
    | bad => rw [hc] at h; exact h
    | exc x s1 => rw [hc] at h; exact h
    | ok q s1 =>
      rw [hc] at h
      cases q with
      | false => exact h
      | true =>
        simp only at h ⊢
        cases hb : b ρ s1 with
        | bad => rw [hb] at h; exact h
        | exc x ρ2 s2 => rw [hb] at h; exact h
        | ok c2 s2 =>
          rw [hb] at h
          cases c2 with
          | nx ρ2 => exact ih _ _ _ h
          | ct ρ2 => exact ih _ _ _ h
          | bk ρ2 => exact h
          | rt d => exact h
theorem whileN_le (c : MT) (b : MS) {j k : Nat} (h : j ≤ k) {ρ : Rho} {s : S} {r : RS} (e : whileN c b j ρ s = some r) : whileN c b k ρ s = some r := by
  induction h with
  | refl => exact e
  | step _ ih => exact whileN_mono c b _ _ _ _ ih
theorem sWhile_of {c : MT} {b : MS} {k : Nat} {ρ : Rho} {s : S} {r : RS} (e : whileN c b k ρ s = some r) : sWhile c b ρ s = r := by
  have h : ∃ k r, whileN c b k ρ s = some r := ⟨k, r, e⟩
  unfold sWhile
  rw [dif_pos h]
  have e2 := h.choose_spec.choose_spec
  rcases Nat.le_total k h.choose with hk | hk
  · have := whileN_le c b hk e
    rw [e2] at this
    exact Option.some.inj this
  · have := whileN_le c b hk e2
    rw [e] at this
    exact (Option.some.inj this).symm
/-- one turn -/
theorem sWhile_eq (c : MT) (b : MS) (ρ : Rho) (s : S) : sWhile c b ρ s = match c ρ s with
    | .ok true s1 => (match b ρ s1 with
      | .ok (.nx ρ2) s2 => sWhile c b ρ2 s2
      | .ok (.ct ρ2) s2 => sWhile c b ρ2 s2
      | .ok (.bk ρ2) s2 => .ok (.nx ρ2) s2
      | r => r)
    | .ok false s1 => .ok (.nx ρ) s1
    | .exc x s1 => .exc x ρ s1
    | .bad => .bad := by
  have go : ∀ {ρ2 : Rho} {s2 : S}, (∀ k, whileN c b (k + 1) ρ s = whileN c b k ρ2 s2) → sWhile c b ρ s = sWhile c b ρ2 s2 := fun {ρ2 s2} h => by
    by_cases hh : ∃ k r, whileN c b k ρ2 s2 = some r
    · obtain ⟨k, r, e⟩ := hh
      rw [sWhile_of e, sWhile_of (k := k + 1) (by rw [h]; exact e)]
    · have hn : ¬ ∃ k r, whileN c b k ρ s = some r := fun ⟨k, r, e⟩ => hh ⟨k, r, by rw [← h]; exact whileN_mono c b _ _ _ _ e⟩
      unfold sWhile
      rw [dif_neg hh, dif_neg hn]
  cases hc : c ρ s with
  | bad => exact sWhile_of (k := 1) (by unfold whileN; rw [hc])
  | exc x s1 => exact sWhile_of (k := 1) (by unfold whileN; rw [hc])
  | ok q s1 =>
    cases q with
    | false => exact sWhile_of (k := 1) (by unfold whileN; rw [hc])
    | true =>
      simp only
      cases hb : b ρ s1 with
      | bad => exact sWhile_of (k := 1) (by unfold whileN; rw [hc]; simp only [hb])
      | exc x ρ2 s2 => exact sWhile_of (k := 1) (by unfold whileN; rw [hc]; simp only [hb])
      | ok c2 s2 =>
        cases c2 with
        | nx ρ2 => exact go fun k => by rw [whileN, hc]; simp only [hb]
        | ct ρ2 => exact go fun k => by rw [whileN, hc]; simp only [hb]
        | bk ρ2 => exact sWhile_of (k := 1) (by unfold whileN; rw [hc]; simp only [hb])
        | rt d => exact sWhile_of (k := 1) (by unfold whileN; rw [hc]; simp only [hb])
section
variable {X : Cx} {cl : Cl} {W : Wish} {pos : Pos} {c : Expr} {body : List Stmt} {mt : MT} {b : MS}
theorem ss_while (hp : PassesOwn (model X.prog X.w) X.A X.env X.xe) (hc : SB X cl W c mt) (hb : SSs X cl W body b) : SS X cl W (.While c body [] pos) (sWhile mt b) := by
  obtain ⟨t, p1, q1⟩ := hc.ex
  obtain ⟨u, p2, q2⟩ := hb.ex
  refine ⟨_, ps_while hp p1 p2, fun Dn σ H ρ ι s en r h => ?_⟩
  by_cases hh : ∃ k r, whileN mt b k ρ s = some r
  rotate_left
  · unfold sWhile at h
    rw [dif_neg hh] at h
    exact False.elim h
  obtain ⟨k, r0, e⟩ := hh
  rw [sWhile_of e] at h
  refine ⟨fun m σ' H' => ∃ ρ' ι' s' r', RelE X.K X.w cl ι' H' ρ' σ' ∧ RelS X.K X.w cl ι' s' H' ∧ whileN mt b m ρ' s' = some r' ∧ PoS X.K X.w cl W ι' H' Dn r', ⟨k, ρ, ι, s, r0, en, r, e, h⟩, ?_⟩
  rintro m σ2 H2 ⟨ρ2, ι2, s2, r2, en2, rs2, e2, h2⟩
  cases m with
  | zero => cases e2
  | succ m =>
  unfold whileN at e2
  refine q1 σ2 H2 _ ρ2 ι2 s2 en2 rs2 ?_
  cases ec : mt ρ2 s2 with
  | bad => rw [ec] at e2; cases e2; exact h2
  | exc x s3 => rw [ec] at e2; cases e2; exact fun ι3 H3 c d x3 r3 rx => h2 ι3 H3 σ2 c d x3 r3 (en2.ext x3) rx
  | ok q s3 =>
  rw [ec] at e2
  intro ι3 H3 x3 r3
  cases q with
  | false =>
    cases e2
    exact h2 ι3 H3 σ2 x3 r3 (en2.ext x3)
  | true =>
    simp only at e2
    rw [if_pos rfl]
    refine ⟨fun σ' H' => ∃ ρ' ι' s' r', RelE X.K X.w cl ι' H' ρ' σ' ∧ RelS X.K X.w cl ι' s' H' ∧ whileN mt b m ρ' s' = some r' ∧ PoS X.K X.w cl W ι' H' Dn r', fun σ' H' z => ⟨m, Nat.lt_succ_self m, z⟩, ?_⟩
    refine q2 _ σ2 H3 ρ2 ι3 s3 (en2.ext x3) r3 ?_
    have h3 := PoS.ext x3 h2
    cases eb : b ρ2 s3 with
    | bad => rw [eb] at e2; cases e2; exact h3
    | exc x ρ4 s4 => rw [eb] at e2; cases e2; exact h3
    | ok c4 s4 =>
      rw [eb] at e2
      cases c4 with
      | nx ρ4 => exact fun ι4 H4 σ4 x4 r4 en4 => ⟨ρ4, ι4, s4, r2, en4, r4, e2, PoS.ext x4 h3⟩
      | ct ρ4 => exact fun ι4 H4 σ4 x4 r4 en4 => ⟨ρ4, ι4, s4, r2, en4, r4, e2, PoS.ext x4 h3⟩
      | bk ρ4 => cases e2; exact h3
      | rt d => cases e2; exact h3
end

/-! ### fields, new instances -/
def insOf (s : S) : D → Option (Str × List (Str × D))
  | .ins c fs => some (c, fs)
  | .ref n => match s[n]? with
    | some (.ins c fs) => some (c, fs)
    | _ => none
  | _ => none
/-- o.f, the class of o one of cs -/
def mFld (f : Str) (cs : List Str) (m : ME) : ME := fun ρ s => (m ρ s).bind fun d s1 => match insOf s1 d with
  | some (c, fs) => if c ∈ cs then (match fs.lookup f with
    | some v => .ok v s1
    | none => .bad) else .bad
  | none => .bad
def putFD (f : Str) (v : D) : List (Str × D) → List (Str × D)
  | [] => [(f, v)]
  | (g, u) :: r => if g = f then (g, v) :: r else (g, u) :: putFD f v r
/-- o.f = v -/
def sFldD (f : Str) (cs : List Str) (mo mv : ME) : MS := fun ρ s => (mv ρ s).st ρ fun v s1 => (mo ρ s1).st ρ fun d s2 => match d with
  | .ref n => (match s2[n]? with
    | some (.ins c fs) => if c ∈ cs ∧ fs.length < 1000 then .ok (.nx ρ) (s2.set n (.ins c (putFD f v fs))) else .bad
    | _ => .bad)
  | _ => .bad
/-- C(..) -/
def mMake (c : Str) (G : List D → S → R D) (ms : MA) : ME := fun ρ s => (ms ρ s).bind fun ds s1 => match G (.ref s1.length :: ds) (s1 ++ [.ins c []]) with
  | .ok .non s2 => .ok (.ref s1.length) s2
  | .exc x s2 => .exc x s2
  | _ => .bad
section
variable {X : Cx} {cl : Cl} {W : Wish} {pos pos' p : Pos} {e o value : Expr} {m mo mv : ME}
theorem fs_lookup {K : PySem.W.Frag} {w : World} {ι : List Addr} {H : Hp} {f : Str} {d : D} : ∀ {fs : List (Str × D)} {vs : List (Str × V)}, RelFs K w cl ι H fs vs → fs.lookup f = some d → ∃ v, vs.lookup f = some v ∧ RelD K w cl ι H d v := by
  intro fs vs r e
  have := kdx_lookup r f
  rw [e] at this
  exact this
theorem fs_len {K : PySem.W.Frag} {w : World} {ι : List Addr} {H : Hp} : ∀ {fs : List (Str × D)} {vs : List (Str × V)}, RelFs K w cl ι H fs vs → fs.length = vs.length
  | _, _, .nil => rfl
  | _, _, .cons _ t => congrArg (· + 1) (fs_len t)
theorem fs_put {K : PySem.W.Frag} {w : World} {ι : List Addr} {H : Hp} {f : Str} {d : D} {v : V} (rd : RelD K w cl ι H d v) : ∀ {fs : List (Str × D)} {vs : List (Str × V)}, RelFs K w cl ι H fs vs → RelFs K w cl ι H (putFD f d fs) (putF f v vs)
  | _, _, .nil => .cons rd .nil
  | _, _, .cons (f := g) r t => by
    unfold putFD putF
    by_cases hg : g = f
    · rw [if_pos hg, if_pos hg]; exact .cons rd t
    · rw [if_neg hg, if_neg hg]; exact .cons r (fs_put rd t)
theorem insOf_at {K : PySem.W.Frag} {w : World} {ι : List Addr} {H : Hp} {s : S} {d : D} {v : V} {c : Str} {fs : List (Str × D)} (rs : RelS K w cl ι s H) (r : RelD K w cl ι H d v) (h : insOf s d = some (c, fs)) :
    ∃ a A dx vs, v = .ref a ∧ cl c = some A ∧ Cls K A ∧ H a = some (.ins A dx vs) ∧ RelFs K w cl ι H fs vs := by
  cases r <;> simp only [insOf] at h <;> try cases h
  · rename_i n a hn
    split at h
    · rename_i c' fs' e
      cases h
      obtain ⟨a', ea, A, dx, vs, hc, hk, hv, rv⟩ := rs.at_ n _ e
      rw [hn] at ea
      cases ea
      exact ⟨_, A, dx, vs, rfl, hc, hk, hv, rv⟩
    · cases h
  · rename_i hk h1 ha hc r1
    exact ⟨_, _, _, _, rfl, hc, hk, h1, r1⟩
theorem se_fld (f : Str) (cs : List Str) (hn : ∀ c ∈ cs, ∀ A, cl c = some A → NoAttr X.K A f) (he : SE X cl W e m) (hb : attributeBase e f X.env (eval e X.env) = eval e X.env := by rfl) : SE X cl W (.Attribute e f pos) (mFld f cs m) := by
  obtain ⟨t, p1, q1⟩ := he.ex
  refine ⟨_, pe_fld p1 hb, fun σ H Q ρ ι s en r h => ?_⟩
  refine q1 σ H _ ρ ι s en r (PoE.step h fun d s1 ι1 H1 v e1 x1 r1 d1 h1 => ?_)
  split at h1
  · rename_i c fs ei
    split at h1
    · rename_i hc
      split at h1
      · rename_i dv el
        obtain ⟨a, A, dx, vs, rfl, hcl, hk, ha, rf⟩ := insOf_at r1 d1 ei
        obtain ⟨v2, ev, rv⟩ := fs_lookup rf el
        exact ⟨a, A, dx, vs, v2, rfl, ha, hk, hn c hc A hcl, ev, h1 ι1 H1 v2 (Ext.refl _ _) r1 rv⟩
      · exact False.elim h1
    · exact False.elim h1
  · exact False.elim h1
theorem ss_fld (f : Str) (cs : List Str) (hn : ∀ c ∈ cs, ∀ A, cl c = some A → NoAttr X.K A f) (ho : SE X cl W o mo) (hv : SE X cl W value mv) (hs : swapsWith value (some (.Attribute o f pos')) pos.line X.env = pure false := by rfl) : SS X cl W (.Assign [.Attribute o f pos'] value pos) (sFldD f cs mo mv) := by
  obtain ⟨t, p1, q1⟩ := ho.ex
  obtain ⟨u, p2, q2⟩ := hv.ex
  refine ⟨_, ps_fld p1 p2 hs, fun Dn σ H ρ ι s en r h => ?_⟩
  refine q2 σ H _ ρ ι s en r (PoS.stepE en h fun d s1 ι1 H1 v e1 x1 r1 d1 h1 => ?_)
  refine q1 σ H1 _ ρ ι1 s1 (en.ext x1) r1 (PoS.stepE (en.ext x1) h1 fun d2 s2 ι2 H2 v2 e2 x2 r2 dd2 h2 => ?_)
  cases dd2 with
  | @ref n a hn2 =>
    simp only at h2
    cases e5 : s2[n]? with
    | none => rw [e5] at h2; exact False.elim h2
    | some ob =>
    cases ob with
    | lst xs => rw [e5] at h2; exact False.elim h2
    | dK kvs => rw [e5] at h2; exact False.elim h2
    | ins c fs =>
    rw [e5] at h2
    simp only at h2
    split at h2
    · rename_i hc
      obtain ⟨a', ea, A, dx, vs, hcl, hk, ha, rf⟩ := r2.at_ n _ e5
      rw [hn2] at ea
      obtain rfl := Option.some.inj ea
      have hm := List.mem_of_getElem? hn2
      refine ⟨_, A, dx, vs, rfl, ha, hk, hn c hc.1 A hcl, by rw [← fs_len rf]; exact hc.2, ?_⟩
      have xw := Ext.write (ι := ι2) (H := H2) (o := HO.ins A dx (putF f v vs)) hm
      exact h2 ι2 _ σ xw (r2.write hn2 ⟨A, dx, _, hcl, hk, upd_same, fs_put ((d1.ext x2).ext xw) (by
        have := rf
        exact (RelFs.ext xw this))⟩) (((en.ext x1).ext x2).ext xw)
    · exact False.elim h2
  | _ => exact False.elim h2
/-- a new instance, what its __init__ lets out told at the slots -/
def tNewS (C : Addr) (sp : Sp) (W : Wish) (t : TA) : TE := fun σ H Q => t σ H fun vs H1 => ∀ x dx, H1 x = none → H1 dx = none → dx ≠ x →
  sp (.ref x :: vs) (upd (upd H1 dx (.own x)) x (.ins C dx [])) (fun v H2 => v = .non ∧ Q (.ref x) H2) (WE W σ)
section
variable {x : Str} {es : List Expr} {ms : MA} {f C : Addr} {fd : FuncData} {ps : List Str} {k n : Nat} {G : List D → S → R D} {sp : Sp} {t : TA}
theorem run_new (tk : Takes X W) {pins : List (Addr × Obj)} {σ : L2.St} {H : Hp} {s : Shared} {Q : VK} {us : List Value} {vs : List V} (M : Mk X.K C f) (F : FnOk X.prog X.w X.K X.mg X.base (L2.CX X.prog X.w) k f fd ps sp) (hr : Room (k + 1) X.A) (hb : Binds X.K fd ps [])
    (I : Inv X pins σ H s) (r : Vals vs us) (h : ∀ x dx, H x = none → H dx = none → dx ≠ x → sp (.ref x :: vs) (upd (upd H dx (.own x)) x (.ins C dx [])) (fun v H2 => v = .non ∧ Q (.ref x) H2) (WE W σ)) :
    wpAny (model X.prog X.w) X.A (call (.ref C) us) (EP X pins σ Q) X.xe s := by
  have hq := h (s.heap.objs.size + 1) s.heap.objs.size (I.hok.fresh (Nat.le_succ _)) (I.hok.fresh (Nat.le_refl _)) (Nat.ne_of_lt (Nat.lt_succ_self _))
  have J := Inv.made (C := C) I
  have rr : Vals (V.ref (s.heap.objs.size + 1) :: vs) (Value.ref (s.heap.objs.size + 1) :: us) := .cons rfl r
  have hl : (Value.ref (s.heap.objs.size + 1) :: us ++ []).length = ps.length := by
    rw [List.append_nil, ← rr.length]
    exact F.len _ _ _ _ hq
  have hb2 := hb _ (Value.ref (s.heap.objs.size + 1) :: us) J.kIn hl
  rw [List.append_nil] at hb2
  have run := F.run _ X.stack _ _ ⟨Value.ref (s.heap.objs.size + 1) :: us, []⟩ _ _ _ (WE W σ) (hr.make C us []) (J.env0.make C us []) hb2 rr hq
  refine wpAny_call (make_map (f := f) I.kIn M.makes M.init (beq_iff_eq.mp M.fn) (codeAny_mono run fun res s' hres => ?_))
  match res, hres with
  | .error ex, hres => exact passAt tk σ pins _ _ ex s' J hres
  | .ok .next, hres => exact False.elim hres
  | .ok .brk, hres => exact False.elim hres
  | .ok .cont, hres => exact False.elim hres
  | .ok (.ret u), hres =>
    obtain ⟨v, H', J', rv, ev, q⟩ := J.after hres
    subst ev
    exact ⟨rv, V.ref (s.heap.objs.size + 1), H', J', rfl, q⟩
theorem pe_new (tk : Takes X W) (M : Mk X.K C f) (F : FnOk X.prog X.w X.K X.mg X.base (L2.CX X.prog X.w) k f fd ps sp) (hr : Room (k + 1) X.A) (hg : Gl X x) (hm : X.mg x = some (.ref C)) (hb : Binds X.K fd ps []) (ha : PA X (e :: es) t)
    (hdb : (x == ("__debug__" : Str)) = false := by decide) (he : starEach (e :: es) X.env = (false, eval e X.env) :: starEach es X.env := by rfl) (hpl : (backTo pos (starEach es X.env)).any (·.1) = false := by rfl) :
    PE X (.Call (.Name x p) (e :: es) [] pos) (tNewS C sp W t) := by
  refine ⟨fun pins s σ H Q I h => wpAny_Call_Name_kw (ld_glob I hg hm ?_ hdb)⟩
  refine PySem.W.callWith_K (h₀ := X.base) I.ok.mod.kin M.kp (thn (ha.run pos pins s σ H _ I h) fun us s1 ⟨vs, H1, I1, r, q⟩ => ⟨I1.kIn, ?_⟩) he hpl
  exact run_new tk M F hr hb I1 r q
theorem se_make (c : Str) (hc : cl c = some C) (hk : Cls X.K C) (tk : Takes X W) (M : Mk X.K C f) (F : FnOk X.prog X.w X.K X.mg X.base (L2.CX X.prog X.w) k f fd ps (spD X.K X.w cl n G)) (hn : ∀ ds s, ds.length ≠ n → G ds s = .bad) (hr : Room (k + 1) X.A) (hg : Gl X x) (hm : X.mg x = some (.ref C)) (hb : Binds X.K fd ps [])
    (ha : SA X cl W (e :: es) ms) (hdb : (x == ("__debug__" : Str)) = false := by decide) (he : starEach (e :: es) X.env = (false, eval e X.env) :: starEach es X.env := by rfl) (hpl : (backTo pos (starEach es X.env)).any (·.1) = false := by rfl) :
    SE X cl W (.Call (.Name x p) (e :: es) [] pos) (mMake c G ms) := by
  obtain ⟨ta, pa, qa⟩ := ha.ex
  refine ⟨_, pe_new tk M F hr hg hm hb pa hdb he hpl, fun σ H Q ρ ι s en r h => ?_⟩
  refine qa σ H _ ρ ι s en r (PoE.stepA h fun ds s1 ι1 H1 vs e1 x1 r1 d1 h1 => ?_)
  intro x dx nx ndx hne
  have xa : Ext ι1 H1 ι1 (upd H1 dx (.own x)) := Ext.new ndx
  have nx2 : upd H1 dx (.own x) x = none := by rw [upd_ne (Ne.symm hne)]; exact nx
  have xb : Ext ι1 (upd H1 dx (.own x)) (ι1 ++ [x]) (upd (upd H1 dx (.own x)) x (.ins C dx [])) := Ext.push nx2
  have r2 : RelS X.K X.w cl (ι1 ++ [x]) (s1 ++ [.ins c []]) (upd (upd H1 dx (.own x)) x (.ins C dx [])) := (r1.laid ndx).push nx2 ⟨C, dx, [], hc, hk, upd_same, .nil⟩
  have hx : (ι1 ++ [x])[s1.length]? = some x := by rw [List.getElem?_append_right (by rw [r1.len]; exact Nat.le_refl _), r1.len]; simp
  have rd : RelDs X.K X.w cl (ι1 ++ [x]) (upd (upd H1 dx (.own x)) x (.ins C dx [])) (.ref s1.length :: ds) (.ref x :: vs) := .cons (.ref hx) ((d1.ext xa).ext xb)
  have x12 := xa.trans xb
  refine call_po (W := W) hn r2 rd ?_
  cases hG : G (.ref s1.length :: ds) (s1 ++ [.ins c []]) with
  | bad => rw [hG] at h1; exact h1
  | exc xx s2 => rw [hG] at h1; exact fun ι3 H3 cc dd x3 => h1 ι3 H3 cc dd (x12.trans x3)
  | ok d s2 =>
    rw [hG] at h1
    cases d with
    | non =>
      intro ι3 H3 v x3 r3 rv
      cases rv
      exact ⟨rfl, h1 ι3 H3 (.ref x) (x12.trans x3) r3 (.ref (x3.at hx))⟩
    | _ => exact False.elim h1
end
end
end Pm
namespace Pm
open PySem PySem.Spec PyProof.Rows L2

/-! ### built-in calls -/
def dLen : List D → S → R D
  | [.str z], s => if z.length ≤ sizeLine then .ok (.int z.length) s else .bad
  | [.tup xs], s => .ok (.int xs.length) s
  | [d], s => match lview s d with
    | some xs => .ok (.int xs.length) s
    | none => .bad
  | _, _ => .bad
def dInt : List D → S → R D
  | [.int i], s => .ok (.int i) s
  | [.bl b], s => .ok (.int (if b then 1 else 0)) s
  | _, _ => .bad
def dAbs : List D → S → R D
  | [.int i], s => .ok (.int (if i < 0 then -i else i)) s
  | _, _ => .bad
def dMin2 : List D → S → R D
  | [.int i, .int j], s => .ok (.int (if j < i then j else i)) s
  | _, _ => .bad
def dMax2 : List D → S → R D
  | [.int i, .int j], s => .ok (.int (if j > i then j else i)) s
  | _, _ => .bad
def sview (s : S) : D → Option (List D)
  | .tup xs => some xs
  | d => lview s d
/-- list(x): a finished one, or a thing of the store -/
def dList (new : Bool) : List D → S → R D
  | [d], s => match sview s d with
    | some xs => if new then .ok (.ref s.length) (s ++ [.lst xs]) else .ok (.lst xs) s
    | none => .bad
  | _, _ => .bad
def dTuple : List D → S → R D
  | [d], s => match sview s d with
    | some xs => .ok (.tup xs) s
    | none => .bad
  | _, _ => .bad
section
variable {X : Cx} {cl : Cl} {W : Wish}
theorem d_len : CallD X cl (.builtin "len") dLen := by
  intro W ι H σ Q s ds xs rs rds h
  unfold dLen at h
  split at h
  · obtain ⟨v, rfl, r⟩ := rds.one
    cases r
    split at h
    · exact ⟨_, call_len_str, _, rfl, by assumption, h ι H _ (Ext.refl _ _) rs (.int _)⟩
    · exact False.elim h
  · obtain ⟨v, rfl, r⟩ := rds.one
    cases r with
    | tup h1 r1 => exact ⟨_, call_len_seq, _, _, rfl, .inr h1.sq, by rw [← r1.length]; exact h ι H _ (Ext.refl _ _) rs (.int _)⟩
  · obtain ⟨v, rfl, r⟩ := rds.one
    split at h
    · rename_i ys e
      obtain ⟨a, vs, rfl, hl, r1⟩ := lview_at rs r e
      exact ⟨_, call_len_seq, _, _, rfl, .inl hl.sq, by rw [← r1.length]; exact h ι H _ (Ext.refl _ _) rs (.int _)⟩
    · exact False.elim h
  · exact False.elim h
theorem d_int : CallD X cl (.type "int") dInt := by
  intro W ι H σ Q s ds xs rs rds h
  unfold dInt at h
  split at h
  · obtain ⟨v, rfl, r⟩ := rds.one
    cases r
    exact ⟨_, call_int1, .inl ⟨_, rfl, h ι H _ (Ext.refl _ _) rs (.int _)⟩⟩
  · obtain ⟨v, rfl, r⟩ := rds.one
    cases r
    exact ⟨_, call_int1, .inr ⟨_, rfl, h ι H _ (Ext.refl _ _) rs (.int _)⟩⟩
  · exact False.elim h
theorem d_abs : CallD X cl (.builtin "abs") dAbs := by
  intro W ι H σ Q s ds xs rs rds h
  unfold dAbs at h
  split at h
  · obtain ⟨v, rfl, r⟩ := rds.one
    cases r
    exact ⟨_, call_abs, _, rfl, h ι H _ (Ext.refl _ _) rs (.int _)⟩
  · exact False.elim h
theorem d_min2 (hc : X.calm = true) : CallD X cl (.builtin "min") dMin2 := by
  intro W ι H σ Q s ds xs rs rds h
  unfold dMin2 at h
  split at h
  · obtain ⟨v, u, rfl, r, q⟩ := rds.two
    cases r; cases q
    exact ⟨_, call_min2 hc, _, _, rfl, h ι H _ (Ext.refl _ _) rs (.int _)⟩
  · exact False.elim h
theorem d_max2 (hc : X.calm = true) : CallD X cl (.builtin "max") dMax2 := by
  intro W ι H σ Q s ds xs rs rds h
  unfold dMax2 at h
  split at h
  · obtain ⟨v, u, rfl, r, q⟩ := rds.two
    cases r; cases q
    exact ⟨_, call_max2 hc, _, _, rfl, h ι H _ (Ext.refl _ _) rs (.int _)⟩
  · exact False.elim h
theorem sview_at {K : PySem.W.Frag} {w : World} {ι : List Addr} {H : Hp} {s : S} {d : D} {xs : List D} {v : V} (rs : RelS K w cl ι s H) (r : RelD K w cl ι H d v) (h : sview s d = some xs) :
    ∃ a vs, v = .ref a ∧ ((SqL K H a vs) ∨ (SqT K H a vs ∧ d = .tup xs)) ∧ RelDs K w cl ι H xs vs := by
  unfold sview at h
  split at h
  · cases h
    cases r with
    | tup h1 r1 => exact ⟨_, _, rfl, .inr ⟨h1.sq, rfl⟩, r1⟩
  · obtain ⟨a, vs, e, hl, r1⟩ := lview_at rs r h
    exact ⟨a, vs, e, .inl hl.sq, r1⟩
theorem d_list (new : Bool) : CallD X cl (.type "list") (dList new) := by
  intro W ι H σ Q s ds xs rs rds h
  unfold dList at h
  split at h
  · obtain ⟨v, rfl, r⟩ := rds.one
    split at h
    · rename_i ys e
      obtain ⟨a, vs, rfl, hl, r1⟩ := sview_at rs r e
      refine ⟨_, call_list_of, a, vs, rfl, hl.imp id (·.1), fun l hn => ?_⟩
      cases new with
      | true => obtain ⟨x, y, z⟩ := new_ref rs r1 hn; exact h _ _ _ x y z
      | false => obtain ⟨x, y, z⟩ := new_lst rs r1 hn; exact h _ _ _ x y z
    · exact False.elim h
  · exact False.elim h
theorem d_tuple : CallD X cl (.type "tuple") dTuple := by
  intro W ι H σ Q s ds xs rs rds h
  unfold dTuple at h
  split at h
  · obtain ⟨v, rfl, r⟩ := rds.one
    split at h
    · rename_i ys e
      obtain ⟨a, vs, rfl, hl, r1⟩ := sview_at rs r e
      refine ⟨_, call_tuple_of, a, vs, rfl, ?_⟩
      rcases hl with hl | ⟨hl, rfl⟩
      · exact .inl ⟨hl, fun l hn => by obtain ⟨x, y, z⟩ := new_tup rs r1 hn; exact h _ _ _ x y z⟩
      · exact .inr ⟨hl, h ι H _ (Ext.refl _ _) rs r⟩
    · exact False.elim h
  · exact False.elim h
variable {x : Str} {id T : String} {pos p : Pos} {e : Expr} {es : List Expr} {ms : MA} {g : List D → S → R D}
theorem se_callB (hc : CallD X cl (.builtin id) g) (hg : Gl X x) (hm : X.mg x = none) (hv : bootBuiltins x = some (.builtin id)) (ha : SA X cl W (e :: es) ms) (hn : x ≠ "__name__" := by decide) (hdb : (x == ("__debug__" : Str)) = false := by decide)
    (he : starEach (e :: es) X.env = (false, eval e X.env) :: starEach es X.env := by rfl) (hpl : (backTo pos (starEach es X.env)).any (·.1) = false := by rfl) : SE X cl W (.Call (.Name x p) (e :: es) [] pos) (mN g ms) := by
  obtain ⟨ta, pa, qa⟩ := ha.ex
  refine ⟨_, pe_callB anyCall hg hm hv pa hn hdb he hpl, fun σ H Q ρ ι s en r h => ?_⟩
  exact qa σ H _ ρ ι s en r (PoE.stepA h fun ds s1 ι1 H1 vs e1 x1 r1 d1 h1 => hc W ι1 H1 σ Q s1 ds vs r1 d1 h1)
theorem se_callTy (hc : CallD X cl (.type T) g) (hg : Gl X x) (hm : X.mg x = none) (hv : bootBuiltins x = some (.type T)) (ha : SA X cl W (e :: es) ms) (hn : x ≠ "__name__" := by decide) (hdb : (x == ("__debug__" : Str)) = false := by decide)
    (he : starEach (e :: es) X.env = (false, eval e X.env) :: starEach es X.env := by rfl) (hpl : (backTo pos (starEach es X.env)).any (·.1) = false := by rfl) : SE X cl W (.Call (.Name x p) (e :: es) [] pos) (mN g ms) := by
  obtain ⟨ta, pa, qa⟩ := ha.ex
  refine ⟨_, pe_callTy anyCall hg hm hv pa hn hdb he hpl, fun σ H Q ρ ι s en r h => ?_⟩
  exact qa σ H _ ρ ι s en r (PoE.stepA h fun ds s1 ι1 H1 vs e1 x1 r1 d1 h1 => hc W ι1 H1 σ Q s1 ds vs r1 d1 h1)
end

/-! ### isinstance with built-in types -/
def tyName (s : S) : D → Option String
  | .non => some "NoneType"
  | .bl _ => some "bool"
  | .int _ => some "int"
  | .str _ => some "str"
  | .tup _ => some "tuple"
  | .lst _ => some "list"
  | .ref n => match s[n]? with
    | some (.lst _) => some "list"
    | _ => none
  | _ => none
def isSub (a b : String) : Bool := a == b || (a == "bool" && b == "int")
def okTy (b : String) : Bool := ["tuple", "list", "int", "str", "bool"].contains b
def mIsi (tys : List String) (m : ME) : ME := fun ρ s => (m ρ s).bind fun d s1 => match tyName s1 d with
  | some a => .ok (.bl (tys.any (isSub a))) s1
  | none => .bad
section
variable {X : Cx} {cl : Cl} {W : Wish} {K : PySem.W.Frag} {w : World} {ι : List Addr} {H : Hp} {s : S}
theorem kitB_ok {a b : String} (ha : a ∈ ["NoneType", "bool", "int", "str", "tuple", "list"]) (hb : okTy b = true) : kitB a b = some (isSub a b) := by
  have hb' : b ∈ ["tuple", "list", "int", "str", "bool"] := by simpa [okTy] using hb
  simp only [List.mem_cons, List.not_mem_nil, or_false] at ha hb'
  rcases ha with rfl | rfl | rfl | rfl | rfl | rfl <;> rcases hb' with rfl | rfl | rfl | rfl | rfl <;> decide +kernel
theorem tyName_mem {d : D} {a : String} (h : tyName s d = some a) : a ∈ ["NoneType", "bool", "int", "str", "tuple", "list"] := by
  cases d <;> simp only [tyName] at h <;> (try cases h) <;> (try decide)
  split at h
  · cases h; decide
  · cases h
theorem kitAny_ok {a : String} (ha : a ∈ ["NoneType", "bool", "int", "str", "tuple", "list"]) : ∀ {tys : List String}, tys.all okTy = true → PySem.W.kitAny K (.type a) (tys.map Value.type) = some (tys.any (isSub a))
  | [], _ => rfl
  | b :: tys, h => by
    rw [List.all_cons, Bool.and_eq_true] at h
    have ih := kitAny_ok ha (tys := tys) h.2
    refine kitAny_cons (kit_ty (kitB_ok ha h.1)) (fun e => ?_) (fun e => ?_)
    · rw [ih, List.any_cons, e, Bool.false_or]
    · rw [List.any_cons, e, Bool.true_or]
theorem tyName_X {d : D} {v : V} {a : String} (rs : RelS K w cl ι s H) (r : RelD K w cl ι H d v) (h : tyName s d = some a) : TyX K H v (.type a) := by
  cases r <;> simp only [tyName] at h <;> (try cases h)
  · exact .base .non
  · exact .base (.bl _)
  · exact .base (.int _)
  · exact .base (.str _)
  · rename_i h1 _
    rcases h1 with ⟨h1 | ⟨o, h1⟩, _⟩ | ⟨o, its, n, h1, h2, _⟩
    · exact .base (.tup h1)
    · exact .fTuple h1
    · exact .kTuple h1 h2
  · rename_i h1 _
    rcases h1 with ⟨h1 | ⟨o, h1⟩, _⟩ | ⟨o, its, n, h1, h2, _⟩
    · exact .base (.lst h1)
    · exact .base (.frz h1)
    · exact .kList h1 h2
  · rename_i n a' hn
    split at h
    · rename_i xs e
      cases h
      obtain ⟨a2, ea, vs, hv, _⟩ := rs.at_ n _ e
      rw [hn] at ea
      cases ea
      exact .base (.lst hv)
    · cases h
/-- the classes: names of built-in types -/
inductive TyNames (X : Cx) : List Expr → List String → Prop
  | nil : TyNames X [] []
  | cons {x : Str} {T : String} {pos : Pos} {es : List Expr} {ts : List String} (h : PE X (.Name x pos) (tC (.ty T))) (hs : starEach (.Name x pos :: es) X.env = (false, eval (.Name x pos) X.env) :: starEach es X.env) (t : TyNames X es ts) : TyNames X (.Name x pos :: es) (T :: ts)
theorem TyNames.pa : ∀ {es : List Expr} {ts : List String}, TyNames X es ts → ∃ t, PA X es t ∧ ∀ σ H Q, Q (ts.map V.ty) H → t σ H Q
  | _, _, .nil => ⟨_, pa_nil, fun _ _ _ h => h⟩
  | _, _, .cons h hs t => by
    obtain ⟨u, p, q⟩ := TyNames.pa t
    exact ⟨_, pa_cons h p hs, fun σ H Q hq => q σ H _ hq⟩
theorem paired_ty : ∀ ts : List String, Paired ClsV (ts.map V.ty) (ts.map Value.type)
  | [] => .nil
  | t :: ts => .cons (.ty t) (paired_ty ts)
variable {e : Expr} {es : List Expr} {m : ME} {pos p tpos npos : Pos} {k : Nat} {tys : List String} {x : Str} {T : String}
theorem pe_tyn {x : Str} {T : String} {pos : Pos} (hg : Gl X x) (hm : X.mg x = none) (hv : bootBuiltins x = some (.type T)) (hn : x ≠ "__name__" := by decide) (hd : (x == ("__debug__" : Str)) = false := by decide) : PE X (.Name x pos) (tC (.ty T)) := pe_bltn hg hm hv rfl hn hd
theorem se_isiT (hg : Gl X "isinstance") (hm : X.mg "isinstance" = none) (he : SE X cl W e m) (ht : TyNames X es tys) (hok : tys.all okTy = true) (hlen : tys.length ≤ sizeLine)
    (hs : starEach (e :: [.Tuple es k tpos]) X.env = (false, eval e X.env) :: starEach [.Tuple es k tpos] X.env := by rfl) (hs2 : starEach (.Tuple es k tpos :: []) X.env = (false, eval (.Tuple es k tpos) X.env) :: starEach [] X.env := by rfl)
    (hpl : (backTo pos (starEach [.Tuple es k tpos] X.env)).any (·.1) = false := by rfl) : SE X cl W (.Call (.Name "isinstance" p) [e, .Tuple es k tpos] [] pos) (mIsi tys m) := by
  obtain ⟨t, p1, q1⟩ := he.ex
  obtain ⟨u, p2, q2⟩ := ht.pa
  refine ⟨_, pe_callB call_isiT hg hm boot_isinstance (pa_cons p1 (pa_cons (pe_tup p2) pa_nil hs2) hs) (by decide) (by decide) hs hpl, fun σ H Q ρ ι s en r h => ?_⟩
  refine q1 σ H _ ρ ι s en r (PoE.step h fun d s1 ι1 H1 v e1 x1 r1 d1 h1 => ?_)
  split at h1
  · rename_i a ea
    refine q2 σ H1 _ ⟨by rw [List.length_map]; exact hlen, fun tp htp => ?_⟩
    obtain ⟨xn, rn⟩ := And.intro (Ext.new (ι := ι1) (o := HO.tup (tys.map V.ty)) htp) (r1.laid (o := HO.tup (tys.map V.ty)) htp)
    exact ⟨v, tp, _, _, _, _, rfl, upd_same, paired_ty tys, tyName_X rn (d1.ext xn) ea, kitAny_ok (tyName_mem ea) hok, h1 ι1 _ _ xn rn (.bl _)⟩
  · exact False.elim h1
theorem se_isi1 (hg : Gl X "isinstance") (hm : X.mg "isinstance" = none) (he : SE X cl W e m) (ht : PE X (.Name x npos) (tC (.ty T))) (hok : okTy T = true)
    (hs : starEach (e :: [.Name x npos]) X.env = (false, eval e X.env) :: starEach [.Name x npos] X.env := by rfl) (hs2 : starEach (.Name x npos :: []) X.env = (false, eval (.Name x npos) X.env) :: starEach [] X.env := by rfl)
    (hpl : (backTo pos (starEach [.Name x npos] X.env)).any (·.1) = false := by rfl) : SE X cl W (.Call (.Name "isinstance" p) [e, .Name x npos] [] pos) (mIsi [T] m) := by
  obtain ⟨t, p1, q1⟩ := he.ex
  refine ⟨_, pe_callB call_isi hg hm boot_isinstance (pa_cons p1 (pa_cons ht pa_nil hs2) hs) (by decide) (by decide) hs hpl, fun σ H Q ρ ι s en r h => ?_⟩
  refine q1 σ H _ ρ ι s en r (PoE.step h fun d s1 ι1 H1 v e1 x1 r1 d1 h1 => ?_)
  split at h1
  · rename_i a ea
    refine ⟨v, _, _, _, _, rfl, .ty T, tyName_X r1 d1 ea, kit_ty (kitB_ok (tyName_mem ea) hok), ?_⟩
    have := h1 ι1 H1 _ (Ext.refl _ _) r1 (.bl _)
    simpa using this
  · exact False.elim h1
end

/-! ### methods of built-in types -/
def hasTy (T : String) (s : S) (d : D) : Bool := match T, d with
  | "str", .str _ => true
  | "list", d => (lview s d).isSome
  | _, _ => false
def mMt (T : String) (f : D → List D → S → R D) (a : ME) (as : MA) : ME := fun ρ s => (a ρ s).bind fun x s1 => if hasTy T s1 x = true then (as ρ s1).bind fun xs s2 => f x xs s2 else .bad
def MtD (X : Cx) (cl : Cl) (id : String) (g : D → List D → S → R D) : Prop :=
  ∀ (W : Wish) (ι : List Addr) (H : Hp) (σ : L2.St) (Q : VK) (s : S) (dx : D) (ds : List D) (x : V) (xs : List V), RelS X.K X.w cl ι s H → RelD X.K X.w cl ι H dx x → RelDs X.K X.w cl ι H ds xs → PoE X.K X.w cl W ι H σ Q (g dx ds s) → AnyMt X id x xs H Q
def dAppend : D → List D → S → R D
  | .ref n, [d], s => (match s[n]? with
    | some (.lst xs) => if xs.length < sizeLine then .ok .non (s.set n (.lst (xs ++ [d]))) else .bad
    | _ => .bad)
  | _, _, _ => .bad
def dPop : D → List D → S → R D
  | .ref n, [], s => (match s[n]? with
    | some (.lst xs) => (match xs[xs.length - 1]? with
      | some d => .ok d (s.set n (.lst xs.dropLast))
      | none => .bad)
    | _ => .bad)
  | _, _, _ => .bad
def dReverse : D → List D → S → R D
  | .ref n, [], s => (match s[n]? with
    | some (.lst xs) => .ok .non (s.set n (.lst xs.reverse))
    | _ => .bad)
  | _, _, _ => .bad
def dSplit : D → List D → S → R D
  | .str a, [.str b], s => if b.length ≠ 0 ∧ a.length + 2 ≤ sizeLine then .ok (.lst ((Txt.split a b).map .str)) s else .bad
  | _, _, _ => .bad
section
variable {X : Cx} {cl : Cl} {W : Wish}
theorem lst_at {K : PySem.W.Frag} {w : World} {ι : List Addr} {H : Hp} {s : S} {n : Nat} {v : V} {xs : List D} (rs : RelS K w cl ι s H) (r : RelD K w cl ι H (.ref n) v) (e : s[n]? = some (.lst xs)) :
    ∃ a vs, v = .ref a ∧ ι[n]? = some a ∧ H a = some (.lst vs) ∧ RelDs K w cl ι H xs vs := by
  cases r with
  | ref hn =>
    obtain ⟨a', ea, vs, hv, rv⟩ := rs.at_ n _ e
    rw [hn] at ea
    cases ea
    exact ⟨_, vs, rfl, hn, hv, rv⟩
theorem d_append : MtD X cl "list.append" dAppend := by
  intro W ι H σ Q s dx ds x xs rs rx rds h
  unfold dAppend at h
  split at h
  · split at h
    · rename_i ys e
      split at h
      · rename_i hl
        obtain ⟨a, vs, rfl, hn, hv, rv⟩ := lst_at rs rx e
        obtain ⟨v, rfl, r⟩ := rds.one
        have hm := List.mem_of_getElem? hn
        have xw : Ext ι H ι (upd H a (.lst (vs ++ [v]))) := Ext.write hm
        exact ⟨_, mt_append, a, vs, v, rfl, rfl, hv, by rw [← rv.length]; exact hl, h ι _ _ xw (rs.write hn ⟨_, upd_same, (rv.append (.cons r .nil)).ext xw⟩) .non⟩
      · exact False.elim h
    · exact False.elim h
  · exact False.elim h
theorem d_pop : MtD X cl "list.pop" dPop := by
  intro W ι H σ Q s dx ds x xs rs rx rds h
  unfold dPop at h
  split at h
  · split at h
    · rename_i ys e
      split at h
      · rename_i d ed
        obtain ⟨a, vs, rfl, hn, hv, rv⟩ := lst_at rs rx e
        cases rds
        have hm := List.mem_of_getElem? hn
        have xw : Ext ι H ι (upd H a (.lst vs.dropLast)) := Ext.write hm
        obtain ⟨v, ev, r⟩ := rv.get ed
        exact ⟨_, mt_pop, a, vs, v, rfl, rfl, hv, by rw [← rv.length]; exact ev, h ι _ _ xw (rs.write hn ⟨_, upd_same, rv.dropLast.ext xw⟩) (r.ext xw)⟩
      · exact False.elim h
    · exact False.elim h
  · exact False.elim h
theorem d_reverse : MtD X cl "list.reverse" dReverse := by
  intro W ι H σ Q s dx ds x xs rs rx rds h
  unfold dReverse at h
  split at h
  · split at h
    · rename_i ys e
      obtain ⟨a, vs, rfl, hn, hv, rv⟩ := lst_at rs rx e
      cases rds
      have hm := List.mem_of_getElem? hn
      have xw : Ext ι H ι (upd H a (.lst vs.reverse)) := Ext.write hm
      exact ⟨_, mt_reverse, a, vs, rfl, rfl, hv, h ι _ _ xw (rs.write hn ⟨_, upd_same, rv.reverse.ext xw⟩) .non⟩
    · exact False.elim h
  · exact False.elim h
theorem strs_rel {K : PySem.W.Frag} {w : World} {ι : List Addr} {H : Hp} : ∀ ys : List Str, RelDs K w cl ι H (ys.map .str) (ys.map V.str)
  | [] => .nil
  | y :: ys => .cons (.str y) (strs_rel ys)
theorem d_split : MtD X cl "str.split" dSplit := by
  intro W ι H σ Q s dx ds x xs rs rx rds h
  unfold dSplit at h
  split at h
  · cases rx
    obtain ⟨v, rfl, r⟩ := rds.one
    cases r
    split at h
    · rename_i a b hl
      refine ⟨_, mt_split, _, _, rfl, rfl, by simpa using hl.1, hl.2, fun p hp => ?_⟩
      obtain ⟨x, y, z⟩ := new_lst rs (strs_rel (Txt.split a b)) hp
      exact h _ _ _ x y z
    · exact False.elim h
  · exact False.elim h
theorem hasTy_ok {K : PySem.W.Frag} {w : World} {ι : List Addr} {H : Hp} {s : S} {d : D} {v : V} {T : String} (rs : RelS K w cl ι s H) (r : RelD K w cl ι H d v) (h : hasTy T s d = true) : tyV K T v H := by
  unfold hasTy at h
  split at h
  · cases r; rfl
  · cases e : lview s d with
    | none => rw [e] at h; cases h
    | some xs =>
      obtain ⟨a, vs, rfl, hl, _⟩ := lview_at rs r e
      exact .inl ⟨rfl, vs, hl.sq⟩
  · cases h
variable {o e : Expr} {es : List Expr} {mo : ME} {ms : MA} {name : Str} {apos cpos : Pos} {T id : String} {g : D → List D → S → R D}
theorem se_mt0 (pa : PlainAttrs T) (slot : Slot T name id) (hty : typeOf (.builtin id) = pure (.type "method_descriptor")) (hm : MtD X cl id g) (ho : SE X cl W o mo)
    (hbase : attributeBase o name X.env (eval o X.env) = eval o X.env := by rfl) (hline : (apos.endLine == cpos.line) = true := by rfl) : SE X cl W (.Call (.Attribute o name apos) [] [] cpos) (mMt T g mo aNil) := by
  obtain ⟨t, p1, q1⟩ := ho.ex
  refine ⟨_, pe_bm0 pa slot hty anyMt p1 hbase hline, fun σ H Q ρ ι s en r h => ?_⟩
  refine q1 σ H _ ρ ι s en r (PoE.step h fun d s1 ι1 H1 v e1 x1 r1 d1 h1 => ?_)
  split at h1
  · rename_i ht
    exact ⟨hasTy_ok r1 d1 ht, hm W ι1 H1 σ Q s1 d [] v [] r1 d1 .nil h1⟩
  · exact False.elim h1
theorem se_mt (pa : PlainAttrs T) (slot : Slot T name id) (hty : typeOf (.builtin id) = pure (.type "method_descriptor")) (hm : MtD X cl id g) (ho : SE X cl W o mo) (ha : SA X cl W (e :: es) ms)
    (hbase : attributeBase o name X.env (eval o X.env) = eval o X.env := by rfl)
    (hfew : ((backTo cpos (starEach (e :: es) X.env)).all (fun x => !x.1) && (backToKw cpos (keywordEach [] X.env)).all (fun x => x.1.isSome) && decide ((e :: es).length + ([] : List Keyword).length + (if ([] : List Keyword).isEmpty then 0 else 1) < 30)) = true := by rfl)
    (hline : (apos.endLine == cpos.line) = true := by rfl) (hs : starEach (e :: es) X.env = (false, eval e X.env) :: starEach es X.env := by rfl) (hplain : (backTo cpos (starEach es X.env)).any (·.1) = false := by rfl) :
    SE X cl W (.Call (.Attribute o name apos) (e :: es) [] cpos) (mMt T g mo ms) := by
  obtain ⟨t, p1, q1⟩ := ho.ex
  obtain ⟨u, p2, q2⟩ := ha.ex
  refine ⟨_, pe_bm pa slot hty anyMt p1 p2 hbase hfew hline hs hplain, fun σ H Q ρ ι s en r h => ?_⟩
  refine q1 σ H _ ρ ι s en r (PoE.step h fun d s1 ι1 H1 v e1 x1 r1 d1 h1 => ?_)
  split at h1
  · rename_i ht
    refine ⟨hasTy_ok r1 d1 ht, q2 σ H1 _ ρ ι1 s1 (en.ext x1) r1 (PoE.stepA h1 fun ds s2 ι2 H2 vs e2 x2 r2 d2 h2 => ?_)⟩
    exact hm W ι2 H2 σ Q s2 d ds v vs r2 (d1.ext x2) d2 h2
  · exact False.elim h1
end
end Pm
namespace Pm
open PySem PySem.Spec PyProof.Rows L2

/-! ### zip of two things, each a text, a list or a tuple -/
/-- what a zip walks -/
inductive Src where
  | str (x : Str) | lst (a : Addr) | tup (a : Addr)
def Src.val : Src → V
  | .str x => .str x
  | .lst a => .ref a
  | .tup a => .ref a
def Src.ads : Src → List Addr
  | .str _ => []
  | .lst a => [a]
  | .tup a => [a]
def Vw (K : PySem.W.Frag) (H : Hp) : Src → List V → Prop
  | .str x, vs => vs = x.cps.toList.map fun c => V.str ⟨#[c]⟩
  | .lst a, vs => SqL K H a vs
  | .tup a, vs => SqT K H a vs
def StI : Src → Addr → Tok → Nat → Heap → Prop
  | .str x, it, t, i, h => h.IsStrIter it (strIterType x) x t i
  | .lst a, it, _, i, h => h.IsListIter it a i
  | .tup a, it, _, i, h => h.IsTupleIter it a i
section
variable {X : Cx} {pins : List (Addr × Obj)} {σ : L2.St} {H : Hp} {s : Shared}
theorem StI.keep {q : Src} {it : Addr} {t : Tok} {i : Nat} {h h' : Heap} (st : StI q it t i h) (k : ∀ o, h.get? it = some o → h'.get? it = some o) : StI q it t i h' := by
  cases q with
  | str x => obtain ⟨o, e, r⟩ := st; exact ⟨o, k o e, r⟩
  | lst a => exact Heap.IsListIter.at st fun o e => k o e
  | tup a => exact Heap.IsTupleIter.at st fun o e => k o e
theorem StI.obj {q : Src} {it : Addr} {t : Tok} {i : Nat} {h : Heap} (st : StI q it t i h) : ∃ o, h.get? it = some o ∧ ∀ v, o.data ≠ .cell v := by
  cases q <;> (obtain ⟨o, e, _, d⟩ := st; exact ⟨o, e, fun v z => by rw [d] at z; cases z⟩)
/-- what such an iterator draws, its source as it stands now -/
theorem drawn {q : Src} {it : Addr} {t : Tok} {i : Nat} {vs : List V} (I : Inv X pins σ H s) (hc : X.calm = true) (hv : Vw X.K H q vs) (hne : it ∉ q.ads) (st : StI q it t i s.heap) :
    ∃ (P : Nat → Value → Prop) (St : Nat → Heap → Prop), Draws X.prog X.w X.A.in1 it (it :: q.ads) vs.length P St ∧ St i s.heap ∧ (∀ j u, P j u → ∃ x, vs[j]? = some x ∧ RelV x u) ∧ ∀ j h, St j h → StI q it t j h := by
  have hh : X.A.in1.handled = none := I.ok.hd hc
  cases q with
  | str x =>
    have D := Draws.text (prog := X.prog) (w := X.w) hh it x t
    have hl : x.cps.size = vs.length := by rw [show vs = _ from hv]; simp
    rw [hl] at D
    refine ⟨_, _, D, st, fun j u ⟨c, k, e, z⟩ => ⟨.str ⟨#[c]⟩, ?_, k, z⟩, fun j h z => z⟩
    rw [show vs = _ from hv, List.getElem?_map, Array.getElem?_toList, e]
    rfl
  | lst a =>
    obtain ⟨its, r, p, _⟩ := I.list hv
    have D := Draws.list (prog := X.prog) (w := X.w) hh it a (fun z => hne (by simp [Src.ads, z])) its.toArray
    have hl : its.toArray.size = vs.length := by rw [List.size_toArray]; exact r.length.symm
    rw [hl] at D
    refine ⟨_, _, D, ⟨st, p.isList⟩, fun j u e => ?_, fun j h z => z.1⟩
    have e' : its[j]? = some u := by simpa using e
    cases hx : vs[j]? with
    | none =>
      have h1 := List.getElem?_eq_none_iff.mp hx
      have h2 := (List.getElem?_eq_some_iff.mp e').1
      have h3 := r.length
      omega
    | some x =>
      obtain ⟨u2, e2, rx⟩ := r.get hx
      rw [e'] at e2
      cases e2
      exact ⟨x, rfl, rx⟩
  | tup a =>
    obtain ⟨its, r, p, _⟩ := I.tuple hv
    have D := Draws.tuple (prog := X.prog) (w := X.w) hh it a (fun z => hne (by simp [Src.ads, z])) its.toArray
    have hl : its.toArray.size = vs.length := by rw [List.size_toArray]; exact r.length.symm
    rw [hl] at D
    refine ⟨_, _, D, ⟨st, p⟩, fun j u e => ?_, fun j h z => z.1⟩
    have e' : its[j]? = some u := by simpa using e
    cases hx : vs[j]? with
    | none =>
      have h1 := List.getElem?_eq_none_iff.mp hx
      have h2 := (List.getElem?_eq_some_iff.mp e').1
      have h3 := r.length
      omega
    | some x =>
      obtain ⟨u2, e2, rx⟩ := r.get hx
      rw [e'] at e2
      cases e2
      exact ⟨x, rfl, rx⟩
theorem Vw.inj {q : Src} {xs ys : List V} (I : Inv X pins σ H s) (h : Vw X.K H q xs) (h' : Vw X.K H q ys) : xs = ys := by
  cases q with
  | str x => rw [show xs = _ from h, show ys = _ from h']
  | lst a => exact I.list_inj h h'
  | tup a => exact I.tuple_inj h h'
/-- how such an iterator begins -/
theorem begun {q : Src} {vs : List V} {u : Value} (I : Inv X pins σ H s) (hv : Vw X.K H q vs) (ru : RelV q.val u) :
    ∃ (o : Obj) (G : Heap → Prop) (t : Tok), Begins u o G ∧ G s.heap ∧ (∀ b ∈ q.ads, b < s.heap.objs.size) ∧ ∀ it h, h.get? it = some o → StI q it t 0 h := by
  cases q with
  | str x =>
    obtain ⟨t, rfl⟩ := ru
    exact ⟨_, _, t, begins_text x t, trivial, fun b hb => (nomatch hb), fun it h e => ⟨_, e, rfl, rfl⟩⟩
  | lst a =>
    obtain ⟨its, r, p, _⟩ := I.list hv
    cases ru
    exact ⟨_, _, 0, begins_list a its.toArray, p.isList, fun b hb => by rw [List.mem_singleton.mp hb]; exact p.lt, fun it h e => ⟨_, e, rfl, rfl⟩⟩
  | tup a =>
    obtain ⟨its, r, p, _⟩ := I.tuple hv
    cases ru
    refine ⟨_, _, 0, begins_tuple a its.toArray, p, fun b hb => ?_, fun it h e => ⟨_, e, rfl, rfl⟩⟩
    obtain ⟨o, e, _⟩ := p
    rw [List.mem_singleton.mp hb]
    exact Heap.lt_size e
end
/-- the sources as they stand at each turn, the items in new pairs -/
def Itp (K : PySem.W.Frag) (p q : Src) : It :=
  ⟨fun i H => ∃ (xs ys : List V), Vw K H p xs ∧ Vw K H q ys ∧ i < xs.length ∧ i < ys.length,
    fun i H v H' => ∃ T x y, v = .ref T ∧ H T = none ∧ H' = upd H T (.tup [x, y]) ∧ (∀ xs, Vw K H p xs → xs[i]? = some x) ∧ ∀ ys, Vw K H q ys → ys[i]? = some y,
    fun i H => ∃ xs ys : List V, Vw K H p xs ∧ Vw K H q ys ∧ i = min xs.length ys.length⟩
theorem turn_zipG {P : Program} {w : World} {K : PySem.W.Frag} {elts : List Expr} {kk : Nat} {tpos : Pos} {p q : Src} {N : Nat} {t1 t2 : Tok} (hp : ∀ b ∈ p.ads, b < N) (hq : ∀ b ∈ q.ads, b < N) :
    Turn P w K (.Tuple elts kk tpos) (Itp K p q) [N + 4, N + 2, N + 3, N, N + 1] (N + 4)
      (fun i h => IsZip h (N + 4) (N + 2) (N + 3) .none ∧ IsTupOf2 h (N + 2) (.ref N) (.ref (N + 1)) ∧ (∃ x y, IsTupOf2 h (N + 3) x y) ∧ StI p N t1 i h ∧ StI q (N + 1) t2 i h) where
  mem := by simp
  obj := fun i h st c hc => by
    obtain ⟨hz, hTI, ⟨x, y, hTO⟩, s1, s2⟩ := st
    have e' : c = N + 4 ∨ c = N + 2 ∨ c = N + 3 ∨ c = N ∨ c = N + 1 := by simpa using hc
    rcases e' with e | e | e | e | e
    · rw [e]; exact ⟨_, hz, fun v z => nomatch z⟩
    · rw [e]; exact ⟨_, hTI, fun v z => nomatch z⟩
    · rw [e]; exact ⟨_, hTO, fun v z => nomatch z⟩
    · rw [e]; exact s1.obj
    · rw [e]; exact s2.obj
  keep := fun i h h' ⟨hz, hTI, ⟨x, y, hTO⟩, s1, s2⟩ k =>
    ⟨k (N + 4) (by simp) _ hz, k (N + 2) (by simp) _ hTI, ⟨x, y, k (N + 3) (by simp) _ hTO⟩, s1.keep (k N (by simp)), s2.keep (k (N + 1) (by simp))⟩
  item := by
    intro X hP hw hK hc i pins s σ H E I hf ⟨hz, hTI, hTO, s1, s2⟩ ⟨xs, ys, hx, hy, l1, l2⟩
    subst hP hw hK
    have n1 : N ∉ p.ads := fun z => Nat.lt_irrefl _ (hp _ z)
    have n2 : N + 1 ∉ q.ads := fun z => absurd (show N + 1 < N from hq _ z) (by omega)
    obtain ⟨P1, St1, D1, g1, r1, b1⟩ := drawn I hc hx n1 s1
    obtain ⟨P2, St2, D2, g2, r2, b2⟩ := drawn I hc hy n2 s2
    have hlt : ∀ c ∈ [N + 4, N + 2, N + 3, N, N + 1], c < s.heap.objs.size := fun c hcm => by
      have e' : c = N + 4 ∨ c = N + 2 ∨ c = N + 3 ∨ c = N ∨ c = N + 1 := by simpa using hcm
      have h4 : N + 4 < s.heap.objs.size := Heap.lt_size hz
      rcases e' with e | e | e | e | e <;> (rw [e]; omega)
    refine (GoesN.zip2 (zip_sep2 hp hq) D1 D2).goes i s _ _ (Nat.lt_min.mpr ⟨l1, l2⟩) ⟨hz, hTI, hTO, g1, g2⟩ fun v h' tk ⟨T, x, y, ev, hT, hx1, hy1, hTup⟩ ⟨z', TI', TO', g1', g2'⟩ hk _ => ?_
    subst ev
    obtain ⟨vx, ex, rx⟩ := r1 _ _ hx1
    obtain ⟨vy, ey, ry⟩ := r2 _ _ hy1
    have new : ObjOk X.prog X.w (upd H T (.tup [vx, vy])) h' T (.tup [vx, vy]) := ⟨by show 2 ≤ sizeLine; decide, [x, y], .cons rx (.cons ry .nil), hTup⟩
    have I1 : Inv X pins σ (upd H T (.tup [vx, vy])) { s with heap := h', toks := tk } :=
      I.turnedNew (ch := [N + 4, N + 2, N + 3, N, N + 1]) (fun c o hb e => hk c o (fun z => hb (by
        have e' : c = N + 4 ∨ c = N + 3 ∨ c = N ∨ c = N + 1 := by simpa using z
        rcases e' with e | e | e | e <;> simp [e])) e) hf hT new
    refine ⟨.ref T, _, I1, rfl, ⟨T, vx, vy, rfl, I.hok.fresh hT, rfl, fun l hl => by rw [hl.inj I hx]; exact ex, fun l hl => by rw [hl.inj I hy]; exact ey⟩, ⟨z', TI', TO', b1 _ _ g1', b2 _ _ g2'⟩, fun c hcm => ?_⟩
    rw [upd_ne (Nat.ne_of_lt (Nat.lt_of_lt_of_le (hlt c hcm) hT))]
    exact (hf c hcm).1
  done := by
    intro X hP hw hK hc i pins s σ H E I hf ⟨hz, hTI, hTO, s1, s2⟩ ⟨xs, ys, hx, hy, hi⟩
    subst hP hw hK
    have n1 : N ∉ p.ads := fun z => Nat.lt_irrefl _ (hp _ z)
    have n2 : N + 1 ∉ q.ads := fun z => absurd (show N + 1 < N from hq _ z) (by omega)
    obtain ⟨P1, St1, D1, g1, r1, b1⟩ := drawn I hc hx n1 s1
    obtain ⟨P2, St2, D2, g2, r2, b2⟩ := drawn I hc hy n2 s2
    refine (GoesN.zip2 (elts := elts) (x1 := kk) (pos := tpos) (zip_sep2 hp hq) D1 D2).stops s (fun s1 => Inv X pins σ H s1) _ (by rw [← hi]; exact ⟨hz, hTI, hTO, g1, g2⟩) fun h' tk hk _ => ?_
    exact I.turnedL (ch := [N + 4, N + 2, N + 3, N, N + 1]) (fun c o hb e => hk c o (fun z => hb (by
        have e' : c = N + 4 ∨ c = N + 3 ∨ c = N ∨ c = N + 1 := by simpa using z
        rcases e' with e | e | e | e <;> simp [e])) e) hf
  self := fun A i s Q E st h => wpAny_pyIter_zip st.1 h
def tiZip (K : PySem.W.Frag) (ta : TA) : TI := fun σ H R => ta σ H fun vs H1 => ∃ p q xs ys, vs = [p.val, q.val] ∧ Vw K H1 p xs ∧ Vw K H1 q ys ∧ R (Itp K p q) H1
theorem pi_zipG {X : Cx} {e e2 : Expr} {ta : TA} {p pos tpos : Pos} {elts : List Expr} {kk : Nat} (hg : Gl X "zip") (hm : X.mg "zip" = none) (ha : PA X [e, e2] ta)
    (hs : starEach [e, e2] X.env = (false, eval e X.env) :: starEach [e2] X.env := by rfl) (hpl : (backTo pos (starEach [e2] X.env)).any (·.1) = false := by rfl) :
    PI X (.Tuple elts kk tpos) (.Call (.Name "zip" p) [e, e2] [] pos) (tiZip X.K ta) := by
  refine ⟨fun pins s σ H R I h => ?_⟩
  refine Call_ (ld_blt I hg hm boot_zip (callWith_type1 (thn (ha.run pos pins s σ H _ I h) fun us s1 ⟨vs, H1, I1, r1, p1, p2, xs, ys, ev, hx, hy, q⟩ => ?_) hs hpl))
  subst ev
  cases r1 with
  | @cons _ u1 _ _ ru1 rr => cases rr with
    | @cons _ u2 _ _ ru2 rr => cases rr with
      | nil =>
        obtain ⟨o1, G1, t1, B1, g1, a1, st1⟩ := begun I1 hx ru1
        obtain ⟨o2, G2, t2, B2, g2, a2, st2⟩ := begun I1 hy ru2
        refine zip_begins2 B1 B2 g1 g2 fun h' hz hTI hTO e1 e2 hsz hk => wpAny_pyIter_zip hz ?_
        have I2 : Inv X pins σ H1 { s1 with heap := h' } := I1.kept (t' := s1.toks) hk
        refine ⟨s1.heap.objs.size + 4, [s1.heap.objs.size + 4, s1.heap.objs.size + 2, s1.heap.objs.size + 3, s1.heap.objs.size, s1.heap.objs.size + 1], _, _, H1, rfl, I2, turn_zipG a1 a2, ⟨hz, hTI, ⟨_, _, hTO⟩, st1 _ _ e1, st2 _ _ e2⟩, fun c hcm => ?_, q⟩
        have e' : c = s1.heap.objs.size + 4 ∨ c = s1.heap.objs.size + 2 ∨ c = s1.heap.objs.size + 3 ∨ c = s1.heap.objs.size ∨ c = s1.heap.objs.size + 1 := by simpa using hcm
        have hle : s1.heap.objs.size ≤ c := by
          rcases e' with e | e | e | e | e <;> (rw [e]; omega)
        exact I1.fpOk hle (I1.hok.fresh hle)

/-! over data -/
/-- finished sequences and texts -/
def fview : D → Option (List D)
  | .str x => some (x.cps.toList.map fun c => .str ⟨#[c]⟩)
  | .tup xs => some xs
  | .lst xs => some xs
  | _ => none
def zipD : List D → List D → List D
  | x :: xs, y :: ys => .tup [x, y] :: zipD xs ys
  | _, _ => []
def iZipD (ma mb : ME) : MI := fun ρ s => (ma ρ s).bind fun d s1 => (mb ρ s1).bind fun e s2 => match fview d, fview e with
  | some xs, some ys => .ok (zipD xs ys, none) s2
  | _, _ => .bad
theorem zipD_length : ∀ xs ys : List D, (zipD xs ys).length = min xs.length ys.length
  | [], _ => by simp [zipD]
  | _ :: _, [] => by simp [zipD]
  | x :: xs, y :: ys => by simp [zipD, zipD_length xs ys]
theorem zipD_get : ∀ {xs ys : List D} {i : Nat} {x y : D}, xs[i]? = some x → ys[i]? = some y → (zipD xs ys)[i]? = some (.tup [x, y])
  | [], _, _, _, _, h, _ => by simp at h
  | _ :: _, [], _, _, _, _, h => by simp at h
  | a :: xs, b :: ys, 0, x, y, h, g => by simp at h g; simp [zipD, h, g]
  | a :: xs, b :: ys, i + 1, x, y, h, g => by simpa [zipD] using zipD_get (by simpa using h) (by simpa using g)
section
variable {K : PySem.W.Frag} {w : World} {cl : Cl} {ι : List Addr} {H : Hp}
theorem chars_rel : ∀ cs : List Nat, RelDs K w cl ι H (cs.map fun c => D.str ⟨#[c]⟩) (cs.map fun c => V.str ⟨#[c]⟩)
  | [] => .nil
  | c :: cs => .cons (.str _) (chars_rel cs)
/-- the source of a finished thing: as it stands now and later -/
theorem fview_src {d : D} {v : V} {xs : List D} (r : RelD K w cl ι H d v) (h : fview d = some xs) : ∃ q : Src, v = q.val ∧ ∃ vs, (∀ z ι2 H2, Ext ι H ι2 (hd z H2) → Vw K H2 q vs ∧ RelDs K w cl ι2 (hd z H2) xs vs) := by
  cases r <;> simp only [fview] at h <;> first
    | (cases h; done)
    | skip
  · rename_i x
    cases h
    exact ⟨.str x, rfl, _, fun z ι2 H2 _ => ⟨rfl, chars_rel _⟩⟩
  · rename_i a vs h1 r1
    cases h
    exact ⟨.tup a, rfl, _, fun z ι2 H2 x => ⟨(h1.ext x).act, r1.ext x⟩⟩
  · rename_i a vs h1 r1
    cases h
    exact ⟨.lst a, rfl, _, fun z ι2 H2 x => ⟨(h1.ext x).act, r1.ext x⟩⟩
theorem hd_upd2 {z : Option Addr} {T : Addr} {o : HO} (hT : H T = none) (hz : ∀ a, z = some a → H a ≠ none) : hd z (upd H T o) = upd (hd z H) T o := by
  cases z with
  | none => rfl
  | some a =>
    have hne : T ≠ a := fun e => hz a rfl (by rw [← e]; exact hT)
    funext b
    by_cases hb : b = a
    · rw [hb, hd_self, upd_ne (Ne.symm hne), hd_self]
    · rw [hd_ne hb]
      by_cases hbT : b = T
      · rw [hbT, upd_same, upd_same]
      · rw [upd_ne hbT, upd_ne hbT, hd_ne hb]
theorem hd_none' {z : Option Addr} {T : Addr} (hT : H T = none) : hd z H T = none := by
  cases z with
  | none => exact hT
  | some a =>
    by_cases hb : T = a
    · rw [hb, hd_self]
    · rw [hd_ne hb]; exact hT
theorem zip_ok {xs ys : List D} {p q : Src} {ι1 : List Addr} {H1 : Hp} {vs us : List V} (h1 : ∀ z ι2 H2, Ext ι1 H1 ι2 (hd z H2) → Vw K H2 p vs ∧ RelDs K w cl ι2 (hd z H2) xs vs) (h2 : ∀ z ι2 H2, Ext ι1 H1 ι2 (hd z H2) → Vw K H2 q us ∧ RelDs K w cl ι2 (hd z H2) ys us) :
    ItOk K w cl (zipD xs ys, none) (Itp K p q) ι1 H1 := by
  intro z i ι2 H2 s2 hz x2 r2 _
  obtain ⟨a1, b1⟩ := h1 z ι2 H2 x2
  obtain ⟨a2, b2⟩ := h2 z ι2 H2 x2
  refine ⟨fun hi => ?_, fun hi => ⟨vs, us, a1, a2, by rw [← b1.length, ← b2.length, ← zipD_length]; exact hi⟩⟩
  have hi' : i < min xs.length ys.length := by rw [← zipD_length]; exact hi
  obtain ⟨l1, l2⟩ := Nat.lt_min.mp hi'
  refine ⟨⟨vs, us, a1, a2, by rw [← b1.length]; exact l1, by rw [← b2.length]; exact l2⟩, fun x H' ⟨T, vx, vy, ev, hT, eH, f1, f2⟩ => ?_⟩
  subst ev eH
  obtain ⟨v1, e1, q1⟩ := b1.get (List.getElem?_eq_getElem l1)
  obtain ⟨v2, e2, q2⟩ := b2.get (List.getElem?_eq_getElem l2)
  have g1 := f1 vs a1
  have g2 := f2 us a2
  rw [e1] at g1
  rw [e2] at g2
  cases g1
  cases g2
  obtain ⟨n1, n2, n3⟩ := new_tup r2 (.cons q1 (.cons q2 .nil)) (hd_none' (z := z) hT)
  rw [hd_upd2 hT hz]
  exact ⟨fun a ea => upd_ne fun e => hz a ea (by rw [e]; exact hT), _, zipD_get (List.getElem?_eq_getElem l1) (List.getElem?_eq_getElem l2), n1, n2, n3⟩
end
section
variable {X : Cx} {cl : Cl} {W : Wish} {pos p tpos : Pos} {e e2 : Expr} {m mb : ME} {elts : List Expr} {kk : Nat}
theorem si_zip (hg : Gl X "zip") (hm : X.mg "zip" = none) (he : SE X cl W e m) (hb : SE X cl W e2 mb) (hs : starEach [e, e2] X.env = (false, eval e X.env) :: starEach [e2] X.env := by rfl) (hs2 : starEach [e2] X.env = (false, eval e2 X.env) :: starEach [] X.env := by rfl)
    (hpl : (backTo pos (starEach [e2] X.env)).any (·.1) = false := by rfl) : SI X cl W (.Tuple elts kk tpos) (.Call (.Name "zip" p) [e, e2] [] pos) (iZipD m mb) := by
  obtain ⟨t, p1, q1⟩ := he.ex
  obtain ⟨u, p2, q2⟩ := hb.ex
  refine ⟨_, pi_zipG hg hm (pa_cons p1 (pa_cons p2 pa_nil hs2) hs) hs hpl, fun σ H Q ρ ι s en r h => ?_⟩
  unfold iZipD at h
  refine q1 σ H _ ρ ι s en r ?_
  cases e1 : m ρ s with
  | bad => rw [e1] at h; exact h
  | exc x s1 => rw [e1] at h; exact h
  | ok d s1 =>
  rw [e1] at h
  intro ι1 H1 v x1 r1 rd
  simp only [R.bind] at h
  refine q2 σ H1 _ ρ ι1 s1 (en.ext x1) r1 ?_
  cases e3 : mb ρ s1 with
  | bad => rw [e3] at h; exact h
  | exc x s2 => rw [e3] at h; exact fun ι2 H2 c dd x2 => h ι2 H2 c dd (x1.trans x2)
  | ok d2 s2 =>
  rw [e3] at h
  intro ι2 H2 v2 x2 r2 rd2
  simp only at h
  cases f1 : fview d with
  | none => rw [f1] at h; exact False.elim h
  | some xs =>
  cases f2 : fview d2 with
  | none => rw [f1, f2] at h; exact False.elim h
  | some ys =>
  rw [f1, f2] at h
  obtain ⟨s1', ev1, vs, g1⟩ := fview_src (rd.ext x2) f1
  obtain ⟨s2', ev2, us, g2⟩ := fview_src rd2 f2
  subst ev1 ev2
  exact ⟨s1', s2', vs, us, rfl, (g1 none ι2 H2 (Ext.refl _ _)).1, (g2 none ι2 H2 (Ext.refl _ _)).1, h ι2 H2 _ (x1.trans x2) r2 (zip_ok g1 g2)⟩
end
end Pm
namespace Pm
open PySem PySem.Spec PyProof.Rows L2

/-! ### written dicts -/
/-- the entries as the top lays them -/
def mkEs (w : World) (us : List (Str × Tok × Value)) : Array DictEntry := (us.map fun p => ({ hash := PyData.keyHash w.params p.1, key := .str p.1 p.2.1, val := p.2.2 } : DictEntry)).toArray
section
variable {K : PySem.W.Frag} {w : World} {a : Addr}
theorem mkEs_lit : ∀ us : List (Str × Tok × Value), PySem.W.KeysLit w.params (us.map fun p => ({ hash := PyData.keyHash w.params p.1, key := .str p.1 p.2.1, val := p.2.2 } : DictEntry))
  | [] => trivial
  | p :: us => ⟨⟨p.1, p.2.1, rfl, rfl⟩, mkEs_lit us⟩
theorem mkEs_find (z : Str) : ∀ us : List (Str × Tok × Value), ((us.map fun p => ({ hash := PyData.keyHash w.params p.1, key := .str p.1 p.2.1, val := p.2.2 } : DictEntry)).find? (·.key.isStr z)).map (·.val) = (us.map fun p => (p.1, p.2.2)).lookup z
  | [] => rfl
  | p :: us => by
    have ih := mkEs_find z us
    rw [List.map_cons, List.map_cons, List.find?_cons, List.lookup_cons]
    have e : Value.isStr (Value.str p.1 p.2.1) z = (z == p.1) := by
      show (p.1 == z) = (z == p.1)
      rw [Bool.eq_iff_iff]
      constructor <;> intro h <;> exact beq_iff_eq.mpr (beq_iff_eq.mp h).symm
    simp only [e]
    cases z == p.1 with
    | true => rfl
    | false => exact ih
theorem mkEs_noref : ∀ us : List (Str × Tok × Value), (us.map fun p => ({ hash := PyData.keyHash w.params p.1, key := .str p.1 p.2.1, val := p.2.2 } : DictEntry)).any (·.refKey) = false
  | [] => rfl
  | p :: us => by rw [List.map_cons, List.any_cons, mkEs_noref us]; rfl
theorem kdx_of {us : List (Str × Tok × Value)} {vs : List (Str × V)} {n : Nat} (h : K.lookup a = some ⟨.type "dict", none, .dict (mkEs w us) n, #[]⟩) (low : (a == sysModules) = false)
    (r : Paired (fun (p : Str × V) (q : Str × Value) => p.1 = q.1 ∧ RelV p.2 q.2) vs (us.map fun p => (p.1, p.2.2))) : KDx K w a vs := by
  refine ⟨_, n, _, h, by unfold mkEs; exact mkEs_lit us, low, fun z => ?_, r⟩
  have e1 := mkEs_find (w := w) z us
  have e2 := mkEs_noref (w := w) us
  unfold PySem.W.nsIn
  rw [h]
  dsimp only
  unfold mkEs
  rw [e2]
  cases hf : (us.map fun p => ({ hash := PyData.keyHash w.params p.1, key := .str p.1 p.2.1, val := p.2.2 } : DictEntry)).find? (·.key.isStr z) with
  | none => rw [hf] at e1; rw [← e1]; simp
  | some e => rw [hf] at e1; rw [← e1]; rfl
/-- a tuple, a list of the written part -/
theorem st_K {ι : List Addr} {H : Hp} {o : Obj} {its : Array Value} {n : Nat} {xs : List V} (h : K.lookup a = some o) (hc : o.cls = .type "tuple") (hd : o.data = .seq its n) (hz : its.size ≤ sizeLine) (r : Vals xs its.toList) : ST K ι H a xs := .inr ⟨o, its, n, h, hc, hd, hz, r⟩
theorem sl_K {ι : List Addr} {H : Hp} {o : Obj} {its : Array Value} {n : Nat} {xs : List V} (h : K.lookup a = some o) (hc : o.cls = .type "list") (hn : o.dict = none) (hd : o.data = .seq its n) (hz : its.size ≤ sizeLine) (r : Vals xs its.toList) : SL K ι H a xs := .inr ⟨o, its, n, h, hc, hn, hd, hz, r⟩
end
/-- d.get(k) -/
def mGet (mo mk : ME) : ME := fun ρ s => (mo ρ s).bind fun x s1 => match x with
  | .dic kvs => (mk ρ s1).bind fun y s2 => (match y with
    | .str z => (match kvs.lookup z with
      | some d => .ok d s2
      | none => .ok .non s2)
    | _ => .bad)
  | _ => .bad
section
variable {X : Cx} {cl : Cl} {W : Wish} {o e : Expr} {mo mk : ME} {apos cpos : Pos}
def tGet (K : PySem.W.Frag) (w : World) (to te : TE) : TE := fun σ H Q => to σ H fun x H1 => ∃ (p : Addr) (es : Array DictEntry) (n : Nat), x = .ref p ∧ KDict K w p es n ∧ te σ H1 fun y H2 => ∃ (z : Str) (r : Option Value) (v : V), y = .str z ∧ PySem.W.nsIn K p z = some r ∧ RelV v (r.getD .none) ∧ Q v H2
theorem pe_get {to te : TE} (ho : PE X o to) (he : PE X e te)
    (hbase : attributeBase o "get" X.env (eval o X.env) = eval o X.env := by rfl)
    (hfew : ((backTo cpos (starEach (e :: []) X.env)).all (fun x => !x.1) && (backToKw cpos (keywordEach [] X.env)).all (fun x => x.1.isSome) && decide ((e :: []).length + ([] : List Keyword).length + (if ([] : List Keyword).isEmpty then 0 else 1) < 30)) = true := by rfl)
    (hline : (apos.endLine == cpos.line) = true := by rfl) (hs : starEach (e :: []) X.env = (false, eval e X.env) :: starEach [] X.env := by rfl) (hplain : (backTo cpos (starEach [] X.env)).any (·.1) = false := by rfl) :
    PE X (.Call (.Attribute o "get" apos) [e] [] cpos) (tGet X.K X.w to te) := by
  refine ⟨fun pins s σ H Q I h => ?_⟩
  refine wpAny_Call_method_late hbase hfew hline rfl (thn (ho.run pins s σ H _ I h) fun v s1 ⟨x, H1, I1, r1, p, es, n, ex, D, q1⟩ => ?_)
  subst ex
  obtain rfl : v = Value.ref p := r1
  have hm1 := PySem.W.mapOf_K (prog := X.prog) (w := X.w) I1.kIn D.at_ D.lit
  refine ⟨"dict", "dict.get", PySem.F.plainAttrs_dict, PySem.F.slot_dict_get, PySem.F.type_dict_get, hm1.typeIs, hm1.noDict, ?_⟩
  have hA := (pa_cons he pa_nil hs).run cpos pins s1 σ H1 (fun vs H2 => ∃ y, vs = [y] ∧ ∃ (z : Str) (r : Option Value) (v : V), y = .str z ∧ PySem.W.nsIn X.K p z = some r ∧ RelV v (r.getD .none) ∧ Q v H2) I1 (by
    show te σ H1 _
    refine Eq.mp (congrArg (te σ H1) ?_) q1
    funext y H2
    exact propext ⟨fun k => ⟨y, rfl, k⟩, fun ⟨y', e1, k⟩ => by cases e1; exact k⟩)
  rw [hs] at hA ⊢
  refine Calls.callWith_builtin (by show (false || (backTo cpos (starEach [] X.env)).any (·.1)) = false; rw [hplain] <;> rfl) (Calls.evalArgs_plain ?_)
  refine thn hA fun us s2 ⟨vs, H2, I2, r2, y, ev, z, r, v, ey, en, rv, q2⟩ => ?_
  subst ev ey
  cases r2 with
  | cons ru rr =>
    cases rr
    obtain ⟨t, rfl⟩ := ru
    have hm2 := PySem.W.mapOf_K (prog := X.prog) (w := X.w) I2.kIn D.at_ D.lit
    refine call_meetsIn PySem.F.slot_dict_get hm2.typeIs PySem.F.entry_dict_get (PySem.F.args_dict_get_2 _ _) (meets_dict_get (strKind X.prog X.w) p (strKind_is X.prog X.w z t) D.low) ⟨_, hm2, ?_⟩
    rw [PySem.W.find_K D.at_ en]
    exact ⟨v, H2, I2.tok _, rv, q2⟩
theorem se_get (ho : SE X cl W o mo) (he : SE X cl W e mk)
    (hbase : attributeBase o "get" X.env (eval o X.env) = eval o X.env := by rfl)
    (hfew : ((backTo cpos (starEach (e :: []) X.env)).all (fun x => !x.1) && (backToKw cpos (keywordEach [] X.env)).all (fun x => x.1.isSome) && decide ((e :: []).length + ([] : List Keyword).length + (if ([] : List Keyword).isEmpty then 0 else 1) < 30)) = true := by rfl)
    (hline : (apos.endLine == cpos.line) = true := by rfl) (hs : starEach (e :: []) X.env = (false, eval e X.env) :: starEach [] X.env := by rfl) (hplain : (backTo cpos (starEach [] X.env)).any (·.1) = false := by rfl) :
    SE X cl W (.Call (.Attribute o "get" apos) [e] [] cpos) (mGet mo mk) := by
  obtain ⟨t, p1, q1⟩ := ho.ex
  obtain ⟨u, p2, q2⟩ := he.ex
  refine ⟨_, pe_get p1 p2 hbase hfew hline hs hplain, fun σ H Q ρ ι s en r h => ?_⟩
  refine q1 σ H _ ρ ι s en r (PoE.step h fun d s1 ι1 H1 v e1 x1 r1 d1 h1 => ?_)
  cases d1 with
  | @dic kvs a vs hk rk =>
    obtain ⟨es, n, us, k1, k2, k3, k4, k5⟩ := hk
    refine ⟨a, es, n, rfl, ⟨k1, k2, k3⟩, q2 σ H1 _ ρ ι1 s1 (en.ext x1) r1 (PoE.step h1 fun d2 s2 ι2 H2 v2 e2 x2 r2 dd2 h2 => ?_)⟩
    cases dd2 with
    | str z =>
      simp only at h2
      have kl := kdx_lookup (RelFs.ext x2 rk) z
      have pl := paired_lookup k5 z
      cases e3 : kvs.lookup z with
      | none =>
        rw [e3] at kl h2
        simp only at kl h2
        rw [kl] at pl
        simp only at pl
        exact ⟨z, _, .non, rfl, k4 z, by rw [pl]; rfl, h2 ι2 H2 .non (Ext.refl _ _) r2 .non⟩
      | some d =>
        rw [e3] at kl h2
        simp only at kl h2
        obtain ⟨v3, e4, rd⟩ := kl
        rw [e4] at pl
        obtain ⟨u3, e5, rv⟩ := pl
        exact ⟨z, _, v3, rfl, k4 z, by rw [e5]; exact rv, h2 ι2 H2 v3 (Ext.refl _ _) r2 rd⟩
    | _ => exact False.elim h2
  | _ => exact False.elim h1
end
/-! ### room -/
theorem room_u {A : Around} {k : Nat} (hr : Room k A) : A.units + 64 < cLine := hr.units
theorem room_u1 {A : Around} {k : Nat} (hr : Room k A) : A.units + 65 < cLine := by have := hr.un; omega
theorem mkFn_arity {n tot : Nat} {m : MS} : ∀ ds s, ds.length ≠ n → mkFn n tot m ds s = .bad := fun ds s h => by unfold mkFn; rw [if_neg h]
theorem mkFz_arity {n : Nat} {F : List D → S → R D} (h : ∀ ds s, ds.length ≠ n → F ds s = .bad) : ∀ ds s, ds.length ≠ n → mkFz F ds s = .bad := fun ds s hl => by unfold mkFz; rw [h ds s hl]; rfl
end Pm
namespace Pm
open PySem PySem.Spec PyProof.Rows L2

/-! ### attributes of classes -/
section
variable {K : PySem.W.Frag} {cl : Cl} {f : Str}
theorem na_nil : ∀ c ∈ ([] : List Str), ∀ A, cl c = some A → NoAttr K A f := fun c hc => nomatch hc
theorem na_cons {c : Str} {C : Addr} {cs : List Str} (h : cl c = some C) (n : NoAttr K C f) (r : ∀ c ∈ cs, ∀ A, cl c = some A → NoAttr K A f) : ∀ c' ∈ c :: cs, ∀ A, cl c' = some A → NoAttr K A f := fun c' hc A hA => by
  rcases List.mem_cons.mp hc with e | hc
  · subst e
    rw [h] at hA
    cases hA
    exact n
  · exact r c' hc A hA
end
/-! ### the law's end -/
theorem ints_rel {K : PySem.W.Frag} {w : World} {cl : Cl} {ι : List Addr} {H : Hp} : ∀ ns : List Int, RelDs K w cl ι H (ns.map .int) (ns.map V.int)
  | [] => .nil
  | n :: ns => .cons (.int n) (ints_rel ns)
theorem RelS.empty {K : PySem.W.Frag} {w : World} {cl : Cl} {H : Hp} : RelS K w cl [] [] H := ⟨rfl, .nil, fun n o e => by simp at e⟩
theorem walk_pm {l : PySem.W.OpenLaw} {n k : Nat} {q : Program} {loose : List Str} {XP : (Str → Option Value) → Heap → Prop} {YP : World → Heap → Prop} {d : DefRec} {K : Params → PySem.W.Frag} {f : List D → S → R D}
    (hn : l.most = some n) (hn2 : n ≤ sizeLine) (hdf : d.params.defaults = []) (hr : Room k callerA)
    (hY : ∀ (w : World) (h : Heap), YP w h → (K w.params).In h)
    (F : ∀ (w : World) (mg : Str → Option Value) (fa : Addr) (h : Heap), (K w.params).In h → h.Ns mainGlobals mg → mg d.name = some (.ref fa) →
      ∃ (fd : FuncData) (cl : Cl), (∀ (s : Shared) (u : Value), BindsTo s fd ⟨[u], []⟩ [("script", u)]) ∧
        ∀ base : Heap, (K w.params).In base → base.Ns mainGlobals mg → FnOk l.prog w (K w.params) mg base (L2.CX l.prog w) k fa fd ["script"] (spD (K w.params) w cl 1 f))
    (plain : ∀ ns : List Int, ns.length ≤ n → (∀ z ∈ ns, Builtin.Int.intBits z ≤ 1048576) → ∃ s, f [.lst (ns.map .int)] [] = .ok (.bl true) s) :
    PySem.W.WalkO q loose XP YP l.row.toRowW d [] (fun f vs => PySem.call f vs) := by
  refine L2.walk_ofB (n := n) (k := k) (x := "script") (CX := fun w => L2.CX l.prog w) (sp := fun w vs H Q E => vs.length = 1 ∧ ∀ cl, spD (K w.params) w cl 1 f vs H Q E) hn hn2 hdf hr hY (fun w mg fa h KX G hmg => ?_) (fun w H a ns hl hb hO hS => ?_) fun w H s e s' ⟨_, _, _, _, _, _, _, _, _, _, _, _, z⟩ => z
  · obtain ⟨fd, cl, hb, hF⟩ := F w mg fa h KX G hmg
    exact ⟨fd, hb, fun base KB GB => (hF base KB GB).imp fun vs H Q E z => z.2 cl⟩
  · obtain ⟨s, hs⟩ := plain ns hl hb
    refine ⟨rfl, fun cl => ⟨rfl, [], [], [.lst (ns.map .int)], RelS.empty, .cons (.lst ?_ (ints_rel ns)) .nil, ?_⟩⟩
    · rcases hS with h | h
      · exact .inl ⟨h, List.not_mem_nil⟩
      · exact .inr h
    · rw [hs]
      intro ι' H' v x r rd
      cases rd
      rfl
end Pm
namespace Pm
open PySem PySem.Spec PyProof.Rows L2

/-! ### methods of own classes: chosen by the class that comes -/
/-- o.m(..): the method by o's class -/
def mMeth (m : Str) (gs : List (Str × (List D → S → R D))) (mo : ME) (ms : MA) : ME := fun ρ s => (mo ρ s).bind fun d s1 => match insOf s1 d with
  | some (c, fs) => (match gs.lookup c, fs.lookup m with
    | some G, none => (ms ρ s1).bind fun ds s2 => G (d :: ds) s2
    | _, _ => .bad)
  | none => .bad
/-- one class's method, with all that a call asks -/
structure MOk (X : Cx) (cl : Cl) (m c : Str) (G : List D → S → R D) : Prop where
  ex : ∃ (C f : Addr) (fd : FuncData) (ps : List Str) (k n : Nat), cl c = some C ∧ Cls X.K C ∧ Meth X.K C m f ∧ FnOk X.prog X.w X.K X.mg X.base (L2.CX X.prog X.w) k f fd ps (spD X.K X.w cl n G) ∧ (∀ ds s, ds.length ≠ n → G ds s = .bad) ∧ Room k X.A ∧ Binds X.K fd ps []
theorem mok {X : Cx} {cl : Cl} {m c : Str} {G : List D → S → R D} {C f : Addr} {fd : FuncData} {ps : List Str} {k n : Nat} (hc : cl c = some C) (hk : Cls X.K C) (hm : Meth X.K C m f) (F : FnOk X.prog X.w X.K X.mg X.base (L2.CX X.prog X.w) k f fd ps (spD X.K X.w cl n G)) (hn : ∀ ds s, ds.length ≠ n → G ds s = .bad) (hr : Room k X.A) (hb : Binds X.K fd ps []) : MOk X cl m c G :=
  ⟨C, f, fd, ps, k, n, hc, hk, hm, F, hn, hr, hb⟩
inductive MOks (X : Cx) (cl : Cl) (m : Str) : List (Str × (List D → S → R D)) → Prop
  | nil : MOks X cl m []
  | cons {c : Str} {G : List D → S → R D} {gs : List (Str × (List D → S → R D))} (h : MOk X cl m c G) (t : MOks X cl m gs) : MOks X cl m ((c, G) :: gs)
theorem MOks.at_ {X : Cx} {cl : Cl} {m c : Str} {G : List D → S → R D} : ∀ {gs : List (Str × (List D → S → R D))}, MOks X cl m gs → gs.lookup c = some G → MOk X cl m c G
  | _, .nil, h => by cases h
  | _, .cons (c := c') h t, e => by
    rw [List.lookup_cons] at e
    by_cases hc : c == c'
    · rw [hc] at e
      cases e
      rw [beq_iff_eq.mp hc]
      exact h
    · rw [Bool.eq_false_iff.mpr hc] at e
      exact MOks.at_ t e
section
variable {X : Cx} {cl : Cl} {W : Wish} {m : Str} {o e : Expr} {es : List Expr} {apos pos : Pos} {mo : ME} {ms : MA} {gs : List (Str × (List D → S → R D))} {ta : TE} {t : TA}
/-- what the call of a chosen method asks -/
def tMethA (X : Cx) (cl : Cl) (W : Wish) (m : Str) (ta : TE) (t : TA) : TE := fun σ H Q => ta σ H fun x H1 => ∃ (C f : Addr) (fd : FuncData) (ps : List Str) (k n : Nat) (G : List D → S → R D) (a dx : Addr) (fs : List (Str × V)),
  (Cls X.K C ∧ Meth X.K C m f ∧ FnOk X.prog X.w X.K X.mg X.base (L2.CX X.prog X.w) k f fd ps (spD X.K X.w cl n G) ∧ Room k X.A ∧ Binds X.K fd ps []) ∧ x = .ref a ∧ H1 a = some (.ins C dx fs) ∧ fs.lookup m = none ∧
  t σ H1 fun vs H2 => spD X.K X.w cl n G (x :: vs) H2 Q (WE W σ)
theorem pe_methA {pl : Sem Bool} (tk : Takes X W) (he : PE X o ta) (ha : PA X (e :: es) t)
    (hst : starEach (e :: es) X.env = (false, eval e X.env) :: starEach es X.env := by rfl) (hpl : (backTo pos (starEach es X.env)).any (·.1) = false := by rfl)
    (ht : eval (.Call (.Attribute o m apos) (e :: es) [] pos) X.env = (do
      let ov ← eval o X.env
      standAt apos.atName
      let (f, first) ← holding [ov] (getMethod ov m pl)
      callWith pos f first (backTo pos (starEach (e :: es) X.env)) (backToKw pos (keywordEach [] X.env))) := by rfl) :
    PE X (.Call (.Attribute o m apos) (e :: es) [] pos) (tMethA X cl W m ta t) := by
  refine ⟨fun pins s σ H Q I h => ?_⟩
  refine PySem.W.methodCall_KW (pl := pl) (thn (he.run pins s σ H _ I h) fun u s1 ⟨x, H1, I1, rx, C, f, fd, ps, k, n, G, a, dx, fs, ⟨c, hm, F, hr, hb⟩, ex, ea, l, q⟩ => ?_) ht
  subst ex
  obtain rfl : u = Value.ref a := rx
  refine getmeth_ok I1 ea c hm l ?_
  refine PySem.W.callWith_K (first := [.ref a]) (h₀ := X.base) I.ok.mod.kin hm.kp (thn (ha.run pos pins s1 σ H1 _ I1 q) fun us s2 ⟨vs, H2, I2, r, q2⟩ => ⟨I2.kIn, ?_⟩) hst hpl
  exact run_fnS (us := .ref a :: us) (vs := .ref a :: vs) F hr hb (passAt tk σ) I2 (.cons rfl r) q2
theorem pe_methA0 {pl : Sem Bool} (tk : Takes X W) (he : PE X o ta)
    (ht : eval (.Call (.Attribute o m apos) [] [] pos) X.env = (do
      let ov ← eval o X.env
      standAt apos.atName
      let (f, first) ← holding [ov] (getMethod ov m pl)
      callWith pos f first (backTo pos (starEach [] X.env)) (backToKw pos (keywordEach [] X.env))) := by rfl) :
    PE X (.Call (.Attribute o m apos) [] [] pos) (tMethA X cl W m ta tNil) := by
  refine ⟨fun pins s σ H Q I h => ?_⟩
  refine PySem.W.methodCall_KW (pl := pl) (thn (he.run pins s σ H _ I h) fun u s1 ⟨x, H1, I1, rx, C, f, fd, ps, k, n, G, a, dx, fs, ⟨c, hm, F, hr, hb⟩, ex, ea, l, q⟩ => ?_) ht
  subst ex
  obtain rfl : u = Value.ref a := rx
  refine getmeth_ok I1 ea c hm l ?_
  exact PySem.W.callWith_K0 (first := [.ref a]) I1.kIn hm.kp (run_fnS (us := [.ref a]) (vs := [.ref a]) F hr hb (passAt tk σ) I1 (.cons rfl .nil) q)
theorem meth_read {tr : TA} (hg : MOks X cl m gs) (q1 : ∀ (σ : L2.St) (H : Hp) (Q : VK) (ρ : Rho) (ι : List Addr) (s : S), RelE X.K X.w cl ι H ρ σ → RelS X.K X.w cl ι s H → PoE X.K X.w cl W ι H σ Q (mo ρ s) → ta σ H Q)
    (q2 : ∀ (σ : L2.St) (H : Hp) (Q : List V → Hp → Prop) (ρ : Rho) (ι : List Addr) (s : S), RelE X.K X.w cl ι H ρ σ → RelS X.K X.w cl ι s H → PoA X.K X.w cl W ι H σ Q (ms ρ s) → tr σ H Q)
    {σ : L2.St} {H : Hp} {Q : VK} {ρ : Rho} {ι : List Addr} {s : S} (en : RelE X.K X.w cl ι H ρ σ) (r : RelS X.K X.w cl ι s H) (h : PoE X.K X.w cl W ι H σ Q (mMeth m gs mo ms ρ s)) : tMethA X cl W m ta tr σ H Q := by
  refine q1 σ H _ ρ ι s en r (PoE.step h fun d s1 ι1 H1 v e1 x1 r1 d1 h1 => ?_)
  cases ei : insOf s1 d with
  | none => rw [ei] at h1; exact False.elim h1
  | some p =>
  obtain ⟨c, fs⟩ := p
  rw [ei] at h1
  simp only at h1
  cases eg : gs.lookup c with
  | none => rw [eg] at h1; exact False.elim h1
  | some G =>
  cases el : fs.lookup m with
  | some z => rw [eg, el] at h1; exact False.elim h1
  | none =>
  rw [eg, el] at h1
  obtain ⟨C, f, fd, ps, k, n, hcl, hk, hm, F, hn, hr, hb⟩ := (hg.at_ eg).ex
  obtain ⟨a, A, dx, vs, rfl, hcl2, hk2, ha, rf⟩ := insOf_at r1 d1 ei
  rw [hcl] at hcl2
  cases hcl2
  have hnone : vs.lookup m = none := by
    have := kdx_lookup rf m
    rw [el] at this
    exact this
  refine ⟨C, f, fd, ps, k, n, G, a, dx, vs, ⟨hk, hm, F, hr, hb⟩, rfl, ha, hnone, ?_⟩
  refine q2 σ H1 _ ρ ι1 s1 (en.ext x1) r1 (PoE.stepA h1 fun ds s2 ι2 H2 vs2 e2 x2 r2 d2 h2 => ?_)
  exact call_po (W := W) hn r2 (.cons (d1.ext x2) d2) h2
theorem se_meth {pl : Sem Bool} (tk : Takes X W) (hg : MOks X cl m gs) (ho : SE X cl W o mo) (ha : SA X cl W (e :: es) ms)
    (hst : starEach (e :: es) X.env = (false, eval e X.env) :: starEach es X.env := by rfl) (hpl : (backTo pos (starEach es X.env)).any (·.1) = false := by rfl)
    (ht : eval (.Call (.Attribute o m apos) (e :: es) [] pos) X.env = (do
      let ov ← eval o X.env
      standAt apos.atName
      let (f, first) ← holding [ov] (getMethod ov m pl)
      callWith pos f first (backTo pos (starEach (e :: es) X.env)) (backToKw pos (keywordEach [] X.env))) := by rfl) :
    SE X cl W (.Call (.Attribute o m apos) (e :: es) [] pos) (mMeth m gs mo ms) := by
  obtain ⟨t, p1, q1⟩ := ho.ex
  obtain ⟨u, p2, q2⟩ := ha.ex
  exact ⟨_, pe_methA (cl := cl) (pl := pl) tk p1 p2 hst hpl ht, fun σ H Q ρ ι s en r h => meth_read hg q1 q2 en r h⟩
theorem se_meth0 {pl : Sem Bool} (tk : Takes X W) (hg : MOks X cl m gs) (ho : SE X cl W o mo)
    (ht : eval (.Call (.Attribute o m apos) [] [] pos) X.env = (do
      let ov ← eval o X.env
      standAt apos.atName
      let (f, first) ← holding [ov] (getMethod ov m pl)
      callWith pos f first (backTo pos (starEach [] X.env)) (backToKw pos (keywordEach [] X.env))) := by rfl) :
    SE X cl W (.Call (.Attribute o m apos) [] [] pos) (mMeth m gs mo aNil) := by
  obtain ⟨t, p1, q1⟩ := ho.ex
  exact ⟨_, pe_methA0 (cl := cl) (pl := pl) tk p1 ht, fun σ H Q ρ ι s en r h => meth_read (ms := aNil) hg q1 (fun σ H Q ρ ι s _ r h => h ι H [] (Ext.refl _ _) r .nil) en r h⟩
end
/-! ### o.f op= e -/
def sFldAugD (f : Str) (cs : List Str) (g : D → D → S → R D) (mo mv : ME) : MS := fun ρ s => (mo ρ s).st ρ fun d s1 => match d with
  | .ref n => (match s1[n]? with
    | some (.ins c fs) => if c ∈ cs then (match fs.lookup f with
      | some x => (mv ρ s1).st ρ fun y s2 => (g x y s2).st ρ fun z s3 => (match s3[n]? with
        | some (.ins c' fs') => if c' = c ∧ fs'.length < 1000 then .ok (.nx ρ) (s3.set n (.ins c' (putFD f z fs'))) else .bad
        | _ => .bad)
      | none => .bad) else .bad
    | _ => .bad)
  | _ => .bad
section
variable {X : Cx} {cl : Cl} {W : Wish} {pos tpos : Pos} {o value : Expr} {mo mv : ME}
theorem ss_fldaug {op : Operator} {g : D → D → S → R D} (f : Str) (cs : List Str) (hn : ∀ c ∈ cs, ∀ A, cl c = some A → NoAttr X.K A f) (hg : IpD X cl op g) (ho : SE X cl W o mo) (hv : SE X cl W value mv) : SS X cl W (.AugAssign (.Attribute o f tpos) op value pos) (sFldAugD f cs g mo mv) := by
  obtain ⟨t, p1, q1⟩ := ho.ex
  obtain ⟨u, p2, q2⟩ := hv.ex
  have hop : InOp X op (AnyIp X op) := anyIp
  refine ⟨_, ps_fldaug p1 p2 hop, fun Dn σ H ρ ι s en r h => ?_⟩
  refine q1 σ H _ ρ ι s en r (PoS.stepE en h fun d s1 ι1 H1 v e1 x1 r1 d1 h1 => ?_)
  cases d1 with
  | @ref n a hn1 =>
    simp only at h1
    cases e5 : s1[n]? with
    | none => rw [e5] at h1; exact False.elim h1
    | some ob =>
    cases ob with
    | lst xs => rw [e5] at h1; exact False.elim h1
    | dK kvs => rw [e5] at h1; exact False.elim h1
    | ins c fs =>
    rw [e5] at h1
    simp only at h1
    by_cases hc : c ∈ cs
    rotate_left
    · rw [if_neg hc] at h1; exact False.elim h1
    rw [if_pos hc] at h1
    cases el : fs.lookup f with
    | none => rw [el] at h1; exact False.elim h1
    | some x =>
    rw [el] at h1
    obtain ⟨a', ea, A, dx, vs, hcl, hk, ha, rf⟩ := r1.at_ n _ e5
    rw [hn1] at ea
    obtain rfl := Option.some.inj ea
    obtain ⟨vx, ex, rx⟩ := fs_lookup rf el
    refine ⟨_, A, dx, vs, vx, rfl, ha, hk, hn c hc A hcl, ex, ?_⟩
    refine q2 σ H1 _ ρ ι1 s1 (en.ext x1) r1 (PoS.stepE (en.ext x1) h1 fun d2 s2 ι2 H2 v2 e2 x2 r2 dd2 h2 => ?_)
    refine hg W ι2 H2 σ _ s2 x d2 vx v2 r2 (rx.ext x2) dd2 (PoS.stepE ((en.ext x1).ext x2) h2 fun d3 s3 ι3 H3 v3 e3 x3 r3 dd3 h3 => ?_)
    have hn3 := x3.at (x2.at hn1)
    cases e6 : s3[n]? with
    | none => rw [e6] at h3; exact False.elim h3
    | some ob3 =>
    cases ob3 with
    | lst xs => rw [e6] at h3; exact False.elim h3
    | dK kvs => rw [e6] at h3; exact False.elim h3
    | ins c' fs' =>
    rw [e6] at h3
    simp only at h3
    by_cases hcc : c' = c ∧ fs'.length < 1000
    rotate_left
    · rw [if_neg hcc] at h3; exact False.elim h3
    rw [if_pos hcc] at h3
    obtain ⟨rfl, hlen⟩ := hcc
    obtain ⟨a3, ea3, A3, dx3, vs3, hcl3, hk3, ha3, rf3⟩ := r3.at_ n _ e6
    rw [hn3] at ea3
    obtain rfl := Option.some.inj ea3
    rw [hcl] at hcl3
    cases hcl3
    have hm := List.mem_of_getElem? hn3
    have xw := Ext.write (ι := ι3) (H := H3) (o := HO.ins A dx3 (putF f v3 vs3)) hm
    exact ⟨dx3, vs3, ha3, by rw [← fs_len rf3]; exact hlen, h3 ι3 _ σ xw (r3.write hn3 ⟨A, dx3, _, hcl, hk3, upd_same, fs_put (dd3.ext xw) (RelFs.ext xw rf3)⟩) ((((en.ext x1).ext x2).ext x3).ext xw)⟩
  | _ => exact False.elim h1
/-- op= with - -/
def dISub : D → D → S → R D
  | .int a, .int b, s => .ok (.int (a - b)) s
  | _, _, _ => .bad
theorem d_isub : IpD X cl .Sub dISub := by
  intro W ι H σ Q s dx dy x y rs rx ry h
  unfold dISub at h
  split at h
  · cases rx; cases ry
    exact ⟨_, ip_sub, _, _, rfl, rfl, h ι H _ (Ext.refl _ _) rs (.int _)⟩
  · exact False.elim h
end
end Pm
namespace Pm
open PySem PySem.Spec PyProof.Rows L2

/-! ### dicts of the store: keys are numbers and texts -/
def dictAt (s : S) : D → Option (List (Key × D))
  | .ref n => match s[n]? with
    | some (.dK kvs) => some kvs
    | _ => none
  | _ => none
def keyD : D → Option Key
  | .int i => some (.inl i)
  | .str z => some (.inr z)
  | _ => none
def valD (kvs : List (Key × D)) (k : Key) : Option D := (kvs.find? fun kv => decide (kv.1 = k)).map (·.2)
def putD (kvs : List (Key × D)) (k : Key) (v : D) : List (Key × D) :=
  if (kvs.any fun kv => decide (kv.1 = k)) = true then kvs.map (fun kv => if kv.1 = k then (kv.1, v) else kv) else kvs ++ [(k, v)]
def dropD (kvs : List (Key × D)) (k : Key) : List (Key × D) := kvs.filter fun kv => decide (kv.1 ≠ k)
section
variable {K : PySem.W.Frag} {w : World} {cl : Cl} {ι : List Addr} {H : Hp} {s : S}
/-- the same keys, the values one by one -/
def RelK (K : PySem.W.Frag) (w : World) (cl : Cl) (ι : List Addr) (H : Hp) (kvs : List (Key × D)) (vs : List (Key × V)) : Prop := kvs.map (·.1) = vs.map (·.1) ∧ RelDs K w cl ι H (kvs.map (·.2)) (vs.map (·.2))
theorem RelK.nil : RelK K w cl ι H [] [] := ⟨rfl, .nil⟩
theorem RelK.cons {k : Key} {d : D} {v : V} {kvs : List (Key × D)} {vs : List (Key × V)} (r : RelD K w cl ι H d v) (t : RelK K w cl ι H kvs vs) : RelK K w cl ι H ((k, d) :: kvs) ((k, v) :: vs) := ⟨congrArg (k :: ·) t.1, .cons r t.2⟩
theorem RelK.inv {k : Key} {d : D} {kvs : List (Key × D)} {ws : List (Key × V)} (t : RelK K w cl ι H ((k, d) :: kvs) ws) : ∃ v vs, ws = (k, v) :: vs ∧ RelD K w cl ι H d v ∧ RelK K w cl ι H kvs vs := by
  obtain ⟨h1, h2⟩ := t
  cases ws with
  | nil => cases h1
  | cons p vs =>
    obtain ⟨j, v⟩ := p
    simp only [List.map_cons, List.cons.injEq] at h1
    obtain ⟨rfl, h1⟩ := h1
    cases h2 with
    | cons r t => exact ⟨v, vs, rfl, r, h1, t⟩
theorem RelK.len {kvs : List (Key × D)} {vs : List (Key × V)} (t : RelK K w cl ι H kvs vs) : kvs.length = vs.length := by
  have := congrArg List.length t.1
  simpa using this
theorem RelK.val {k : Key} : ∀ {kvs : List (Key × D)} {vs : List (Key × V)}, RelK K w cl ι H kvs vs → match valD kvs k with
    | some d => ∃ v, valV vs k = some v ∧ RelD K w cl ι H d v
    | none => valV vs k = none
  | [], vs, t => by
    cases vs with
    | nil => rfl
    | cons p r => cases t.1
  | (j, d) :: kvs, ws, t => by
    obtain ⟨v, vs, rfl, r, t⟩ := t.inv
    have ih := RelK.val (k := k) t
    by_cases h : j = k
    · have e : valD ((j, d) :: kvs) k = some d := by simp [valD, List.find?_cons, h]
      rw [e]
      exact ⟨v, by rw [valV_pos h], r⟩
    · have e : valD ((j, d) :: kvs) k = valD kvs k := by simp [valD, List.find?_cons, h]
      rw [e, valV_neg h]
      exact ih
theorem RelK.app {kvs kvs' : List (Key × D)} {vs vs' : List (Key × V)} (t : RelK K w cl ι H kvs vs) (t' : RelK K w cl ι H kvs' vs') : RelK K w cl ι H (kvs ++ kvs') (vs ++ vs') := ⟨by rw [List.map_append, List.map_append, t.1, t'.1], by rw [List.map_append, List.map_append]; exact t.2.append t'.2⟩
theorem RelK.repl {k : Key} {d : D} {v : V} (r : RelD K w cl ι H d v) : ∀ {kvs : List (Key × D)} {vs : List (Key × V)}, RelK K w cl ι H kvs vs → RelK K w cl ι H (kvs.map fun kv => if kv.1 = k then (kv.1, d) else kv) (vs.map fun kv => if kv.1 = k then (kv.1, v) else kv)
  | [], vs, t => by
    cases vs with
    | nil => exact .nil
    | cons p q => cases t.1
  | (j, d') :: kvs, ws, t => by
    obtain ⟨v', vs, rfl, r', t⟩ := t.inv
    have ih := RelK.repl (k := k) r t
    rw [List.map_cons, List.map_cons]
    by_cases h : j = k
    · simp only [h, if_true]
      exact .cons r ih
    · simp only [h, if_false]
      exact .cons r' ih
theorem RelK.put {k : Key} {d : D} {v : V} {kvs : List (Key × D)} {vs : List (Key × V)} (t : RelK K w cl ι H kvs vs) (r : RelD K w cl ι H d v) : RelK K w cl ι H (putD kvs k d) (putK vs k v) := by
  have e : (kvs.any fun kv => decide (kv.1 = k)) = (vs.any fun kv => decide (kv.1 = k)) := by
    have h1 : (kvs.any fun kv => decide (kv.1 = k)) = (kvs.map (·.1)).any fun j => decide (j = k) := by rw [List.any_map]; rfl
    have h2 : (vs.any fun kv => decide (kv.1 = k)) = (vs.map (·.1)).any fun j => decide (j = k) := by rw [List.any_map]; rfl
    rw [h1, h2, t.1]
  unfold putD putK
  rw [e]
  split
  · exact t.repl r
  · exact t.app (.cons r .nil)
theorem RelK.ext {ι' : List Addr} {H' : Hp} (x : Ext ι H ι' H') {kvs : List (Key × D)} {vs : List (Key × V)} (t : RelK K w cl ι H kvs vs) : RelK K w cl ι' H' kvs vs := ⟨t.1, t.2.ext x⟩
theorem dict_rel {d : D} {v : V} {kvs : List (Key × D)} (rs : RelS K w cl ι s H) (r : RelD K w cl ι H d v) (h : dictAt s d = some kvs) : ∃ (n : Nat) (a : Addr) (vs : List (Key × V)), d = .ref n ∧ s[n]? = some (.dK kvs) ∧ v = .ref a ∧ ι[n]? = some a ∧ H a = some (.dK vs) ∧ RelK K w cl ι H kvs vs := by
  cases r <;> simp only [dictAt] at h <;> try cases h
  rename_i n a hn
  split at h
  · rename_i kvs' e
    cases h
    obtain ⟨a', ea, vs, hv, hk, rv⟩ := rs.at_ n _ e
    rw [hn] at ea
    cases ea
    exact ⟨n, _, vs, rfl, e, rfl, hn, hv, hk, rv⟩
  · cases h
theorem key_rel {d : D} {v : V} {k : Key} (r : RelD K w cl ι H d v) (h : keyD d = some k) : v = kV k := by
  cases r <;> simp only [keyD] at h <;> cases h <;> rfl
end
/-! d[k] -/
def dIxK (x y : D) (s : S) : R D := match dictAt s x, keyD y with
  | some kvs, some k => (match valD kvs k with
    | some d => .ok d s
    | none => .bad)
  | _, _ => dIx x y s
section
variable {X : Cx} {cl : Cl} {W : Wish} {pos pos' p apos cpos : Pos} {a b e o : Expr} {ma mb me mo mi : ME}
theorem ix_dK (hu : X.A.units + 1 < cLine) : IxR X (fun x y H Q => ∃ a v, x = .ref a ∧ DGet H a y (some v) ∧ Q v H) := by
  intro value slice pins s σ H x y v u Q I rx ry h hs
  obtain ⟨a, v0, ex, g, q⟩ := h
  subst ex
  obtain rfl : v = Value.ref a := rx
  exact tail_any (dict_typeIs I g) PySem.F.slot_dict_getitem.lookup (d_getItem hu I g ry fun w' s3 I3 rw' => ⟨v0, H, I3, rw', q⟩) hs
theorem d_ixK (hu : X.A.units + 1 < cLine) : IxD X cl dIxK := by
  intro W ι H σ Q s dx dy x y rs rx ry h
  unfold dIxK at h
  split at h
  · rename_i kvs k e1 e2
    obtain ⟨n, a, vs, rfl, _, rfl, _, hv, rk⟩ := dict_rel rs rx e1
    obtain rfl := key_rel ry e2
    have rv := rk.val (k := k)
    split at h
    · rename_i d e3
      rw [e3] at rv
      obtain ⟨v, ev, rd⟩ := rv
      exact ⟨_, ix_dK hu, a, v, rfl, .inl ⟨vs, k, .inl hv, rfl, ev.symm⟩, h ι H _ (Ext.refl _ _) rs rd⟩
    · exact False.elim h
  · exact d_ix W ι H σ Q s dx dy x y rs rx ry h
theorem se_ixK (hu : X.A.units + 1 < cLine) (ha : SE X cl W a ma) (hb : SE X cl W b mb) (hs : PlainIx b := by exact fun _ _ => rfl) : SE X cl W (.Subscript a b pos) (m2 dIxK ma mb) := by
  obtain ⟨ta, pa, qa⟩ := ha.ex
  obtain ⟨tb, pb, qb⟩ := hb.ex
  refine ⟨_, pe_ix anyIx pa pb hs, fun σ H Q ρ ι s e r h => ?_⟩
  refine qa σ H _ ρ ι s e r (PoE.step h fun d s1 ι1 H1 v e1 x1 r1 d1 h1 => ?_)
  refine qb σ H1 _ ρ ι1 s1 (e.ext x1) r1 (PoE.step h1 fun d2 s2 ι2 H2 v2 e2 x2 r2 dd2 h2 => ?_)
  exact d_ixK hu W ι2 H2 σ Q s2 d d2 v v2 r2 (d1.ext x2) dd2 h2
/-! k in d, k not in d -/
def dInK (x y : D) (s : S) : R D := match dictAt s y, keyD x with
  | some kvs, some k => .ok (.bl (valD kvs k).isSome) s
  | _, _ => dIn x y s
def dNotInK (x y : D) (s : S) : R D := match dictAt s y, keyD x with
  | some kvs, some k => .ok (.bl (!(valD kvs k).isSome)) s
  | _, _ => dNotIn x y s
theorem op_in_dK (hu : X.A.units + 1 < cLine) : OpR X (compareOp .In) (fun x y H Q => ∃ a o, y = .ref a ∧ DGet H a x o ∧ Q (.bl o.isSome) H) := by
  intro pins s σ H x y v u Q I rx ry h
  obtain ⟨a, o, ey, g, q⟩ := h
  subst ey
  obtain rfl : u = Value.ref a := ry
  exact L2.d_in hu I g rx fun s3 I3 => ⟨.bl o.isSome, H, I3, rfl, q⟩
theorem op_notin_dK (hu : X.A.units + 1 < cLine) : OpR X (compareOp .NotIn) (fun x y H Q => ∃ a o, y = .ref a ∧ DGet H a x o ∧ Q (.bl (!o.isSome)) H) := by
  intro pins s σ H x y v u Q I rx ry h
  obtain ⟨a, o, ey, g, q⟩ := h
  subst ey
  obtain rfl : u = Value.ref a := ry
  exact L2.d_notIn hu I g rx fun s3 I3 => ⟨.bl (!o.isSome), H, I3, rfl, q⟩
theorem some_rel {K : PySem.W.Frag} {w : World} {ι : List Addr} {H : Hp} {kvs : List (Key × D)} {vs : List (Key × V)} {k : Key} (t : RelK K w cl ι H kvs vs) : (valV vs k).isSome = (valD kvs k).isSome := by
  have rv := t.val (k := k)
  cases e : valD kvs k with
  | none => rw [e] at rv; simp only at rv; rw [rv]; rfl
  | some d => rw [e] at rv; obtain ⟨v, ev, _⟩ := rv; rw [ev]; rfl
theorem d_inK (hu : X.A.units + 65 < cLine) : OpD X cl (compareOp .In) dInK := by
  intro W ι H σ Q s dx dy x y rs rx ry h
  unfold dInK at h
  split at h
  · rename_i kvs k e1 e2
    obtain ⟨n, a, vs, rfl, _, rfl, _, hv, rk⟩ := dict_rel rs ry e1
    obtain rfl := key_rel rx e2
    exact ⟨_, op_in_dK (by omega), a, _, rfl, .inl ⟨vs, k, .inl hv, rfl, rfl⟩, by rw [some_rel rk]; exact h ι H _ (Ext.refl _ _) rs (.bl _)⟩
  · exact d_in hu W ι H σ Q s dx dy x y rs rx ry h
theorem d_notinK (hu : X.A.units + 65 < cLine) : OpD X cl (compareOp .NotIn) dNotInK := by
  intro W ι H σ Q s dx dy x y rs rx ry h
  unfold dNotInK at h
  split at h
  · rename_i kvs k e1 e2
    obtain ⟨n, a, vs, rfl, _, rfl, _, hv, rk⟩ := dict_rel rs ry e1
    obtain rfl := key_rel rx e2
    exact ⟨_, op_notin_dK (by omega), a, _, rfl, .inl ⟨vs, k, .inl hv, rfl, rfl⟩, by rw [some_rel rk]; exact h ι H _ (Ext.refl _ _) rs (.bl _)⟩
  · exact d_notin hu W ι H σ Q s dx dy x y rs rx ry h
/-! d[k] = v -/
def dStoreK (x y v : D) (s : S) : Option S := match x with
  | .ref n => (match s[n]?, keyD y with
    | some (.dK kvs), some k => if kvs.length < sizeLine then some (s.set n (.dK (putD kvs k v))) else none
    | _, _ => dStore x y v s)
  | _ => none
def gSubK (o i : ME) : MG := fun v ρ s => (o ρ s).bind fun x s1 => (i ρ s1).bind fun y s2 => match dStoreK x y v s2 with
  | some s3 => .ok ρ s3
  | none => .bad
theorem sg_subK (hu : X.A.units + 1 < cLine) {o i : Expr} (ho : SE X cl W o mo) (hi : SE X cl W i mi)
    (ha : ∀ v, assign (.Subscript o i pos) X.env v = (do
      let ov ← holding [v] (eval o X.env)
      let iv ← holding [v, ov] (eval i X.env)
      standAt pos
      holding [v, ov, iv] (setItem ov iv v)
      release [v, ov, iv] []) := by intro _; rfl) : SG X cl W (.Subscript o i pos) (gSubK mo mi) := by
  obtain ⟨t, p, q⟩ := ho.ex
  obtain ⟨u, p2, q2⟩ := hi.ex
  obtain ⟨t0, p0, q0⟩ := (sg_sub (pos := pos) ho hi ha).ex
  refine ⟨_, pg_sub p p2 anySet ha, fun d v σ H Q ρ ι s en r rd ⟨ρ1, s1, e1, h⟩ => ?_⟩
  unfold gSubK at e1
  refine q σ H _ ρ ι s en r ?_
  cases e2 : mo ρ s with
  | bad => simp only [e2, R.bind] at e1; cases e1
  | exc x s2 => simp only [e2, R.bind] at e1; cases e1
  | ok x s2 =>
  simp only [e2, R.bind] at e1
  intro ι2 H2 v2 x2 r2 rx
  refine q2 σ H2 _ ρ ι2 s2 (en.ext x2) r2 ?_
  cases e3 : mi ρ s2 with
  | bad => simp only [e3] at e1; cases e1
  | exc x s3 => simp only [e3] at e1; cases e1
  | ok y s3 =>
  simp only [e3] at e1
  intro ι3 H3 v3 x3 r3 ry
  have rx3 := rx.ext x3
  have rd3 := (rd.ext x2).ext x3
  have en3 := (en.ext x2).ext x3
  have h3 : ∀ ι' H' σ', Ext ι3 H3 ι' H' → RelS X.K X.w cl ι' s1 H' → RelE X.K X.w cl ι' H' ρ1 σ' → Q σ' H' := fun ι' H' σ' x => h ι' H' σ' ((x2.trans x3).trans x)
  cases e4 : dStoreK x y d s3 with
  | none => rw [e4] at e1; cases e1
  | some s4 =>
  rw [e4] at e1
  cases e1
  unfold dStoreK at e4
  cases rx3 with
  | @ref n a hn =>
    simp only at e4
    cases e5 : s3[n]? with
    | none => rw [e5] at e4; unfold dStore at e4; cases y <;> simp only [e5] at e4 <;> cases e4
    | some ob =>
    rw [e5] at e4
    cases ob with
    | dK kvs =>
      cases e6 : keyD y with
      | none => rw [e6] at e4; unfold dStore at e4; cases y <;> simp only [e5] at e4 <;> cases e4
      | some k =>
        rw [e6] at e4
        simp only at e4
        split at e4
        · rename_i hl
          cases e4
          obtain ⟨n', a', vs, en', _, ev', hn', hv, rk⟩ := dict_rel r3 (.ref hn) (show dictAt s3 (.ref n) = some kvs by simp only [dictAt, e5])
          cases en'
          cases ev'
          obtain rfl := key_rel ry e6
          have hm : a ∈ ι3 := List.mem_of_getElem? hn
          have xw : Ext ι3 H3 ι3 (upd H3 a (.dK (putK vs k v))) := Ext.write hm
          refine ⟨_, set_dict hu, a, _, rfl, .inl ⟨vs, k, hv, rfl, by rw [← rk.len]; exact hl, rfl⟩, ?_⟩
          exact h3 ι3 _ σ xw (r3.write hn ⟨_, upd_same, (rk.put rd3).ext xw⟩) (en3.ext xw)
        · cases e4
    | ins c fs => unfold dStore at e4; cases y <;> simp only [e5] at e4 <;> cases e4
    | lst xs =>
      have e7 : dStore (.ref n) y d s3 = some s1 := by
        cases y <;> exact e4
      unfold dStore at e7
      cases ry <;> try (simp only at e7; cases e7; done)
      rename_i i
      simp only [e5] at e7
      split at e7
      · rename_i j e8
        cases e7
        obtain ⟨a', ea, vs, hv, rv⟩ := r3.at_ n _ e5
        rw [hn] at ea
        obtain rfl := Option.some.inj ea
        have hm : a ∈ ι3 := List.mem_of_getElem? hn
        have xw : Ext ι3 H3 ι3 (upd H3 a (.lst (vs.set j v))) := Ext.write hm
        refine ⟨_, set_list, a, vs, i, j, rfl, rfl, hv, by rw [← rv.length]; exact e8, ?_⟩
        exact h3 ι3 _ σ xw (r3.write hn ⟨_, upd_same, (RelDs.set rd3 j rv).ext xw⟩) (en3.ext xw)
      · cases e7
  | _ => cases e4
/-! {} -/
def mDictN : ME := fun _ s => .ok (.ref s.length) (s ++ [.dK []])
theorem se_dictN : SE X cl W (.Dict [] [] pos) mDictN := by
  refine ⟨_, pe_dnewK, fun σ H Q ρ ι s en r h => ?_⟩
  intro a hp
  refine h _ _ _ (Ext.push hp) (r.push hp ⟨[], upd_same, rfl, .nil⟩) (.ref ?_)
  rw [List.getElem?_append_right (by rw [r.len]; exact Nat.le_refl _), r.len]
  simp
end
end Pm
namespace Pm
open PySem PySem.Spec PyProof.Rows L2

/-! ### more methods of lists and texts -/
/-- extended by a list of the store -/
def dExtend : D → List D → S → R D
  | .ref n, [.ref m], s => (match s[n]?, s[m]? with
    | some (.lst xs), some (.lst ys) => if xs.length + ys.length ≤ sizeLine then .ok .non (s.set n (.lst (xs ++ ys))) else .bad
    | _, _ => .bad)
  | _, _, _ => .bad
def dInsert : D → List D → S → R D
  | .ref n, [.int i, d], s => (match s[n]? with
    | some (.lst xs) => if xs.length < sizeLine ∧ 0 ≤ i ∧ i < 2 ^ 63 then .ok .non (s.set n (.lst (xs.take i.toNat ++ [d] ++ xs.drop i.toNat))) else .bad
    | _ => .bad)
  | _, _, _ => .bad
def dFind : D → List D → S → R D
  | .str a, [.str b], s => .ok (.int (Txt.find a b)) s
  | _, _, _ => .bad
def dStarts : D → List D → S → R D
  | .str a, [.str b], s => .ok (.bl (Txt.startswith a b)) s
  | _, _, _ => .bad
def dEnds : D → List D → S → R D
  | .str a, [.str b], s => .ok (.bl (Txt.endswith a b)) s
  | _, _, _ => .bad
def allS : List D → Option (List Str)
  | [] => some []
  | .str x :: r => (allS r).map (x :: ·)
  | _ => none
def dJoin : D → List D → S → R D
  | .str a, [d], s => (match lview s d with
    | some ds => (match allS ds with
      | some ys => if (ys.map (·.length)).sum + ys.length * a.length ≤ 16777216 then .ok (.str (Txt.join a ys)) s else .bad
      | none => .bad)
    | none => .bad)
  | _, _, _ => .bad
section
variable {X : Cx} {cl : Cl}
theorem d_extend : MtD X cl "list.extend" dExtend := by
  intro W ι H σ Q s dx ds x xs rs rx rds h
  unfold dExtend at h
  split at h
  · rename_i n m
    split at h
    · rename_i ys zs e e2
      split at h
      · rename_i hl
        obtain ⟨a, vs, rfl, hn, hv, rv⟩ := lst_at rs rx e
        obtain ⟨v, rfl, r⟩ := rds.one
        obtain ⟨b, us, rfl, hn2, hv2, rv2⟩ := lst_at rs r e2
        have hm := List.mem_of_getElem? hn
        have xw : Ext ι H ι (upd H a (.lst (vs ++ us))) := Ext.write hm
        exact ⟨_, mt_extend, a, b, vs, us, rfl, rfl, hv, hv2, by rw [← rv.length, ← rv2.length]; exact hl, h ι _ _ xw (rs.write hn ⟨_, upd_same, (rv.append rv2).ext xw⟩) .non⟩
      · exact False.elim h
    · exact False.elim h
  · exact False.elim h
theorem d_insert : MtD X cl "list.insert" dInsert := by
  intro W ι H σ Q s dx ds x xs rs rx rds h
  unfold dInsert at h
  split at h
  · rename_i n i d
    split at h
    · rename_i ys e
      split at h
      · rename_i hl
        obtain ⟨a, vs, rfl, hn, hv, rv⟩ := lst_at rs rx e
        obtain ⟨v, u, rfl, r, r'⟩ := rds.two
        cases r
        have hm := List.mem_of_getElem? hn
        have xw : Ext ι H ι (upd H a (.lst (vs.take i.toNat ++ [u] ++ vs.drop i.toNat))) := Ext.write hm
        exact ⟨_, mt_insert, a, vs, i, u, rfl, rfl, hv, by rw [← rv.length]; exact hl.1, hl.2.1, hl.2.2, h ι _ _ xw (rs.write hn ⟨_, upd_same, (((rv.take _).append (.cons r' .nil)).append (rv.drop _)).ext xw⟩) .non⟩
      · exact False.elim h
    · exact False.elim h
  · exact False.elim h
theorem d_find : MtD X cl "str.find" dFind := by
  intro W ι H σ Q s dx ds x xs rs rx rds h
  unfold dFind at h
  split at h
  · cases rx
    obtain ⟨v, rfl, r⟩ := rds.one
    cases r
    exact ⟨_, mt_find, _, _, rfl, rfl, h ι H _ (Ext.refl _ _) rs (.int _)⟩
  · exact False.elim h
theorem d_starts : MtD X cl "str.startswith" dStarts := by
  intro W ι H σ Q s dx ds x xs rs rx rds h
  unfold dStarts at h
  split at h
  · cases rx
    obtain ⟨v, rfl, r⟩ := rds.one
    cases r
    exact ⟨_, mt_startswith, _, _, rfl, rfl, h ι H _ (Ext.refl _ _) rs (.bl _)⟩
  · exact False.elim h
theorem d_ends : MtD X cl "str.endswith" dEnds := by
  intro W ι H σ Q s dx ds x xs rs rx rds h
  unfold dEnds at h
  split at h
  · cases rx
    obtain ⟨v, rfl, r⟩ := rds.one
    cases r
    exact ⟨_, mt_endswith, _, _, rfl, rfl, h ι H _ (Ext.refl _ _) rs (.bl _)⟩
  · exact False.elim h
theorem allS_rel {K : PySem.W.Frag} {w : World} {ι : List Addr} {H : Hp} : ∀ {ds : List D} {ys : List Str} {vs : List V}, allS ds = some ys → RelDs K w cl ι H ds vs → vs = ys.map V.str
  | [], ys, _, h, .nil => by cases h; rfl
  | d :: ds, ys, _, h, .cons r t => by
    cases d <;> simp only [allS] at h <;> try cases h
    obtain ⟨zs, h1, rfl⟩ := Option.map_eq_some_iff.mp h
    cases r
    rw [allS_rel h1 t]
    rfl
theorem d_join : MtD X cl "str.join" dJoin := by
  intro W ι H σ Q s dx ds x xs rs rx rds h
  unfold dJoin at h
  split at h
  · cases rx
    obtain ⟨v, rfl, r⟩ := rds.one
    split at h
    · rename_i es e1
      split at h
      · rename_i ys e2
        split at h
        · rename_i hz
          obtain ⟨a, vs, rfl, hl, rv⟩ := lview_at rs r e1
          have ev := allS_rel e2 rv
          subst ev
          exact ⟨_, mt_join, _, a, ys, rfl, rfl, .inl hl.sq, hz, h ι H _ (Ext.refl _ _) rs (.str _)⟩
        · exact False.elim h
      · exact False.elim h
    · exact False.elim h
  · exact False.elim h
end
end Pm
namespace Pm
open PySem PySem.Spec PyProof.Rows L2

/-! ### a comprehension whose list is a thing of the store -/
noncomputable def mLcN (it : MI) (g : MG) (t : MT) (m : ME) (own : List Nat) : ME := fun ρ s => (it ρ s).bind fun p s1 => match mapL p.2 p.1 g t m p.1 (wipeD ρ own) s1 with
  | .ok ds s2 => if p.1.length ≤ sizeLine then .ok (.ref s2.length) (s2 ++ [.lst ds]) else .bad
  | _ => .bad
section
variable {K : PySem.W.Frag} {w : World} {cl : Cl} {ι : List Addr} {H : Hp} {D : Addr}
theorem Ext.adopt : Ext ι (hd (some D) H) (ι ++ [D]) H := ⟨⟨[D], rfl⟩, fun a o e n => ⟨hd_some e, fun m => by
  rcases List.mem_append.mp m with m | m
  · exact n m
  · rw [List.mem_singleton.mp m, hd_self] at e; cases e⟩, fun a e => hd_noneD e⟩
theorem RelS.adopt {s : S} {o : O} (r : RelS K w cl ι s (hd (some D) H)) (nD : D ∉ ι) (ro : RelO K w cl (ι ++ [D]) H o D) : RelS K w cl (ι ++ [D]) (s ++ [o]) H := by
  refine ⟨by rw [List.length_append, List.length_append, r.len]; rfl, List.nodup_append.mpr ⟨r.nd, by simp, fun a ha b hb => ?_⟩, fun n o' e => ?_⟩
  · rw [List.mem_singleton.mp hb]
    rintro rfl
    exact nD ha
  · by_cases hn : n < s.length
    · rw [List.getElem?_append_left hn] at e
      obtain ⟨a, ea, ro'⟩ := r.at_ n o' e
      refine ⟨a, by rw [List.getElem?_append_left (by rw [r.len]; exact hn)]; exact ea, ?_⟩
      cases o' with
      | lst ds => obtain ⟨us, h1, h2⟩ := ro'; exact ⟨us, hd_some h1, h2.ext Ext.adopt⟩
      | ins c fs => obtain ⟨A, dx, us, hc, hk, h1, h2⟩ := ro'; exact ⟨A, dx, us, hc, hk, hd_some h1, h2.ext Ext.adopt⟩
      | dK kvs => obtain ⟨us, h1, hk, h2⟩ := ro'; exact ⟨us, hd_some h1, hk, h2.ext Ext.adopt⟩
    · have hn' : n = s.length := by
        have := (List.getElem?_eq_some_iff.mp e).1
        rw [List.length_append] at this
        simp at this
        omega
      subst hn'
      rw [List.getElem?_append_right (Nat.le_refl _)] at e
      simp at e
      subst e
      exact ⟨D, by rw [List.getElem?_append_right (by rw [r.len]; exact Nat.le_refl _), r.len]; simp, ro⟩
end
/-- the reading of a comprehension -/
theorem lc_readN {X : Cx} {cl : Cl} {W : Wish} {it : MI} {g : MG} {mt : MT} {m : ME} {tg' : TG} {wi : TI} {ow : List Nat} (G : OwnG X.K tg' g ow)
    (q1 : ∀ (σ : L2.St) (H : Hp) (Q : It → Hp → Prop) ρ ι s, RelE X.K X.w cl ι H ρ σ → RelS X.K X.w cl ι s H →
    (match it ρ s with
      | .ok p s1 => ∀ ι' H' J, Ext ι H ι' H' → RelS X.K X.w cl ι' s1 H' → ItOk X.K X.w cl p J ι' H' → Q J H'
      | .exc x s1 => ∀ ι' H' c d, Ext ι H ι' H' → RelS X.K X.w cl ι' s1 H' → RelX X.K X.w cl ι' H' x c d → W c d σ H'
      | .bad => False) → wi σ H Q)
    {σ : L2.St} {H : Hp} {Q : VK} {ρ : Rho} {ι : List Addr} {s : S} (en : RelE X.K X.w cl ι H ρ σ) (r : RelS X.K X.w cl ι s H) (h : PoE X.K X.w cl W ι H σ Q (mLcN it g mt m ow ρ s)) :
    tLc wi tg' (fun σ H Q => ∃ D, tHideT D (tOfT X.K X.w cl mt) σ H Q) (fun σ H Q => ∃ D, tHide D (tOfE X.K X.w cl m) σ H Q) ow σ H Q := by
  unfold mLcN at h
  refine q1 σ H _ ρ ι s en r ?_
  cases e1 : it ρ s with
  | bad => rw [e1] at h; exact h
  | exc x s1 => rw [e1] at h; exact h
  | ok p s1 =>
  rw [e1] at h
  intro ι1 H1 J x1 r1 iok D hD
  simp only [R.bind] at h
  cases e2 : mapL p.2 p.1 g mt m p.1 (wipeD ρ ow) s1 with
  | bad => rw [e2] at h; exact False.elim h
  | exc x s2 => rw [e2] at h; exact False.elim h
  | ok ds s2 =>
  rw [e2] at h
  simp only at h
  by_cases hlen : p.1.length ≤ sizeLine
  rotate_left
  · rw [if_neg hlen] at h; exact False.elim h
  rw [if_pos hlen] at h
  have hid1 : hd (some D) (upd H1 D (.lst [])) = H1 := by rw [hd_upd, hd_id hD]
  -- what is made so far stands at D, hidden from the data; what is left gives the rest
  refine ⟨fun i k H' => k = p.1.length - i ∧ i ≤ p.1.length ∧ ∃ ι' s' acc vs ds', Ext ι1 H1 ι' (hd (some D) H') ∧ RelS X.K X.w cl ι' s' (hd (some D) H') ∧ H' D = some (.lst vs) ∧ RelDs X.K X.w cl ι' (hd (some D) H') acc vs ∧ acc.length ≤ i ∧
      mapL p.2 p.1 g mt m (p.1.drop i) (wipeD ρ ow) s' = .ok ds' s2 ∧ acc ++ ds' = ds,
    ⟨p.1.length, rfl, Nat.zero_le _, ι1, s1, [], [], ds, by rw [hid1]; exact Ext.refl _ _, by rw [hid1]; exact r1, upd_same, .nil, Nat.le_refl _, e2, rfl⟩, ?_⟩
  rintro i k H2 ⟨rfl, hi2, ι2, s3, acc, vs, ds', x2, r2, hD2, rv, hacc, em, ed⟩
  have nD2 : ∀ a, some D = some a → H2 a ≠ none := fun a ea => by cases ea; rw [hD2]; exact fun z => nomatch z
  by_cases hlt : i < p.1.length
  · have edr : p.1.drop i = p.1[i] :: p.1.drop (i + 1) := List.drop_eq_getElem_cons hlt
    rw [edr] at em
    unfold mapL at em
    by_cases hg2 : gOk p.2 p.1 s3
    rotate_left
    · rw [if_neg hg2] at em; cases em
    rw [if_pos hg2] at em
    obtain ⟨go, yl⟩ := (iok (some D) i ι2 H2 s3 nD2 x2 r2 hg2).1 hlt
    refine .inr ⟨go, fun H' => i + 1 ≤ p.1.length ∧ ∃ ι' s' acc vs ds', Ext ι1 H1 ι' (hd (some D) H') ∧ RelS X.K X.w cl ι' s' (hd (some D) H') ∧ H' D = some (.lst vs) ∧ RelDs X.K X.w cl ι' (hd (some D) H') acc vs ∧ acc.length ≤ i + 1 ∧
      mapL p.2 p.1 g mt m (p.1.drop (i + 1)) (wipeD ρ ow) s' = .ok ds' s2 ∧ acc ++ ds' = ds, fun H' ⟨h5, h6⟩ => ⟨p.1.length - (i + 1), by omega, rfl, h5, h6⟩, fun x H3 y => ?_⟩
    obtain ⟨sameD, d, ed2, x3, r3, rd⟩ := yl x H3 y
    rw [List.getElem?_eq_getElem hlt] at ed2
    cases ed2
    have hD3 : H3 D = some (.lst vs) := by rw [sameD D rfl]; exact hD2
    have en3 : RelE X.K X.w cl ι2 (hd (some D) H3) (wipeD ρ ow) (L2.wipe σ ow) := (((en.ext x1).ext x2).ext x3).wipe _
    cases e4 : g p.1[i] (wipeD ρ ow) s3 with
    | bad => rw [e4] at em; cases em
    | exc x s4 => rw [e4] at em; cases em
    | ok ρ4 s4 =>
    rw [e4] at em
    simp only at em
    refine G.run (z := some D) en3 rd e4 fun es σ4 en4 hw => ⟨by rw [hw, wipe_wipe], D, vs, hD3, ρ4, ι2, s4, en4, by rw [es]; exact r3, ?_⟩
    cases e5 : mt ρ4 s4 with
    | bad => rw [e5] at em; cases em
    | exc x s5 => rw [e5] at em; cases em
    | ok b s5 =>
    rw [e5] at em
    intro ι5 H5 x5 r5 hn5
    have h5 : hd (some D) (upd H5 D (.lst vs)) = H5 := by rw [hd_upd, hd_id hn5]
    cases b with
    | true =>
      simp only [if_true] at em ⊢
      refine ⟨D, vs, upd_same, ρ4, ι5, s5, by rw [h5]; exact en4.ext x5, by rw [h5]; exact r5, ?_⟩
      cases e6 : m ρ4 s5 with
      | bad => rw [e6] at em; cases em
      | exc x s6 => rw [e6] at em; cases em
      | ok d6 s6 =>
      rw [e6] at em
      intro ι6 H6 v6 x6 r6 rd6 hn6
      rw [h5] at x6
      simp only at em
      cases e7 : mapL p.2 p.1 g mt m (p.1.drop (i + 1)) (wipeD ρ ow) s6 with
      | bad => rw [e7] at em; cases em
      | exc x s7 => rw [e7] at em; cases em
      | ok ds7 s7 =>
      rw [e7] at em
      cases em
      have hvl : vs.length = acc.length := rv.length.symm
      have h6 : hd (some D) (upd (upd H6 D (.lst vs)) D (.lst (vs ++ [v6]))) = H6 := by rw [hd_upd, hd_upd, hd_id hn6]
      refine ⟨vs, upd_same, by omega, hlt, ι6, s6, acc ++ [d6], vs ++ [v6], ds7, ?_, ?_, upd_same, ?_, ?_, e7, by rw [List.append_assoc]; exact ed⟩
      · rw [h6]; exact ((x2.trans x3).trans x5).trans x6
      · rw [h6]; exact r6
      · rw [h6]; exact (((rv.ext x3).ext x5).ext x6).append (.cons rd6 .nil)
      · rw [List.length_append]; exact Nat.succ_le_succ hacc
    | false =>
      simp only [Bool.false_eq_true, if_false] at em ⊢
      refine ⟨hlt, ι5, s5, acc, vs, ds', ?_, ?_, upd_same, ?_, by omega, em, ed⟩
      · rw [h5]; exact (x2.trans x3).trans x5
      · rw [h5]; exact r5
      · rw [h5]; exact (rv.ext x3).ext x5
  · have e : p.1.drop i = [] := List.drop_eq_nil_of_le (by omega)
    rw [e] at em
    unfold mapL at em
    by_cases hg2 : gOk p.2 p.1 s3
    · rw [if_pos hg2] at em
      cases em
      rw [List.append_nil] at ed
      subst ed
      have nD : H2 D ≠ none := by rw [hD2]; exact fun z => nomatch z
      refine .inl ⟨(iok (some D) i ι2 H2 _ nD2 x2 r2 hg2).2 (by omega), ?_⟩
      have rs2 := r2.unhide nD
      have nDi : D ∉ ι2 := r2.notin hd_self
      refine h (ι2 ++ [D]) H2 (.ref D) ((x1.trans x2).trans Ext.adopt) (r2.adopt nDi ⟨vs, hD2, rv.ext Ext.adopt⟩) (.ref ?_)
      rw [List.getElem?_append_right (by rw [r2.len]; exact Nat.le_refl _), r2.len]
      simp
    · rw [if_neg hg2] at em; cases em
theorem se_lcN {X : Cx} {cl : Cl} {W : Wish} {elt tg iter : Expr} {ifs : List Expr} {scope : Scope} {own : List (Str × Nat)} {pos : Pos} {it : MI} {g : MG} {mt : MT} {m : ME} {tg' : TG}
    (hc : X.calm = true) (hN : X.N.Nodup) (hi : SI X cl W tg iter it) (ok : BlkOk X.N X.env.scope scope own) (G : OwnG X.K tg' g (own.map (·.2)))
    (hg : ∀ (s : Shared) (H : Hp) (C : Addr) (cs : List (Str × Addr)) (fp : List Addr), PG (X.blk s H scope (compEnvC scope cs C X.env) fp) tg tg')
    (ht : ∀ (s : Shared) (H : Hp) (C : Addr) (cs : List (Str × Addr)) (fp : List Addr), SP1 (X.blk s H scope (compEnvC scope cs C X.env) fp) cl W0 ifs mt)
    (he : ∀ (s : Shared) (H : Hp) (C : Addr) (cs : List (Str × Addr)) (fp : List Addr), SE (X.blk s H scope (compEnvC scope cs C X.env) fp) cl W0 elt m)
    (hs : ∀ x, foldedSetIterable iter X.env x = pure x := by intro _; rfl) : SE X cl W (.ListComp elt [⟨tg, iter, ifs, 0⟩] scope pos) (mLcN it g mt m (own.map (·.2))) := by
  obtain ⟨wi, p1, q1⟩ := hi.ex
  have ht' : ∀ (s : Shared) (H : Hp) (C : Addr) (cs : List (Str × Addr)) (fp : List Addr), PTs (X.blk s H scope (compEnvC scope cs C X.env) fp) ifs (fun σ H Q => ∃ D, tHideT D (tOfT X.K X.w cl mt) σ H Q) := fun s H C cs fp => pts_hideA (SP1.pe (ht s H C cs fp))
  have he' : ∀ (s : Shared) (H : Hp) (C : Addr) (cs : List (Str × Addr)) (fp : List Addr), PE (X.blk s H scope (compEnvC scope cs C X.env) fp) elt (fun σ H Q => ∃ D, tHide D (tOfE X.K X.w cl m) σ H Q) := fun s H C cs fp => pe_hideA (SE.pe (he s H C cs fp))
  exact ⟨_, pe_lc hc hN p1 ok hg ht' he' hs, fun σ H Q ρ ι s en r h => lc_readN (W := W) G q1 en r h⟩
/-- y = [..] on one line -/
theorem ss_setLcN {X : Cx} {cl : Cl} {W : Wish} {y : Str} {py spos : Pos} {elt tg iter : Expr} {ifs : List Expr} {scope : Scope} {own : List (Str × Nat)} {pos : Pos} {it : MI} {g : MG} {mt : MT} {m : ME} {tg' : TG} (i : Nat)
    (hc : X.calm = true) (hN : X.N.Nodup) (hi : SI X cl W tg iter it) (ok : BlkOk X.N X.env.scope scope own) (G : OwnG X.K tg' g (own.map (·.2)))
    (hg : ∀ (s : Shared) (H : Hp) (C : Addr) (cs : List (Str × Addr)) (fp : List Addr), PG (X.blk s H scope (compEnvC scope cs C X.env) fp) tg tg')
    (ht : ∀ (s : Shared) (H : Hp) (C : Addr) (cs : List (Str × Addr)) (fp : List Addr), SP1 (X.blk s H scope (compEnvC scope cs C X.env) fp) cl W0 ifs mt)
    (he : ∀ (s : Shared) (H : Hp) (C : Addr) (cs : List (Str × Addr)) (fp : List Addr), SE (X.blk s H scope (compEnvC scope cs C X.env) fp) cl W0 elt m)
    (hsw : swapsWith (.ListComp elt [⟨tg, iter, ifs, 0⟩] scope pos) (some (.Name y py)) spos.line X.env = pure true)
    (hy : X.N[i]? = some y := by rfl) (hyl : X.env.scope.names.lookup y = some .local := by rfl)
    (hs : ∀ x, foldedSetIterable iter X.env x = pure x := by intro _; rfl) : SS X cl W (.Assign [.Name y py] (.ListComp elt [⟨tg, iter, ifs, 0⟩] scope pos) spos) (sSet i (mLcN it g mt m (own.map (·.2)))) := by
  obtain ⟨wi, p1, q1⟩ := hi.ex
  have ht' : ∀ (s : Shared) (H : Hp) (C : Addr) (cs : List (Str × Addr)) (fp : List Addr), PTs (X.blk s H scope (compEnvC scope cs C X.env) fp) ifs (fun σ H Q => ∃ D, tHideT D (tOfT X.K X.w cl mt) σ H Q) := fun s H C cs fp => pts_hideA (SP1.pe (ht s H C cs fp))
  have he' : ∀ (s : Shared) (H : Hp) (C : Addr) (cs : List (Str × Addr)) (fp : List Addr), PE (X.blk s H scope (compEnvC scope cs C X.env) fp) elt (fun σ H Q => ∃ D, tHide D (tOfE X.K X.w cl m) σ H Q) := fun s H C cs fp => pe_hideA (SE.pe (he s H C cs fp))
  refine ⟨_, ps_setLc hc hN hy hyl hsw p1 ok hg ht' he' hs, fun Dn σ H ρ ι s en r h => ?_⟩
  refine lc_readN (W := W) G q1 en r (PoS.stepE en h fun d s1 ι1 H1 v e1 x1 r1 d1 h1 => h1 ι1 H1 _ (Ext.refl _ _) r1 ((en.ext x1).set d1))
end Pm
namespace Pm
open PySem PySem.Spec PyProof.Rows L2

/-! ### {k: v, ..}, the keys written out -/
def mergeD (kvs more : List (Key × D)) : List (Key × D) := more.foldl (fun acc kv => putD acc kv.1 kv.2) kvs
def mDisp (ks : List Key) (ms : MA) : ME := fun ρ s => (ms ρ (s ++ [.dK []])).bind fun ds s1 => match s1[s.length]? with
  | some (.dK []) => if ds.length = ks.length ∧ ks.length ≤ 15 then .ok (.ref s.length) (s1.set s.length (.dK (mergeD [] (ks.zip ds)))) else .bad
  | _ => .bad
section
variable {K : PySem.W.Frag} {w : World} {cl : Cl} {ι : List Addr} {H : Hp}
theorem RelK.zip : ∀ {ks : List Key} {ds : List D} {vs : List V}, RelDs K w cl ι H ds vs → RelK K w cl ι H (ks.zip ds) (ks.zip vs)
  | [], _, _, _ => by simp only [List.zip_nil_left]; exact .nil
  | k :: ks, _, _, .nil => .nil
  | k :: ks, _, _, .cons r t => .cons r (RelK.zip t)
theorem RelK.merge : ∀ {more : List (Key × D)} {more' : List (Key × V)} {kvs : List (Key × D)} {vs : List (Key × V)}, RelK K w cl ι H more more' → RelK K w cl ι H kvs vs → RelK K w cl ι H (mergeD kvs more) (mergeK vs more')
  | [], more', kvs, vs, t, q => by
    cases more' with
    | nil => exact q
    | cons p r => cases t.1
  | (k, d) :: more, ws, kvs, vs, t, q => by
    obtain ⟨v, vs', rfl, r, t⟩ := t.inv
    show RelK K w cl ι H (mergeD (putD kvs k d) more) (mergeK (putK vs k v) vs')
    exact RelK.merge t (q.put r)
end
structure SPP (X : Cx) (cl : Cl) (W : Wish) (pos : Pos) (keys : List (Option Expr)) (vals : List Expr) (ks : List Key) (ms : MA) : Prop where
  ex : ∃ trs, PPs X pos keys vals trs ∧ ∀ (σ : L2.St) (H : Hp) (Q : List (V × V) → Hp → Prop) ρ ι s, RelE X.K X.w cl ι H ρ σ → RelS X.K X.w cl ι s H →
    PoA X.K X.w cl W ι H σ (fun vs H' => ks.length = vs.length → Q ((ks.map kV).zip vs) H') (ms ρ s) → tPairs trs σ H Q
section
variable {X : Cx} {cl : Cl} {W : Wish} {pos : Pos} {keys : List (Option Expr)} {vals : List Expr} {ks : List Key} {ms : MA}
theorem spp_nil : SPP X cl W pos [] [] [] aNil := ⟨_, pps_nil, fun σ H Q ρ ι s _ r h => h ι H [] (Ext.refl _ _) r .nil rfl⟩
theorem spp_cons {k : Key} {e e2 : Expr} {m : ME} (hk : PE X e (tC (kV k))) (hv : SE X cl W e2 m) (hr : SPP X cl W pos keys vals ks ms) : SPP X cl W pos (some e :: keys) (e2 :: vals) (k :: ks) (aCons m ms) := by
  obtain ⟨t, p1, q1⟩ := hv.ex
  obtain ⟨trs, p2, q2⟩ := hr.ex
  refine ⟨_, pps_cons hk p1 p2, fun σ H Q ρ ι s en r h => ?_⟩
  show t σ H _
  refine q1 σ H _ ρ ι s en r (PoA.stepE h fun d s1 ι1 H1 v e1 x1 r1 d1 h1 => ?_)
  refine q2 σ H1 _ ρ ι1 s1 (en.ext x1) r1 (PoA.stepA h1 fun ds s2 ι2 H2 vs e2 x2 r2 d2 h2 => ?_)
  intro hl
  exact h2 ι2 H2 _ (Ext.refl _ _) r2 (.cons (d1.ext x2) d2) (by simp [hl])
theorem zip_kV : ∀ (ks : List Key) (vs : List V), (ks.map kV).zip vs = (ks.zip vs).map fun kv => (kV kv.1, kv.2)
  | [], vs => by simp
  | k :: ks, [] => by simp
  | k :: ks, v :: vs => by simp [zip_kV ks vs]
theorem se_disp (h : SPP X cl W pos keys vals ks ms) (hall : keys.all (·.isSome) = true := by rfl) (hl : keys.length = vals.length := by rfl) (h0 : keys ≠ [] := by exact fun z => nomatch z) (h15 : keys.length ≤ 15 := by decide) : SE X cl W (.Dict keys vals pos) (mDisp ks ms) := by
  obtain ⟨trs, p1, q1⟩ := h.ex
  refine ⟨_, pe_disp p1 hall hl h0 h15, fun σ H Q ρ ι s en r h => ?_⟩
  intro p hp
  have xp : Ext ι H (ι ++ [p]) (upd H p (.dK [])) := Ext.push hp
  have rp : RelS X.K X.w cl (ι ++ [p]) (s ++ [.dK []]) (upd H p (.dK [])) := r.push hp ⟨[], upd_same, rfl, .nil⟩
  have hx : (ι ++ [p])[s.length]? = some p := by rw [List.getElem?_append_right (by rw [r.len]; exact Nat.le_refl _), r.len]; simp
  refine q1 σ _ _ ρ (ι ++ [p]) (s ++ [.dK []]) (en.ext xp) rp ?_
  unfold mDisp at h
  cases e1 : ms ρ (s ++ [.dK []]) with
  | bad => rw [e1] at h; exact h
  | exc x s1 => rw [e1] at h; exact fun ι2 H2 c dd x2 => h ι2 H2 c dd (xp.trans x2)
  | ok ds s1 =>
  rw [e1] at h
  intro ι2 H2 vs x2 r2 rd hlen
  simp only [R.bind] at h
  cases e2 : s1[s.length]? with
  | none => rw [e2] at h; exact False.elim h
  | some o =>
  rw [e2] at h
  cases o with
  | lst xs => exact False.elim h
  | ins c fs => exact False.elim h
  | dK kvs =>
  cases kvs with
  | cons a b => exact False.elim h
  | nil =>
  simp only at h
  split at h
  · rename_i hc
    obtain ⟨a, ea, vs0, hv, hk, _⟩ := r2.at_ _ _ e2
    rw [x2.at hx] at ea
    obtain rfl := Option.some.inj ea
    have hv0 : vs0 = [] := by
      cases vs0 with
      | nil => rfl
      | cons q r => cases hk
    subst hv0
    refine ⟨hv, ks.zip vs, zip_kV ks vs, by rw [List.length_zip]; omega, ?_⟩
    have hn : ι2[s.length]? = some p := x2.at hx
    have hm := List.mem_of_getElem? hn
    have xw : Ext ι2 H2 ι2 (upd H2 p (.dK (mergeK [] (ks.zip vs)))) := Ext.write hm
    have rk : RelK X.K X.w cl ι2 H2 (mergeD [] (ks.zip ds)) (mergeK [] (ks.zip vs)) := RelK.merge (RelK.zip rd) .nil
    exact h ι2 _ _ ((xp.trans x2).trans xw) (r2.write hn ⟨_, upd_same, (rk.ext xw).1, (rk.ext xw).2⟩) (.ref hn)
  · exact False.elim h
end
/-! ### text * number -/
def dMulS (x y : D) (s : S) : R D := match x, y with
  | .str a, .int n => if n ≤ 0 ∧ -(2 ^ 62) ≤ n then .ok (.str Str.empty) s else if n = 1 then .ok (.str a) s else .bad
  | x, y => dMul x y s
section
variable {X : Cx} {cl : Cl}
theorem op_mulS0 : OpR X (binaryOp .Mult) (fun x y H Q => ∃ a n, x = .str a ∧ y = .int n ∧ n ≤ 0 ∧ -(2 ^ 62) ≤ n ∧ Q (.str Str.empty) H) := by
  intro pins s σ H x y v u Q I rx ry h
  obtain ⟨a, n, rfl, rfl, h0, h1, q⟩ := h
  obtain ⟨t, rfl⟩ := rx
  obtain ⟨t', rfl⟩ := ry
  exact P.mul_str_none (by omega) (by omega) ⟨.str Str.empty, H, I.tok _, ⟨_, rfl⟩, q⟩
theorem op_mulS1 : OpR X (binaryOp .Mult) (fun x y H Q => ∃ a, x = .str a ∧ y = .int 1 ∧ Q (.str a) H) := by
  intro pins s σ H x y v u Q I rx ry h
  obtain ⟨a, rfl, rfl, q⟩ := h
  obtain ⟨t, rfl⟩ := rx
  obtain ⟨t', rfl⟩ := ry
  refine P.mul_str (by decide) (fun _ z => by simp at z) (fun _ z => by simp at z) ?_
  rw [if_neg (by decide), if_pos (by simp)]
  exact ⟨.str a, H, I, ⟨_, rfl⟩, q⟩
theorem d_mulS : OpD X cl (binaryOp .Mult) dMulS := by
  intro W ι H σ Q s dx dy x y rs rx ry h
  unfold dMulS at h
  split at h
  · cases rx; cases ry
    split at h
    · rename_i hn
      exact ⟨_, op_mulS0, _, _, rfl, rfl, hn.1, hn.2, h ι H _ (Ext.refl _ _) rs (.str _)⟩
    · split at h
      · rename_i h1
        subst h1
        exact ⟨_, op_mulS1, _, rfl, rfl, h ι H _ (Ext.refl _ _) rs (.str _)⟩
      · exact False.elim h
  · exact d_mul W ι H σ Q s dx dy x y rs rx ry h
end
end Pm
namespace Pm
open PySem PySem.Spec PyProof.Rows L2
/-! ### a + b of lists, the new list a thing of the store -/
def dAddN (x y : D) (s : S) : R D := match lview s x, lview s y with
  | some a, some b => if a.length + b.length ≤ sizeLine then .ok (.ref s.length) (s ++ [.lst (a ++ b)]) else .bad
  | _, _ => dAdd x y s
section
variable {X : Cx} {cl : Cl}
theorem d_addN : OpD X cl (binaryOp .Add) dAddN := by
  intro W ι H σ Q s dx dy x y rs rx ry h
  unfold dAddN at h
  split at h
  · rename_i a b e1 e2
    split at h
    · rename_i hl
      obtain ⟨p, vs, rfl, h1, r1⟩ := lview_at rs rx e1
      obtain ⟨q, us, rfl, h2, r2⟩ := lview_at rs ry e2
      refine ⟨_, op_catS, p, q, vs, us, rfl, rfl, h1.sq, h2.sq, by rw [← r1.length, ← r2.length]; exact hl, fun l hn => ?_⟩
      obtain ⟨x1, x2, x3⟩ := new_ref rs (r1.append r2) hn
      exact h _ _ _ x1 x2 x3
    · exact False.elim h
  · exact d_add W ι H σ Q s dx dy x y rs rx ry h
end
end Pm
namespace Pm
open PySem PySem.Spec PyProof.Rows L2

/-! ### numbers of exceptions -/
mutual
def kxD : D → Nat
  | .tup xs => kxDs xs
  | .lst xs => kxDs xs
  | .ins _ fs => kxFs fs
  | .dic kvs => kxFs kvs
  | .exn k _ _ => k + 1
  | _ => 0
def kxDs : List D → Nat
  | [] => 0
  | x :: xs => max (kxD x) (kxDs xs)
def kxFs : List (Str × D) → Nat
  | [] => 0
  | (_, x) :: xs => max (kxD x) (kxFs xs)
end
def kxO : O → Nat
  | .lst xs => kxDs xs
  | .ins _ fs => kxFs fs
  | .dK kvs => kxDs (kvs.map (·.2))
def kxS : S → Nat
  | [] => 0
  | o :: s => max (kxO o) (kxS s)
def kxR : Rho → Nat
  | [] => 0
  | some d :: ρ => max (kxD d) (kxR ρ)
  | none :: ρ => kxR ρ
theorem kxS_at : ∀ {s : S} {n : Nat} {o : O}, s[n]? = some o → kxO o ≤ kxS s
  | [], n, o, h => by simp at h
  | o' :: s, 0, o, h => by cases h; exact Nat.le_max_left _ _
  | o' :: s, n + 1, o, h => Nat.le_trans (kxS_at (s := s) (n := n) h) (Nat.le_max_right _ _)
theorem kxR_at : ∀ {ρ : Rho} {n : Nat} {d : D}, ρ[n]? = some (some d) → kxD d ≤ kxR ρ
  | [], n, o, h => by simp at h
  | some d' :: s, 0, o, h => by cases h; exact Nat.le_max_left _ _
  | none :: s, 0, o, h => by cases h
  | some d' :: s, n + 1, o, h => Nat.le_trans (kxR_at (ρ := s) (n := n) h) (Nat.le_max_right _ _)
  | none :: s, n + 1, o, h => kxR_at (ρ := s) (n := n) h
section
variable {K : PySem.W.Frag} {w : World} {cl : Cl} {ι : List Addr} {H : Hp} {k : Nat} {t : Addr × Addr × Addr}
mutual
theorem RelD.enter (hx : cl.ex = none) : ∀ {d : D} {v : V}, RelD K w cl ι H d v → kxD d ≤ k → RelD K w ⟨cl.of, some (k, t)⟩ ι H d v
  | _, _, .non, _ => .non
  | _, _, .bl b, _ => .bl b
  | _, _, .int i, _ => .int i
  | _, _, .str y, _ => .str y
  | _, _, .tup h r, l => .tup h (RelDs.enter hx r (by simpa [kxD] using l))
  | _, _, .lst h r, l => .lst h (RelDs.enter hx r (by simpa [kxD] using l))
  | _, _, .ref h, _ => .ref h
  | _, _, .ins hc hk h ha r, l => .ins hc hk h ha (RelFs.enter hx r (by simpa [kxD] using l))
  | _, _, .glo a, _ => .glo a
  | _, _, .ty m, _ => .ty m
  | _, _, .dic h r, l => .dic h (RelFs.enter hx r (by simpa [kxD] using l))
  | _, _, .exn he _ _ _ _, _ => by rw [hx] at he; cases he
  | _, _, .old _, l => .old fun t ht z => by
      cases ht
      simp only [kxD] at l
      simp only at z
      omega
theorem RelDs.enter (hx : cl.ex = none) : ∀ {ds : List D} {vs : List V}, RelDs K w cl ι H ds vs → kxDs ds ≤ k → RelDs K w ⟨cl.of, some (k, t)⟩ ι H ds vs
  | _, _, .nil, _ => .nil
  | _, _, .cons r q, l => .cons (RelD.enter hx r (by simp only [kxDs] at l; omega)) (RelDs.enter hx q (by simp only [kxDs] at l; omega))
theorem RelFs.enter (hx : cl.ex = none) : ∀ {ds : List (Str × D)} {vs : List (Str × V)}, RelFs K w cl ι H ds vs → kxFs ds ≤ k → RelFs K w ⟨cl.of, some (k, t)⟩ ι H ds vs
  | _, _, .nil, _ => .nil
  | _, _, .cons r q, l => .cons (RelD.enter hx r (by simp only [kxFs] at l; omega)) (RelFs.enter hx q (by simp only [kxFs] at l; omega))
end
mutual
theorem RelD.leave (hx : cl.ex = none) {e : Option (Nat × Addr × Addr × Addr)} : ∀ {d : D} {v : V}, RelD K w ⟨cl.of, e⟩ ι H d v → RelD K w cl ι H d v
  | _, _, .non => .non
  | _, _, .bl b => .bl b
  | _, _, .int i => .int i
  | _, _, .str y => .str y
  | _, _, .tup h r => .tup h (RelDs.leave hx r)
  | _, _, .lst h r => .lst h (RelDs.leave hx r)
  | _, _, .ref h => .ref h
  | _, _, .ins hc hk h ha r => .ins hc hk h ha (RelFs.leave hx r)
  | _, _, .glo a => .glo a
  | _, _, .ty m => .ty m
  | _, _, .dic h r => .dic h (RelFs.leave hx r)
  | _, _, .exn _ _ _ _ _ => .old fun t ht => by rw [hx] at ht; cases ht
  | _, _, .old _ => .old fun t ht => by rw [hx] at ht; cases ht
theorem RelDs.leave (hx : cl.ex = none) {e : Option (Nat × Addr × Addr × Addr)} : ∀ {ds : List D} {vs : List V}, RelDs K w ⟨cl.of, e⟩ ι H ds vs → RelDs K w cl ι H ds vs
  | _, _, .nil => .nil
  | _, _, .cons r q => .cons (RelD.leave hx r) (RelDs.leave hx q)
theorem RelFs.leave (hx : cl.ex = none) {e : Option (Nat × Addr × Addr × Addr)} : ∀ {ds : List (Str × D)} {vs : List (Str × V)}, RelFs K w ⟨cl.of, e⟩ ι H ds vs → RelFs K w cl ι H ds vs
  | _, _, .nil => .nil
  | _, _, .cons r q => .cons (RelD.leave hx r) (RelFs.leave hx q)
end
theorem RelS.enter (hx : cl.ex = none) {s : S} (r : RelS K w cl ι s H) (hk : kxS s ≤ k) : RelS K w ⟨cl.of, some (k, t)⟩ ι s H := by
  refine ⟨r.len, r.nd, fun n o e => ?_⟩
  obtain ⟨a, ha, ro⟩ := r.at_ n o e
  have hl := Nat.le_trans (kxS_at e) hk
  refine ⟨a, ha, ?_⟩
  cases o with
  | lst xs => obtain ⟨vs, hv, rv⟩ := ro; exact ⟨vs, hv, rv.enter hx hl⟩
  | ins c fs => obtain ⟨A, dx, vs, hc, hk, hv, rv⟩ := ro; exact ⟨A, dx, vs, hc, hk, hv, rv.enter hx hl⟩
  | dK kvs => obtain ⟨vs, hv, hk, rv⟩ := ro; exact ⟨vs, hv, hk, rv.enter hx hl⟩
theorem RelS.leave (hx : cl.ex = none) {e : Option (Nat × Addr × Addr × Addr)} {s : S} (r : RelS K w ⟨cl.of, e⟩ ι s H) : RelS K w cl ι s H := by
  refine ⟨r.len, r.nd, fun n o e => ?_⟩
  obtain ⟨a, ha, ro⟩ := r.at_ n o e
  refine ⟨a, ha, ?_⟩
  cases o with
  | lst xs => obtain ⟨vs, hv, rv⟩ := ro; exact ⟨vs, hv, rv.leave hx⟩
  | ins c fs => obtain ⟨A, dx, vs, hc, hk, hv, rv⟩ := ro; exact ⟨A, dx, vs, hc, hk, hv, rv.leave hx⟩
  | dK kvs => obtain ⟨vs, hv, hk, rv⟩ := ro; exact ⟨vs, hv, hk, rv.leave hx⟩
theorem RelE.enter (hx : cl.ex = none) {ρ : Rho} {σ : L2.St} (r : RelE K w cl ι H ρ σ) (hk : kxR ρ ≤ k) : RelE K w ⟨cl.of, some (k, t)⟩ ι H ρ σ :=
  ⟨r.len, fun i d h => let ⟨v, hv, rv⟩ := r.at_ i d h; ⟨v, hv, rv.enter hx (Nat.le_trans (kxR_at h) hk)⟩⟩
theorem RelE.leave (hx : cl.ex = none) {e : Option (Nat × Addr × Addr × Addr)} {ρ : Rho} {σ : L2.St} (r : RelE K w ⟨cl.of, e⟩ ι H ρ σ) : RelE K w cl ι H ρ σ :=
  ⟨r.len, fun i d h => let ⟨v, hv, rv⟩ := r.at_ i d h; ⟨v, hv, rv.leave hx⟩⟩
theorem RelE.none {ρ : Rho} {σ : L2.St} {i : Nat} {o : Option V} (r : RelE K w cl ι H ρ σ) : RelE K w cl ι H (ρ.set i none) (σ.set i o) := by
  refine ⟨by rw [List.length_set, List.length_set]; exact r.len, fun j d h => ?_⟩
  by_cases hij : i = j
  · subst hij
    by_cases hi : i < ρ.length
    · rw [List.getElem?_set_self hi] at h
      cases h
    · rw [List.getElem?_eq_none (by rw [List.length_set]; omega)] at h
      cases h
  · rw [List.getElem?_set_ne hij] at h ⊢
    exact r.at_ j d h
end

/-! ### try -/
/-- a clause: which classes it takes, the slot of its name, its suite -/
structure Hd where
  p : Str → Option Bool
  i : Option Nat
  m : Nat → MS
def setO (i : Option Nat) (o : Option D) (ρ : Rho) : Rho := match i with
  | some i => ρ.set i o
  | none => ρ
def hdEnd (i : Option Nat) : RS → RS
  | .ok (.nx ρ) s => .ok (.nx (setO i none ρ)) s
  | .ok (.bk ρ) s => .ok (.bk (setO i none ρ)) s
  | .ok (.ct ρ) s => .ok (.ct (setO i none ρ)) s
  | .ok (.rt d) s => .ok (.rt d) s
  | _ => .bad
def kxx (ρ : Rho) (s : S) (fs : List (Str × D)) : Nat := max (max (kxR ρ) (kxS s)) (kxFs fs)
def hdM (c : Str) (fs : List (Str × D)) (ρ : Rho) (s : S) : List Hd → RS
  | [] => .exc (.ins c fs) ρ s
  | h :: r => match h.p c with
    | some true => hdEnd h.i (h.m (kxx ρ s fs) (setO h.i (some (.exn (kxx ρ s fs) c fs)) ρ) s)
    | some false => hdM c fs ρ s r
    | none => .bad
def sTry (b : MS) (hs : List Hd) : MS := fun ρ s => match b ρ s with
  | .exc (.ins c fs) ρ1 s1 => hdM c fs ρ1 s1 hs
  | .exc _ _ _ => .bad
  | r => r
/-- what a block's simulation says, told at the data's level -/
def tOfS (K : PySem.W.Frag) (w : World) (cl : Cl) (W : Wish) (m : MS) : TS := fun Dn σ H => ∃ ρ ι s, RelE K w cl ι H ρ σ ∧ RelS K w cl ι s H ∧ PoS K w cl W ι H Dn (m ρ s)
theorem PSs.wk {X : Cx} {sts : List Stmt} {t t' : TS} (h : PSs X sts t) (k : ∀ D σ H, t' D σ H → t D σ H) : PSs X sts t' := ⟨fun pins s σ H D I q => h.run pins s σ H D I (k _ _ _ q)⟩
theorem SSs.pss {X : Cx} {cl : Cl} {W : Wish} {sts : List Stmt} {m : MS} (h : SSs X cl W sts m) : PSs X sts (tOfS X.K X.w cl W m) := by
  obtain ⟨t, p, q⟩ := h.ex
  exact PSs.wk p fun D σ H ⟨ρ, ι, s, e, r, z⟩ => q D σ H ρ ι s e r z
/-- a suite: the exception a of the class at A, its dict at dd -/
def tSu (K : PySem.W.Frag) (w : World) (c0 : Str → Option Addr) (m : Nat → MS) (a : Addr) (cls : Value) (d : Option Addr) : TS := fun Dn σ H =>
  ∃ k A dd, cls = .ref A ∧ d = some dd ∧ tOfS K w ⟨c0, some (k, a, dd, A)⟩ W0 (m k) Dn σ H
/-- the suite's simulation, whichever exception it holds -/
structure SU (X : Cx) (c0 : Str → Option Addr) (sts : List Stmt) (m : Nat → MS) : Prop where
  su : ∀ (k : Nat) (a dd A : Addr) (oe : Obj) (pn : List (Addr × Obj)), Zc (.ref A) (some dd) oe → (∃ vs, oe.data = .fields vs) → SSs (X.suite a ((a, oe) :: pn)) ⟨c0, some (k, a, dd, A)⟩ W0 sts (m k)
theorem SU.pss {X : Cx} {c0 : Str → Option Addr} {sts : List Stmt} {m : Nat → MS} (h : SU X c0 sts m) (a : Addr) (oe : Obj) (cls : Value) (d : Option Addr) (pn : List (Addr × Obj)) (hz : Zc cls d oe) (hf : ∃ vs, oe.data = .fields vs) :
    PSs (X.suite a ((a, oe) :: pn)) sts (tSu X.K X.w c0 m a cls d) := by
  refine ⟨fun pins s σ H D I q => ?_⟩
  obtain ⟨k, A, dd, rfl, rfl, q⟩ := q
  exact (h.su k a dd A oe pn hz hf).pss.run pins s σ H D I q
/-- the class c of an exception is at A -/
def HdOk (K : PySem.W.Frag) (cl : Cl) (c : Value) (p : Str → Option Bool) : Prop := ∀ (C : Str) (A : Addr) (b : Bool), cl C = some A → p C = some b → PySem.W.exmOne K (.ref A) c = some b
section
variable {X : Cx} {cl : Cl} {W : Wish} {body : List Stmt} {mb : MS} {pos : Pos}
/-- what the body's end asks when it is caught -/
def wTr (K : PySem.W.Frag) (w : World) (cl : Cl) (W : Wish) (Dn : Ends) (hs : List Hd) : Wish := fun c d σ H =>
  ∃ C fs ρ ι s, RelX K w cl ι H (.ins C fs) c d ∧ RelE K w cl ι H ρ σ ∧ RelS K w cl ι s H ∧ PoS K w cl W ι H Dn (hdM C fs ρ s hs)
theorem try_po {K : PySem.W.Frag} {w : World} {ι : List Addr} {H : Hp} {Dn : Ends} {hs : List Hd} {ρ : Rho} {s : S} (h : PoS K w cl W ι H Dn (sTry mb hs ρ s)) : PoS K w cl (wTr K w cl W Dn hs) ι H Dn (mb ρ s) := by
  unfold sTry at h
  cases e : mb ρ s with
  | bad => rw [e] at h; exact h
  | ok c s1 => rw [e] at h; cases c <;> exact h
  | exc x ρ1 s1 =>
    rw [e] at h
    intro ι1 H1 σ1 c d x1 r1 e1 rx
    obtain ⟨C, fs, A, rfl, _⟩ := id rx
    exact ⟨C, fs, ρ1, ι1, s1, rx, e1, r1, PoS.ext x1 h⟩
/-- the end of a suite -/
theorem hd_po {K : PySem.W.Frag} {w : World} {ι : List Addr} {H : Hp} {Dn : Ends} {o : Option Nat} {r : RS} {e : Option (Nat × Addr × Addr × Addr)} (hx : cl.ex = none) (h : PoS K w cl W ι H Dn (hdEnd o r)) {Dn' : Ends}
    (hn : ∀ ρ' σ' ι' H', RelE K w cl ι' H' ρ' σ' → (∀ σ'', RelE K w cl ι' H' (setO o none ρ') σ'' → Dn.nx σ'' H') → Dn'.nx σ' H') (hb : ∀ ρ' σ' ι' H', RelE K w cl ι' H' ρ' σ' → (∀ σ'', RelE K w cl ι' H' (setO o none ρ') σ'' → Dn.bk σ'' H') → Dn'.bk σ' H')
    (hc : ∀ ρ' σ' ι' H', RelE K w cl ι' H' ρ' σ' → (∀ σ'', RelE K w cl ι' H' (setO o none ρ') σ'' → Dn.ct σ'' H') → Dn'.ct σ' H') (hr : ∀ v H', Dn.rt v H' → Dn'.rt v H') : PoS K w ⟨cl.of, e⟩ W0 ι H Dn' r := by
  cases r with
  | bad => exact h
  | exc x ρ s => exact False.elim h
  | ok c s =>
    cases c with
    | nx ρ => exact fun ι' H' σ x' r' e' => hn ρ σ ι' H' (e'.leave hx) fun σ'' e'' => h ι' H' σ'' x' (r'.leave hx) e''
    | bk ρ => exact fun ι' H' σ x' r' e' => hb ρ σ ι' H' (e'.leave hx) fun σ'' e'' => h ι' H' σ'' x' (r'.leave hx) e''
    | ct ρ => exact fun ι' H' σ x' r' e' => hc ρ σ ι' H' (e'.leave hx) fun σ'' e'' => h ι' H' σ'' x' (r'.leave hx) e''
    | rt d => exact fun ι' H' v x' r' d' => hr v H' (h ι' H' v x' (r'.leave hx) (d'.leave hx))
/-- into a suite -/
theorem su_in {K : PySem.W.Frag} {w : World} {ι : List Addr} {H : Hp} {C : Str} {fs : List (Str × D)} {c : Value} {d : Option Addr} {ρ : Rho} {σ : L2.St} {s : S} {m : Nat → MS} {a : Addr} {o : Option Nat} {σ' : L2.St} {Dn' : Ends} (hx : cl.ex = none) (rx : RelX K w cl ι H (.ins C fs) c d) (rn : ∀ dd, d = some dd → dd ∉ ι)
    (re : RelE K w cl ι H ρ σ) (rs : RelS K w cl ι s H) (hσ : ∀ e, RelE K w ⟨cl.of, e⟩ ι H ρ σ → ∀ x, RelD K w ⟨cl.of, e⟩ ι H x (.ref a) → RelE K w ⟨cl.of, e⟩ ι H (setO o (some x) ρ) σ')
    (h : ∀ k A dd, PoS K w ⟨cl.of, some (k, a, dd, A)⟩ W0 ι H Dn' (m (kxx ρ s fs) (setO o (some (.exn (kxx ρ s fs) C fs)) ρ) s)) : tSu K w cl.of m a c d Dn' σ' H := by
  obtain ⟨C', fs', A, e0, hc, rfl, dd, vs, rfl, hd, rf⟩ := rx
  cases e0
  refine ⟨kxx ρ s fs, A, dd, rfl, rfl, setO o (some (.exn (kxx ρ s fs) C fs)) ρ, ι, s, ?_, rs.enter hx ?_, h _ _ _⟩
  · refine hσ _ (re.enter hx ?_) _ (.exn rfl hc hd (rn dd rfl) (rf.enter hx ?_)) <;> unfold kxx <;> omega
  · unfold kxx; omega
theorem RelS.xd_notin {K : PySem.W.Frag} {w : World} {ι : List Addr} {H : Hp} {s : S} {dd : Addr} {vs : List (Str × V)} (r : RelS K w cl ι s H) (h : H dd = some (.xd vs)) : dd ∉ ι := fun m => by
  obtain ⟨n, hn⟩ := List.getElem?_of_mem m
  have hl : n < s.length := by rw [← r.len]; exact (List.getElem?_eq_some_iff.mp hn).1
  obtain ⟨a, ha, ro⟩ := r.at_ n _ (List.getElem?_eq_getElem hl)
  rw [hn] at ha
  cases ha
  cases e : s[n] with
  | lst xs => rw [e] at ro; obtain ⟨_, hv, _⟩ := ro; rw [h] at hv; cases hv
  | ins c fs => rw [e] at ro; obtain ⟨_, _, _, _, _, hv, _⟩ := ro; rw [h] at hv; cases hv
  | dK kvs => rw [e] at ro; obtain ⟨_, hv, _⟩ := ro; rw [h] at hv; cases hv
theorem PoS.impW {K : PySem.W.Frag} {w : World} {ι : List Addr} {H : Hp} {Dn : Ends} {W' : Wish} {r : RS} (h : PoS K w cl W ι H Dn r) (k : ∀ c d σ H, W c d σ H → W' c d σ H) : PoS K w cl W' ι H Dn r := by
  cases r with
  | bad => exact h
  | exc x ρ s => exact fun ι' H' σ c d x' r' e' q => k _ _ _ _ (h ι' H' σ c d x' r' e' q)
  | ok c s => cases c <;> exact h
variable {x n : Str} {c : Value} {i : Nat} {suite : List Stmt} {b₀ : Stmt} {np pos' : Pos} {p : Str → Option Bool} {m : Nat → MS}
/-- try .. except x as n -/
theorem ss_try_as (hx : cl.ex = none) (hs : X.stack = X.env :: X.outer) (hf : X.env.frame = some X.env.locals) (hN : X.N.Nodup) (hi : X.N[i]? = some n) (hln : X.env.kindOf n = some .local) (hc : Names X x c) (tk : L2.Takes X W) (hp : HdOk X.K cl c p)
    (hb : ∀ (W' : WX) (pn : List (Addr × Obj)) (xe : Value → Shared → Prop), L2.Takes (X.tr pn xe) W' → PassesOwn (model X.prog X.w) X.A X.env xe → SSs (X.tr pn xe) cl W' body mb)
    (hsu : SU X cl.of (b₀ :: suite) m) : SS X cl W (.Try body [.ExceptHandler (some (.Name x np)) (some n) (b₀ :: suite) pos'] [] [] pos) (sTry mb [⟨p, some i, m⟩]) := by
  refine ⟨_, ps_try_as hs hf hN hi hln hc tk (tb := fun W' => tOfS X.K X.w cl W' mb) (fun W' pn xe t q => (hb W' pn xe t q).pss) hsu.pss, fun Dn σ H ρ ι s en rs h => ?_⟩
  refine ⟨ρ, ι, s, en, rs, PoS.impW (try_po h) fun cls d σ1 H1 ⟨C, fs, ρ1, ι1, s1, rx, e1, r1, hp1⟩ => ?_⟩
  obtain ⟨C', fs', A, e0, hcl, rfl, dd, vs, rfl, hd, rf⟩ := id rx
  cases e0
  unfold hdM at hp1
  simp only at hp1
  cases hpc : p C with
  | none => rw [hpc] at hp1; exact False.elim hp1
  | some b =>
    rw [hpc] at hp1
    refine ⟨b, hp C A b hcl hpc, fun hb' a ha => ?_, fun hb' => ?_⟩
    · subst hb'
      refine su_in (o := some i) (Dn' := _) hx rx (fun dd' e => by cases e; exact r1.xd_notin hd) e1 r1 (fun e he x hr => he.set hr) fun k A' dd' => ?_
      exact hd_po hx hp1 (fun ρ' σ' ι' H' e' k => k _ e'.none) (fun ρ' σ' ι' H' e' k => k _ e'.none) (fun ρ' σ' ι' H' e' k => k _ e'.none) fun v H' q => q
    · subst hb'
      exact hp1 ι1 H1 σ1 _ _ (Ext.refl _ _) r1 e1 rx
/-- try .. except x -/
theorem ss_try_only (hx : cl.ex = none) (hs : X.stack = X.env :: X.outer) (hf : X.env.frame = some X.env.locals) (hc : Names X x c) (tk : L2.Takes X W) (hp : HdOk X.K cl c p)
    (hb : ∀ (W' : WX) (pn : List (Addr × Obj)) (xe : Value → Shared → Prop), L2.Takes (X.tr pn xe) W' → PassesOwn (model X.prog X.w) X.A X.env xe → SSs (X.tr pn xe) cl W' body mb)
    (hsu : SU X cl.of (b₀ :: suite) m) : SS X cl W (.Try body [.ExceptHandler (some (.Name x np)) none (b₀ :: suite) pos'] [] [] pos) (sTry mb [⟨p, none, m⟩]) := by
  refine ⟨_, ps_try_only hs hf hc tk (tb := fun W' => tOfS X.K X.w cl W' mb) (fun W' pn xe t q => (hb W' pn xe t q).pss) hsu.pss, fun Dn σ H ρ ι s en rs h => ?_⟩
  refine ⟨ρ, ι, s, en, rs, PoS.impW (try_po h) fun cls d σ1 H1 ⟨C, fs, ρ1, ι1, s1, rx, e1, r1, hp1⟩ => ?_⟩
  obtain ⟨C', fs', A, e0, hcl, rfl, dd, vs, rfl, hd, rf⟩ := id rx
  cases e0
  unfold hdM at hp1
  simp only at hp1
  cases hpc : p C with
  | none => rw [hpc] at hp1; exact False.elim hp1
  | some b =>
    rw [hpc] at hp1
    refine ⟨b, hp C A b hcl hpc, fun hb' a ha => ?_, fun hb' => ?_⟩
    · subst hb'
      refine su_in (o := none) (Dn' := Dn) hx rx (fun dd' e => by cases e; exact r1.xd_notin hd) e1 r1 (fun e he x hr => he) fun k A' dd' => ?_
      exact hd_po hx hp1 (fun ρ' σ' ι' H' e' k => k _ e') (fun ρ' σ' ι' H' e' k => k _ e') (fun ρ' σ' ι' H' e' k => k _ e') fun v H' q => q
    · subst hb'
      exact hp1 ι1 H1 σ1 _ _ (Ext.refl _ _) r1 e1 rx
end

/-! ### within a suite: e.f, isinstance(e, X) -/
def mXf (k : Nat) (f : Str) (cs : List Str) (m : ME) : ME := fun ρ s => (m ρ s).bind fun d s1 => match d with
  | .exn j c fs => if j = k ∧ c ∈ cs then (match fs.lookup f with
    | some v => .ok v s1
    | none => .bad) else .bad
  | _ => .bad
def mXis (k : Nat) (tab : Str → Option Bool) (m : ME) : ME := fun ρ s => (m ρ s).bind fun d s1 => match d with
  | .exn j c _ => if j = k then (match tab c with
    | some b => .ok (.bl b) s1
    | none => .bad) else .bad
  | _ => .bad
/-- what isinstance asks of an exception's class -/
structure XIs (K : PySem.W.Frag) (C : Addr) : Prop where
  cl : (PySem.W.clsIn K C).isSome = true
  ga : PySem.W.findIn K (.ref C) "__getattribute__" = some (some (.builtin "BaseException.__getattribute__"))
  gg : PySem.W.findIn K (.ref C) "__getattr__" = some none
  su : PySem.W.subIn K (.ref C) (.type "BaseException") = some true
  ca : PySem.W.findIn K (.ref C) "__class__" = some (some (.builtin "object.__class__"))
  mr : PySem.W.mroIn K C (.type "object") = some true
section
variable {X : Cx} {cl : Cl} {c0 : Str → Option Addr} {W : Wish} {a A dd : Addr} {k : Nat} {oe : Obj} {pn : List (Addr × Obj)} {e ex : Expr} {es : List Expr} {m : ME} {f : Str} {cs : List Str} {pos p npos tpos : Pos} {x : Str} {kk : Nat} {tab : Str → Option Bool}
theorem se_xf (hcs : ∀ C ∈ cs, ∀ A', c0 C = some A' → XfC X.K A' ∧ PySem.W.findIn X.K (.ref A') f = some none) (hz : Zc (.ref A) (some dd) oe) (hf : ∃ vs, oe.data = .fields vs) (he : SE (X.suite a ((a, oe) :: pn)) ⟨c0, some (k, a, dd, A)⟩ W e m)
    (hb : attributeBase e f X.env (eval e X.env) = eval e X.env := by rfl) : SE (X.suite a ((a, oe) :: pn)) ⟨c0, some (k, a, dd, A)⟩ W (.Attribute e f pos) (mXf k f cs m) := by
  obtain ⟨t, p1, q1⟩ := he.ex
  by_cases hA : XfC X.K A ∧ PySem.W.findIn X.K (.ref A) f = some none
  · refine ⟨_, pe_xf hA.1 hA.2 hz hf p1 hb, fun σ H Q ρ ι s en r h => ?_⟩
    refine q1 σ H _ ρ ι s en r (PoE.step h fun d s1 ι1 H1 v e1 x1 r1 d1 h1 => ?_)
    split at h1
    · rename_i k' c fs
      split at h1
      · rename_i hk
        obtain ⟨rfl, _⟩ := hk
        split at h1
        · rename_i u hl
          cases d1 with
          | exn he hc hd ha rf =>
            cases he
            obtain ⟨v, hv, rv⟩ := fs_lookup rf hl
            exact ⟨rfl, rfl, _, _, v, rfl, hd, hv, h1 ι1 H1 v (Ext.refl _ _) r1 rv⟩
          | old he => exact absurd rfl (he _ rfl)
        · exact False.elim h1
      · exact False.elim h1
    · exact False.elim h1
  · refine ⟨fun σ H Q => t σ H fun _ _ => False, ⟨fun pins s σ H Q I q => ?_⟩, fun σ H Q ρ ι s en r h => ?_⟩
    · refine attr_of hb (thn (p1.run pins s σ H _ I q) fun u s1 hh => ?_)
      obtain ⟨_, _, _, _, z⟩ := hh
      exact z.elim
    · refine q1 σ H _ ρ ι s en r (PoE.step h fun d s1 ι1 H1 v e1 x1 r1 d1 h1 => ?_)
      split at h1
      · rename_i k' c fs
        split at h1
        · rename_i hk
          obtain ⟨rfl, hc⟩ := hk
          cases d1 with
          | exn he hcl hd ha rf =>
            cases he
            exact hA (hcs c hc _ hcl)
          | old he => exact absurd rfl (he _ rfl)
        · exact False.elim h1
      · exact False.elim h1
/-- isinstance of the exception that the suite holds -/
theorem call_isX {dd : Addr} {b : Bool} {c : V} {cv : Value} (hn : PySem.W.specialIn X.K (.builtin "object.__class__") "__get__" = some (some (.builtin "getset_descriptor.__get__"))) (ht : PySem.W.takesIn X.K (.builtin "object.__class__") = some true) (hc : XIs X.K A)
    (hz : Zc (.ref A) (some dd) oe) (hf : ∃ vs, oe.data = .fields vs) (hk : PySem.W.kitOne X.K (.ref A) cv = some b) (hv : ∀ u, RelV c u → u = cv) :
    CallR (X.suite a ((a, oe) :: pn)) (.builtin "isinstance") (fun xs H Q => xs = [.ref a, c] ∧ (∃ vs, H dd = some (.xd vs)) ∧ Q (.bl b) H) := by
  intro pins s σ H xs us Q I r h
  obtain ⟨rfl, ⟨vs, hd⟩, q⟩ := h
  obtain ⟨u1, u2, rfl, r1, r2⟩ := vals2 r
  cases (show u1 = Value.ref a from r1)
  cases hv _ r2
  obtain ⟨hget, _⟩ := I.pin (a, oe) (List.mem_append_left _ List.mem_cons_self)
  obtain ⟨ws, hw⟩ := hf
  have hx : ObjOk X.prog X.w H s.heap dd (.xd vs) := I.hok dd _ hd
  obtain ⟨mA, hns, _⟩ := hx
  obtain ⟨od, ho, _⟩ := lookIn_ns hns
  have J : PySem.W.InstAt s.heap a oe A (some od) := ⟨hget, hz.1, by unfold PySem.W.notCls; rw [hw] <;> rfl, by rw [hz.2]; exact ho⟩
  exact PySem.W.kia_one (PySem.W.kitx_exc hc.cl hc.ga hc.gg hc.su hc.ca hn ht hc.mr) I.kIn J hk (fun z => nomatch z) fun tk => ⟨.bl b, H, I.kept (t' := tk) fun _ _ z => z, rfl, q⟩
theorem se_xis (hg : Gl X "isinstance") (hm : X.mg "isinstance" = none) (hn : PySem.W.specialIn X.K (.builtin "object.__class__") "__get__" = some (some (.builtin "getset_descriptor.__get__"))) (ht : PySem.W.takesIn X.K (.builtin "object.__class__") = some true)
    {c : V} {cv : Value} (hcv : ∀ u, RelV c u → u = cv) (hpc : PE (X.suite a ((a, oe) :: pn)) (.Name x npos) (tC c))
    (hcs : ∀ C A' b, c0 C = some A' → tab C = some b → XIs X.K A' ∧ PySem.W.kitOne X.K (.ref A') cv = some b) (hz : Zc (.ref A) (some dd) oe) (hf : ∃ vs, oe.data = .fields vs) (he : SE (X.suite a ((a, oe) :: pn)) ⟨c0, some (k, a, dd, A)⟩ W e m)
    (hs : starEach (e :: [.Name x npos]) X.env = (false, eval e X.env) :: starEach [.Name x npos] X.env := by rfl) (hs2 : starEach (.Name x npos :: []) X.env = (false, eval (.Name x npos) X.env) :: starEach [] X.env := by rfl)
    (hpl : (backTo pos (starEach [.Name x npos] X.env)).any (·.1) = false := by rfl) : SE (X.suite a ((a, oe) :: pn)) ⟨c0, some (k, a, dd, A)⟩ W (.Call (.Name "isinstance" p) [e, .Name x npos] [] pos) (mXis k tab m) := by
  obtain ⟨t, p1, q1⟩ := he.ex
  by_cases hA : ∃ b, XIs X.K A ∧ PySem.W.kitOne X.K (.ref A) cv = some b
  · obtain ⟨b, hA, hk⟩ := hA
    refine ⟨_, pe_callB (call_isX hn ht hA hz hf hk hcv) hg hm boot_isinstance (pa_cons p1 (pa_cons hpc pa_nil hs2) hs) (by decide) (by decide) hs hpl, fun σ H Q ρ ι s en r h => ?_⟩
    refine q1 σ H _ ρ ι s en r (PoE.step h fun d s1 ι1 H1 v e1 x1 r1 d1 h1 => ?_)
    split at h1
    · rename_i k' c' fs
      split at h1
      · rename_i hk'
        subst hk'
        split at h1
        · rename_i b' hb'
          cases d1 with
          | exn he hcl hd ha rf =>
            cases he
            have := (hcs c' A b' hcl hb').2
            rw [hk] at this
            cases this
            exact ⟨rfl, ⟨_, hd⟩, h1 ι1 H1 _ (Ext.refl _ _) r1 (.bl _)⟩
          | old he => exact absurd rfl (he _ rfl)
        · exact False.elim h1
      · exact False.elim h1
    · exact False.elim h1
  · have none : CallR (X.suite a ((a, oe) :: pn)) (.builtin "isinstance") (fun _ _ _ => False) := fun _ _ _ _ _ _ _ _ _ z => z.elim
    refine ⟨_, pe_callB none hg hm boot_isinstance (pa_cons p1 (pa_cons hpc pa_nil hs2) hs) (by decide) (by decide) hs hpl, fun σ H Q ρ ι s en r h => ?_⟩
    refine q1 σ H _ ρ ι s en r (PoE.step h fun d s1 ι1 H1 v e1 x1 r1 d1 h1 => ?_)
    split at h1
    · rename_i k' c' fs
      split at h1
      · rename_i hk'
        subst hk'
        split at h1
        · rename_i b' hb'
          cases d1 with
          | exn he hcl hd ha rf =>
            cases he
            exact hA ⟨b', hcs c' A b' hcl hb'⟩
          | old he => exact absurd rfl (he _ rfl)
        · exact False.elim h1
      · exact False.elim h1
    · exact False.elim h1
end
end Pm
namespace Pm
open PySem PySem.Spec PyProof.Rows L2

/-! ### an exception that is made: B.__init__(self, ..), then its fields -/
def setsM (ρ : Rho) : List (Str × ME) → List (Str × D) → S → R (List (Str × D))
  | [], acc, s => .ok acc s
  | (f, m) :: r, acc, s => (m ρ s).bind fun d s1 => setsM ρ r ((f, d) :: acc) s1
def mXInit (n : Nat) (msg : ME) (sets : List (Str × ME)) (ds : List D) (s : S) : R (List (Str × D)) :=
  if ds.length = n then (msg (none :: ds.map some) s).bind fun _ s1 => setsM (none :: ds.map some) sets [] s1 else .bad
def sRaise (c : Str) (G : List D → S → R (List (Str × D))) (ms : MA) : MS := fun ρ s => match ms ρ s with
  | .ok ds s1 => (match G ds s1 with
    | .ok (f :: fs) s2 => .exc (.ins c (f :: fs)) ρ s2
    | _ => .bad)
  | .exc x s1 => .exc x ρ s1
  | .bad => .bad
/-- the exception at a as it stands: H0 is the heap ahead of it -/
def StX (K : PySem.W.Frag) (w : World) (cl : Cl) (ι0 : List Addr) (H0 : Hp) (a C : Addr) (ι : List Addr) (H : Hp) (acc : List (Str × D)) : Prop := Ext ι0 H0 ι H ∧ H0 a = none ∧ a ∉ ι ∧
  ((acc = [] ∧ H a = some (exo a C none)) ∨ ∃ d vs, H a = some (exo a C (some d)) ∧ H d = some (exd d vs) ∧ d ∉ ι ∧ H0 d = none ∧ d ≠ a ∧ RelFs K w cl ι H acc vs)
theorem exo_dat {a C : Addr} {d : Option Addr} : ¬ Dat (exo a C d) := id
theorem exd_dat {a : Addr} {vs : List (Str × V)} : ¬ Dat (exd a vs) := id
section
variable {X : Cx} {cl : Cl} {W : Wish}
/-- B.__init__(self, ..), B an own class that has none of its own -/
structure BInit (K : PySem.W.Frag) (B : Addr) : Prop where
  rd : PySem.W.readsIn K B (.type "type") = true
  ga : PySem.W.specialIn K (.ref B) "__getattribute__" = some (some (.builtin "type.__getattribute__"))
  at_ : PySem.W.findCls K (.ref B) (.type "type") "__init__" = some (.val (.builtin "ValueError.__init__"))
theorem pe_binit {B : Addr} {x : Str} {e : Expr} {es : List Expr} {ta : TA} {p1 p2 pos : Pos} {pl : Sem Bool} (T : BInit X.K B) (hg : Gl X x) (hm : X.mg x = some (.ref B)) (ha : PA X (e :: es) ta) (hdb : (x == ("__debug__" : Str)) = false := by decide)
    (hc : eval (.Call (.Attribute (.Name x p1) "__init__" p2) (e :: es) [] pos) X.env = (do
      let o ← eval (.Name x p1) X.env
      standAt p2.atName
      let (g, first) ← holding [o] (getMethod o "__init__" pl)
      callWith pos g first (backTo pos (starEach (e :: es) X.env)) (backToKw pos (keywordEach [] X.env))) := by rfl)
    (he : starEach (e :: es) X.env = (false, eval e X.env) :: starEach es X.env := by rfl) (hpl : (backTo pos (starEach es X.env)).any (·.1) = false := by rfl) :
    PE X (.Call (.Attribute (.Name x p1) "__init__" p2) (e :: es) [] pos) (tVeI X.K ta) := by
  refine ⟨fun pins s σ H Q I h => ?_⟩
  refine PySem.W.methodCall_KW (ld_glob I hg hm ?_ hdb) hc
  refine PySem.W.method_cls I.kIn T.ga (PySem.W.cls_value I.kIn T.rd T.at_ (by decide +kernel) ?_)
  have J := I.tok (s.toks + 1)
  refine PyProof.Rows.callWith_method1 (thn (ha.run pos pins _ σ H _ J h) ?_) he hpl
  rintro us s1 ⟨vs, H1, I1, r1, a, C, ws, rfl, hl, TC, ea, q⟩
  cases r1 with
  | cons ra rw' =>
    cases ra
    exact oinit_ok TC I1 ea (by rw [← Paired.length rw', sizeLine_eq]; omega) fun s' J' => ⟨.non, H1, J', rfl, q⟩
theorem RelS.ext0 {K : PySem.W.Frag} {w : World} {cl : Cl} {ι : List Addr} {H H' : Hp} {s : S} (r : RelS K w cl ι s H) (x : Ext0 ι H ι H') (e : ∀ a ∈ ι, H' a = H a) : RelS K w cl ι s H' := by
  refine ⟨r.len, r.nd, fun n o h => ?_⟩
  obtain ⟨a, ha, ro⟩ := r.at_ n o h
  have ea := e a (List.mem_of_getElem? ha)
  refine ⟨a, ha, ?_⟩
  cases o with
  | lst xs => obtain ⟨vs, hv, rv⟩ := ro; exact ⟨vs, ea.trans hv, RelDs.ext0 x rv⟩
  | ins c fs => obtain ⟨A, dx, vs, hc, hk, hv, rv⟩ := ro; exact ⟨A, dx, vs, hc, hk, ea.trans hv, RelFs.ext0 x rv⟩
  | dK kvs => obtain ⟨vs, hv, hk, rv⟩ := ro; exact ⟨vs, ea.trans hv, hk, RelDs.ext0 x rv⟩
theorem RelE.ext0 {K : PySem.W.Frag} {w : World} {cl : Cl} {ι : List Addr} {H H' : Hp} {ρ : Rho} {σ : L2.St} (r : RelE K w cl ι H ρ σ) (x : Ext0 ι H ι H') : RelE K w cl ι H' ρ σ :=
  ⟨r.len, fun i d h => let ⟨v, h1, h2⟩ := r.at_ i d h; ⟨v, h1, RelD.ext0 x h2⟩⟩
/-- the fields, one after the other -/
structure SIx (X : Cx) (cl : Cl) (C : Addr) (sts : List Stmt) (sets : List (Str × ME)) : Prop where
  ex : ∃ t, PSs X sts t ∧ ∀ Dn σ H ι0 H0 ρ ι s a acc, σ[0]? = some (some (.ref a)) → RelE X.K X.w cl ι H ρ σ → RelS X.K X.w cl ι s H → StX X.K X.w cl ι0 H0 a C ι H acc → acc.length + sets.length ≤ 900 →
    (match setsM ρ sets acc s with
      | .ok fs s' => ∀ ι' H', RelS X.K X.w cl ι' s' H' → StX X.K X.w cl ι0 H0 a C ι' H' fs → Dn.nx σ H'
      | _ => False) → t Dn σ H
theorem si_nil {C : Addr} : SIx X cl C [] [] := ⟨_, pss_nil, fun Dn σ H ι0 H0 ρ ι s a acc _ _ rs st _ h => h ι H rs st⟩
theorem FsLen {K : PySem.W.Frag} {w : World} {ι : List Addr} {H : Hp} {fs : List (Str × D)} {vs : List (Str × V)} (r : RelFs K w cl ι H fs vs) : vs.length = fs.length := (fs_len r).symm
theorem si_cons {C : Addr} {f : Str} {e : Expr} {m : ME} {sts : List Stmt} {sets : List (Str × ME)} {pos p' p0 : Pos} (T : OexC X.K C) (hN : X.N[0]? = some ("self" : Str)) (hv : Vis X.env.scope "self") (hno : PySem.W.findIn X.K (.ref C) f = some none) (he : SE X cl (fun _ _ _ _ => False) e m)
    (hr : SIx X cl C sts sets) (hs : swapsWith e (some (.Attribute (.Name "self" p0) f p')) pos.line X.env = pure false := by rfl) : SIx X cl C (.Assign [.Attribute (.Name "self" p0) f p'] e pos :: sts) ((f, m) :: sets) := by
  obtain ⟨t, p1, q1⟩ := he.ex
  obtain ⟨u, p2, q2⟩ := hr.ex
  refine ⟨_, pss_cons (ps_ost (pe_var hN hv) p1 hs) p2, fun Dn σ H ι0 H0 ρ ι s a acc h0 en rs st hl h => ?_⟩
  unfold setsM at h
  cases e1 : m ρ s with
  | bad => rw [e1] at h; exact False.elim h
  | exc x s1 => rw [e1] at h; exact False.elim h
  | ok d s1 =>
    rw [e1] at h
    simp only [R.bind] at h
    refine q1 σ H _ ρ ι s en rs ?_
    rw [e1]
    intro ι1 H1 y x1 r1 d1
    refine ⟨_, h0, a, C, rfl, T, hno, ?_⟩
    obtain ⟨xb, n0, na, st⟩ := st
    have xb1 := xb.trans x1
    simp only [List.length_cons] at hl
    have nx : ∀ {dx : Addr}, H1 dx = none → dx ∉ ι1 := fun hdx => r1.notin hdx
    rcases st with ⟨rfl, ea⟩ | ⟨dx, vs, ea, ed, nd, n0d, nda, rf⟩
    · obtain ⟨ea1, na1⟩ := x1.keep _ _ ea na
      refine .inl ⟨ea1, fun dx hdx hne => ?_⟩
      have hdx0 : H0 dx = none := xb1.dom dx hdx
      have z1 : Ext ι1 H1 ι1 (upd H1 dx (exd dx [(f, y)])) := Ext.new hdx
      have e2 : upd H1 dx (exd dx [(f, y)]) a = some (exo a C none) := by rw [upd_ne (Ne.symm hne)]; exact ea1
      have z2 : Ext0 ι1 (upd H1 dx (exd dx [(f, y)])) ι1 (upd (upd H1 dx (exd dx [(f, y)])) a (exo a C (some dx))) := Ext0.made e2 exo_dat
      have r2 := r1.laid (o := exd dx [(f, y)]) hdx
      have r3 := r2.ext0 z2 fun b hb => upd_ne (fun z => na1 (z ▸ hb))
      refine q2 Dn σ _ ι0 H0 ρ ι1 s1 a ((f, d) :: []) h0 (((en.ext x1).ext z1).ext0 z2) r3 ⟨(xb1.up hdx0).up n0, n0, na1, .inr ⟨dx, [(f, y)], ?_, upd_ne hne |>.trans upd_same, nx hdx, hdx0, hne, .cons (RelD.ext0 z2 (d1.ext z1)) .nil⟩⟩ (by simp only [List.length_cons, List.length_nil] at hl ⊢; omega) h
      exact upd_same
    · obtain ⟨ea1, na1⟩ := x1.keep _ _ ea na
      obtain ⟨ed1, nd1⟩ := x1.keep _ _ ed nd
      have hlen := FsLen rf
      refine .inr ⟨dx, vs, ea1, ed1, by omega, ?_⟩
      have z2 : Ext0 ι1 H1 ι1 (upd H1 dx (exd dx ((f, y) :: vs))) := Ext0.made ed1 exd_dat
      have r3 := r1.ext0 z2 fun b hb => upd_ne (fun z => nd1 (z ▸ hb))
      have hne : a ≠ dx := Ne.symm nda
      refine q2 Dn σ _ ι0 H0 ρ ι1 s1 a ((f, d) :: acc) h0 ((en.ext x1).ext0 z2) r3 ⟨xb1.up n0d, n0, na1, .inr ⟨dx, (f, y) :: vs, ?_, upd_same, nd1, n0d, nda, .cons (RelD.ext0 z2 d1) (RelFs.ext0 z2 (rf.ext x1))⟩⟩ (by simp only [List.length_cons]; omega) h
      rw [upd_ne hne]
      exact ea1
/-- an __init__'s body -/
structure SXb (X : Cx) (cl : Cl) (C : Addr) (sts : List Stmt) (msg : ME) (sets : List (Str × ME)) : Prop where
  ex : ∃ t, PSs X sts t ∧ ∀ Dn σ H0 ρ ι s a, σ[0]? = some (some (.ref a)) → H0 a = none → RelE X.K X.w cl ι H0 ρ σ → RelS X.K X.w cl ι s H0 →
    (match (msg ρ s).bind fun _ s1 => setsM ρ sets [] s1 with
      | .ok fs s' => ∀ ι' H', RelS X.K X.w cl ι' s' H' → StX X.K X.w cl ι H0 a C ι' H' fs → Dn.nx σ H'
      | _ => False) → t Dn σ (upd H0 a (exo a C none))
theorem sx_body {B C : Addr} {x : Str} {e : Expr} {msg : ME} {rest : List Stmt} {sets : List (Str × ME)} {p1 p2 p3 pos pos' : Pos} {pl : Sem Bool} (T : OexC X.K C) (TB : BInit X.K B) (hg : Gl X x) (hm : X.mg x = some (.ref B)) (hN : X.N[0]? = some ("self" : Str)) (hv : Vis X.env.scope "self") (he : SE X cl (fun _ _ _ _ => False) e msg) (hr : SIx X cl C rest sets) (hz : sets.length ≤ 900)
    (hdb : (x == ("__debug__" : Str)) = false := by decide)
    (hc : eval (.Call (.Attribute (.Name x p1) "__init__" p2) [.Name "self" p3, e] [] pos) X.env = (do
      let o ← eval (.Name x p1) X.env
      standAt p2.atName
      let (g, first) ← holding [o] (getMethod o "__init__" pl)
      callWith pos g first (backTo pos (starEach [.Name "self" p3, e] X.env)) (backToKw pos (keywordEach [] X.env))) := by rfl)
    (hs1 : starEach [.Name "self" p3, e] X.env = (false, eval (.Name "self" p3) X.env) :: starEach [e] X.env := by rfl) (hs2 : starEach [e] X.env = (false, eval e X.env) :: starEach [] X.env := by rfl) (hpl : (backTo pos (starEach [e] X.env)).any (·.1) = false := by rfl) :
    SXb X cl C (.Expr (.Call (.Attribute (.Name x p1) "__init__" p2) [.Name "self" p3, e] [] pos) pos' :: rest) msg sets := by
  obtain ⟨t, p4, q4⟩ := he.ex
  obtain ⟨u, p5, q5⟩ := hr.ex
  refine ⟨_, pss_cons (ps_expr (pe_binit TB hg hm (pa_cons (pe_var hN hv) (pa_cons p4 pa_nil hs2) hs1) hdb hc hs1 hpl)) p5, fun Dn σ H0 ρ ι s a h0 n0 en rs h => ?_⟩
  have x0 : Ext ι H0 ι (upd H0 a (exo a C none)) := Ext.new n0
  have na : a ∉ ι := rs.notin n0
  refine ⟨_, h0, ?_⟩
  cases e1 : msg ρ s with
  | bad => rw [e1] at h; exact False.elim h
  | exc x s1 => rw [e1] at h; exact False.elim h
  | ok d s1 =>
    rw [e1] at h
    simp only [R.bind] at h
    refine q4 σ _ _ ρ ι s (en.ext x0) (rs.laid n0) ?_
    rw [e1]
    intro ι1 H1 y x1 r1 d1
    obtain ⟨ea, na1⟩ := x1.keep _ _ upd_same na
    refine ⟨a, C, [y], rfl, by simp, T, ea, ?_⟩
    exact q5 Dn σ H1 ι H0 ρ ι1 s1 a [] h0 ((en.ext x0).ext x1) r1 ⟨x0.trans x1, n0, na1, .inl ⟨rfl, ea⟩⟩ (by simpa using hz) h
/-- what an __init__ promises -/
def spX (K : PySem.W.Frag) (w : World) (cl : Cl) (C : Addr) (n : Nat) (F : List D → S → R (List (Str × D))) : Sp := fun vs H Q E => vs.length = n + 1 ∧ ∃ a H0 ι s ds ws, vs = .ref a :: ws ∧ H = upd H0 a (exo a C none) ∧ H0 a = none ∧ RelS K w cl ι s H0 ∧ RelDs K w cl ι H0 ds ws ∧
  (match F ds s with
    | .ok fs s' => ∀ ι' H', RelS K w cl ι' s' H' → StX K w cl ι H0 a C ι' H' fs → Q .non H'
    | _ => False)
theorem fnx_ok {P : Program} {w : World} {K : PySem.W.Frag} {mg : Str → Option Value} {base : Heap} {C : Addr} {x qual : Str} {st : Stmt} {f : Addr} {fd : FuncData} {ps : List Str} {k : Nat} {msg : ME} {sets : List (Str × ME)} (F : Fun K x qual st f fd) (Sc : FnScope ("self" :: ps) ("self" :: ps) (defScope st))
    (hb : ∀ (cdv : Value) (A : Around) (outer : List Env) (s : Shared) (H : Hp) (E : XK), Room k (A.deeper (envOfC qual (defScope st) s.heap.objs.size f cdv)) →
      SXb (cxOf (L2.CX P w) P w K mg base ("self" :: ps) qual (defScope st) f cdv A outer s H E) cl C (defBody st) msg sets) :
    FnOk P w K mg base (L2.CX P w) (k + 1) f fd ("self" :: ps) (spX K w cl C ps.length (mXInit ps.length msg sets)) := by
  refine F.okX Sc (fun vs H Q E h => h.1) fun cdv A outer s H vs Q E hr ⟨hl, a, H0, ι, s0, ds, ws, hv, hH, n0, rs, rd, h⟩ => ?_
  subst hv
  subst hH
  obtain ⟨t, p, q⟩ := (hb cdv A outer s _ E hr).ex
  refine ⟨t, p, ?_⟩
  have hwl : ws.length = ps.length := by simpa using hl
  have hdl : ds.length = ps.length := by rw [rd.length]; exact hwl
  unfold mXInit at h
  rw [if_pos hdl] at h
  have e0 : (L2.start ("self" :: ps) (V.ref a :: ws)) = some (.ref a) :: L2.start ps ws := by
    unfold L2.start
    simp
  rw [e0]
  have re := start_rel (K := K) (w := w) (cl := cl) (H := H0) (N := ps) (tot := ps.length) rfl hdl.symm rd
  rw [Nat.sub_self] at re
  simp only [List.replicate_zero, List.append_nil] at re
  refine q _ _ H0 _ ι s0 a rfl n0 ⟨by simp [re.len], fun i d hi => ?_⟩ rs h
  cases i with
  | zero => cases hi
  | succ i => exact re.at_ i d hi
theorem passes_none {X : Cx} : Passes (L2.CX X.prog X.w) X (fun _ _ _ => False) := fun _ _ _ _ _ _ _ h => by
  obtain ⟨_, _, _, _, _, _, _, _, _, _, _, _, z⟩ := h
  exact z.elim
/-- raise x(..) -/
theorem ss_raise {C fI : Addr} {x : Str} {k n : Nat} {fd : FuncData} {ps : List Str} {G : List D → S → R (List (Str × D))} {e : Expr} {es : List Expr} {ms : MA} {p pos pos' : Pos} (hcl : cl x = some C) (T : OexC X.K C) (iC : PySem.W.findIn X.K (.ref C) "__init__" = some (some (.ref fI))) (tI : PySem.W.typeIn X.K (.ref fI) = some (.type "function"))
    (F1 : FnOk X.prog X.w X.K X.mg X.base (L2.CX X.prog X.w) k fI fd ps (spX X.K X.w cl C n G)) (hG : ∀ ds s, ds.length ≠ n → G ds s = .bad) (hn : n ≤ 1000) (hr : Room (k + 1) X.A) (hb : Binds X.K fd ps []) (hg : Gl X x) (hm : X.mg x = some (.ref C)) (hcalm : X.calm = true) (tk : L2.Takes X W) (ha : SA X cl W (e :: es) ms)
    (hdb : (x == ("__debug__" : Str)) = false := by decide) (he : starEach (e :: es) X.env = (false, eval e X.env) :: starEach es X.env := by rfl) (hpl : (backTo pos (starEach es X.env)).any (·.1) = false := by rfl) :
    SS X cl W (.Raise (some (.Call (.Name x p) (e :: es) [] pos)) none pos') (sRaise x G ms) := by
  obtain ⟨t, p1, q1⟩ := ha.ex
  refine ⟨_, ps_raise hcalm tk (pmk_oex T iC tI F1 hr hb .nil passes_none hg hm p1 hdb he hpl), fun Dn σ H ρ ι s en rs h => ?_⟩
  unfold sRaise at h
  refine q1 σ H _ ρ ι s en rs ?_
  cases e1 : ms ρ s with
  | bad => rw [e1] at h; exact False.elim h
  | exc y s1 => rw [e1] at h; exact fun ι1 H1 c d x1 r1 rx => h ι1 H1 σ c d x1 r1 (en.ext x1) rx
  | ok ds s1 =>
    rw [e1] at h
    simp only at h
    intro ι1 H1 vs x1 r1 d1
    have hdn : ds.length = n := by
      by_cases hl : ds.length = n
      · exact hl
      · rw [hG ds s1 hl] at h; exact False.elim h
    have hvn : vs.length = n := by rw [← d1.length]; exact hdn
    refine ⟨by omega, fun a na => ⟨by simp [hvn], a, H1, ι1, s1, ds, vs ++ [], rfl, rfl, na, r1, by simpa using d1, ?_⟩⟩
    cases e2 : G ds s1 with
    | bad => rw [e2] at h; exact False.elim h
    | exc y s2 => rw [e2] at h; exact False.elim h
    | ok fs s2 =>
      rw [e2] at h
      intro ι2 H2 r2 st
      obtain ⟨xb, _, na2, st⟩ := st
      cases fs with
      | nil => exact False.elim h
      | cons f fs =>
      rcases st with ⟨z, _⟩ | ⟨d, us, ea, ed, nd, n1d, nda, rf⟩
      · cases z
      refine ⟨rfl, d, us, ea, ed, n1d, ?_⟩
      have hne : ∀ {b : Addr}, b ≠ d → b ≠ a → (upd (L2.del H2 a) d (.xd us)) b = H2 b := fun h1 h2 => by rw [upd_ne h1, del_ne h2]
      have z0 : Ext0 ι2 H2 ι2 (upd (L2.del H2 a) d (.xd us)) := ⟨⟨[], (List.append_nil _).symm⟩, fun b o e m dt => ⟨by
        rw [hne (fun z => by rw [z, ed] at e; cases e; exact exd_dat dt) (fun z => by rw [z, ea] at e; cases e; exact exo_dat dt)]
        exact e, m⟩⟩
      have z1 : Ext ι1 H1 ι2 (upd (L2.del H2 a) d (.xd us)) := ⟨xb.pre, fun b o e m => ⟨by
        rw [hne (ne_of_none e n1d) (ne_of_none e na)]
        exact (xb.keep b o e m).1, (xb.keep b o e m).2⟩, fun b e => by
        by_cases h1 : b = d
        · rw [h1]; exact n1d
        · by_cases h2 : b = a
          · rw [h2]; exact na
          · rw [hne h1 h2] at e; exact xb.dom b e⟩
      have r3 := r2.ext0 z0 fun b hb => hne (fun z => nd (z ▸ hb)) (fun z => na2 (z ▸ hb))
      exact h ι2 _ σ _ _ (x1.trans z1) r3 (en.ext (x1.trans z1)) ⟨x, f :: fs, C, rfl, hcl, rfl, d, us, rfl, upd_same, RelFs.ext0 z0 rf⟩
end
end Pm
namespace Pm
open PySem PySem.Spec PyProof.Rows L2

/-! ### f-strings of texts and ints -/
def fmtC : List D → Option Nat
  | [] => some 0
  | .str y :: r => (fmtC r).map (y.length + ·)
  | .int i :: r => if i.natAbs.log2 < 1920 then (fmtC r).map (1921 + ·) else none
  | _ => none
def fmtT (acc : Str) : List D → Str
  | [] => acc
  | .str y :: r => fmtT (acc ++ y) r
  | .int i :: r => fmtT (acc ++ Str.ofString (toString i)) r
  | _ => acc
def fmtOk (ds : List D) : Bool := match fmtC ds with
  | some n => decide (n ≤ 16000000)
  | none => false
def mFs (ms : MA) : ME := fun ρ s => match ms ρ s with
  | .ok ds s1 => if fmtOk ds = true then .ok (.str (fmtT Str.empty ds)) s1 else .bad
  | _ => .bad
section
variable {X : Cx} {cl : Cl} {W : Wish}
def PoJ (K : PySem.W.Frag) (w : World) (cl : Cl) (ι : List Addr) (H : Hp) (acc : Str) (Q : Str → Hp → Prop) : R (List D) → Prop
  | .ok ds s => (∃ n, fmtC ds = some n ∧ acc.length + n ≤ 16000000) ∧ ∀ ι' H', Ext ι H ι' H' → RelS K w cl ι' s H' → Q (fmtT acc ds) H'
  | _ => False
structure SJ (X : Cx) (cl : Cl) (W : Wish) (es : List Expr) (ms : MA) : Prop where
  ex : ∃ ts, PJ X es ts ∧ ∀ acc σ H Q ρ ι s, RelE X.K X.w cl ι H ρ σ → RelS X.K X.w cl ι s H → PoJ X.K X.w cl ι H acc Q (ms ρ s) → tJs ts acc σ H Q
theorem sj_nil : SJ X cl W [] aNil := ⟨_, .nil, fun acc σ H Q ρ ι s en rs h => h.2 ι H (Ext.refl _ _) rs⟩
theorem str_app_len (a b : Str) : (a ++ b).length = a.length + b.length := by
  show (a.cps ++ b.cps).size = _
  exact Array.size_append
theorem ofStr_len (x : String) : (Str.ofString x).length = x.length := by rw [Str.ofString_eq_toList]; simp [Str.length, String.length_toList]
theorem int_len {i : Int} (h : i.natAbs.log2 < 1920) : (Str.ofString (toString i)).length ≤ 1921 := by
  have := PySem.int_text_length_le (a := i) (k := 1920) (by decide) h
  rw [ofStr_len]
  exact this
theorem sj_str {x : Str} {j : Nat} {pos : Pos} {es : List Expr} {ms : MA} (hr : SJ X cl W es ms) : SJ X cl W (.Constant (.str x) j pos :: es) (aCons (mC (.str x)) ms) := by
  obtain ⟨ts, p2, q2⟩ := hr.ex
  refine ⟨_, .cons pe_str p2, fun acc σ H Q ρ ι s en rs h => ?_⟩
  unfold aCons mC at h
  simp only [R.bind] at h
  cases e2 : ms ρ s with
  | bad => rw [e2] at h; exact False.elim h
  | exc x s2 => rw [e2] at h; exact False.elim h
  | ok ds s2 =>
    rw [e2] at h
    obtain ⟨⟨n, hn, hl⟩, k⟩ := h
    obtain ⟨n', hn', rfl⟩ := Option.map_eq_some_iff.mp (show (fmtC ds).map (x.length + ·) = some n from hn)
    refine ⟨x, rfl, by rw [str_app_len, sizeLine_eq]; omega, q2 (acc ++ x) σ H Q ρ ι s en rs ?_⟩
    rw [e2]
    exact ⟨⟨n', hn', by rw [str_app_len]; omega⟩, k⟩
theorem sj_fmt {e : Expr} {m : ME} {pos : Pos} {es : List Expr} {ms : MA} (he : SE X cl (fun _ _ _ _ => False) e m) (hr : SJ X cl W es ms) : SJ X cl W (.FormattedValue e (-1) none pos :: es) (aCons m ms) := by
  obtain ⟨t, p1, q1⟩ := he.ex
  obtain ⟨ts, p2, q2⟩ := hr.ex
  refine ⟨_, .cons (pe_fmt p1) p2, fun acc σ H Q ρ ι s en rs h => ?_⟩
  unfold aCons at h
  refine q1 σ H _ ρ ι s en rs ?_
  cases e1 : m ρ s with
  | bad => rw [e1] at h; exact False.elim h
  | exc x s1 => rw [e1] at h; exact False.elim h
  | ok d s1 =>
    rw [e1] at h
    simp only [R.bind] at h
    intro ι1 H1 v x1 r1 d1
    cases e2 : ms ρ s1 with
    | bad => rw [e2] at h; exact False.elim h
    | exc x s2 => rw [e2] at h; exact False.elim h
    | ok ds s2 =>
      rw [e2] at h
      obtain ⟨⟨n, hn, hl⟩, k⟩ := h
      cases d with
      | str y =>
        cases d1
        obtain ⟨n', hn', rfl⟩ := Option.map_eq_some_iff.mp (show (fmtC ds).map (y.length + ·) = some n from hn)
        refine .inl ⟨y, rfl, by rw [sizeLine_eq]; omega, y, rfl, by rw [str_app_len, sizeLine_eq]; omega, q2 (acc ++ y) σ H1 Q ρ ι1 s1 (en.ext x1) r1 ?_⟩
        rw [e2]
        exact ⟨⟨n', hn', by rw [str_app_len]; omega⟩, fun ι' H' x' r' => k ι' H' (x1.trans x') r'⟩
      | int i =>
        cases d1
        by_cases hi : i.natAbs.log2 < 1920
        · obtain ⟨n', hn', rfl⟩ := Option.map_eq_some_iff.mp (show (fmtC ds).map (1921 + ·) = some n from (if_pos hi).symm.trans hn)
          have hz := int_len hi
          refine .inr ⟨i, rfl, hi, _, rfl, by rw [str_app_len, sizeLine_eq]; omega, q2 _ σ H1 Q ρ ι1 s1 (en.ext x1) r1 ?_⟩
          rw [e2]
          exact ⟨⟨n', hn', by rw [str_app_len]; omega⟩, fun ι' H' x' r' => k ι' H' (x1.trans x') r'⟩
        · exact nomatch (show none = some n from (if_neg hi).symm.trans hn)
      | _ => cases hn
theorem se_fs {v1 v2 : Expr} {rest : List Expr} {ms : MA} {pos : Pos} (h : SJ X cl W (v1 :: v2 :: rest) ms) : SE X cl W (.JoinedStr (v1 :: v2 :: rest) pos) (mFs ms) := by
  obtain ⟨ts, p, q⟩ := h.ex
  refine ⟨_, pe_joined p, fun σ H Q ρ ι s en rs h => ?_⟩
  unfold mFs at h
  refine q _ σ H _ ρ ι s en rs ?_
  cases e1 : ms ρ s with
  | bad => rw [e1] at h; exact False.elim h
  | exc x s1 => rw [e1] at h; exact False.elim h
  | ok ds s1 =>
    rw [e1] at h
    simp only at h
    by_cases hk : fmtOk ds = true
    · rw [if_pos hk] at h
      unfold fmtOk at hk
      cases hf : fmtC ds with
      | none => rw [hf] at hk; cases hk
      | some n =>
        rw [hf] at hk
        exact ⟨⟨n, hf, by have := of_decide_eq_true hk; simpa [Str.empty, Str.length] using this⟩, fun ι' H' x' r' => h ι' H' _ x' r' (.str _)⟩
    · rw [if_neg hk] at h; exact False.elim h
/-- f'{e}' -/
theorem se_fs1 {e : Expr} {m : ME} {p pos : Pos} (he : SE X cl (fun _ _ _ _ => False) e m) : SE X cl W (.JoinedStr [.FormattedValue e (-1) none p] pos) (mFs (aCons m aNil)) := by
  obtain ⟨t, p1, q1⟩ := he.ex
  refine ⟨_, pe_joined1 (pe_fmt p1), fun σ H Q ρ ι s en rs h => ?_⟩
  unfold mFs aCons at h
  refine q1 σ H _ ρ ι s en rs ?_
  cases e1 : m ρ s with
  | bad => rw [e1] at h; exact False.elim h
  | exc x s1 => rw [e1] at h; exact False.elim h
  | ok d s1 =>
    rw [e1] at h
    simp only [R.bind, aNil] at h
    intro ι1 H1 v x1 r1 d1
    by_cases hk : fmtOk [d] = true
    · rw [if_pos hk] at h
      unfold fmtOk at hk
      cases d with
      | str y =>
        cases d1
        have hl : y.length ≤ 16000000 := by simpa [fmtC] using hk
        refine .inl ⟨y, rfl, by rw [sizeLine_eq]; omega, ?_⟩
        have e3 : fmtT Str.empty [.str y] = y := by
          show Str.empty ++ y = y
          cases y
          show Str.mk _ = _
          simp [Str.empty]
        rw [e3] at h
        exact h ι1 H1 _ x1 r1 (.str _)
      | int i =>
        cases d1
        by_cases hi : i.natAbs.log2 < 1920
        · have e3 : fmtT Str.empty [.int i] = Str.ofString (toString i) := by
            show Str.empty ++ _ = _
            generalize Str.ofString (toString i) = y
            cases y
            show Str.mk _ = _
            simp [Str.empty]
          rw [e3] at h
          exact .inr ⟨i, rfl, hi, h ι1 H1 _ x1 r1 (.str _)⟩
        · simp [fmtC, hi] at hk
      | _ => simp [fmtC] at hk
    · rw [if_neg hk] at h; exact False.elim h
end

/-! ### facts of classes -/
section
variable {K : PySem.W.Frag} {C C' : Addr} {b : Bool}
theorem cls_some (h : PySem.W.hasDictIn K C = true) : (PySem.W.clsIn K C).isSome = true := by
  obtain ⟨cd, hc, _⟩ := PySem.W.any_some h
  rw [hc] <;> rfl
theorem kit_self {t : Value} : PySem.W.kitOne K t t = some true := if_pos (beq_self_eq_true t)
theorem kit_ref (ne : (Value.ref C == Value.ref C') = false) (hd : PySem.W.hasDictIn K C' = true) (ty : PySem.W.typeIn K (.ref C') = some (.type "type")) (sb : PySem.W.subIn K (.ref C) (.ref C') = some b) : PySem.W.kitOne K (.ref C) (.ref C') = some b := by
  unfold PySem.W.kitOne
  rw [ne, if_neg (by decide)]
  have e : ((PySem.W.clsIn K C').isSome && PySem.W.typeIn K (.ref C') == some (.type "type")) = true := by rw [cls_some hd, ty] <;> rfl
  exact (if_pos e).trans sb
theorem kit_typ {T : String} (hm : PySem.W.kitMeta T = true) (sb : PySem.W.subIn K (.ref C) (.type T) = some b) : PySem.W.kitOne K (.ref C) (.type T) = some b := by
  unfold PySem.W.kitOne
  have ne : (Value.ref C == Value.type T) = false := beq_eq_false_iff_ne.mpr fun z => by cases z
  rw [ne, if_neg (by decide)]
  exact (if_pos hm).trans sb
end
/-! ### tables of classes -/
def tabF (l : List (Str × Bool)) : Str → Option Bool := fun c => l.lookup c
section
variable {K : PySem.W.Frag} {cl : Cl} {c : Value} {x f : Str} {A : Addr} {b : Bool} {l : List (Str × Bool)}
theorem hdok_nil : HdOk K cl c (tabF []) := fun C A b _ h => nomatch (show none = some b from h)
theorem hdok_cons (hx : cl x = some A) (h : PySem.W.exmOne K (.ref A) c = some b) (r : HdOk K cl c (tabF l)) : HdOk K cl c (tabF ((x, b) :: l)) := fun C A' b' hC hb => by
  unfold tabF at hb
  rw [List.lookup_cons] at hb
  split at hb
  · rename_i he
    cases eq_of_beq he
    rw [hx] at hC
    cases hC
    cases hb
    exact h
  · exact r C A' b' hC hb
theorem xcs_nil {c0 : Str → Option Addr} : ∀ C ∈ ([] : List Str), ∀ A', c0 C = some A' → XfC K A' ∧ PySem.W.findIn K (.ref A') f = some none := fun _ h => nomatch h
theorem xcs_cons {c0 : Str → Option Addr} {cs : List Str} (hx : c0 x = some A) (h1 : XfC K A) (h2 : PySem.W.findIn K (.ref A) f = some none) (r : ∀ C ∈ cs, ∀ A', c0 C = some A' → XfC K A' ∧ PySem.W.findIn K (.ref A') f = some none) :
    ∀ C ∈ x :: cs, ∀ A', c0 C = some A' → XfC K A' ∧ PySem.W.findIn K (.ref A') f = some none := fun C hC A' hA => by
  rcases List.mem_cons.mp hC with rfl | hC
  · rw [hx] at hA; cases hA; exact ⟨h1, h2⟩
  · exact r C hC A' hA
theorem xis_nil {c0 : Str → Option Addr} : ∀ C A' b, c0 C = some A' → tabF [] C = some b → XIs K A' ∧ PySem.W.kitOne K (.ref A') c = some b := fun C A b _ h => nomatch (show none = some b from h)
theorem xis_cons {c0 : Str → Option Addr} (hx : c0 x = some A) (h1 : XIs K A) (h2 : PySem.W.kitOne K (.ref A) c = some b) (r : ∀ C A' b, c0 C = some A' → tabF l C = some b → XIs K A' ∧ PySem.W.kitOne K (.ref A') c = some b) :
    ∀ C A' b', c0 C = some A' → tabF ((x, b) :: l) C = some b' → XIs K A' ∧ PySem.W.kitOne K (.ref A') c = some b' := fun C A' b' hC hb => by
  unfold tabF at hb
  rw [List.lookup_cons] at hb
  split at hb
  · rename_i he
    cases eq_of_beq he
    rw [hx] at hC
    cases hC
    cases hb
    exact ⟨h1, h2⟩
  · exact r C A' b' hC hb
theorem mXInit_arity {n : Nat} {msg : ME} {sets : List (Str × ME)} : ∀ ds s, ds.length ≠ n → mXInit n msg sets ds s = .bad := fun ds s h => if_neg h
end
end Pm
namespace Pm
open PySem PySem.Spec PyProof.Rows L2
theorem room_su {X : Cx} {a : Addr} {pn : List (Addr × Obj)} (h : X.A.units + 64 < cLine) : (X.suite a pn).A.units + 64 < cLine := h
theorem room_su1 {X : Cx} {a : Addr} {pn : List (Addr × Obj)} (h : X.A.units + 65 < cLine) : (X.suite a pn).A.units + 65 < cLine := h
end Pm
namespace Pm.Z
open PySem PySem.Spec PyProof.Rows L2

/-! ### what a term gives: a calculus over M -/
def wp {α : Type} (r : R α) (Q : α → S → Prop) (E : D → S → Prop := fun _ _ => False) : Prop := match r with
  | .ok a s => Q a s
  | .exc x s => E x s
  | .bad => False
def wS (r : RS) (Q : C → S → Prop) (E : D → Rho → S → Prop := fun _ _ _ => False) : Prop := match r with
  | .ok c s => Q c s
  | .exc x ρ s => E x ρ s
  | .bad => False
def rtQ (Q : D → S → Prop) : C → S → Prop
  | .rt d, s => Q d s
  | .nx _, s => Q .non s
  | _, _ => False
def seqQ (b : MS) (Q : C → S → Prop) (E : D → Rho → S → Prop := fun _ _ _ => False) : C → S → Prop
  | .nx ρ, s => wS (b ρ s) Q E
  | c, s => Q c s
section
variable {α β : Type} {Q : α → S → Prop} {E : D → S → Prop}
theorem wp_ok {a : α} {s : S} : wp (.ok a s) Q E = Q a s := rfl
theorem wp_bad : wp (.bad : R α) Q E = False := rfl
theorem wp_bind {r : R β} {f : β → S → R α} : wp (r.bind f) Q E = wp r (fun b s => wp (f b s) Q E) E := by cases r <;> rfl
theorem wp_mono {Q' : α → S → Prop} {r : R α} (h : wp r Q E) (k : ∀ a s, Q a s → Q' a s) : wp r Q' E := by
  cases r with
  | ok a s => exact k a s h
  | exc x s => exact h
  | bad => exact h.elim
theorem wp_monoE {E' : D → S → Prop} {r : R α} (h : wp r Q E) (k : ∀ x s, E x s → E' x s) : wp r Q E' := by
  cases r with
  | ok a s => exact h
  | exc x s => exact k x s h
  | bad => exact h.elim
theorem wp_ite {p : Prop} [Decidable p] {a b : R α} : wp (if p then a else b) Q E = if p then wp a Q E else wp b Q E := by split <;> rfl
theorem wp_ex {r : R α} (h : wp r Q) : ∃ a s, r = .ok a s ∧ Q a s := by
  cases r with
  | ok a s => exact ⟨a, s, rfl, h⟩
  | exc x s => exact h.elim
  | bad => exact h.elim
end
section
variable {Q : C → S → Prop} {E : D → Rho → S → Prop} {ρ : Rho} {s : S}
theorem wS_ok {c : C} : wS (.ok c s) Q E = Q c s := rfl
theorem wS_bad : wS .bad Q E = False := rfl
theorem wS_mono {Q' : C → S → Prop} {r : RS} (h : wS r Q E) (k : ∀ a s, Q a s → Q' a s) : wS r Q' E := by
  cases r with
  | ok a s => exact k a s h
  | exc x ρ s => exact h
  | bad => exact h.elim
theorem wS_monoE {E' : D → Rho → S → Prop} {r : RS} (h : wS r Q E) (k : ∀ x ρ s, E x ρ s → E' x ρ s) : wS r Q E' := by
  cases r with
  | ok a s => exact h
  | exc x ρ s => exact k x ρ s h
  | bad => exact h.elim
theorem wS_ite {p : Prop} [Decidable p] {a b : RS} : wS (if p then a else b) Q E = if p then wS a Q E else wS b Q E := by split <;> rfl
theorem wS_st {α : Type} {r : R α} {f : α → S → RS} : wS (r.st ρ f) Q E = wp r (fun a s => wS (f a s) Q E) (fun x s => E x ρ s) := by cases r <;> rfl
theorem wS_cons {a b : MS} : wS (ssCons a b ρ s) Q E = wS (a ρ s) (seqQ b Q E) E := by
  unfold ssCons RS.andThen
  cases a ρ s with
  | ok c s1 => cases c <;> rfl
  | exc x ρ s1 => rfl
  | bad => rfl
theorem wS_nil : wS (ssNil ρ s) Q E = Q (.nx ρ) s := rfl
theorem wS_pass : wS (sPass ρ s) Q E = Q (.nx ρ) s := rfl
theorem wS_break : wS (sBreak ρ s) Q E = Q (.bk ρ) s := rfl
theorem wS_cont : wS (sCont ρ s) Q E = Q (.ct ρ) s := rfl
theorem wS_never : wS (sNever ρ s) Q E = False := rfl
theorem wS_set {i : Nat} {m : ME} : wS (sSet i m ρ s) Q E = wp (m ρ s) (fun d s1 => Q (.nx (ρ.set i (some d))) s1) (fun x s => E x ρ s) := wS_st
theorem wS_expr {m : ME} : wS (sExpr m ρ s) Q E = wp (m ρ s) (fun _ s1 => Q (.nx ρ) s1) (fun x s => E x ρ s) := wS_st
theorem wS_ret {m : ME} : wS (sRet m ρ s) Q E = wp (m ρ s) (fun d s1 => Q (.rt d) s1) (fun x s => E x ρ s) := wS_st
theorem wS_retN : wS (sRetN ρ s) Q E = Q (.rt .non) s := rfl
theorem wS_if {c : MT} {a b : MS} : wS (sIf c a b ρ s) Q E = wp (c ρ s) (fun k s1 => if k = true then wS (a ρ s1) Q E else wS (b ρ s1) Q E) (fun x s => E x ρ s) := by
  unfold sIf
  rw [wS_st]
  congr 1
  funext k s1
  exact wS_ite
theorem wS_asg {m : ME} {g : MG} : wS (sAsg m g ρ s) Q E = wp (m ρ s) (fun d s1 => wp (g d ρ s1) (fun ρ1 s2 => Q (.nx ρ1) s2)) (fun x s => E x ρ s) := by
  unfold sAsg
  rw [wS_st]
  congr 1
  funext d s1
  cases g d ρ s1 <;> rfl
theorem wS_aug {i : Nat} {f : D → D → S → R D} {m : ME} : wS (sAug i f m ρ s) Q E = wp (mVar i ρ s) (fun x s0 => wp (m ρ s0) (fun y s1 => wp (f x y s1) (fun z s2 => Q (.nx (ρ.set i (some z))) s2) (fun x s => E x ρ s)) (fun x s => E x ρ s)) (fun x s => E x ρ s) := by
  unfold sAug mVar
  cases h : ρ[i]? with
  | none => rfl
  | some o =>
    cases o with
    | none => rfl
    | some x =>
      simp only [wp_ok, wS_st]
      rfl
/-- behind one turn of a loop -/
def turnQ (k : Rho → S → Prop) (Q : C → S → Prop) : C → S → Prop
  | .nx ρ, s => k ρ s
  | .ct ρ, s => k ρ s
  | .bk ρ, s => Q (.nx ρ) s
  | .rt d, s => Q (.rt d) s
theorem wS_for {it : MI} {g : MG} {b : MS} : wS (sFor it g b ρ s) Q E = wp (it ρ s) (fun p s1 => wS (forL p.2 p.1 g b p.1 ρ s1) Q E) (fun x s => E x ρ s) := wS_st
open Classical in
theorem wS_forL_nil {gd : Option Nat} {all : List D} {g : MG} {b : MS} : wS (forL gd all g b [] ρ s) Q E = (gOk gd all s ∧ Q (.nx ρ) s) := by
  unfold forL
  rw [wS_ite]
  by_cases h : gOk gd all s
  · rw [if_pos h, wS_ok]; simp [h]
  · rw [if_neg h, wS_bad]; simp [h]
open Classical in
theorem wS_forL_cons {gd : Option Nat} {all xs : List D} {x : D} {g : MG} {b : MS} : wS (forL gd all g b (x :: xs) ρ s) Q E = (gOk gd all s ∧ wp (g x ρ s) (fun ρ1 s1 => wS (b ρ1 s1) (turnQ (fun ρ2 s2 => wS (forL gd all g b xs ρ2 s2) Q E) Q) E)) := by
  rw [show forL gd all g b (x :: xs) ρ s = _ from by unfold forL; rfl, wS_ite]
  by_cases h : gOk gd all s
  · rw [if_pos h]
    simp only [h, true_and]
    cases g x ρ s with
    | ok ρ1 s1 =>
      simp only [wp_ok]
      cases b ρ1 s1 with
      | ok c s2 => cases c <;> rfl
      | exc x ρ2 s2 => rfl
      | bad => rfl
    | exc x s1 => rfl
    | bad => rfl
  · rw [if_neg h, wS_bad]; simp [h]
/-- a for with an invariant: what stands ahead of the items xs -/
theorem wS_forL {gd : Option Nat} {all : List D} {g : MG} {b : MS} (I : List D → Rho → S → Prop) (hg : ∀ xs ρ s, I xs ρ s → gOk gd all s) (hn : ∀ ρ s, I [] ρ s → Q (.nx ρ) s)
    (hc : ∀ x xs ρ s, I (x :: xs) ρ s → wp (g x ρ s) (fun ρ1 s1 => wS (b ρ1 s1) (turnQ (I xs) Q) E)) : ∀ (xs : List D) (ρ : Rho) (s : S), I xs ρ s → wS (forL gd all g b xs ρ s) Q E
  | [], ρ, s, h => by rw [wS_forL_nil]; exact ⟨hg _ _ _ h, hn _ _ h⟩
  | x :: xs, ρ, s, h => by
    rw [wS_forL_cons]
    refine ⟨hg _ _ _ h, wp_mono (hc x xs ρ s h) fun ρ1 s1 h1 => wS_mono h1 fun c s2 h2 => ?_⟩
    cases c with
    | nx ρ2 => exact wS_forL I hg hn hc xs ρ2 s2 h2
    | ct ρ2 => exact wS_forL I hg hn hc xs ρ2 s2 h2
    | bk ρ2 => exact h2
    | rt d => exact h2
theorem wS_forN {all : List D} {g : MG} {b : MS} (I : List D → Rho → S → Prop) (hn : ∀ ρ s, I [] ρ s → Q (.nx ρ) s)
    (hc : ∀ x xs ρ s, I (x :: xs) ρ s → wp (g x ρ s) (fun ρ1 s1 => wS (b ρ1 s1) (turnQ (I xs) Q) E)) (xs : List D) (ρ : Rho) (s : S) (h : I xs ρ s) : wS (forL none all g b xs ρ s) Q E :=
  wS_forL (gd := none) I (fun _ _ _ _ => trivial) hn hc xs ρ s h
theorem wS_while {c : MT} {b : MS} : wS (sWhile c b ρ s) Q E = wp (c ρ s) (fun k s1 => if k = true then wS (b ρ s1) (turnQ (fun ρ2 s2 => wS (sWhile c b ρ2 s2) Q E) Q) E else Q (.nx ρ) s1) (fun x s => E x ρ s) := by
  rw [sWhile_eq]
  cases c ρ s with
  | exc x s1 => rfl
  | bad => rfl
  | ok k s1 =>
    cases k with
    | false => rfl
    | true =>
      simp only [wp_ok, if_true]
      cases b ρ s1 with
      | ok c s2 => cases c <;> rfl
      | exc x ρ2 s2 => rfl
      | bad => rfl
/-- a comprehension with an invariant -/
theorem wp_mapL {gd : Option Nat} {all : List D} {g : MG} {t : MT} {m : ME} {ρ : Rho} (I : List D → List D → S → Prop) {Q : List D → S → Prop} (hg : ∀ xs a s, I xs a s → gOk gd all s)
    (hc : ∀ x xs a s, I (x :: xs) a s → wp (g x ρ s) fun ρ1 s1 => wp (t ρ1 s1) fun k s2 => if k = true then wp (m ρ1 s2) fun d s3 => I xs (a ++ [d]) s3 else I xs a s2) :
    ∀ (xs a : List D) (s : S), I xs a s → (∀ a' s', I [] (a ++ a') s' → Q a' s') → wp (mapL gd all g t m xs ρ s) Q
  | [], a, s, h, hn => by
    unfold mapL
    rw [if_pos (hg _ _ _ h)]
    exact hn [] s (by rw [List.append_nil]; exact h)
  | x :: xs, a, s, h, hn => by
    unfold mapL
    rw [if_pos (hg _ _ _ h)]
    have h1 := hc x xs a s h
    cases e1 : g x ρ s with
    | exc y s1 => rw [e1] at h1; exact h1.elim
    | bad => rw [e1] at h1; exact h1.elim
    | ok ρ1 s1 =>
    rw [e1] at h1
    simp only [wp_ok] at h1 ⊢
    cases e2 : t ρ1 s1 with
    | exc y s2 => rw [e2] at h1; exact h1.elim
    | bad => rw [e2] at h1; exact h1.elim
    | ok k s2 =>
    rw [e2] at h1
    simp only [wp_ok] at h1
    cases k with
    | false =>
      simp only at h1 ⊢
      exact wp_mapL I hg hc xs a s2 h1 hn
    | true =>
      simp only [if_true] at h1 ⊢
      cases e3 : m ρ1 s2 with
      | exc y s3 => rw [e3] at h1; exact h1.elim
      | bad => rw [e3] at h1; exact h1.elim
      | ok d s3 =>
      rw [e3] at h1
      simp only [wp_ok] at h1 ⊢
      have h2 := wp_mapL (Q := fun ds s4 => Q (d :: ds) s4) I hg hc xs (a ++ [d]) s3 h1 fun a' s' h3 => hn (d :: a') s' (by rw [List.append_assoc] at h3; exact h3)
      cases e4 : mapL gd all g t m xs ρ s3 with
      | exc y s4 => rw [e4] at h2; exact h2.elim
      | bad => rw [e4] at h2; exact h2.elim
      | ok ds s4 => rw [e4] at h2; exact h2
end
section
variable {Q : D → S → Prop} {E : D → S → Prop} {ρ : Rho} {s : S}
theorem wp_lc {it : MI} {g : MG} {t : MT} {m : ME} {own : List Nat} : wp (mLc it g t m own ρ s) Q E = wp (it ρ s) (fun p s1 => wp (mapL p.2 p.1 g t m p.1 (wipeD ρ own) s1) (fun ds s2 => p.1.length ≤ sizeLine ∧ Q (.lst ds) s2)) E := by
  unfold mLc
  rw [wp_bind]
  congr 1
  funext p s1
  cases mapL p.2 p.1 g t m p.1 (wipeD ρ own) s1 with
  | ok ds s2 =>
    simp only [wp_ok]
    by_cases h : p.1.length ≤ sizeLine
    · rw [if_pos h]; simp [wp_ok, h]
    · rw [if_neg h]; simp [wp_bad, h]
  | exc x s2 => rfl
  | bad => rfl
theorem wp_fn {n tot : Nat} {m : MS} {ds : List D} (h : ds.length = n) : wp (mkFn n tot m ds s) Q E = wS (m (ds.map some ++ List.replicate (tot - n) none) s) (rtQ Q) (fun x _ s => E x s) := by
  unfold mkFn
  rw [if_pos h]
  cases m (ds.map some ++ List.replicate (tot - n) none) s with
  | ok c s1 => cases c <;> rfl
  | exc x ρ s1 => rfl
  | bad => rfl
def fzQ (n : Nat) (Q : D → S → Prop) : D → S → Prop := fun d s => ∃ d', frzD s n 20 d = some d' ∧ stOk n s = true ∧ Q d' (s.take n)
theorem wp_frzE {n : Nat} {r : R D} (h : wp r (fzQ n Q) (fzQ n E)) : wp (frzR n r) Q E := by
  cases r with
  | ok d s =>
    obtain ⟨d', e, h1, h2⟩ := h
    unfold frzR
    simp only [e]
    rw [if_pos h1]
    exact h2
  | exc x s =>
    obtain ⟨d', e, h1, h2⟩ := h
    unfold frzR
    simp only [e]
    rw [if_pos h1]
    exact h2
  | bad => exact h.elim
theorem wp_frz {n : Nat} {r : R D} (h : wp r (fzQ n Q)) : wp (frzR n r) Q E := wp_frzE (wp_monoE h fun _ _ z => z.elim)
theorem wp_make {c : Str} {G : List D → S → R D} {ms : MA} : wp (mMake c G ms ρ s) Q E = wp (ms ρ s) (fun ds s1 => wp (G (.ref s1.length :: ds) (s1 ++ [.ins c []])) (fun d s2 => d = .non ∧ Q (.ref s1.length) s2) E) E := by
  unfold mMake
  rw [wp_bind]
  congr 1
  funext ds s1
  cases G (.ref s1.length :: ds) (s1 ++ [.ins c []]) with
  | ok d s2 =>
    cases d <;> simp [wp_ok, wp_bad]
  | exc x s2 => rfl
  | bad => rfl
/-! values -/
theorem wp_m1 {f : D → S → R D} {a : ME} : wp (m1 f a ρ s) Q E = wp (a ρ s) (fun x s1 => wp (f x s1) Q E) E := wp_bind
theorem wp_m2 {f : D → D → S → R D} {a b : ME} : wp (m2 f a b ρ s) Q E = wp (a ρ s) (fun x s1 => wp (b ρ s1) (fun y s2 => wp (f x y s2) Q E) E) E := by
  unfold m2
  rw [wp_bind]
  congr 1
  funext x s1
  exact wp_bind
theorem wp_mN {f : List D → S → R D} {a : MA} : wp (mN f a ρ s) Q E = wp (a ρ s) (fun x s1 => wp (f x s1) Q E) E := wp_bind
theorem wp_aNil {Q : List D → S → Prop} : wp (aNil ρ s) Q E = Q [] s := rfl
theorem wp_aCons {a : ME} {r : MA} {Q : List D → S → Prop} : wp (aCons a r ρ s) Q E = wp (a ρ s) (fun x s1 => wp (r ρ s1) (fun xs s2 => Q (x :: xs) s2) E) E := by
  unfold aCons
  rw [wp_bind]
  congr 1
  funext x s1
  exact wp_bind
theorem wp_mC {d : D} : wp (mC d ρ s) Q E = Q d s := rfl
theorem wp_var {i : Nat} : wp (mVar i ρ s) Q E = match ρ[i]? with | some (some d) => Q d s | _ => False := by
  unfold mVar
  cases ρ[i]? with
  | none => rfl
  | some o => cases o <;> rfl
theorem wp_if {c : MT} {a b : ME} : wp (mIf c a b ρ s) Q E = wp (c ρ s) (fun k s1 => if k = true then wp (a ρ s1) Q E else wp (b ρ s1) Q E) E := by
  unfold mIf
  rw [wp_bind]
  congr 1
  funext k s1
  exact wp_ite
theorem wp_and {a b : ME} : wp (mAnd a b ρ s) Q E = wp (a ρ s) (fun d s1 => match d with | .bl true => wp (b ρ s1) Q E | .bl false => Q (.bl false) s1 | _ => False) E := by
  unfold mAnd
  rw [wp_bind]
  congr 1
  funext d s1
  cases d <;> try rfl
  rename_i k
  cases k <;> rfl
theorem wp_or {a b : ME} : wp (mOr a b ρ s) Q E = wp (a ρ s) (fun d s1 => match d with | .bl true => Q (.bl true) s1 | .bl false => wp (b ρ s1) Q E | _ => False) E := by
  unfold mOr
  rw [wp_bind]
  congr 1
  funext d s1
  cases d <;> try rfl
  rename_i k
  cases k <;> rfl
theorem wp_not {a : ME} : wp (mNot a ρ s) Q E = wp (a ρ s) (fun d s1 => match d with | .bl b => Q (.bl (!b)) s1 | _ => False) E := by
  unfold mNot
  rw [wp_bind]
  congr 1
  funext d s1
  cases d <;> rfl
theorem wp_chain {f g : D → D → S → R D} {a b c : ME} : wp (mChain f g a b c ρ s) Q E = wp (a ρ s) (fun x s1 => wp (b ρ s1) (fun y s2 => wp (f x y s2) (fun k s3 => match k with | .bl true => wp (c ρ s3) (fun z s4 => wp (g y z s4) Q E) E | .bl false => Q (.bl false) s3 | _ => False) E) E) E := by
  unfold mChain
  rw [wp_bind]
  congr 1
  funext x s1
  rw [wp_bind]
  congr 1
  funext y s2
  rw [wp_bind]
  congr 1
  funext k s3
  cases k <;> try rfl
  rename_i b
  cases b
  · rfl
  · exact wp_bind
theorem wp_mt {T : String} {f : D → List D → S → R D} {a : ME} {as : MA} : wp (mMt T f a as ρ s) Q E = wp (a ρ s) (fun x s1 => hasTy T s1 x = true ∧ wp (as ρ s1) (fun xs s2 => wp (f x xs s2) Q E) E) E := by
  unfold mMt
  rw [wp_bind]
  congr 1
  funext x s1
  by_cases h : hasTy T s1 x = true
  · rw [if_pos h, wp_bind]; simp [h]
  · rw [if_neg h]; simp [h, wp_bad]
theorem wp_get {a b : ME} : wp (mGet a b ρ s) Q E = wp (a ρ s) (fun x s1 => match x with | .dic kvs => wp (b ρ s1) (fun y s2 => match y with | .str z => Q ((kvs.lookup z).getD .non) s2 | _ => False) E | _ => False) E := by
  unfold mGet
  rw [wp_bind]
  congr 1
  funext x s1
  cases x <;> try rfl
  rename_i kvs
  simp only
  rw [wp_bind]
  congr 1
  funext y s2
  cases y <;> try rfl
  rename_i z
  simp only
  cases kvs.lookup z <;> rfl
theorem wp_isi {tys : List String} {a : ME} : wp (mIsi tys a ρ s) Q E = wp (a ρ s) (fun d s1 => match tyName s1 d with | some t => Q (.bl (tys.any (isSub t))) s1 | none => False) E := by
  unfold mIsi
  rw [wp_bind]
  congr 1
  funext d s1
  cases tyName s1 d <;> rfl
theorem wp_fld {f : Str} {cs : List Str} {a : ME} : wp (mFld f cs a ρ s) Q E = wp (a ρ s) (fun d s1 => match insOf s1 d with | some (c, fs) => c ∈ cs ∧ (match fs.lookup f with | some v => Q v s1 | none => False) | none => False) E := by
  unfold mFld
  rw [wp_bind]
  congr 1
  funext d s1
  cases insOf s1 d with
  | none => rfl
  | some p =>
    obtain ⟨c, fs⟩ := p
    simp only
    by_cases h : c ∈ cs
    · rw [if_pos h]
      simp only [h, true_and]
      cases fs.lookup f <;> rfl
    · rw [if_neg h]; simp [h, wp_bad]
theorem wp_sl {m : ME} {lo hi : Rho → S → R (Option Int)} : wp (mSl m lo hi ρ s) Q E = wp (m ρ s) (fun d s1 => wp (lo ρ s1) (fun l s2 => wp (hi ρ s2) (fun h s3 => wp (dSl l h d s3) Q E) E) E) E := by
  unfold mSl
  rw [wp_bind]
  congr 1
  funext d s1
  rw [wp_bind]
  congr 1
  funext l s2
  exact wp_bind
theorem wp_oNone {Q : Option Int → S → Prop} : wp (oNone ρ s) Q E = Q none s := rfl
theorem wp_oSome {m : ME} {Q : Option Int → S → Prop} : wp (oSome m ρ s) Q E = wp (m ρ s) (fun d s1 => match d with | .int i => Q (some i) s1 | _ => False) E := by
  unfold oSome
  rw [wp_bind]
  congr 1
  funext d s1
  cases d <;> rfl
/-! tests -/
variable {Q' : Bool → S → Prop}
theorem wp_tBool {a : ME} : wp (tBool a ρ s) Q' E = wp (a ρ s) (fun d s1 => match d with | .bl b => Q' b s1 | _ => False) E := by
  unfold tBool
  rw [wp_bind]
  congr 1
  funext d s1
  cases d <;> rfl
theorem wp_tTru {f : D → S → Option Bool} {a : ME} : wp (tTru f a ρ s) Q' E = wp (a ρ s) (fun d s1 => match f d s1 with | some b => Q' b s1 | none => False) E := by
  unfold tTru
  rw [wp_bind]
  congr 1
  funext d s1
  cases f d s1 <;> rfl
theorem wp_tNot {a : MT} : wp (tNot1 a ρ s) Q' E = wp (a ρ s) (fun k s1 => Q' (!k) s1) E := wp_bind
theorem wp_tAnd {a b : MT} : wp (tAnd2 a b ρ s) Q' E = wp (a ρ s) (fun k s1 => if k = true then wp (b ρ s1) Q' E else Q' false s1) E := by
  unfold tAnd2
  rw [wp_bind]
  congr 1
  funext k s1
  rw [wp_ite]
  rfl
theorem wp_tOr {a b : MT} : wp (tOr2 a b ρ s) Q' E = wp (a ρ s) (fun k s1 => if k = true then Q' true s1 else wp (b ρ s1) Q' E) E := by
  unfold tOr2
  rw [wp_bind]
  congr 1
  funext k s1
  rw [wp_ite]
  rfl
theorem wp_tAll : wp (tAll ρ s) Q' E = Q' true s := rfl
/-! targets, iterables -/
theorem wp_gSlot {i : Nat} {d : D} {Q : Rho → S → Prop} : wp (gSlot i d ρ s) Q E = Q (ρ.set i (some d)) s := rfl
theorem wp_gsNil {Q : Rho → S → Prop} : wp (gsNil [] ρ s) Q E = Q ρ s := rfl
theorem wp_gsCons {g : MG} {r : MGs} {d : D} {ds : List D} {Q : Rho → S → Prop} : wp (gsCons g r (d :: ds) ρ s) Q E = wp (g d ρ s) (fun ρ1 s1 => wp (r ds ρ1 s1) Q E) E := wp_bind
theorem wp_gTup {n : Nat} {r : MGs} {d : D} {Q : Rho → S → Prop} : wp (gTupD n r d ρ s) Q E = match d with | .tup ds => ds.length = n ∧ wp (r ds ρ s) Q E | _ => False := by
  unfold gTupD
  cases d <;> try rfl
  rename_i ds
  simp only
  by_cases h : ds.length = n
  · rw [if_pos h]; simp [h]
  · rw [if_neg h]; simp [h, wp_bad]
theorem wp_gSub {o i : ME} {v : D} {Q : Rho → S → Prop} : wp (gSubD o i v ρ s) Q E = wp (o ρ s) (fun x s1 => wp (i ρ s1) (fun y s2 => match dStore x y v s2 with | some s3 => Q ρ s3 | none => False) E) E := by
  unfold gSubD
  rw [wp_bind]
  congr 1
  funext x s1
  rw [wp_bind]
  congr 1
  funext y s2
  cases dStore x y v s2 <;> rfl
variable {QI : List D × Option Nat → S → Prop}
theorem wp_iSeq {m : ME} : wp (iSeq m ρ s) QI E = wp (m ρ s) (fun d s1 => match d with | .lst xs => QI (xs, none) s1 | .ref n => (match s1[n]? with | some (.lst xs) => QI (xs, some n) s1 | _ => False) | _ => False) E := by
  unfold iSeq
  rw [wp_bind]
  congr 1
  funext d s1
  cases d <;> try rfl
  rename_i n
  simp only
  cases s1[n]? with
  | none => rfl
  | some o => cases o <;> rfl
theorem wp_iAny {m : ME} : wp (iAny m ρ s) QI E = wp (m ρ s) (fun d s1 => match d with | .lst xs => QI (xs, none) s1 | .tup xs => QI (xs, none) s1 | .str x => QI (x.cps.toList.map fun c => .str ⟨#[c]⟩, none) s1 | .ref n => (match s1[n]? with | some (.lst xs) => QI (xs, some n) s1 | _ => False) | _ => False) E := by
  unfold iAny
  rw [wp_bind]
  congr 1
  funext d s1
  cases d <;> try rfl
  rename_i n
  simp only
  cases s1[n]? with
  | none => rfl
  | some o => cases o <;> rfl
theorem wp_iTup {m : ME} : wp (iTupD m ρ s) QI E = wp (m ρ s) (fun d s1 => match d with | .tup xs => QI (xs, none) s1 | _ => False) E := by
  unfold iTupD
  rw [wp_bind]
  congr 1
  funext d s1
  cases d <;> rfl
theorem wp_iStr {m : ME} : wp (iStrD m ρ s) QI E = wp (m ρ s) (fun d s1 => match d with | .str x => QI (x.cps.toList.map fun c => .str ⟨#[c]⟩, none) s1 | _ => False) E := by
  unfold iStrD
  rw [wp_bind]
  congr 1
  funext d s1
  cases d <;> rfl
theorem wp_iRange1 {m : ME} : wp (iRange1 m ρ s) QI E = wp (m ρ s) (fun d s1 => match d with | .int j => (-(2 ^ 62) ≤ j ∧ j < 2 ^ 62) ∧ QI (rng 0 j.toNat, none) s1 | _ => False) E := by
  unfold iRange1
  rw [wp_bind]
  congr 1
  funext d s1
  cases d <;> try rfl
  rename_i j
  simp only
  by_cases h : -(2 ^ 62) ≤ j ∧ j < 2 ^ 62
  · rw [if_pos h]; simp only [h, and_self, true_and]; rfl
  · rw [if_neg h]; simp only [h, false_and]; rfl
theorem wp_iRange2 {a b : ME} : wp (iRange2 a b ρ s) QI E = wp (a ρ s) (fun d s1 => wp (b ρ s1) (fun e s2 => match d, e with | .int i, .int j => (-(2 ^ 62) ≤ i ∧ i < 2 ^ 62 ∧ -(2 ^ 62) ≤ j ∧ j < 2 ^ 62) ∧ QI (rng i (j - i).toNat, none) s2 | _, _ => False) E) E := by
  unfold iRange2
  rw [wp_bind]
  congr 1
  funext d s1
  rw [wp_bind]
  congr 1
  funext e s2
  cases d <;> cases e <;> try rfl
  rename_i i j
  simp only
  by_cases h : -(2 ^ 62) ≤ i ∧ i < 2 ^ 62 ∧ -(2 ^ 62) ≤ j ∧ j < 2 ^ 62
  · rw [if_pos h]; simp only [h, and_self, true_and]; rfl
  · rw [if_neg h]; simp only [h, false_and]; rfl
theorem wp_iZip {a b : ME} : wp (iZipD a b ρ s) QI E = wp (a ρ s) (fun d s1 => wp (b ρ s1) (fun e s2 => match fview d, fview e with | some xs, some ys => QI (zipD xs ys, none) s2 | _, _ => False) E) E := by
  unfold iZipD
  rw [wp_bind]
  congr 1
  funext d s1
  rw [wp_bind]
  congr 1
  funext e s2
  cases fview d <;> cases fview e <;> rfl
theorem wS_fld {f : Str} {cs : List Str} {mo mv : ME} {Q : C → S → Prop} {E' : D → Rho → S → Prop} : wS (sFldD f cs mo mv ρ s) Q E' = wp (mv ρ s) (fun v s1 => wp (mo ρ s1) (fun d s2 => match d with
    | .ref n => (match s2[n]? with | some (.ins c fs) => (c ∈ cs ∧ fs.length < 1000) ∧ Q (.nx ρ) (s2.set n (.ins c (putFD f v fs))) | _ => False)
    | _ => False) (fun x s => E' x ρ s)) (fun x s => E' x ρ s) := by
  unfold sFldD
  rw [wS_st]
  congr 1
  funext v s1
  rw [wS_st]
  congr 1
  funext d s2
  cases d <;> try rfl
  rename_i n
  simp only
  cases s2[n]? with
  | none => rfl
  | some o =>
    cases o with
    | lst xs => rfl
    | dK kvs => rfl
    | ins c fs =>
      simp only
      by_cases h : c ∈ cs ∧ fs.length < 1000
      · rw [if_pos h]; simp only [h, and_self, true_and]; rfl
      · rw [if_neg h]; simp only [h, false_and]; rfl
end
def cutQ (n : Nat) (Q : C → S → Prop) : C → S → Prop
  | .nx ρ, s => stOk n s = true ∧ Q (.nx (cutRho n ρ)) (s.take n)
  | .ct ρ, s => stOk n s = true ∧ Q (.ct (cutRho n ρ)) (s.take n)
  | .bk ρ, s => stOk n s = true ∧ Q (.bk (cutRho n ρ)) (s.take n)
  | .rt d, s => Q (.rt d) s
theorem wS_cut {m : MS} {ρ : Rho} {s : S} {Q : C → S → Prop} {E : D → Rho → S → Prop} : wS (sCut m ρ s) Q E = wS (m ρ s) (cutQ s.length Q) E := by
  unfold sCut
  cases m ρ s with
  | bad => rfl
  | exc x ρ1 s1 => rfl
  | ok c s1 =>
    cases c with
    | rt d => rfl
    | nx ρ1 =>
      unfold cutS
      by_cases h : stOk s.length s1 = true
      · simp only [h, if_true]; show Q _ _ = (_ ∧ _); simp [h]
      · simp only [h]; show False = (_ ∧ _); simp [h]
    | ct ρ1 =>
      unfold cutS
      by_cases h : stOk s.length s1 = true
      · simp only [h, if_true]; show Q _ _ = (_ ∧ _); simp [h]
      · simp only [h]; show False = (_ ∧ _); simp [h]
    | bk ρ1 =>
      unfold cutS
      by_cases h : stOk s.length s1 = true
      · simp only [h, if_true]; show Q _ _ = (_ ∧ _); simp [h]
      · simp only [h]; show False = (_ ∧ _); simp [h]
end Pm.Z
namespace Pm
open PySem PySem.Spec PyProof.Rows L2

/-! ### the calculus, closed: no reading of what stands within wp and wS -/
structure wp {α : Type} (r : R α) (Q : α → S → Prop) (E : D → S → Prop := fun _ _ => False) : Prop where
  go : Z.wp r Q E
structure wS (r : RS) (Q : C → S → Prop) (E : D → Rho → S → Prop := fun _ _ _ => False) : Prop where
  go : Z.wS r Q E
theorem wp_eq {α : Type} : @wp α = @Z.wp α := funext fun r => funext fun Q => funext fun E => propext ⟨fun h => h.go, fun h => ⟨h⟩⟩
theorem wS_eq : @wS = @Z.wS := funext fun r => funext fun Q => funext fun E => propext ⟨fun h => h.go, fun h => ⟨h⟩⟩
def rtQ (Q : D → S → Prop) : C → S → Prop
  | .rt d, s => Q d s
  | .nx _, s => Q .non s
  | _, _ => False
def seqQ (b : MS) (Q : C → S → Prop) (E : D → Rho → S → Prop := fun _ _ _ => False) : C → S → Prop
  | .nx ρ, s => wS (b ρ s) Q E
  | c, s => Q c s
def turnQ (k : Rho → S → Prop) (Q : C → S → Prop) : C → S → Prop
  | .nx ρ, s => k ρ s
  | .ct ρ, s => k ρ s
  | .bk ρ, s => Q (.nx ρ) s
  | .rt d, s => Q (.rt d) s
def fzQ (n : Nat) (Q : D → S → Prop) : D → S → Prop := fun d s => ∃ d', frzD s n 20 d = some d' ∧ stOk n s = true ∧ Q d' (s.take n)
theorem rtQ_eq : rtQ = Z.rtQ := by
  funext Q c s
  cases c <;> rfl
theorem seqQ_eq : @seqQ = @Z.seqQ := by
  funext b Q E c s
  cases c <;> first
    | rfl
    | exact congrFun (congrFun (congrFun wS_eq _) _) _
theorem turnQ_eq : turnQ = Z.turnQ := by
  funext k Q c s
  cases c <;> rfl
theorem fzQ_eq : fzQ = Z.fzQ := rfl
section
variable {α β : Type} {Q : α → S → Prop} {E : D → S → Prop}
theorem wp_ok {a : α} {s : S} : wp (.ok a s) Q E = Q a s := by rw [wp_eq]; rfl
theorem wp_bad : wp (.bad : R α) Q E = False := by rw [wp_eq]; rfl
theorem wp_bind {r : R β} {f : β → S → R α} : wp (r.bind f) Q E = wp r (fun b s => wp (f b s) Q E) E := by simp only [wp_eq, wS_eq, rtQ_eq, seqQ_eq, turnQ_eq, fzQ_eq]; exact Z.wp_bind
theorem wp_mono {Q' : α → S → Prop} {r : R α} (h : wp r Q E) (k : ∀ a s, Q a s → Q' a s) : wp r Q' E := ⟨Z.wp_mono h.go k⟩
theorem wp_monoE {E' : D → S → Prop} {r : R α} (h : wp r Q E) (k : ∀ x s, E x s → E' x s) : wp r Q E' := ⟨Z.wp_monoE h.go k⟩
theorem wp_up {r : R α} (h : wp r Q) : wp r Q E := wp_monoE h fun _ _ z => z.elim
theorem wp_exc {x : D} {s : S} : wp (.exc x s : R α) Q E = E x s := by rw [wp_eq]; rfl
theorem wp_ite {p : Prop} [Decidable p] {a b : R α} : wp (if p then a else b) Q E = if p then wp a Q E else wp b Q E := by simp only [wp_eq, wS_eq, rtQ_eq, seqQ_eq, turnQ_eq, fzQ_eq]; exact Z.wp_ite
theorem wp_ex {r : R α} (h : wp r Q) : ∃ a s, r = .ok a s ∧ Q a s := Z.wp_ex h.go
end
section
variable {Q : C → S → Prop} {E : D → Rho → S → Prop} {ρ : Rho} {s : S}
theorem wS_ok {c : C} : wS (.ok c s) Q E = Q c s := by rw [wS_eq]; rfl
theorem wS_bad : wS .bad Q E = False := by rw [wS_eq]; rfl
theorem wS_mono {Q' : C → S → Prop} {r : RS} (h : wS r Q E) (k : ∀ a s, Q a s → Q' a s) : wS r Q' E := ⟨Z.wS_mono h.go k⟩
theorem wS_monoE {E' : D → Rho → S → Prop} {r : RS} (h : wS r Q E) (k : ∀ x ρ s, E x ρ s → E' x ρ s) : wS r Q E' := ⟨Z.wS_monoE h.go k⟩
theorem wS_up {r : RS} (h : wS r Q) : wS r Q E := wS_monoE h fun _ _ _ z => z.elim
theorem wS_exc {x : D} {ρ : Rho} {s : S} : wS (.exc x ρ s) Q E = E x ρ s := by rw [wS_eq]; rfl
theorem wS_ite {p : Prop} [Decidable p] {a b : RS} : wS (if p then a else b) Q E = if p then wS a Q E else wS b Q E := by simp only [wp_eq, wS_eq, rtQ_eq, seqQ_eq, turnQ_eq, fzQ_eq]; exact Z.wS_ite
theorem wS_st {α : Type} {r : R α} {f : α → S → RS} : wS (r.st ρ f) Q E = wp r (fun a s => wS (f a s) Q E) (fun x s => E x ρ s) := by simp only [wp_eq, wS_eq, rtQ_eq, seqQ_eq, turnQ_eq, fzQ_eq]; exact Z.wS_st
theorem wS_cons {a b : MS} : wS (ssCons a b ρ s) Q E = wS (a ρ s) (seqQ b Q E) E := by simp only [wp_eq, wS_eq, rtQ_eq, seqQ_eq, turnQ_eq, fzQ_eq]; exact Z.wS_cons
theorem wS_nil : wS (ssNil ρ s) Q E = Q (.nx ρ) s := by simp only [wp_eq, wS_eq, rtQ_eq, seqQ_eq, turnQ_eq, fzQ_eq]; exact Z.wS_nil
theorem wS_pass : wS (sPass ρ s) Q E = Q (.nx ρ) s := by simp only [wp_eq, wS_eq, rtQ_eq, seqQ_eq, turnQ_eq, fzQ_eq]; exact Z.wS_pass
theorem wS_break : wS (sBreak ρ s) Q E = Q (.bk ρ) s := by simp only [wp_eq, wS_eq, rtQ_eq, seqQ_eq, turnQ_eq, fzQ_eq]; exact Z.wS_break
theorem wS_cont : wS (sCont ρ s) Q E = Q (.ct ρ) s := by simp only [wp_eq, wS_eq, rtQ_eq, seqQ_eq, turnQ_eq, fzQ_eq]; exact Z.wS_cont
theorem wS_never : wS (sNever ρ s) Q E = False := by simp only [wp_eq, wS_eq, rtQ_eq, seqQ_eq, turnQ_eq, fzQ_eq]; exact Z.wS_never
theorem wS_set {i : Nat} {m : ME} : wS (sSet i m ρ s) Q E = wp (m ρ s) (fun d s1 => Q (.nx (ρ.set i (some d))) s1) (fun x s => E x ρ s) := by simp only [wp_eq, wS_eq, rtQ_eq, seqQ_eq, turnQ_eq, fzQ_eq]; exact Z.wS_set
theorem wS_expr {m : ME} : wS (sExpr m ρ s) Q E = wp (m ρ s) (fun _ s1 => Q (.nx ρ) s1) (fun x s => E x ρ s) := by simp only [wp_eq, wS_eq, rtQ_eq, seqQ_eq, turnQ_eq, fzQ_eq]; exact Z.wS_expr
theorem wS_ret {m : ME} : wS (sRet m ρ s) Q E = wp (m ρ s) (fun d s1 => Q (.rt d) s1) (fun x s => E x ρ s) := by simp only [wp_eq, wS_eq, rtQ_eq, seqQ_eq, turnQ_eq, fzQ_eq]; exact Z.wS_ret
theorem wS_retN : wS (sRetN ρ s) Q E = Q (.rt .non) s := by simp only [wp_eq, wS_eq, rtQ_eq, seqQ_eq, turnQ_eq, fzQ_eq]; exact Z.wS_retN
theorem wS_if {c : MT} {a b : MS} : wS (sIf c a b ρ s) Q E = wp (c ρ s) (fun k s1 => if k = true then wS (a ρ s1) Q E else wS (b ρ s1) Q E) (fun x s => E x ρ s) := by simp only [wp_eq, wS_eq, rtQ_eq, seqQ_eq, turnQ_eq, fzQ_eq]; exact Z.wS_if
theorem wS_asg {m : ME} {g : MG} : wS (sAsg m g ρ s) Q E = wp (m ρ s) (fun d s1 => wp (g d ρ s1) (fun ρ1 s2 => Q (.nx ρ1) s2)) (fun x s => E x ρ s) := by simp only [wp_eq, wS_eq, rtQ_eq, seqQ_eq, turnQ_eq, fzQ_eq]; exact Z.wS_asg
theorem wS_aug {i : Nat} {f : D → D → S → R D} {m : ME} : wS (sAug i f m ρ s) Q E = wp (mVar i ρ s) (fun x s0 => wp (m ρ s0) (fun y s1 => wp (f x y s1) (fun z s2 => Q (.nx (ρ.set i (some z))) s2) (fun x s => E x ρ s)) (fun x s => E x ρ s)) (fun x s => E x ρ s) := by simp only [wp_eq, wS_eq, rtQ_eq, seqQ_eq, turnQ_eq, fzQ_eq]; exact Z.wS_aug
theorem wS_for {it : MI} {g : MG} {b : MS} : wS (sFor it g b ρ s) Q E = wp (it ρ s) (fun p s1 => wS (forL p.2 p.1 g b p.1 ρ s1) Q E) (fun x s => E x ρ s) := by simp only [wp_eq, wS_eq, rtQ_eq, seqQ_eq, turnQ_eq, fzQ_eq]; exact Z.wS_for
theorem wS_forL_nil {gd : Option Nat} {all : List D} {g : MG} {b : MS} : wS (forL gd all g b [] ρ s) Q E = (gOk gd all s ∧ Q (.nx ρ) s) := by simp only [wp_eq, wS_eq, rtQ_eq, seqQ_eq, turnQ_eq, fzQ_eq]; exact Z.wS_forL_nil
theorem wS_forL_cons {gd : Option Nat} {all xs : List D} {x : D} {g : MG} {b : MS} : wS (forL gd all g b (x :: xs) ρ s) Q E = (gOk gd all s ∧ wp (g x ρ s) (fun ρ1 s1 => wS (b ρ1 s1) (turnQ (fun ρ2 s2 => wS (forL gd all g b xs ρ2 s2) Q E) Q) E)) := by simp only [wp_eq, wS_eq, rtQ_eq, seqQ_eq, turnQ_eq, fzQ_eq]; exact Z.wS_forL_cons
theorem wS_forL {gd : Option Nat} {all : List D} {g : MG} {b : MS} (I : List D → Rho → S → Prop) (hg : ∀ xs ρ s, I xs ρ s → gOk gd all s) (hn : ∀ ρ s, I [] ρ s → Q (.nx ρ) s)
    (hc : ∀ x xs ρ s, I (x :: xs) ρ s → wp (g x ρ s) (fun ρ1 s1 => wS (b ρ1 s1) (turnQ (I xs) Q) E)) (xs : List D) (ρ : Rho) (s : S) (h : I xs ρ s) : wS (forL gd all g b xs ρ s) Q E := by
  simp only [wp_eq, wS_eq, rtQ_eq, seqQ_eq, turnQ_eq, fzQ_eq] at hc hn ⊢
  exact Z.wS_forL I hg hn hc xs ρ s h
theorem wS_forN {all : List D} {g : MG} {b : MS} (I : List D → Rho → S → Prop) (hn : ∀ ρ s, I [] ρ s → Q (.nx ρ) s)
    (hc : ∀ x xs ρ s, I (x :: xs) ρ s → wp (g x ρ s) (fun ρ1 s1 => wS (b ρ1 s1) (turnQ (I xs) Q) E)) (xs : List D) (ρ : Rho) (s : S) (h : I xs ρ s) : wS (forL none all g b xs ρ s) Q E :=
  wS_forL (gd := none) I (fun _ _ _ _ => trivial) hn hc xs ρ s h
theorem wS_while {c : MT} {b : MS} : wS (sWhile c b ρ s) Q E = wp (c ρ s) (fun k s1 => if k = true then wS (b ρ s1) (turnQ (fun ρ2 s2 => wS (sWhile c b ρ2 s2) Q E) Q) E else Q (.nx ρ) s1) (fun x s => E x ρ s) := by simp only [wp_eq, wS_eq, rtQ_eq, seqQ_eq, turnQ_eq, fzQ_eq]; exact Z.wS_while
theorem wp_mapL {gd : Option Nat} {all : List D} {g : MG} {t : MT} {m : ME} {ρ : Rho} (I : List D → List D → S → Prop) {Q : List D → S → Prop} (hg : ∀ xs a s, I xs a s → gOk gd all s)
    (hc : ∀ x xs a s, I (x :: xs) a s → wp (g x ρ s) fun ρ1 s1 => wp (t ρ1 s1) fun k s2 => if k = true then wp (m ρ1 s2) fun d s3 => I xs (a ++ [d]) s3 else I xs a s2)
    (xs a : List D) (s : S) (h : I xs a s) (hn : ∀ a' s', I [] (a ++ a') s' → Q a' s') : wp (mapL gd all g t m xs ρ s) Q := by
  simp only [wp_eq, wS_eq, rtQ_eq, seqQ_eq, turnQ_eq, fzQ_eq] at hc ⊢
  exact Z.wp_mapL I hg hc xs a s h hn
theorem wp_mapN {all : List D} {g : MG} {t : MT} {m : ME} {ρ : Rho} (I : List D → List D → S → Prop) {Q : List D → S → Prop}
    (hc : ∀ x xs a s, I (x :: xs) a s → wp (g x ρ s) fun ρ1 s1 => wp (t ρ1 s1) fun k s2 => if k = true then wp (m ρ1 s2) fun d s3 => I xs (a ++ [d]) s3 else I xs a s2)
    (xs a : List D) (s : S) (h : I xs a s) (hn : ∀ a' s', I [] (a ++ a') s' → Q a' s') : wp (mapL none all g t m xs ρ s) Q := wp_mapL (gd := none) I (fun _ _ _ _ => trivial) hc xs a s h hn
end
section
variable {Q : D → S → Prop} {E : D → S → Prop} {ρ : Rho} {s : S}
theorem wp_lc {it : MI} {g : MG} {t : MT} {m : ME} {own : List Nat} : wp (mLc it g t m own ρ s) Q E = wp (it ρ s) (fun p s1 => wp (mapL p.2 p.1 g t m p.1 (wipeD ρ own) s1) (fun ds s2 => p.1.length ≤ sizeLine ∧ Q (.lst ds) s2)) E := by simp only [wp_eq, wS_eq, rtQ_eq, seqQ_eq, turnQ_eq, fzQ_eq]; exact Z.wp_lc
theorem wp_fn {n tot : Nat} {m : MS} {ds : List D} (h : ds.length = n) : wp (mkFn n tot m ds s) Q E = wS (m (ds.map some ++ List.replicate (tot - n) none) s) (rtQ Q) (fun x _ s => E x s) := by simp only [wp_eq, wS_eq, rtQ_eq, seqQ_eq, turnQ_eq, fzQ_eq]; exact Z.wp_fn h
theorem wp_frz {n : Nat} {r : R D} (h : wp r (fzQ n Q)) : wp (frzR n r) Q E := ⟨Z.wp_frz h.go⟩
theorem wp_frzE {n : Nat} {r : R D} (h : wp r (fzQ n Q) (fzQ n E)) : wp (frzR n r) Q E := ⟨Z.wp_frzE h.go⟩
theorem wp_mFz {m : ME} (h : wp (m ρ s) (fzQ s.length Q)) : wp (mFz m ρ s) Q E := wp_frz h
theorem wp_mkFz {F : List D → S → R D} {ds : List D} (h : wp (F ds s) (fzQ s.length Q)) : wp (mkFz F ds s) Q E := wp_frz h
theorem wp_mFzE {m : ME} (h : wp (m ρ s) (fzQ s.length Q) (fzQ s.length E)) : wp (mFz m ρ s) Q E := wp_frzE h
theorem wp_mkFzE {F : List D → S → R D} {ds : List D} (h : wp (F ds s) (fzQ s.length Q) (fzQ s.length E)) : wp (mkFz F ds s) Q E := wp_frzE h
theorem wp_make {c : Str} {G : List D → S → R D} {ms : MA} : wp (mMake c G ms ρ s) Q E = wp (ms ρ s) (fun ds s1 => wp (G (.ref s1.length :: ds) (s1 ++ [.ins c []])) (fun d s2 => d = .non ∧ Q (.ref s1.length) s2) E) E := by simp only [wp_eq, wS_eq, rtQ_eq, seqQ_eq, turnQ_eq, fzQ_eq]; exact Z.wp_make
theorem wp_m1 {f : D → S → R D} {a : ME} : wp (m1 f a ρ s) Q E = wp (a ρ s) (fun x s1 => wp (f x s1) Q E) E := by simp only [wp_eq, wS_eq, rtQ_eq, seqQ_eq, turnQ_eq, fzQ_eq]; exact Z.wp_m1
theorem wp_m2 {f : D → D → S → R D} {a b : ME} : wp (m2 f a b ρ s) Q E = wp (a ρ s) (fun x s1 => wp (b ρ s1) (fun y s2 => wp (f x y s2) Q E) E) E := by simp only [wp_eq, wS_eq, rtQ_eq, seqQ_eq, turnQ_eq, fzQ_eq]; exact Z.wp_m2
theorem wp_mN {f : List D → S → R D} {a : MA} : wp (mN f a ρ s) Q E = wp (a ρ s) (fun x s1 => wp (f x s1) Q E) E := by simp only [wp_eq, wS_eq, rtQ_eq, seqQ_eq, turnQ_eq, fzQ_eq]; exact Z.wp_mN
theorem wp_aNil {Q : List D → S → Prop} : wp (aNil ρ s) Q E = Q [] s := by simp only [wp_eq, wS_eq, rtQ_eq, seqQ_eq, turnQ_eq, fzQ_eq]; exact Z.wp_aNil
theorem wp_aCons {a : ME} {r : MA} {Q : List D → S → Prop} : wp (aCons a r ρ s) Q E = wp (a ρ s) (fun x s1 => wp (r ρ s1) (fun xs s2 => Q (x :: xs) s2) E) E := by simp only [wp_eq, wS_eq, rtQ_eq, seqQ_eq, turnQ_eq, fzQ_eq]; exact Z.wp_aCons
theorem wp_mC {d : D} : wp (mC d ρ s) Q E = Q d s := by simp only [wp_eq, wS_eq, rtQ_eq, seqQ_eq, turnQ_eq, fzQ_eq]; exact Z.wp_mC
theorem wp_var {i : Nat} : wp (mVar i ρ s) Q E = match ρ[i]? with | some (some d) => Q d s | _ => False := by simp only [wp_eq, wS_eq, rtQ_eq, seqQ_eq, turnQ_eq, fzQ_eq]; exact Z.wp_var
theorem wp_if {c : MT} {a b : ME} : wp (mIf c a b ρ s) Q E = wp (c ρ s) (fun k s1 => if k = true then wp (a ρ s1) Q E else wp (b ρ s1) Q E) E := by simp only [wp_eq, wS_eq, rtQ_eq, seqQ_eq, turnQ_eq, fzQ_eq]; exact Z.wp_if
theorem wp_and {a b : ME} : wp (mAnd a b ρ s) Q E = wp (a ρ s) (fun d s1 => match d with | .bl true => wp (b ρ s1) Q E | .bl false => Q (.bl false) s1 | _ => False) E := by simp only [wp_eq, wS_eq, rtQ_eq, seqQ_eq, turnQ_eq, fzQ_eq]; exact Z.wp_and
theorem wp_or {a b : ME} : wp (mOr a b ρ s) Q E = wp (a ρ s) (fun d s1 => match d with | .bl true => Q (.bl true) s1 | .bl false => wp (b ρ s1) Q E | _ => False) E := by simp only [wp_eq, wS_eq, rtQ_eq, seqQ_eq, turnQ_eq, fzQ_eq]; exact Z.wp_or
theorem wp_not {a : ME} : wp (mNot a ρ s) Q E = wp (a ρ s) (fun d s1 => match d with | .bl b => Q (.bl (!b)) s1 | _ => False) E := by simp only [wp_eq, wS_eq, rtQ_eq, seqQ_eq, turnQ_eq, fzQ_eq]; exact Z.wp_not
theorem wp_chain {f g : D → D → S → R D} {a b c : ME} : wp (mChain f g a b c ρ s) Q E = wp (a ρ s) (fun x s1 => wp (b ρ s1) (fun y s2 => wp (f x y s2) (fun k s3 => match k with | .bl true => wp (c ρ s3) (fun z s4 => wp (g y z s4) Q E) E | .bl false => Q (.bl false) s3 | _ => False) E) E) E := by simp only [wp_eq, wS_eq, rtQ_eq, seqQ_eq, turnQ_eq, fzQ_eq]; exact Z.wp_chain
theorem wp_mt {T : String} {f : D → List D → S → R D} {a : ME} {as : MA} : wp (mMt T f a as ρ s) Q E = wp (a ρ s) (fun x s1 => hasTy T s1 x = true ∧ wp (as ρ s1) (fun xs s2 => wp (f x xs s2) Q E) E) E := by simp only [wp_eq, wS_eq, rtQ_eq, seqQ_eq, turnQ_eq, fzQ_eq]; exact Z.wp_mt
theorem wp_get {a b : ME} : wp (mGet a b ρ s) Q E = wp (a ρ s) (fun x s1 => match x with | .dic kvs => wp (b ρ s1) (fun y s2 => match y with | .str z => Q ((kvs.lookup z).getD .non) s2 | _ => False) E | _ => False) E := by simp only [wp_eq, wS_eq, rtQ_eq, seqQ_eq, turnQ_eq, fzQ_eq]; exact Z.wp_get
theorem wp_isi {tys : List String} {a : ME} : wp (mIsi tys a ρ s) Q E = wp (a ρ s) (fun d s1 => match tyName s1 d with | some t => Q (.bl (tys.any (isSub t))) s1 | none => False) E := by simp only [wp_eq, wS_eq, rtQ_eq, seqQ_eq, turnQ_eq, fzQ_eq]; exact Z.wp_isi
theorem wp_fld {f : Str} {cs : List Str} {a : ME} : wp (mFld f cs a ρ s) Q E = wp (a ρ s) (fun d s1 => match insOf s1 d with | some (c, fs) => c ∈ cs ∧ (match fs.lookup f with | some v => Q v s1 | none => False) | none => False) E := by simp only [wp_eq, wS_eq, rtQ_eq, seqQ_eq, turnQ_eq, fzQ_eq]; exact Z.wp_fld
theorem wp_sl {m : ME} {lo hi : Rho → S → R (Option Int)} : wp (mSl m lo hi ρ s) Q E = wp (m ρ s) (fun d s1 => wp (lo ρ s1) (fun l s2 => wp (hi ρ s2) (fun h s3 => wp (dSl l h d s3) Q E) E) E) E := by simp only [wp_eq, wS_eq, rtQ_eq, seqQ_eq, turnQ_eq, fzQ_eq]; exact Z.wp_sl
theorem wp_oNone {Q : Option Int → S → Prop} : wp (oNone ρ s) Q E = Q none s := by simp only [wp_eq, wS_eq, rtQ_eq, seqQ_eq, turnQ_eq, fzQ_eq]; exact Z.wp_oNone
theorem wp_oSome {m : ME} {Q : Option Int → S → Prop} : wp (oSome m ρ s) Q E = wp (m ρ s) (fun d s1 => match d with | .int i => Q (some i) s1 | _ => False) E := by simp only [wp_eq, wS_eq, rtQ_eq, seqQ_eq, turnQ_eq, fzQ_eq]; exact Z.wp_oSome
variable {Q' : Bool → S → Prop}
theorem wp_tBool {a : ME} : wp (tBool a ρ s) Q' E = wp (a ρ s) (fun d s1 => match d with | .bl b => Q' b s1 | _ => False) E := by simp only [wp_eq, wS_eq, rtQ_eq, seqQ_eq, turnQ_eq, fzQ_eq]; exact Z.wp_tBool
theorem wp_tTru {f : D → S → Option Bool} {a : ME} : wp (tTru f a ρ s) Q' E = wp (a ρ s) (fun d s1 => match f d s1 with | some b => Q' b s1 | none => False) E := by simp only [wp_eq, wS_eq, rtQ_eq, seqQ_eq, turnQ_eq, fzQ_eq]; exact Z.wp_tTru
theorem wp_tNot {a : MT} : wp (tNot1 a ρ s) Q' E = wp (a ρ s) (fun k s1 => Q' (!k) s1) E := by simp only [wp_eq, wS_eq, rtQ_eq, seqQ_eq, turnQ_eq, fzQ_eq]; exact Z.wp_tNot
theorem wp_tAnd {a b : MT} : wp (tAnd2 a b ρ s) Q' E = wp (a ρ s) (fun k s1 => if k = true then wp (b ρ s1) Q' E else Q' false s1) E := by simp only [wp_eq, wS_eq, rtQ_eq, seqQ_eq, turnQ_eq, fzQ_eq]; exact Z.wp_tAnd
theorem wp_tOr {a b : MT} : wp (tOr2 a b ρ s) Q' E = wp (a ρ s) (fun k s1 => if k = true then Q' true s1 else wp (b ρ s1) Q' E) E := by simp only [wp_eq, wS_eq, rtQ_eq, seqQ_eq, turnQ_eq, fzQ_eq]; exact Z.wp_tOr
theorem wp_tAll : wp (tAll ρ s) Q' E = Q' true s := by simp only [wp_eq, wS_eq, rtQ_eq, seqQ_eq, turnQ_eq, fzQ_eq]; exact Z.wp_tAll
theorem wp_gSlot {i : Nat} {d : D} {Q : Rho → S → Prop} : wp (gSlot i d ρ s) Q E = Q (ρ.set i (some d)) s := by simp only [wp_eq, wS_eq, rtQ_eq, seqQ_eq, turnQ_eq, fzQ_eq]; exact Z.wp_gSlot
theorem wp_gsNil {Q : Rho → S → Prop} : wp (gsNil [] ρ s) Q E = Q ρ s := by simp only [wp_eq, wS_eq, rtQ_eq, seqQ_eq, turnQ_eq, fzQ_eq]; exact Z.wp_gsNil
theorem wp_gsCons {g : MG} {r : MGs} {d : D} {ds : List D} {Q : Rho → S → Prop} : wp (gsCons g r (d :: ds) ρ s) Q E = wp (g d ρ s) (fun ρ1 s1 => wp (r ds ρ1 s1) Q E) E := by simp only [wp_eq, wS_eq, rtQ_eq, seqQ_eq, turnQ_eq, fzQ_eq]; exact Z.wp_gsCons
theorem wp_gTup {n : Nat} {r : MGs} {d : D} {Q : Rho → S → Prop} : wp (gTupD n r d ρ s) Q E = match d with | .tup ds => ds.length = n ∧ wp (r ds ρ s) Q E | _ => False := by simp only [wp_eq, wS_eq, rtQ_eq, seqQ_eq, turnQ_eq, fzQ_eq]; exact Z.wp_gTup
theorem wp_gSub {o i : ME} {v : D} {Q : Rho → S → Prop} : wp (gSubD o i v ρ s) Q E = wp (o ρ s) (fun x s1 => wp (i ρ s1) (fun y s2 => match dStore x y v s2 with | some s3 => Q ρ s3 | none => False) E) E := by simp only [wp_eq, wS_eq, rtQ_eq, seqQ_eq, turnQ_eq, fzQ_eq]; exact Z.wp_gSub
variable {QI : List D × Option Nat → S → Prop}
theorem wp_iSeq {m : ME} : wp (iSeq m ρ s) QI E = wp (m ρ s) (fun d s1 => match d with | .lst xs => QI (xs, none) s1 | .ref n => (match s1[n]? with | some (.lst xs) => QI (xs, some n) s1 | _ => False) | _ => False) E := by simp only [wp_eq, wS_eq, rtQ_eq, seqQ_eq, turnQ_eq, fzQ_eq]; exact Z.wp_iSeq
theorem wp_iAny {m : ME} : wp (iAny m ρ s) QI E = wp (m ρ s) (fun d s1 => match d with | .lst xs => QI (xs, none) s1 | .tup xs => QI (xs, none) s1 | .str x => QI (x.cps.toList.map fun c => .str ⟨#[c]⟩, none) s1 | .ref n => (match s1[n]? with | some (.lst xs) => QI (xs, some n) s1 | _ => False) | _ => False) E := by simp only [wp_eq, wS_eq, rtQ_eq, seqQ_eq, turnQ_eq, fzQ_eq]; exact Z.wp_iAny
theorem wp_iTup {m : ME} : wp (iTupD m ρ s) QI E = wp (m ρ s) (fun d s1 => match d with | .tup xs => QI (xs, none) s1 | _ => False) E := by simp only [wp_eq, wS_eq, rtQ_eq, seqQ_eq, turnQ_eq, fzQ_eq]; exact Z.wp_iTup
theorem wp_iStr {m : ME} : wp (iStrD m ρ s) QI E = wp (m ρ s) (fun d s1 => match d with | .str x => QI (x.cps.toList.map fun c => .str ⟨#[c]⟩, none) s1 | _ => False) E := by simp only [wp_eq, wS_eq, rtQ_eq, seqQ_eq, turnQ_eq, fzQ_eq]; exact Z.wp_iStr
theorem wp_iRange1 {m : ME} : wp (iRange1 m ρ s) QI E = wp (m ρ s) (fun d s1 => match d with | .int j => (-(2 ^ 62) ≤ j ∧ j < 2 ^ 62) ∧ QI (rng 0 j.toNat, none) s1 | _ => False) E := by simp only [wp_eq, wS_eq, rtQ_eq, seqQ_eq, turnQ_eq, fzQ_eq]; exact Z.wp_iRange1
theorem wp_iRange2 {a b : ME} : wp (iRange2 a b ρ s) QI E = wp (a ρ s) (fun d s1 => wp (b ρ s1) (fun e s2 => match d, e with | .int i, .int j => (-(2 ^ 62) ≤ i ∧ i < 2 ^ 62 ∧ -(2 ^ 62) ≤ j ∧ j < 2 ^ 62) ∧ QI (rng i (j - i).toNat, none) s2 | _, _ => False) E) E := by simp only [wp_eq, wS_eq, rtQ_eq, seqQ_eq, turnQ_eq, fzQ_eq]; exact Z.wp_iRange2
theorem wp_iZip {a b : ME} : wp (iZipD a b ρ s) QI E = wp (a ρ s) (fun d s1 => wp (b ρ s1) (fun e s2 => match fview d, fview e with | some xs, some ys => QI (zipD xs ys, none) s2 | _, _ => False) E) E := by simp only [wp_eq, wS_eq, rtQ_eq, seqQ_eq, turnQ_eq, fzQ_eq]; exact Z.wp_iZip
theorem wS_fld {f : Str} {cs : List Str} {mo mv : ME} {Q : C → S → Prop} {E' : D → Rho → S → Prop} : wS (sFldD f cs mo mv ρ s) Q E' = wp (mv ρ s) (fun v s1 => wp (mo ρ s1) (fun d s2 => match d with
    | .ref n => (match s2[n]? with | some (.ins c fs) => (c ∈ cs ∧ fs.length < 1000) ∧ Q (.nx ρ) (s2.set n (.ins c (putFD f v fs))) | _ => False)
    | _ => False) (fun x s => E' x ρ s)) (fun x s => E' x ρ s) := by simp only [wp_eq, wS_eq, rtQ_eq, seqQ_eq, turnQ_eq, fzQ_eq]; exact Z.wS_fld
end

def cutQ (n : Nat) (Q : C → S → Prop) : C → S → Prop
  | .nx ρ, s => stOk n s = true ∧ Q (.nx (cutRho n ρ)) (s.take n)
  | .ct ρ, s => stOk n s = true ∧ Q (.ct (cutRho n ρ)) (s.take n)
  | .bk ρ, s => stOk n s = true ∧ Q (.bk (cutRho n ρ)) (s.take n)
  | .rt d, s => Q (.rt d) s
theorem cutQ_eq : cutQ = Z.cutQ := by
  funext n Q c s
  cases c <;> rfl
theorem wS_cut {m : MS} {ρ : Rho} {s : S} {Q : C → S → Prop} {E : D → Rho → S → Prop} : wS (sCut m ρ s) Q E = wS (m ρ s) (cutQ s.length Q) E := by simp only [wp_eq, wS_eq, cutQ_eq]; exact Z.wS_cut
end Pm
namespace Pm
open PySem PySem.Spec PyProof.Rows L2

/-! ### operators on written-out data -/
section
variable {Q : D → S → Prop} {E : D → S → Prop} {s : S} {a b : Int} {x y : Str}
theorem wp_ifb {p : Prop} [Decidable p] {r : R D} : wp (if p then r else .bad) Q E = (p ∧ wp r Q E) := by
  by_cases h : p
  · rw [if_pos h]; simp [h]
  · rw [if_neg h]; simp [h, wp_bad]
theorem wp_ifb' {p : Prop} [Decidable p] {d : D} {s : S} : wp (if p then R.ok d s else .bad) Q E = (p ∧ Q d s) := by rw [wp_ifb, wp_ok]
theorem lview_ref {n : Nat} {xs : List D} (h : s[n]? = some (.lst xs)) : lview s (.ref n) = some xs := by
  show (match s[n]? with | some (.lst xs) => some xs | _ => none) = some xs
  rw [h]
theorem w_add : wp (dAdd (.int a) (.int b) s) Q E = Q (.int (a + b)) s := wp_ok
theorem w_iadd : wp (dIAdd (.int a) (.int b) s) Q E = Q (.int (a + b)) s := wp_ok
theorem w_iaddS : wp (dIAdd (.str x) (.str y) s) Q E = (x.length + y.length ≤ sizeLine ∧ Q (.str (x ++ y)) s) := wp_ifb'
theorem w_addS : wp (dAdd (.str x) (.str y) s) Q E = (x.length + y.length ≤ sizeLine ∧ Q (.str (x ++ y)) s) := wp_ifb'
theorem w_addL {xs ys : List D} : wp (dAdd (.lst xs) (.lst ys) s) Q E = (xs.length + ys.length ≤ sizeLine ∧ Q (.lst (xs ++ ys)) s) := wp_ifb'
theorem w_addT {xs ys : List D} : wp (dAdd (.tup xs) (.tup ys) s) Q E = (xs.length + ys.length ≤ sizeLine ∧ Q (.tup (xs ++ ys)) s) := wp_ifb'
theorem w_sub : wp (dSub (.int a) (.int b) s) Q E = Q (.int (a - b)) s := wp_ok
theorem w_mul : wp (dMul (.int a) (.int b) s) Q E = (iBits a + iBits b ≤ 134217728 ∧ Q (.int (a * b)) s) := wp_ifb'
theorem w_mod : wp (dMod (.int a) (.int b) s) Q E = (0 < b ∧ Q (.int (a % b)) s) := wp_ifb'
theorem w_fdiv : wp (dFdiv (.int a) (.int b) s) Q E = ((0 < b ∧ b.natAbs.log2 < 9000) ∧ Q (.int (a / b)) s) := wp_ifb'
theorem w_pow : wp (dPow (.int a) (.int b) s) Q E = ((0 ≤ b ∧ b ≤ 1000000 ∧ a.natAbs < 2 ^ 64) ∧ Q (.int (a ^ b.toNat)) s) := wp_ifb'
theorem w_neg : wp (dNeg (.int a) s) Q E = Q (.int (-a)) s := wp_ok
theorem w_lt : wp (dLt (.int a) (.int b) s) Q E = Q (.bl (decide (a < b))) s := wp_ok
theorem w_le : wp (dLe (.int a) (.int b) s) Q E = Q (.bl (decide (a ≤ b))) s := wp_ok
theorem w_gt : wp (dGt (.int a) (.int b) s) Q E = Q (.bl (decide (a > b))) s := wp_ok
theorem w_ge : wp (dGe (.int a) (.int b) s) Q E = Q (.bl (decide (a ≥ b))) s := wp_ok
theorem w_eqI : wp (dEq (.int a) (.int b) s) Q E = Q (.bl (a == b)) s := wp_ok
theorem w_neI : wp (dNe (.int a) (.int b) s) Q E = Q (.bl (!(a == b))) s := wp_ok
theorem w_eqS (hx : PyData.strOk x = true) (hy : PyData.strOk y = true) : wp (dEq (.str x) (.str y) s) Q E = Q (.bl (x == y)) s := by
  unfold dEq toPy
  rw [if_pos hx, if_pos hy]
  exact wp_ok
theorem w_neS (hx : PyData.strOk x = true) (hy : PyData.strOk y = true) : wp (dNe (.str x) (.str y) s) Q E = Q (.bl (!(x == y))) s := by
  unfold dNe toPy
  rw [if_pos hx, if_pos hy]
  exact wp_ok
theorem eq_self {d : D} {p : PyData} (h : toPy s 60 d = some p) : dEq d d s = .ok (.bl true) s := by
  unfold dEq
  rw [h]
  simp only
  rw [PySem.SeqAt.eqv_refl p (toPy_lay 60 d p h).1]
theorem ne_self {d : D} {p : PyData} (h : toPy s 60 d = some p) : dNe d d s = .ok (.bl false) s := by
  unfold dNe
  rw [h]
  simp only
  rw [PySem.SeqAt.eqv_refl p (toPy_lay 60 d p h).1]
  rfl
theorem w_isN {d : D} : wp (dIs d .non s) Q E = Q (.bl (isNonD d)) s := by cases d <;> exact wp_ok
theorem w_isnotN {d : D} : wp (dIsNot d .non s) Q E = Q (.bl (!isNonD d)) s := by cases d <;> exact wp_ok
theorem w_isB {k j : Bool} : wp (dIs (.bl k) (.bl j) s) Q E = Q (.bl (k == j)) s := wp_ok
theorem w_isNB {j : Bool} : wp (dIs .non (.bl j) s) Q E = Q (.bl false) s := wp_ok
theorem w_len {xs : List D} : wp (dLen [.lst xs] s) Q E = Q (.int xs.length) s := wp_ok
theorem w_lenT {xs : List D} : wp (dLen [.tup xs] s) Q E = Q (.int xs.length) s := wp_ok
theorem w_lenS : wp (dLen [.str x] s) Q E = (x.length ≤ sizeLine ∧ Q (.int x.length) s) := wp_ifb'
theorem w_lenR {n : Nat} {xs : List D} (h : s[n]? = some (.lst xs)) : wp (dLen [.ref n] s) Q E = Q (.int xs.length) s := by
  show wp (match lview s (.ref n) with | some xs => R.ok (.int xs.length) s | none => .bad) Q E = _
  rw [lview_ref h]
  exact wp_ok
theorem w_int : wp (dInt [.int a] s) Q E = Q (.int a) s := wp_ok
theorem w_intB {k : Bool} : wp (dInt [.bl k] s) Q E = Q (.int (if k then 1 else 0)) s := wp_ok
theorem w_abs : wp (dAbs [.int a] s) Q E = Q (.int (if a < 0 then -a else a)) s := wp_ok
theorem w_min : wp (dMin2 [.int a, .int b] s) Q E = Q (.int (if b < a then b else a)) s := wp_ok
theorem w_max : wp (dMax2 [.int a, .int b] s) Q E = Q (.int (if b > a then b else a)) s := wp_ok
theorem w_tup {ds : List D} : wp (dTup ds s) Q E = (ds.length ≤ sizeLine ∧ Q (.tup ds) s) := wp_ifb'
theorem w_lst {ds : List D} : wp (dLst ds s) Q E = (ds.length ≤ sizeLine ∧ Q (.lst ds) s) := wp_ifb'
theorem w_new {ds : List D} : wp (dNew ds s) Q E = (ds.length ≤ sizeLine ∧ Q (.ref s.length) (s ++ [.lst ds])) := wp_ifb'
theorem w_list {xs : List D} : wp (dList false [.lst xs] s) Q E = Q (.lst xs) s := wp_ok
theorem w_listR {n : Nat} {xs : List D} (h : s[n]? = some (.lst xs)) : wp (dList false [.ref n] s) Q E = Q (.lst xs) s := by
  show wp (match sview s (.ref n) with | some xs => (if false = true then R.ok (.ref s.length) (s ++ [.lst xs]) else .ok (.lst xs) s) | none => .bad) Q E = _
  rw [show sview s (.ref n) = lview s (.ref n) from rfl, lview_ref h]
  exact wp_ok
theorem w_listN {xs : List D} : wp (dList true [.lst xs] s) Q E = Q (.ref s.length) (s ++ [.lst xs]) := wp_ok
theorem w_append {n : Nat} {xs : List D} {d : D} (h : s[n]? = some (.lst xs)) : wp (dAppend (.ref n) [d] s) Q E = (xs.length < sizeLine ∧ Q .non (s.set n (.lst (xs ++ [d])))) := by
  unfold dAppend
  simp only [h]
  exact wp_ifb'
theorem w_reverse {n : Nat} {xs : List D} (h : s[n]? = some (.lst xs)) : wp (dReverse (.ref n) [] s) Q E = Q .non (s.set n (.lst xs.reverse)) := by
  unfold dReverse
  simp only [h]
  exact wp_ok
theorem hasTy_list {xs : List D} : hasTy "list" s (.lst xs) = true := rfl
theorem hasTy_ref {n : Nat} {xs : List D} (h : s[n]? = some (.lst xs)) : hasTy "list" s (.ref n) = true := by
  show (lview s (.ref n)).isSome = true
  rw [lview_ref h]
  rfl
theorem hasTy_str : hasTy "str" s (.str x) = true := rfl
/-! places: the item by its index, whichever it is -/
theorem atI_nat {α : Type} {xs : List α} {i : Int} {n : Nat} (h : i = n) : atI xs i = xs[n]? := by
  subst h
  unfold atI ixN
  by_cases hl : (n : Int) < xs.length
  · rw [if_pos (by omega), if_pos hl]; simp
  · rw [if_pos (by omega), if_neg hl, List.getElem?_eq_none (by omega)]; rfl
theorem atI_mem {α : Type} {xs : List α} {i : Int} (h0 : 0 ≤ i) (h1 : i < xs.length) : ∃ x ∈ xs, atI xs i = some x ∧ xs[i.toNat]? = some x := by
  have e : i = (i.toNat : Nat) := by omega
  have hl : i.toNat < xs.length := by omega
  refine ⟨xs[i.toNat], List.getElem_mem hl, ?_, List.getElem?_eq_getElem hl⟩
  rw [atI_nat e, List.getElem?_eq_getElem hl]
theorem at_0 {α : Type} {x0 : α} {xs : List α} : atI (x0 :: xs) 0 = some x0 := (atI_nat (i := 0) (n := 0) rfl).trans rfl
theorem at_1 {α : Type} {x0 x1 : α} {xs : List α} : atI (x0 :: x1 :: xs) 1 = some x1 := (atI_nat (i := 1) (n := 1) rfl).trans rfl
theorem at_2 {α : Type} {x0 x1 x2 : α} {xs : List α} : atI (x0 :: x1 :: x2 :: xs) 2 = some x2 := (atI_nat (i := 2) (n := 2) rfl).trans rfl
theorem at_3 {α : Type} {x0 x1 x2 x3 : α} {xs : List α} : atI (x0 :: x1 :: x2 :: x3 :: xs) 3 = some x3 := (atI_nat (i := 3) (n := 3) rfl).trans rfl
theorem at_4 {α : Type} {x0 x1 x2 x3 x4 : α} {xs : List α} : atI (x0 :: x1 :: x2 :: x3 :: x4 :: xs) 4 = some x4 := (atI_nat (i := 4) (n := 4) rfl).trans rfl
theorem at_5 {α : Type} {x0 x1 x2 x3 x4 x5 : α} {xs : List α} : atI (x0 :: x1 :: x2 :: x3 :: x4 :: x5 :: xs) 5 = some x5 := (atI_nat (i := 5) (n := 5) rfl).trans rfl
theorem w_ix {xs : List D} {i : Int} : wp (dIx (.lst xs) (.int i) s) Q E = match atI xs i with | some d => Q d s | none => False := by
  show wp (match lview s (.lst xs) with | some xs => (match atI xs i with | some d => R.ok d s | none => .bad) | none => .bad) Q E = _
  unfold lview
  simp only
  cases atI xs i <;> first | exact wp_ok | exact wp_bad
theorem w_ixT {xs : List D} {i : Int} : wp (dIx (.tup xs) (.int i) s) Q E = match atI xs i with | some d => Q d s | none => False := by
  unfold dIx
  simp only
  cases atI xs i <;> first | exact wp_ok | exact wp_bad
theorem w_ixR {n : Nat} {xs : List D} {i : Int} (h : s[n]? = some (.lst xs)) : wp (dIx (.ref n) (.int i) s) Q E = match atI xs i with | some d => Q d s | none => False := by
  show wp (match lview s (.ref n) with | some xs => (match atI xs i with | some d => R.ok d s | none => .bad) | none => .bad) Q E = _
  rw [lview_ref h]
  simp only
  cases atI xs i <;> first | exact wp_ok | exact wp_bad
theorem w_sl1 {d : D} {xs : List D} : wp (dSl (some 1) none (.tup (d :: xs)) s) Q E = Q (.tup xs) s := by
  have e : dCut (d :: xs) (some 1) none = xs := by
    unfold dCut
    rw [show HT.sIx (d :: xs).length 0 (some 1) = min 1 (d :: xs).length from HT.sIx_nat _ _ 1, HT.sIx_none]
    simp
  show wp (R.ok (.tup (dCut (d :: xs) (some 1) none)) s) Q E = _
  rw [e, wp_ok]
theorem w_ixD {kvs : List (Str × D)} {z : Str} : wp (dIx (.dic kvs) (.str z) s) Q E = match kvs.lookup z with | some d => Q d s | none => False := by
  unfold dIx
  simp only
  cases kvs.lookup z <;> first | exact wp_ok | exact wp_bad
/-- an item at a place that is within -/
theorem ix_any {xs : List D} {i : Int} (h0 : 0 ≤ i) (h1 : i < xs.length) (h : ∀ d ∈ xs, Q d s) : wp (dIx (.lst xs) (.int i) s) Q E := by
  obtain ⟨d, hd, e, _⟩ := atI_mem h0 h1
  rw [w_ix, e]
  exact h d hd
theorem w_store {n : Nat} {xs : List D} {k : Int} {v : D} (h : s[n]? = some (.lst xs)) (h0 : 0 ≤ k) (h1 : k < xs.length) : dStore (.ref n) (.int k) v s = some (s.set n (.lst (xs.set k.toNat v))) := by
  unfold dStore
  simp only [h]
  have e : ixN xs.length k = some k.toNat := by
    unfold ixN
    rw [if_pos h0, if_pos h1]
  rw [e]
theorem w_inL {xs : List D} {d : D} (f : flatD d = true) (g : xs.all flatD = true) : wp (dIn d (.lst xs) s) Q E = Q (.bl (xs.any fun z => sEq z d)) s := by
  have e : dMem d (.lst xs) s = some (xs.any fun z => sEq z d) := by
    cases d <;> first
      | (simp only [flatD] at f; cases f; done)
      | (simp only [dMem, lview, f, g]; simp)
  unfold dIn
  rw [e]
  exact wp_ok
end
/-! texts that are written out -/
theorem str_beq (x y : String) : (Str.ofString x == Str.ofString y) = (x == y) := by
  rw [Bool.eq_iff_iff]
  constructor
  · intro h
    have e := beq_iff_eq.mp h
    rw [Str.ofString_eq_toList, Str.ofString_eq_toList] at e
    have e2 : x.toList.map Char.toNat = y.toList.map Char.toNat := by
      have := congrArg (fun z : Str => z.cps.toList) e
      simpa using this
    have inj : ∀ a b : Char, a.toNat = b.toNat → a = b := fun a b h => Char.ext (UInt32.toNat.inj h)
    have e3 : x.toList = y.toList := List.map_inj_right (fun a b h => inj a b h) |>.mp e2
    exact beq_iff_eq.mpr (String.toList_inj.mp e3)
  · intro h
    exact beq_iff_eq.mpr (congrArg _ (beq_iff_eq.mp h))
theorem strOk_of (x : String) : PyData.strOk (Str.ofString x) = true := by
  rw [Str.ofString_eq_toList]
  unfold PyData.strOk
  rw [← Array.all_toList, List.all_eq_true]
  intro c hc
  obtain ⟨d, _, rfl⟩ := List.mem_map.mp (by simpa using hc)
  have h := d.valid
  have : d.toNat < 0x110000 := by
    rcases h with h | h
    · exact Nat.lt_trans h (by decide)
    · exact h.2
  exact decide_eq_true this
section
variable {Q : D → S → Prop} {E : D → S → Prop} {s : S} {x y : String}
theorem w_eqT : wp (dEq (.str (Str.ofString x)) (.str (Str.ofString y)) s) Q E = Q (.bl (x == y)) s := by rw [w_eqS (strOk_of x) (strOk_of y), str_beq]
theorem w_neT : wp (dNe (.str (Str.ofString x)) (.str (Str.ofString y)) s) Q E = Q (.bl (!(x == y))) s := by rw [w_neS (strOk_of x) (strOk_of y), str_beq]
theorem sEq_T : sEq (.str (Str.ofString x)) (.str (Str.ofString y)) = (x == y) := str_beq x y
theorem w_inTs {xs : List String} {z : String} : wp (dIn (.str (Str.ofString z)) (.lst (xs.map fun x => .str (Str.ofString x))) s) Q E = Q (.bl (xs.any fun x => x == z)) s := by
  have e : (xs.map fun x => D.str (Str.ofString x)).all flatD = true := by
    rw [List.all_map]; exact List.all_eq_true.mpr fun _ _ => rfl
  rw [w_inL rfl e, List.any_map]
  congr 3
  funext x
  exact sEq_T
theorem w_notinTs {xs : List String} {z : String} : wp (dNotIn (.str (Str.ofString z)) (.lst (xs.map fun x => .str (Str.ofString x))) s) Q E = Q (.bl (!xs.any fun x => x == z)) s := by
  have e : (xs.map fun x => D.str (Str.ofString x)).all flatD = true := by
    rw [List.all_map]; exact List.all_eq_true.mpr fun _ _ => rfl
  have e2 : dMem (.str (Str.ofString z)) (.lst (xs.map fun x => .str (Str.ofString x))) s = some ((xs.map fun x => D.str (Str.ofString x)).any fun y => sEq y (.str (Str.ofString z))) := by
    simp only [dMem, lview, flatD, e]; simp
  unfold dNotIn
  rw [e2, List.any_map]
  refine wp_ok.trans ?_
  congr 4
  funext x
  exact sEq_T
theorem w_inT1 {x0 z : String} : wp (dIn (.str (Str.ofString z)) (.lst [.str (Str.ofString x0)]) s) Q E = Q (.bl ((x0 == z || false))) s := w_inTs (xs := [x0])
theorem w_notinT1 {x0 z : String} : wp (dNotIn (.str (Str.ofString z)) (.lst [.str (Str.ofString x0)]) s) Q E = Q (.bl (!(x0 == z || false))) s := w_notinTs (xs := [x0])
theorem w_inT2 {x0 x1 z : String} : wp (dIn (.str (Str.ofString z)) (.lst [.str (Str.ofString x0), .str (Str.ofString x1)]) s) Q E = Q (.bl ((x0 == z || (x1 == z || false)))) s := w_inTs (xs := [x0, x1])
theorem w_notinT2 {x0 x1 z : String} : wp (dNotIn (.str (Str.ofString z)) (.lst [.str (Str.ofString x0), .str (Str.ofString x1)]) s) Q E = Q (.bl (!(x0 == z || (x1 == z || false)))) s := w_notinTs (xs := [x0, x1])
theorem w_inT3 {x0 x1 x2 z : String} : wp (dIn (.str (Str.ofString z)) (.lst [.str (Str.ofString x0), .str (Str.ofString x1), .str (Str.ofString x2)]) s) Q E = Q (.bl ((x0 == z || (x1 == z || (x2 == z || false))))) s := w_inTs (xs := [x0, x1, x2])
theorem w_notinT3 {x0 x1 x2 z : String} : wp (dNotIn (.str (Str.ofString z)) (.lst [.str (Str.ofString x0), .str (Str.ofString x1), .str (Str.ofString x2)]) s) Q E = Q (.bl (!(x0 == z || (x1 == z || (x2 == z || false))))) s := w_notinTs (xs := [x0, x1, x2])
theorem w_inT4 {x0 x1 x2 x3 z : String} : wp (dIn (.str (Str.ofString z)) (.lst [.str (Str.ofString x0), .str (Str.ofString x1), .str (Str.ofString x2), .str (Str.ofString x3)]) s) Q E = Q (.bl ((x0 == z || (x1 == z || (x2 == z || (x3 == z || false)))))) s := w_inTs (xs := [x0, x1, x2, x3])
theorem w_notinT4 {x0 x1 x2 x3 z : String} : wp (dNotIn (.str (Str.ofString z)) (.lst [.str (Str.ofString x0), .str (Str.ofString x1), .str (Str.ofString x2), .str (Str.ofString x3)]) s) Q E = Q (.bl (!(x0 == z || (x1 == z || (x2 == z || (x3 == z || false)))))) s := w_notinTs (xs := [x0, x1, x2, x3])
theorem w_inT5 {x0 x1 x2 x3 x4 z : String} : wp (dIn (.str (Str.ofString z)) (.lst [.str (Str.ofString x0), .str (Str.ofString x1), .str (Str.ofString x2), .str (Str.ofString x3), .str (Str.ofString x4)]) s) Q E = Q (.bl ((x0 == z || (x1 == z || (x2 == z || (x3 == z || (x4 == z || false))))))) s := w_inTs (xs := [x0, x1, x2, x3, x4])
theorem w_notinT5 {x0 x1 x2 x3 x4 z : String} : wp (dNotIn (.str (Str.ofString z)) (.lst [.str (Str.ofString x0), .str (Str.ofString x1), .str (Str.ofString x2), .str (Str.ofString x3), .str (Str.ofString x4)]) s) Q E = Q (.bl (!(x0 == z || (x1 == z || (x2 == z || (x3 == z || (x4 == z || false))))))) s := w_notinTs (xs := [x0, x1, x2, x3, x4])
theorem w_inT6 {x0 x1 x2 x3 x4 x5 z : String} : wp (dIn (.str (Str.ofString z)) (.lst [.str (Str.ofString x0), .str (Str.ofString x1), .str (Str.ofString x2), .str (Str.ofString x3), .str (Str.ofString x4), .str (Str.ofString x5)]) s) Q E = Q (.bl ((x0 == z || (x1 == z || (x2 == z || (x3 == z || (x4 == z || (x5 == z || false)))))))) s := w_inTs (xs := [x0, x1, x2, x3, x4, x5])
theorem w_notinT6 {x0 x1 x2 x3 x4 x5 z : String} : wp (dNotIn (.str (Str.ofString z)) (.lst [.str (Str.ofString x0), .str (Str.ofString x1), .str (Str.ofString x2), .str (Str.ofString x3), .str (Str.ofString x4), .str (Str.ofString x5)]) s) Q E = Q (.bl (!(x0 == z || (x1 == z || (x2 == z || (x3 == z || (x4 == z || (x5 == z || false)))))))) s := w_notinTs (xs := [x0, x1, x2, x3, x4, x5])
theorem w_inT7 {x0 x1 x2 x3 x4 x5 x6 z : String} : wp (dIn (.str (Str.ofString z)) (.lst [.str (Str.ofString x0), .str (Str.ofString x1), .str (Str.ofString x2), .str (Str.ofString x3), .str (Str.ofString x4), .str (Str.ofString x5), .str (Str.ofString x6)]) s) Q E = Q (.bl ((x0 == z || (x1 == z || (x2 == z || (x3 == z || (x4 == z || (x5 == z || (x6 == z || false))))))))) s := w_inTs (xs := [x0, x1, x2, x3, x4, x5, x6])
theorem w_notinT7 {x0 x1 x2 x3 x4 x5 x6 z : String} : wp (dNotIn (.str (Str.ofString z)) (.lst [.str (Str.ofString x0), .str (Str.ofString x1), .str (Str.ofString x2), .str (Str.ofString x3), .str (Str.ofString x4), .str (Str.ofString x5), .str (Str.ofString x6)]) s) Q E = Q (.bl (!(x0 == z || (x1 == z || (x2 == z || (x3 == z || (x4 == z || (x5 == z || (x6 == z || false))))))))) s := w_notinTs (xs := [x0, x1, x2, x3, x4, x5, x6])
theorem w_inT8 {x0 x1 x2 x3 x4 x5 x6 x7 z : String} : wp (dIn (.str (Str.ofString z)) (.lst [.str (Str.ofString x0), .str (Str.ofString x1), .str (Str.ofString x2), .str (Str.ofString x3), .str (Str.ofString x4), .str (Str.ofString x5), .str (Str.ofString x6), .str (Str.ofString x7)]) s) Q E = Q (.bl ((x0 == z || (x1 == z || (x2 == z || (x3 == z || (x4 == z || (x5 == z || (x6 == z || (x7 == z || false)))))))))) s := w_inTs (xs := [x0, x1, x2, x3, x4, x5, x6, x7])
theorem w_notinT8 {x0 x1 x2 x3 x4 x5 x6 x7 z : String} : wp (dNotIn (.str (Str.ofString z)) (.lst [.str (Str.ofString x0), .str (Str.ofString x1), .str (Str.ofString x2), .str (Str.ofString x3), .str (Str.ofString x4), .str (Str.ofString x5), .str (Str.ofString x6), .str (Str.ofString x7)]) s) Q E = Q (.bl (!(x0 == z || (x1 == z || (x2 == z || (x3 == z || (x4 == z || (x5 == z || (x6 == z || (x7 == z || false)))))))))) s := w_notinTs (xs := [x0, x1, x2, x3, x4, x5, x6, x7])
end
theorem small_bits {a : Int} {k : Nat} (h : a.natAbs < 2 ^ k) : iBits a ≤ k := Int.ofNat_le.mpr (intBits_le_iff.mpr h)
theorem line_of {n : Nat} (h : n ≤ 1000000) : n ≤ sizeLine := Nat.le_trans h (by decide)
theorem line_eq : sizeLine = 16777216 := by decide
end Pm
namespace Pm
open PySem PySem.Spec PyProof.Rows L2
noncomputable section
/-! ### the helpers that all laws share: the deck, a card, what a datum is told as -/
def g_deck_m : MS := (ssCons (sSet 3 (mN dNew aNil))
  (ssCons (sSet 4 (m2 dAdd (mC (.int 7)) (mN dLen (aCons (mVar 0) aNil))))
  (ssCons (sFor (iRange1 (mVar 1)) (gSlot 5)
  (ssCons (sSet 6 (mC (.int 0)))
  (ssCons (sIf (tBool (m2 dLt (mVar 5) (mN dLen (aCons (mVar 0) aNil))))
  (sSet 6 (m2 dIx (mVar 0) (mVar 5)))
  ssNil)
  (ssCons (sSet 7 (mN dAbs (aCons (mVar 6) aNil)))
  (sIf (tBool (m2 dGe (mVar 7) (m2 dPow (mC (.int 10)) (mC (.int 30)))))
  (sFor (iRange1 (mVar 2)) (gSlot 8)
  (ssCons (sExpr (mMt "list" dAppend (mVar 3) (aCons (m2 dMod (mN dInt (aCons (mVar 7) aNil)) (mC (.int 1000003))) aNil)))
  (sSet 7 (m2 dFdiv (mVar 7) (mC (.int 1000003))))))
  (ssCons (sSet 4 (m2 dMod (mN dInt (aCons (m2 dAdd (m2 dAdd (m2 dAdd (m2 dMul (mVar 4) (mC (.int 48271))) (m2 dMul (mC (.int 2)) (mVar 7))) (mN dInt (aCons (m2 dLt (mVar 6) (mC (.int 0))) aNil))) (mVar 5)) aNil)) (mC (.int 2147483647))))
  (sFor (iRange1 (mVar 2)) (gSlot 8)
  (ssCons (sSet 4 (m2 dMod (mN dInt (aCons (m2 dAdd (m2 dAdd (m2 dMul (mVar 4) (mC (.int 69621))) (mVar 8)) (mC (.int 1))) aNil)) (mC (.int 2147483629))))
  (sExpr (mMt "list" dAppend (mVar 3) (aCons (m2 dMod (mN dInt (aCons (m2 dFdiv (mVar 4) (mC (.int 5))) aNil)) (mC (.int 1000003))) aNil)))))))))))
  (ssCons (sExpr (mMt "list" dReverse (mVar 3) aNil))
  (sRet (mVar 3))))))
def g_deck : List D → S → R D := mkFn 3 9 g_deck_m
def g_take_m : MS := (ssCons (sIf (tBool (m2 dEq (mN dLen (aCons (mVar 0) aNil)) (mC (.int 0))))
  (sRet (mC (.int 0)))
  ssNil)
  (sRet (m2 dMod (mN dInt (aCons (mMt "list" dPop (mVar 0) aNil) aNil)) (mVar 1))))
def g_take : List D → S → R D := mkFn 2 2 g_take_m
def g_plain_m (G : List D → S → R D) : MS := (ssCons (sIf (tTru dTru (mIsi ["tuple", "list"] (mVar 0)))
  (sRet (m2 dAdd (mN dLst (aCons (mIsi ["list"] (mVar 0)) aNil)) (mLc (iAny (mVar 0)) (gSlot 1) tAll (mN G (aCons (mVar 1) aNil)) [1])))
  ssNil)
  (ssCons (sIf (tOr2 (tBool (m2 dIs (mVar 0) (mC .non))) (tTru dTru (mIsi ["bool"] (mVar 0))))
  (sRet (m2 dIx (mN dLst (aCons (mC (.str "None")) (aCons (mC (.str "False")) (aCons (mC (.str "True")) aNil)))) (m2 dAdd (mN dInt (aCons (m2 dIsNot (mVar 0) (mC .non)) aNil)) (mN dInt (aCons (m2 dIs (mVar 0) (mC (.bl true))) aNil)))))
  ssNil)
  (ssCons (sIf (tTru dTru (mIsi ["int", "str"] (mVar 0)))
  (sRet (mN dLst (aCons (mIsi ["str"] (mVar 0)) (aCons (mVar 0) aNil))))
  ssNil)
  (sRet (mC (.str "another"))))))
def g_plain : Nat → List D → S → R D
  | 0 => mkFn 1 2 sNever
  | k + 1 => mkFn 1 2 (g_plain_m (g_plain k))

/-- the deck stands first in the store: numbers from 0 on -/
def Dk (s t : S) : Prop := ∃ L : List Int, s = .lst (L.map .int) :: t ∧ ∀ x ∈ L, 0 ≤ x
theorem Dk.at {s t : S} (h : Dk s t) : ∃ L : List D, s[0]? = some (.lst L) := by
  obtain ⟨L, rfl, _⟩ := h
  exact ⟨_, rfl⟩
theorem take_wp {s t : S} {m : Int} {Q : D → S → Prop} {E : D → S → Prop} (h : Dk s t) (hm : 0 < m) (k : ∀ v s', 0 ≤ v → v < m → Dk s' t → Q (.int v) s') : wp (g_take [.ref 0, .int m] s) Q E := by
  refine wp_up ?_
  obtain ⟨L, rfl, hL⟩ := h
  refine (wp_fn rfl).mpr ?_
  show wS (g_take_m [some (.ref 0), some (.int m)] _) _
  unfold g_take_m
  simp only [wp_ok, wp_bad, wp_bind, wS_ok, wS_bad, wS_cons, wS_nil, wS_pass, wS_break, wS_cont, wS_never, wS_set, wS_expr, wS_ret, wS_retN, wS_if, wS_asg, wS_aug, wS_for, wp_lc, wp_m1, wp_m2, wp_mN, wp_aNil, wp_aCons, wp_mC, wp_var, wp_if, wp_and, wp_or, wp_not, wp_chain, wp_mt, wp_get, wp_isi, wp_fld, wp_sl, wp_oNone, wp_oSome, wp_tBool, wp_tTru, wp_tNot, wp_tAnd, wp_tOr, wp_tAll, wp_gSlot, wp_gsNil, wp_gsCons, wp_gTup, wp_gSub, wp_iAny, wp_iSeq, wp_iTup, wp_iStr, wp_iRange1, wp_iRange2, wp_iZip, wS_fld, wp_make, seqQ, rtQ, turnQ, List.getElem?_cons_zero, List.getElem?_cons_succ, List.set_cons_zero, List.set_cons_succ, wipeD, if_true, if_false, Bool.false_eq_true, Bool.true_eq_false, reduceIte]
  rw [w_lenR (xs := L.map .int) rfl, w_eqI]
  simp only [List.length_map]
  cases hl : L.reverse with
  | nil =>
    have e : L = [] := by simpa using hl
    subst e
    simp only [List.length_nil, if_true]
    exact k 0 _ (Int.le_refl 0) hm ⟨[], rfl, hL⟩
  | cons x r =>
    have e : L = r.reverse ++ [x] := by
      have := congrArg List.reverse hl
      simpa using this
    subst e
    have hne : ((((r.reverse ++ [x]).length : Nat) : Int) == 0) = false := by simp; omega
    rw [hne]
    simp only [Bool.false_eq_true, if_false]
    refine ⟨hasTy_ref (xs := (r.reverse ++ [x]).map .int) rfl, ?_⟩
    have ep : dPop (.ref 0) [] (O.lst ((r.reverse ++ [x]).map .int) :: t) = .ok (.int x) (O.lst (r.reverse.map .int) :: t) := by
      unfold dPop
      simp only [List.getElem?_cons_zero, List.set_cons_zero]
      have e1 : ((r.reverse ++ [x]).map D.int)[((r.reverse ++ [x]).map D.int).length - 1]? = some (.int x) := by simp
      rw [e1]
      simp
    rw [ep]
    simp only [wp_ok, w_int, w_mod]
    have hx : 0 ≤ x := hL x (by simp)
    exact ⟨hm, k _ _ (Int.emod_nonneg _ (by omega)) (Int.emod_lt_of_pos _ hm) ⟨r.reverse, rfl, fun y hy => hL y (by simp at hy ⊢; exact .inl hy)⟩⟩
theorem rng_mem {lo : Int} {n : Nat} {d : D} (h : d ∈ rng lo n) : ∃ k : Nat, d = .int (lo + k) ∧ k < n := by
  unfold rng at h
  obtain ⟨k, hk, e⟩ := List.mem_map.mp h
  exact ⟨k, e.symm, List.mem_range.mp hk⟩
theorem bits31 {a : Int} (h0 : 0 ≤ a) (h : a < 2147483648) : iBits a ≤ 32 := small_bits (k := 32) (by omega)
/-- the deck: n numbers from each cell, none below 0 -/
theorem deck_wp {ns : List Int} {c e : Int} {Q : D → S → Prop} {E : D → S → Prop} (hc : 0 ≤ c ∧ c ≤ 1000) (he : 0 ≤ e ∧ e ≤ 1000) (hn : ns.length ≤ 63) (k : ∀ s, Dk s [] → Q (.ref 0) s) : wp (g_deck [.lst (ns.map .int), .int c, .int e] []) Q E := by
  refine wp_up ?_
  refine (wp_fn rfl).mpr ?_
  show wS (g_deck_m [some (.lst (ns.map .int)), some (.int c), some (.int e), none, none, none, none, none, none] _) _
  unfold g_deck_m
  simp only [wp_ok, wp_bad, wp_bind, wS_ok, wS_bad, wS_cons, wS_nil, wS_pass, wS_break, wS_cont, wS_never, wS_set, wS_expr, wS_ret, wS_retN, wS_if, wS_asg, wS_aug, wS_for, wp_lc, wp_m1, wp_m2, wp_mN, wp_aNil, wp_aCons, wp_mC, wp_var, wp_if, wp_and, wp_or, wp_not, wp_chain, wp_mt, wp_get, wp_isi, wp_fld, wp_sl, wp_oNone, wp_oSome, wp_tBool, wp_tTru, wp_tNot, wp_tAnd, wp_tOr, wp_tAll, wp_gSlot, wp_gsNil, wp_gsCons, wp_gTup, wp_gSub, wp_iAny, wp_iSeq, wp_iTup, wp_iStr, wp_iRange1, wp_iRange2, wp_iZip, wS_fld, wp_make, seqQ, rtQ, turnQ, List.getElem?_cons_zero, List.getElem?_cons_succ, List.set_cons_zero, List.set_cons_succ, wipeD, if_true, if_false, Bool.false_eq_true, Bool.true_eq_false, reduceIte]
  rw [w_new]
  refine ⟨by simp, ?_⟩
  simp only [List.length_nil, List.nil_append, w_len, w_add]
  refine ⟨by omega, ?_⟩
  let I : List D → Rho → S → Prop := fun xs ρ s => ∃ (seed : Int) (v5 v6 v7 v8 : Option D) (L : List Int), ρ = [some (.lst (ns.map .int)), some (.int c), some (.int e), some (.ref 0), some (.int seed), v5, v6, v7, v8] ∧ s = [.lst (L.map .int)] ∧ (0 ≤ seed ∧ seed < 2147483648) ∧
    (∀ x ∈ L, 0 ≤ x) ∧ (∀ d ∈ xs, ∃ j : Int, d = .int j ∧ 0 ≤ j ∧ j < 1000) ∧ L.length + 1000 * xs.length ≤ 1000 * 1000
  refine wS_forN I ?_ ?_ _ _ _ ⟨7 + (ns.length : Nat), none, none, none, none, [], by simp, by simp, by omega, by simp, ?_, ?_⟩
  · rintro ρ s ⟨seed, v5, v6, v7, v8, L, rfl, rfl, hs, hL, _, _⟩
    simp only [wp_ok, wp_bad, wp_bind, wS_ok, wS_bad, wS_cons, wS_nil, wS_pass, wS_break, wS_cont, wS_never, wS_set, wS_expr, wS_ret, wS_retN, wS_if, wS_asg, wS_aug, wS_for, wp_lc, wp_m1, wp_m2, wp_mN, wp_aNil, wp_aCons, wp_mC, wp_var, wp_if, wp_and, wp_or, wp_not, wp_chain, wp_mt, wp_get, wp_isi, wp_fld, wp_sl, wp_oNone, wp_oSome, wp_tBool, wp_tTru, wp_tNot, wp_tAnd, wp_tOr, wp_tAll, wp_gSlot, wp_gsNil, wp_gsCons, wp_gTup, wp_gSub, wp_iAny, wp_iSeq, wp_iTup, wp_iStr, wp_iRange1, wp_iRange2, wp_iZip, wS_fld, wp_make, seqQ, rtQ, turnQ, List.getElem?_cons_zero, List.getElem?_cons_succ, List.set_cons_zero, List.set_cons_succ, wipeD, if_true, if_false, Bool.false_eq_true, Bool.true_eq_false, reduceIte]
    refine ⟨hasTy_ref (xs := L.map .int) rfl, ?_⟩
    rw [w_reverse (xs := L.map .int) rfl]
    exact k _ ⟨L.reverse, by simp, fun x hx => hL x (by simpa using hx)⟩
  · rintro x xs ρ s ⟨seed, v5, v6, v7, v8, L, rfl, rfl, hs, hL, hx, hlen⟩
    obtain ⟨j, rfl, hj0, hj1⟩ := hx x List.mem_cons_self
    have hxs : ∀ d ∈ xs, ∃ j : Int, d = .int j ∧ 0 ≤ j ∧ j < 1000 := fun d hd => hx d (List.mem_cons_of_mem _ hd)
    simp only [List.length_cons] at hlen
    -- behind the choice of the cell
    have rest : ∀ cell : Int, wS (ssCons (sSet 7 (mN dAbs (aCons (mVar 6) aNil)))
        (sIf (tBool (m2 dGe (mVar 7) (m2 dPow (mC (.int 10)) (mC (.int 30)))))
        (sFor (iRange1 (mVar 2)) (gSlot 8)
        (ssCons (sExpr (mMt "list" dAppend (mVar 3) (aCons (m2 dMod (mN dInt (aCons (mVar 7) aNil)) (mC (.int 1000003))) aNil)))
        (sSet 7 (m2 dFdiv (mVar 7) (mC (.int 1000003))))))
        (ssCons (sSet 4 (m2 dMod (mN dInt (aCons (m2 dAdd (m2 dAdd (m2 dAdd (m2 dMul (mVar 4) (mC (.int 48271))) (m2 dMul (mC (.int 2)) (mVar 7))) (mN dInt (aCons (m2 dLt (mVar 6) (mC (.int 0))) aNil))) (mVar 5)) aNil)) (mC (.int 2147483647))))
        (sFor (iRange1 (mVar 2)) (gSlot 8)
        (ssCons (sSet 4 (m2 dMod (mN dInt (aCons (m2 dAdd (m2 dAdd (m2 dMul (mVar 4) (mC (.int 69621))) (mVar 8)) (mC (.int 1))) aNil)) (mC (.int 2147483629))))
        (sExpr (mMt "list" dAppend (mVar 3) (aCons (m2 dMod (mN dInt (aCons (m2 dFdiv (mVar 4) (mC (.int 5))) aNil)) (mC (.int 1000003))) aNil)))))))
        [some (.lst (ns.map .int)), some (.int c), some (.int e), some (.ref 0), some (.int seed), some (.int j), some (.int cell), v7, v8] [.lst (L.map .int)]) (turnQ (I xs) fun c s => seqQ (ssCons (sExpr (mMt "list" dReverse (mVar 3) aNil)) (sRet (mVar 3))) (rtQ Q) (fun _ _ _ => False) c s) := by
      intro cell
      simp only [wp_ok, wp_bad, wp_bind, wS_ok, wS_bad, wS_cons, wS_nil, wS_pass, wS_break, wS_cont, wS_never, wS_set, wS_expr, wS_ret, wS_retN, wS_if, wS_asg, wS_aug, wS_for, wp_lc, wp_m1, wp_m2, wp_mN, wp_aNil, wp_aCons, wp_mC, wp_var, wp_if, wp_and, wp_or, wp_not, wp_chain, wp_mt, wp_get, wp_isi, wp_fld, wp_sl, wp_oNone, wp_oSome, wp_tBool, wp_tTru, wp_tNot, wp_tAnd, wp_tOr, wp_tAll, wp_gSlot, wp_gsNil, wp_gsCons, wp_gTup, wp_gSub, wp_iAny, wp_iSeq, wp_iTup, wp_iStr, wp_iRange1, wp_iRange2, wp_iZip, wS_fld, wp_make, seqQ, rtQ, turnQ, List.getElem?_cons_zero, List.getElem?_cons_succ, List.set_cons_zero, List.set_cons_succ, wipeD, if_true, if_false, Bool.false_eq_true, Bool.true_eq_false, reduceIte]
      rw [w_abs]
      simp only [w_pow, w_ge]
      refine ⟨by decide, ?_⟩
      generalize hab : (if cell < 0 then -cell else cell) = ab
      have h10 : ((10 : Int) ^ (30 : Int).toNat) = 1000000000000000000000000000000 := by decide
      have hab0 : 0 ≤ ab := by rw [← hab]; split <;> omega
      rw [h10]
      split
      · refine ⟨by omega, ?_⟩
        let J : List D → Rho → S → Prop := fun ys ρ s => ∃ (v7 : Int) (v8 : Option D) (L' : List Int), ρ = [some (.lst (ns.map .int)), some (.int c), some (.int e), some (.ref 0), some (.int seed), some (.int j), some (.int cell), some (.int v7), v8] ∧ s = [.lst (L'.map .int)] ∧ (∀ x ∈ L', 0 ≤ x) ∧ L'.length + ys.length ≤ L.length + 1000
        refine wS_forN J ?_ ?_ _ _ _ ⟨ab, v8, L, by simp, rfl, hL, by unfold rng; simp; omega⟩
        · rintro ρ s ⟨v7, v8, L', rfl, rfl, hL', hlen'⟩
          simp only [List.length_nil] at hlen'
          exact ⟨seed, _, _, _, _, L', rfl, rfl, hs, hL', hxs, by omega⟩
        · rintro y ys ρ s ⟨v7, v8, L', rfl, rfl, hL', hlen'⟩
          simp only [List.length_cons] at hlen'
          simp only [wp_ok, wp_bad, wp_bind, wS_ok, wS_bad, wS_cons, wS_nil, wS_pass, wS_break, wS_cont, wS_never, wS_set, wS_expr, wS_ret, wS_retN, wS_if, wS_asg, wS_aug, wS_for, wp_lc, wp_m1, wp_m2, wp_mN, wp_aNil, wp_aCons, wp_mC, wp_var, wp_if, wp_and, wp_or, wp_not, wp_chain, wp_mt, wp_get, wp_isi, wp_fld, wp_sl, wp_oNone, wp_oSome, wp_tBool, wp_tTru, wp_tNot, wp_tAnd, wp_tOr, wp_tAll, wp_gSlot, wp_gsNil, wp_gsCons, wp_gTup, wp_gSub, wp_iAny, wp_iSeq, wp_iTup, wp_iStr, wp_iRange1, wp_iRange2, wp_iZip, wS_fld, wp_make, seqQ, rtQ, turnQ, List.getElem?_cons_zero, List.getElem?_cons_succ, List.set_cons_zero, List.set_cons_succ, wipeD, if_true, if_false, Bool.false_eq_true, Bool.true_eq_false, reduceIte]
          refine ⟨hasTy_ref (xs := L'.map .int) rfl, ?_⟩
          simp only [w_int, w_mod, w_fdiv]
          refine ⟨by decide, ?_⟩
          rw [w_append (xs := L'.map .int) rfl]
          refine ⟨by simp only [List.length_map]; show L'.length < 16777216; omega, ⟨by decide, by decide⟩, ?_⟩
          exact ⟨_, _, L' ++ [v7 % 1000003], rfl, by simp, fun x hx => by
            rcases List.mem_append.mp hx with hx | hx
            · exact hL' x hx
            · rw [List.mem_singleton.mp hx]; exact Int.emod_nonneg _ (by decide), by simp only [List.length_append, List.length_singleton]; omega⟩
      · rename_i hge
        have hab1 : ab < 1000000000000000000000000000000 := by
          have : ¬ (ab ≥ 1000000000000000000000000000000) := by simpa using hge
          omega
        simp only [w_mul, w_lt, w_intB, w_add, w_int, w_mod]
        refine ⟨?_, ?_, by decide, by omega, ?_⟩
        · have := bits31 hs.1 hs.2
          have h2 : iBits 48271 ≤ 32 := by decide
          omega
        · have h1 : iBits ab ≤ 100 := small_bits (k := 100) (by omega)
          have h2 : iBits 2 ≤ 32 := by decide
          omega
        generalize (seed * 48271 + 2 * ab + (if decide (cell < 0) = true then (1 : Int) else 0) + j) = z
        let J : List D → Rho → S → Prop := fun ys ρ s => ∃ (seed : Int) (v8 : Option D) (L' : List Int), ρ = [some (.lst (ns.map .int)), some (.int c), some (.int e), some (.ref 0), some (.int seed), some (.int j), some (.int cell), some (.int ab), v8] ∧ s = [.lst (L'.map .int)] ∧ (0 ≤ seed ∧ seed < 2147483648) ∧ (∀ x ∈ L', 0 ≤ x) ∧ (∀ d ∈ ys, ∃ j : Int, d = .int j ∧ 0 ≤ j) ∧ L'.length + ys.length ≤ L.length + 1000
        have hz1 : 0 ≤ z % 2147483647 := Int.emod_nonneg _ (by decide)
        have hz2 : z % 2147483647 < 2147483647 := Int.emod_lt_of_pos _ (by decide)
        refine wS_forN J ?_ ?_ _ _ _ ⟨z % 2147483647, v8, L, by simp, rfl, ⟨hz1, by omega⟩, hL, ?_, by unfold rng; simp; omega⟩
        · rintro ρ s ⟨seed, v8, L', rfl, rfl, hs', hL', _, hlen'⟩
          simp only [List.length_nil] at hlen'
          exact ⟨seed, _, _, _, _, L', rfl, rfl, hs', hL', hxs, by omega⟩
        · intro y ys ρ s h
          obtain ⟨seed', v8, L', e1, e2, hs', hL', hys, hlen'⟩ := h
          subst e1 e2
          simp only [List.length_cons] at hlen'
          obtain ⟨q, rfl, hq⟩ := hys y List.mem_cons_self
          simp only [wp_ok, wp_bad, wp_bind, wS_ok, wS_bad, wS_cons, wS_nil, wS_pass, wS_break, wS_cont, wS_never, wS_set, wS_expr, wS_ret, wS_retN, wS_if, wS_asg, wS_aug, wS_for, wp_lc, wp_m1, wp_m2, wp_mN, wp_aNil, wp_aCons, wp_mC, wp_var, wp_if, wp_and, wp_or, wp_not, wp_chain, wp_mt, wp_get, wp_isi, wp_fld, wp_sl, wp_oNone, wp_oSome, wp_tBool, wp_tTru, wp_tNot, wp_tAnd, wp_tOr, wp_tAll, wp_gSlot, wp_gsNil, wp_gsCons, wp_gTup, wp_gSub, wp_iAny, wp_iSeq, wp_iTup, wp_iStr, wp_iRange1, wp_iRange2, wp_iZip, wS_fld, wp_make, seqQ, rtQ, turnQ, List.getElem?_cons_zero, List.getElem?_cons_succ, List.set_cons_zero, List.set_cons_succ, wipeD, if_true, if_false, Bool.false_eq_true, Bool.true_eq_false, reduceIte]
          simp only [w_mul, w_add, w_int, w_mod, w_fdiv]
          refine ⟨?_, by decide, hasTy_ref (xs := L'.map .int) rfl, ⟨by decide, by decide⟩, by decide, ?_⟩
          · have := bits31 hs'.1 hs'.2
            have h2 : iBits 69621 ≤ 32 := by decide
            omega
          rw [w_append (xs := L'.map .int) rfl]
          refine ⟨by simp only [List.length_map]; show L'.length < 16777216; omega, ?_⟩
          have hm1 : 0 ≤ (seed' * 69621 + q + 1) % 2147483629 := Int.emod_nonneg _ (by decide)
          have hm2 : (seed' * 69621 + q + 1) % 2147483629 < 2147483629 := Int.emod_lt_of_pos _ (by decide)
          exact ⟨_, _, L' ++ [(seed' * 69621 + q + 1) % 2147483629 / 5 % 1000003], rfl, by simp, ⟨hm1, by omega⟩, fun x hx => by
            rcases List.mem_append.mp hx with hx | hx
            · exact hL' x hx
            · rw [List.mem_singleton.mp hx]; exact Int.emod_nonneg _ (by decide), fun d hd => hys d (List.mem_cons_of_mem _ hd), by simp only [List.length_append, List.length_singleton]; omega⟩
        · intro d hd
          obtain ⟨k, rfl, _⟩ := rng_mem hd
          exact ⟨_, rfl, by omega⟩
    rw [wp_gSlot]
    simp only [List.set_cons_zero, List.set_cons_succ]
    rw [wS_cons, wS_set, wp_mC]
    show wS (ssCons (sIf _ _ _) _ _ _) _
    rw [wS_cons, wS_if]
    simp only [List.set_cons_zero, List.set_cons_succ, wp_tBool, wp_m2, wp_mN, wp_aCons, wp_aNil, wp_var, List.getElem?_cons_zero, List.getElem?_cons_succ, w_len, w_lt]
    split
    · rename_i hlt
      have hlt' : j < (ns.map D.int).length := by simpa using hlt
      obtain ⟨d, hd, ei, _⟩ := atI_mem (xs := ns.map D.int) hj0 hlt'
      obtain ⟨cell, _, rfl⟩ := List.mem_map.mp hd
      rw [wS_set, wp_m2]
      simp only [wp_var, List.getElem?_cons_zero, List.getElem?_cons_succ]
      rw [w_ix, ei]
      exact rest cell
    · rw [wS_nil]
      exact rest 0
  · intro d hd
    obtain ⟨k, rfl, hk⟩ := rng_mem hd
    exact ⟨_, rfl, by omega, by omega⟩
  · unfold rng
    simp
    omega
/-! what a datum is told as -/
theorem plain_unf {k : Nat} {d : D} {s : S} {Q : D → S → Prop} : wp (g_plain (k + 1) [d] s) Q = wS (g_plain_m (g_plain k) [some d, none] s) (rtQ Q) := wp_fn (n := 1) (tot := 2) (m := g_plain_m (g_plain k)) rfl
def plainOk : Nat → D → Bool
  | 0, _ => false
  | _ + 1, .non => true
  | _ + 1, .bl _ => true
  | _ + 1, .int _ => true
  | _ + 1, .str x => PyData.strOk x
  | k + 1, .tup xs => decide (xs.length < sizeLine) && xs.all (plainOk k)
  | k + 1, .lst xs => decide (xs.length < sizeLine) && xs.all (plainOk k)
  | _, _ => false
/-- told, and the same at every store -/
def Told (k n : Nat) (d : D) : Prop := ∃ d', (∀ s, g_plain k [d] s = .ok d' s) ∧ ∀ s, ∃ p, toPy s n d' = some p
theorem told_map {G : List D → S → R D} {n : Nat} {all : List D} : ∀ {xs : List D} {v : Option D}, (∀ x ∈ xs, ∃ d', (∀ s, G [x] s = .ok d' s) ∧ ∀ s, ∃ p, toPy s n d' = some p) →
    ∃ ys, ys.length = xs.length ∧ (∀ (o : Option D) s, mapL none all (gSlot 1) tAll (mN G (aCons (mVar 1) aNil)) xs [v, o] s = .ok ys s) ∧ ∀ s, ∃ ps, optAll (toPy s n) ys = some ps
  | [], v, _ => ⟨[], rfl, fun o s => by unfold mapL; exact if_pos trivial, fun s => ⟨[], rfl⟩⟩
  | x :: xs, v, h => by
    obtain ⟨d, h1, h2⟩ := h x List.mem_cons_self
    obtain ⟨ys, e1, h3, h4⟩ := told_map (G := G) (n := n) (all := all) (xs := xs) (v := v) fun y hy => h y (List.mem_cons_of_mem _ hy)
    refine ⟨d :: ys, by simp [e1], fun o s => ?_, fun s => ?_⟩
    · unfold mapL
      rw [if_pos (show gOk none all s from trivial)]
      have e2 : mN G (aCons (mVar 1) aNil) [v, some x] s = .ok d s := by
        show R.bind (R.bind (R.ok x s) _) _ = _
        simp only [R.bind, aNil]
        exact h1 s
      simp only [gSlot, List.set_cons_succ, List.set_cons_zero, tAll, e2, h3 o s]
    · obtain ⟨p, hp⟩ := h2 s
      obtain ⟨ps, hps⟩ := h4 s
      exact ⟨p :: ps, by simp only [optAll, hp, hps]⟩
theorem told_seq {k n : Nat} {xs : List D} {b : Bool} (hl : xs.length < sizeLine) (h : ∀ x ∈ xs, Told k (n + 1) x) {d : D} (hd : d = .tup xs ∧ b = false ∨ d = .lst xs ∧ b = true) : Told (k + 1) (n + 2) d := by
  obtain ⟨ys, e1, h3, h4⟩ := told_map (G := g_plain k) (n := n + 1) (all := xs) (xs := xs) (v := some d) h
  refine ⟨.lst (.bl b :: ys), fun s => ?_, fun s => ?_⟩
  · have hw : wp (g_plain (k + 1) [d] s) fun d' s' => d' = .lst (.bl b :: ys) ∧ s' = s := by
      rw [plain_unf]
      unfold g_plain_m
      have hlen : (1 : Nat) + ys.length ≤ sizeLine := by rw [e1]; omega
      rcases hd with ⟨rfl, rfl⟩ | ⟨rfl, rfl⟩
      · simp only [wp_ok, wp_bad, wp_bind, wS_ok, wS_bad, wS_cons, wS_nil, wS_pass, wS_break, wS_cont, wS_never, wS_set, wS_expr, wS_ret, wS_retN, wS_if, wS_asg, wS_aug, wS_for, wp_lc, wp_m1, wp_m2, wp_mN, wp_aNil, wp_aCons, wp_mC, wp_var, wp_if, wp_and, wp_or, wp_not, wp_chain, wp_mt, wp_get, wp_isi, wp_fld, wp_sl, wp_oNone, wp_oSome, wp_tBool, wp_tTru, wp_tNot, wp_tAnd, wp_tOr, wp_tAll, wp_gSlot, wp_gsNil, wp_gsCons, wp_gTup, wp_gSub, wp_iAny, wp_iSeq, wp_iTup, wp_iStr, wp_iRange1, wp_iRange2, wp_iZip, wS_fld, wp_make, seqQ, rtQ, turnQ, List.getElem?_cons_zero, List.getElem?_cons_succ, List.set_cons_zero, List.set_cons_succ, wipeD, if_true, if_false, Bool.false_eq_true, Bool.true_eq_false, reduceIte]
        simp only [tyName, List.any_cons, List.any_nil, isSub, dTru, w_lst]
        refine (if_pos (by decide)).mpr ?_
        refine ⟨by decide, ?_⟩
        rw [h3, wp_ok]
        refine ⟨Nat.le_of_lt hl, ?_⟩
        rw [w_addL]
        exact ⟨hlen, rfl, rfl⟩
      · simp only [wp_ok, wp_bad, wp_bind, wS_ok, wS_bad, wS_cons, wS_nil, wS_pass, wS_break, wS_cont, wS_never, wS_set, wS_expr, wS_ret, wS_retN, wS_if, wS_asg, wS_aug, wS_for, wp_lc, wp_m1, wp_m2, wp_mN, wp_aNil, wp_aCons, wp_mC, wp_var, wp_if, wp_and, wp_or, wp_not, wp_chain, wp_mt, wp_get, wp_isi, wp_fld, wp_sl, wp_oNone, wp_oSome, wp_tBool, wp_tTru, wp_tNot, wp_tAnd, wp_tOr, wp_tAll, wp_gSlot, wp_gsNil, wp_gsCons, wp_gTup, wp_gSub, wp_iAny, wp_iSeq, wp_iTup, wp_iStr, wp_iRange1, wp_iRange2, wp_iZip, wS_fld, wp_make, seqQ, rtQ, turnQ, List.getElem?_cons_zero, List.getElem?_cons_succ, List.set_cons_zero, List.set_cons_succ, wipeD, if_true, if_false, Bool.false_eq_true, Bool.true_eq_false, reduceIte]
        simp only [tyName, List.any_cons, List.any_nil, isSub, dTru, w_lst]
        refine (if_pos (by decide)).mpr ?_
        refine ⟨by decide, ?_⟩
        rw [h3, wp_ok]
        refine ⟨Nat.le_of_lt hl, ?_⟩
        rw [w_addL]
        exact ⟨hlen, rfl, rfl⟩
    obtain ⟨d', s', e, rfl, rfl⟩ := wp_ex hw
    exact e
  · obtain ⟨ps, hps⟩ := h4 s
    refine ⟨.list (.bool b :: ps), ?_⟩
    simp only [toPy, optAll, hps]
    rfl
theorem told_base {k n : Nat} {d d' : D} (h : ∀ s, g_plain (k + 1) [d] s = .ok d' s) (h2 : ∀ s, ∃ p, toPy s n d' = some p) : Told (k + 1) n d := ⟨d', h, h2⟩
theorem told_wp {k : Nat} {d d' : D} (h : ∀ s, wp (g_plain k [d] s) fun e s' => e = d' ∧ s' = s) : ∀ s, g_plain k [d] s = .ok d' s := fun s => by
  obtain ⟨e, s', h1, rfl, rfl⟩ := wp_ex (h s)
  exact h1
theorem told : ∀ (k : Nat) (d : D), plainOk k d = true → Told k (k + 2) d
  | 0, _, h => by simp [plainOk] at h
  | k + 1, d, h => by
    have seq : ∀ xs : List D, (decide (xs.length < sizeLine) && xs.all (plainOk k)) = true → xs.length < sizeLine ∧ ∀ x ∈ xs, Told k (k + 1 + 1) x := fun xs hx => by
      rw [Bool.and_eq_true] at hx
      exact ⟨of_decide_eq_true hx.1, fun x hm => told k x (List.all_eq_true.mp hx.2 x hm)⟩
    cases d with
    | tup xs =>
      obtain ⟨h1, h2⟩ := seq xs (by simpa [plainOk] using h)
      exact told_seq h1 h2 (.inl ⟨rfl, rfl⟩)
    | lst xs =>
      obtain ⟨h1, h2⟩ := seq xs (by simpa [plainOk] using h)
      exact told_seq h1 h2 (.inr ⟨rfl, rfl⟩)
    | non =>
      refine told_base (d' := .str "None") (told_wp fun s => ?_) fun s => ⟨.str "None", by simp only [toPy]; exact if_pos (by decide +kernel)⟩
      rw [plain_unf]
      unfold g_plain_m
      simp only [wp_ok, wp_bad, wp_bind, wS_ok, wS_bad, wS_cons, wS_nil, wS_pass, wS_break, wS_cont, wS_never, wS_set, wS_expr, wS_ret, wS_retN, wS_if, wS_asg, wS_aug, wS_for, wp_lc, wp_m1, wp_m2, wp_mN, wp_aNil, wp_aCons, wp_mC, wp_var, wp_if, wp_and, wp_or, wp_not, wp_chain, wp_mt, wp_get, wp_isi, wp_fld, wp_sl, wp_oNone, wp_oSome, wp_tBool, wp_tTru, wp_tNot, wp_tAnd, wp_tOr, wp_tAll, wp_gSlot, wp_gsNil, wp_gsCons, wp_gTup, wp_gSub, wp_iAny, wp_iSeq, wp_iTup, wp_iStr, wp_iRange1, wp_iRange2, wp_iZip, wS_fld, wp_make, seqQ, rtQ, turnQ, List.getElem?_cons_zero, List.getElem?_cons_succ, List.set_cons_zero, List.set_cons_succ, wipeD, if_true, if_false, Bool.false_eq_true, Bool.true_eq_false, reduceIte]
      simp only [tyName, List.any_cons, List.any_nil, isSub, dTru, w_lst, w_isN, w_isnotN, w_isNB, isNonD, w_intB, w_add]
      refine (if_neg (by decide)).mpr ?_
      simp only [wp_ok, wp_bad, wp_bind, wS_ok, wS_bad, wS_cons, wS_nil, wS_pass, wS_break, wS_cont, wS_never, wS_set, wS_expr, wS_ret, wS_retN, wS_if, wS_asg, wS_aug, wS_for, wp_lc, wp_m1, wp_m2, wp_mN, wp_aNil, wp_aCons, wp_mC, wp_var, wp_if, wp_and, wp_or, wp_not, wp_chain, wp_mt, wp_get, wp_isi, wp_fld, wp_sl, wp_oNone, wp_oSome, wp_tBool, wp_tTru, wp_tNot, wp_tAnd, wp_tOr, wp_tAll, wp_gSlot, wp_gsNil, wp_gsCons, wp_gTup, wp_gSub, wp_iAny, wp_iSeq, wp_iTup, wp_iStr, wp_iRange1, wp_iRange2, wp_iZip, wS_fld, wp_make, seqQ, rtQ, turnQ, List.getElem?_cons_zero, List.getElem?_cons_succ, List.set_cons_zero, List.set_cons_succ, wipeD, if_true, if_false, Bool.false_eq_true, Bool.true_eq_false, reduceIte]
      refine ⟨by decide, ?_⟩
      rw [w_ix]
      exact ⟨rfl, rfl⟩
    | bl b =>
      refine told_base (d' := .str (if b then "True" else "False")) (told_wp fun s => ?_) fun s => by cases b <;> exact ⟨_, if_pos (by decide +kernel)⟩
      rw [plain_unf]
      unfold g_plain_m
      simp only [wp_ok, wp_bad, wp_bind, wS_ok, wS_bad, wS_cons, wS_nil, wS_pass, wS_break, wS_cont, wS_never, wS_set, wS_expr, wS_ret, wS_retN, wS_if, wS_asg, wS_aug, wS_for, wp_lc, wp_m1, wp_m2, wp_mN, wp_aNil, wp_aCons, wp_mC, wp_var, wp_if, wp_and, wp_or, wp_not, wp_chain, wp_mt, wp_get, wp_isi, wp_fld, wp_sl, wp_oNone, wp_oSome, wp_tBool, wp_tTru, wp_tNot, wp_tAnd, wp_tOr, wp_tAll, wp_gSlot, wp_gsNil, wp_gsCons, wp_gTup, wp_gSub, wp_iAny, wp_iSeq, wp_iTup, wp_iStr, wp_iRange1, wp_iRange2, wp_iZip, wS_fld, wp_make, seqQ, rtQ, turnQ, List.getElem?_cons_zero, List.getElem?_cons_succ, List.set_cons_zero, List.set_cons_succ, wipeD, if_true, if_false, Bool.false_eq_true, Bool.true_eq_false, reduceIte]
      simp only [tyName, List.any_cons, List.any_nil, isSub, dTru, w_lst, w_isN, w_isnotN, w_isB, isNonD, w_intB, w_add]
      refine (if_neg (by decide)).mpr ?_
      simp only [wp_ok, wp_bad, wp_bind, wS_ok, wS_bad, wS_cons, wS_nil, wS_pass, wS_break, wS_cont, wS_never, wS_set, wS_expr, wS_ret, wS_retN, wS_if, wS_asg, wS_aug, wS_for, wp_lc, wp_m1, wp_m2, wp_mN, wp_aNil, wp_aCons, wp_mC, wp_var, wp_if, wp_and, wp_or, wp_not, wp_chain, wp_mt, wp_get, wp_isi, wp_fld, wp_sl, wp_oNone, wp_oSome, wp_tBool, wp_tTru, wp_tNot, wp_tAnd, wp_tOr, wp_tAll, wp_gSlot, wp_gsNil, wp_gsCons, wp_gTup, wp_gSub, wp_iAny, wp_iSeq, wp_iTup, wp_iStr, wp_iRange1, wp_iRange2, wp_iZip, wS_fld, wp_make, seqQ, rtQ, turnQ, List.getElem?_cons_zero, List.getElem?_cons_succ, List.set_cons_zero, List.set_cons_succ, wipeD, if_true, if_false, Bool.false_eq_true, Bool.true_eq_false, reduceIte]
      refine (if_pos (by decide)).mpr ?_
      refine ⟨by decide, ?_⟩
      cases b <;> (rw [w_ix]; exact ⟨rfl, rfl⟩)
    | int i =>
      refine told_base (d' := .lst [.bl false, .int i]) (told_wp fun s => ?_) fun s => ⟨.list [.bool false, .int i], rfl⟩
      rw [plain_unf]
      unfold g_plain_m
      simp only [wp_ok, wp_bad, wp_bind, wS_ok, wS_bad, wS_cons, wS_nil, wS_pass, wS_break, wS_cont, wS_never, wS_set, wS_expr, wS_ret, wS_retN, wS_if, wS_asg, wS_aug, wS_for, wp_lc, wp_m1, wp_m2, wp_mN, wp_aNil, wp_aCons, wp_mC, wp_var, wp_if, wp_and, wp_or, wp_not, wp_chain, wp_mt, wp_get, wp_isi, wp_fld, wp_sl, wp_oNone, wp_oSome, wp_tBool, wp_tTru, wp_tNot, wp_tAnd, wp_tOr, wp_tAll, wp_gSlot, wp_gsNil, wp_gsCons, wp_gTup, wp_gSub, wp_iAny, wp_iSeq, wp_iTup, wp_iStr, wp_iRange1, wp_iRange2, wp_iZip, wS_fld, wp_make, seqQ, rtQ, turnQ, List.getElem?_cons_zero, List.getElem?_cons_succ, List.set_cons_zero, List.set_cons_succ, wipeD, if_true, if_false, Bool.false_eq_true, Bool.true_eq_false, reduceIte]
      simp only [tyName, List.any_cons, List.any_nil, isSub, dTru, w_lst, w_isN, w_isnotN, isNonD, w_intB, w_add]
      refine (if_neg (by decide)).mpr ?_
      simp only [wp_ok, wp_bad, wp_bind, wS_ok, wS_bad, wS_cons, wS_nil, wS_pass, wS_break, wS_cont, wS_never, wS_set, wS_expr, wS_ret, wS_retN, wS_if, wS_asg, wS_aug, wS_for, wp_lc, wp_m1, wp_m2, wp_mN, wp_aNil, wp_aCons, wp_mC, wp_var, wp_if, wp_and, wp_or, wp_not, wp_chain, wp_mt, wp_get, wp_isi, wp_fld, wp_sl, wp_oNone, wp_oSome, wp_tBool, wp_tTru, wp_tNot, wp_tAnd, wp_tOr, wp_tAll, wp_gSlot, wp_gsNil, wp_gsCons, wp_gTup, wp_gSub, wp_iAny, wp_iSeq, wp_iTup, wp_iStr, wp_iRange1, wp_iRange2, wp_iZip, wS_fld, wp_make, seqQ, rtQ, turnQ, List.getElem?_cons_zero, List.getElem?_cons_succ, List.set_cons_zero, List.set_cons_succ, wipeD, if_true, if_false, Bool.false_eq_true, Bool.true_eq_false, reduceIte]
      refine (if_neg (by decide)).mpr ?_
      refine (if_pos (by decide)).mpr ?_
      refine ⟨by show 2 ≤ sizeLine; decide, ?_⟩
      simp
    | str x =>
      have hx : PyData.strOk x = true := by simpa [plainOk] using h
      refine told_base (d' := .lst [.bl true, .str x]) (told_wp fun s => ?_) fun s => ⟨.list [.bool true, .str x], by simp only [toPy, optAll, hx]; rfl⟩
      rw [plain_unf]
      unfold g_plain_m
      simp only [wp_ok, wp_bad, wp_bind, wS_ok, wS_bad, wS_cons, wS_nil, wS_pass, wS_break, wS_cont, wS_never, wS_set, wS_expr, wS_ret, wS_retN, wS_if, wS_asg, wS_aug, wS_for, wp_lc, wp_m1, wp_m2, wp_mN, wp_aNil, wp_aCons, wp_mC, wp_var, wp_if, wp_and, wp_or, wp_not, wp_chain, wp_mt, wp_get, wp_isi, wp_fld, wp_sl, wp_oNone, wp_oSome, wp_tBool, wp_tTru, wp_tNot, wp_tAnd, wp_tOr, wp_tAll, wp_gSlot, wp_gsNil, wp_gsCons, wp_gTup, wp_gSub, wp_iAny, wp_iSeq, wp_iTup, wp_iStr, wp_iRange1, wp_iRange2, wp_iZip, wS_fld, wp_make, seqQ, rtQ, turnQ, List.getElem?_cons_zero, List.getElem?_cons_succ, List.set_cons_zero, List.set_cons_succ, wipeD, if_true, if_false, Bool.false_eq_true, Bool.true_eq_false, reduceIte]
      simp only [tyName, List.any_cons, List.any_nil, isSub, dTru, w_lst, w_isN, w_isnotN, isNonD, w_intB, w_add]
      refine (if_neg (by decide)).mpr ?_
      simp only [wp_ok, wp_bad, wp_bind, wS_ok, wS_bad, wS_cons, wS_nil, wS_pass, wS_break, wS_cont, wS_never, wS_set, wS_expr, wS_ret, wS_retN, wS_if, wS_asg, wS_aug, wS_for, wp_lc, wp_m1, wp_m2, wp_mN, wp_aNil, wp_aCons, wp_mC, wp_var, wp_if, wp_and, wp_or, wp_not, wp_chain, wp_mt, wp_get, wp_isi, wp_fld, wp_sl, wp_oNone, wp_oSome, wp_tBool, wp_tTru, wp_tNot, wp_tAnd, wp_tOr, wp_tAll, wp_gSlot, wp_gsNil, wp_gsCons, wp_gTup, wp_gSub, wp_iAny, wp_iSeq, wp_iTup, wp_iStr, wp_iRange1, wp_iRange2, wp_iZip, wS_fld, wp_make, seqQ, rtQ, turnQ, List.getElem?_cons_zero, List.getElem?_cons_succ, List.set_cons_zero, List.set_cons_succ, wipeD, if_true, if_false, Bool.false_eq_true, Bool.true_eq_false, reduceIte]
      refine (if_neg (by decide)).mpr ?_
      refine (if_pos (by decide)).mpr ?_
      refine ⟨by show 2 ≤ sizeLine; decide, ?_⟩
      simp
    | _ => simp [plainOk] at h
theorem optAll_up {f g : D → Option PyData} (h : ∀ d p, f d = some p → g d = some p) : ∀ {xs : List D} {ps : List PyData}, optAll f xs = some ps → optAll g xs = some ps
  | [], ps, e => e
  | x :: xs, ps, e => by
    simp only [optAll] at e ⊢
    cases h1 : f x with
    | none => rw [h1] at e; cases e
    | some p =>
      cases h2 : optAll f xs with
      | none => rw [h1, h2] at e; cases e
      | some qs => rw [h1, h2] at e; rw [h _ _ h1, optAll_up h h2]; exact e
theorem toPy_up {s : S} : ∀ (k : Nat) (d : D) (p : PyData), toPy s k d = some p → toPy s (k + 1) d = some p
  | 0, _, _, e => by simp [toPy] at e
  | k + 1, d, p, e => by
    have up := fun {xs ps} => optAll_up (xs := xs) (ps := ps) (toPy_up (s := s) k)
    have seq : ∀ {c : List PyData → PyData} {xs : List D}, (optAll (toPy s k) xs).map c = some p → (optAll (toPy s (k + 1)) xs).map c = some p := fun {c xs} h => by
      cases h1 : optAll (toPy s k) xs with
      | none => rw [h1] at h; cases h
      | some ps => rw [up h1, ← h, h1]
    cases d with
    | tup xs => exact seq (show (optAll (toPy s k) xs).map .tuple = some p from e)
    | lst xs => exact seq (show (optAll (toPy s k) xs).map .list = some p from e)
    | ref n =>
      have e1 : (match s[n]? with | some (O.lst xs) => (optAll (toPy s k) xs).map PyData.list | _ => none) = some p := e
      show (match s[n]? with | some (O.lst xs) => (optAll (toPy s (k + 1)) xs).map PyData.list | _ => none) = some p
      cases h1 : s[n]? with
      | none => rw [h1] at e1; cases e1
      | some o =>
        rw [h1] at e1
        cases o with
        | ins c fs => cases e1
        | dK kvs => cases e1
        | lst xs => exact seq e1
    | _ => exact e
theorem toPy_le {s : S} {j k : Nat} (h : j ≤ k) {d : D} {p : PyData} (e : toPy s j d = some p) : toPy s k d = some p := by
  induction h with
  | refl => exact e
  | step _ ih => exact toPy_up _ _ _ ih
theorem told60 {k : Nat} {d : D} (h : plainOk k d = true) (hk : k ≤ 58) : ∃ d', (∀ s, g_plain k [d] s = .ok d' s) ∧ ∀ s, ∃ p, toPy s 60 d' = some p := by
  obtain ⟨d', h1, h2⟩ := told k d h
  exact ⟨d', h1, fun s => let ⟨p, hp⟩ := h2 s; ⟨p, toPy_le (by omega) hp⟩⟩
theorem w_eq_self {d : D} {s : S} {Q : D → S → Prop} {E : D → S → Prop} (h : ∀ s, ∃ p, toPy s 60 d = some p) : wp (dEq d d s) Q E = Q (.bl true) s := by
  obtain ⟨p, hp⟩ := h s
  rw [eq_self hp, wp_ok]
theorem w_ne_self {d : D} {s : S} {Q : D → S → Prop} {E : D → S → Prop} (h : ∀ s, ∃ p, toPy s 60 d = some p) : wp (dNe d d s) Q E = Q (.bl false) s := by
  obtain ⟨p, hp⟩ := h s
  rw [ne_self hp, wp_ok]
end
end Pm
namespace Pm
open PySem PySem.Spec PyProof.Rows L2

/-! ### texts as lists of signs -/
def tx (l : List Char) : Str := ⟨(l.map Char.toNat).toArray⟩
theorem ofS (x : String) : Str.ofString x = tx x.toList := Str.ofString_eq_toList x
theorem toNat_inj {a b : Char} (h : a.toNat = b.toNat) : a = b := Char.ext (UInt32.toNat.inj h)
theorem tx_inj {a b : List Char} (h : tx a = tx b) : a = b := by
  have e : a.map Char.toNat = b.map Char.toNat := by
    have := congrArg (fun z : Str => z.cps.toList) h
    simpa [tx] using this
  exact List.map_inj_right (fun a b h => toNat_inj h) |>.mp e
theorem tx_beq (a b : List Char) : (tx a == tx b) = decide (a = b) := by
  rw [Bool.eq_iff_iff, beq_iff_eq, decide_eq_true_eq]
  exact ⟨tx_inj, congrArg tx⟩
theorem tx_ok (l : List Char) : PyData.strOk (tx l) = true := by
  unfold PyData.strOk tx
  rw [← Array.all_toList, List.all_eq_true]
  intro c hc
  obtain ⟨d, _, rfl⟩ := List.mem_map.mp (by simpa using hc)
  have h := d.valid
  have : d.toNat < 0x110000 := by
    rcases h with h | h
    · exact Nat.lt_trans h (by decide)
    · exact h.2
  exact decide_eq_true this
theorem tx_len (l : List Char) : (tx l).length = l.length := by simp [tx, Str.length]
theorem tx_app (a b : List Char) : tx a ++ tx b = tx (a ++ b) := by
  show Str.mk _ = _
  simp [tx]
theorem tx_nil : tx [] = Str.ofString "" := by rw [ofS]; rfl
theorem tx_emp : tx [] = Str.empty := rfl
/-- the signs of a text -/
theorem tx_chars (l : List Char) : (tx l).cps.toList.map (fun c => D.str ⟨#[c]⟩) = l.map fun c => D.str (tx [c]) := by
  simp [tx]
theorem tx_at (l : List Char) {i : Int} (h0 : 0 ≤ i) (h1 : i < l.length) : ∃ c ∈ l, l[i.toNat]? = some c ∧ ∀ {s : S} {Q : D → S → Prop}, l.length ≤ sizeLine → wp (dIx (.str (tx l)) (.int i) s) Q E = Q (.str (tx [c])) s := by
  have hl : i.toNat < l.length := by omega
  refine ⟨l[i.toNat], List.getElem_mem hl, List.getElem?_eq_getElem hl, fun {s Q} hz => ?_⟩
  have e : atI (tx l).cps.toList i = some (l[i.toNat]).toNat := by
    rw [atI_nat (n := i.toNat) (by omega)]
    simp [tx, List.getElem?_map, List.getElem?_eq_getElem hl]
  show wp (if (tx l).length ≤ sizeLine then (match atI (tx l).cps.toList i with | some c => R.ok (.str ⟨#[c]⟩) s | none => .bad) else .bad) Q E = _
  rw [if_pos (by rw [tx_len]; exact hz), e]
  exact wp_ok
/-- one sign in a text -/
theorem tx_in (c : Char) (l : List Char) : strIn (tx [c]) (tx l) = decide (c ∈ l) := by
  have h := PySem.StrLaws.found_one (tx l) c.toNat
  have e : (c.toNat ∈ (tx l).cps.toList) ↔ c ∈ l := by
    simp only [tx, List.mem_map]
    constructor
    · rintro ⟨d, hd, h⟩
      rw [← toNat_inj h]
      exact hd
    · exact fun h => ⟨c, h, rfl⟩
  unfold strIn
  refine (h.trans ?_)
  exact decide_eq_decide.mpr e
section
variable {Q : D → S → Prop} {E : D → S → Prop} {s : S} {a b : List Char} {c : Char}
theorem x_eq : wp (dEq (.str (tx a)) (.str (tx b)) s) Q E = Q (.bl (decide (a = b))) s := by rw [w_eqS (tx_ok a) (tx_ok b), tx_beq]
theorem x_ne : wp (dNe (.str (tx a)) (.str (tx b)) s) Q E = Q (.bl (!decide (a = b))) s := by rw [w_neS (tx_ok a) (tx_ok b), tx_beq]
theorem x_add : wp (dAdd (.str (tx a)) (.str (tx b)) s) Q E = (a.length + b.length ≤ sizeLine ∧ Q (.str (tx (a ++ b))) s) := by rw [w_addS, tx_len, tx_len, tx_app]
theorem x_iadd : wp (dIAdd (.str (tx a)) (.str (tx b)) s) Q E = (a.length + b.length ≤ sizeLine ∧ Q (.str (tx (a ++ b))) s) := by rw [w_iaddS, tx_len, tx_len, tx_app]
theorem x_len : wp (dLen [.str (tx a)] s) Q E = (a.length ≤ sizeLine ∧ Q (.int a.length) s) := by rw [w_lenS, tx_len]
theorem x_in : wp (dIn (.str (tx [c])) (.str (tx b)) s) Q E = Q (.bl (decide (c ∈ b))) s := by rw [← tx_in]; exact wp_ok
theorem x_notin : wp (dNotIn (.str (tx [c])) (.str (tx b)) s) Q E = Q (.bl (!decide (c ∈ b))) s := by rw [← tx_in]; exact wp_ok
end
end Pm
namespace Pm
open PySem PySem.Spec PyProof.Rows L2

/-! ### the calculus: methods, dicts, o.f op= e -/
section
variable {Q : D → S → Prop} {E : D → S → Prop} {ρ : Rho} {s : S}
theorem wp_meth {m : Str} {gs : List (Str × (List D → S → R D))} {mo : ME} {ms : MA} : wp (mMeth m gs mo ms ρ s) Q E = wp (mo ρ s) (fun d s1 => match insOf s1 d with
    | some (c, fs) => (match gs.lookup c, fs.lookup m with
      | some G, none => wp (ms ρ s1) (fun ds s2 => wp (G (d :: ds) s2) Q E) E
      | _, _ => False)
    | none => False) E := by
  unfold mMeth
  rw [wp_bind]
  congr 1
  funext d s1
  cases insOf s1 d with
  | none => exact wp_bad
  | some p =>
    obtain ⟨c, fs⟩ := p
    simp only
    cases gs.lookup c with
    | none => exact wp_bad
    | some G =>
      cases fs.lookup m with
      | none => exact wp_bind
      | some z => exact wp_bad
theorem wp_disp {ks : List Key} {ms : MA} : wp (mDisp ks ms ρ s) Q E = wp (ms ρ (s ++ [.dK []])) (fun ds s1 => match s1[s.length]? with
    | some (.dK []) => (ds.length = ks.length ∧ ks.length ≤ 15) ∧ Q (.ref s.length) (s1.set s.length (.dK (mergeD [] (ks.zip ds))))
    | _ => False) E := by
  unfold mDisp
  rw [wp_bind]
  congr 1
  funext ds s1
  cases s1[s.length]? with
  | none => exact wp_bad
  | some o =>
    cases o with
    | lst xs => exact wp_bad
    | ins c fs => exact wp_bad
    | dK kvs =>
      cases kvs with
      | cons a b => exact wp_bad
      | nil => exact wp_ifb'
theorem wp_dictN : wp (mDictN ρ s) Q E = Q (.ref s.length) (s ++ [.dK []]) := wp_ok
theorem w_ixK {n : Nat} {kvs : List (Key × D)} {z : Str} (h : s[n]? = some (.dK kvs)) : wp (dIxK (.ref n) (.str z) s) Q E = match valD kvs (.inr z) with | some d => Q d s | none => False := by
  have e : dictAt s (.ref n) = some kvs := by simp only [dictAt, h]
  unfold dIxK
  simp only [e, keyD]
  cases valD kvs (.inr z) <;> first | exact wp_ok | exact wp_bad
theorem wp_gSubK {o i : ME} {v : D} {Q : Rho → S → Prop} : wp (gSubK o i v ρ s) Q E = wp (o ρ s) (fun x s1 => wp (i ρ s1) (fun y s2 => match dStoreK x y v s2 with | some s3 => Q ρ s3 | none => False) E) E := by
  unfold gSubK
  rw [wp_bind]
  congr 1
  funext x s1
  rw [wp_bind]
  congr 1
  funext y s2
  cases dStoreK x y v s2 <;> first | exact wp_ok | exact wp_bad
theorem put_K {n : Nat} {kvs : List (Key × D)} {z : Str} {v : D} (h : s[n]? = some (.dK kvs)) (hl : kvs.length ≤ 1000000) : dStoreK (.ref n) (.str z) v s = some (s.set n (.dK (putD kvs (.inr z) v))) := by
  unfold dStoreK
  simp only [h, keyD]
  rw [if_pos (Nat.lt_of_le_of_lt hl (by decide))]
theorem wp_lcN {it : MI} {g : MG} {t : MT} {m : ME} {own : List Nat} : wp (mLcN it g t m own ρ s) Q E = wp (it ρ s) (fun p s1 => wp (mapL p.2 p.1 g t m p.1 (wipeD ρ own) s1) (fun ds s2 => p.1.length ≤ sizeLine ∧ Q (.ref s2.length) (s2 ++ [.lst ds]))) E := by
  unfold mLcN
  rw [wp_bind]
  congr 1
  funext p s1
  cases mapL p.2 p.1 g t m p.1 (wipeD ρ own) s1 with
  | ok ds s2 => simp only [wp_ok]; exact wp_ifb'
  | exc x s2 => (rw [wp_eq, wp_eq]; rfl)
  | bad => (rw [wp_eq, wp_eq]; rfl)
theorem wS_fldaug {f : Str} {cs : List Str} {g : D → D → S → R D} {mo mv : ME} {Q : C → S → Prop} {E : D → Rho → S → Prop} : wS (sFldAugD f cs g mo mv ρ s) Q E = wp (mo ρ s) (fun d s1 => match d with
    | .ref n => (match s1[n]? with
      | some (.ins c fs) => c ∈ cs ∧ (match fs.lookup f with
        | some x => wp (mv ρ s1) (fun y s2 => wp (g x y s2) (fun z s3 => (match s3[n]? with
          | some (.ins c' fs') => (c' = c ∧ fs'.length < 1000) ∧ Q (.nx ρ) (s3.set n (.ins c' (putFD f z fs')))
          | _ => False)) (fun x s => E x ρ s)) (fun x s => E x ρ s)
        | none => False)
      | _ => False)
    | _ => False) (fun x s => E x ρ s) := by
  unfold sFldAugD
  rw [wS_st]
  congr 1
  funext d s1
  cases d <;> try exact wS_bad
  rename_i n
  simp only
  cases s1[n]? with
  | none => exact wS_bad
  | some o =>
    cases o with
    | lst xs => exact wS_bad
    | dK kvs => exact wS_bad
    | ins c fs =>
      simp only
      by_cases hc : c ∈ cs
      · rw [if_pos hc]
        simp only [hc, true_and]
        cases fs.lookup f with
        | none => exact wS_bad
        | some x =>
          simp only
          rw [wS_st]
          congr 1
          funext y s2
          rw [wS_st]
          congr 1
          funext z s3
          cases s3[n]? with
          | none => exact wS_bad
          | some o3 =>
            cases o3 with
            | lst xs => exact wS_bad
            | dK kvs => exact wS_bad
            | ins c' fs' =>
              simp only
              by_cases h : c' = c ∧ fs'.length < 1000
              · rw [if_pos h]; simp [h, wS_ok]
              · rw [if_neg h]; simp only [wS_bad]; simp only [h, false_and]
      · rw [if_neg hc]; simp only [wS_bad, hc, false_and]
/-! words in a written tuple -/
theorem w_inUs {xs : List String} {z : String} : wp (dIn (.str (Str.ofString z)) (.tup (xs.map fun x => .str (Str.ofString x))) s) Q E = Q (.bl (xs.any fun x => x == z)) s := by
  have e : (xs.map fun x => D.str (Str.ofString x)).all flatD = true := by
    rw [List.all_map]; exact List.all_eq_true.mpr fun _ _ => rfl
  have e2 : dMem (.str (Str.ofString z)) (.tup (xs.map fun x => .str (Str.ofString x))) s = some ((xs.map fun x => D.str (Str.ofString x)).any fun y => sEq y (.str (Str.ofString z))) := by
    simp only [dMem, flatD, e]; simp
  unfold dIn
  rw [e2, List.any_map]
  refine wp_ok.trans ?_
  congr 3
  funext x
  exact sEq_T
theorem w_inU2 {x y z : String} : wp (dIn (.str (Str.ofString z)) (.tup [.str (Str.ofString x), .str (Str.ofString y)]) s) Q E = Q (.bl (x == z || (y == z || false))) s := w_inUs (xs := [x, y])
theorem w_inU3 {x y u z : String} : wp (dIn (.str (Str.ofString z)) (.tup [.str (Str.ofString x), .str (Str.ofString y), .str (Str.ofString u)]) s) Q E = Q (.bl (x == z || (y == z || (u == z || false)))) s := w_inUs (xs := [x, y, u])
end
end Pm
namespace Pm
open PySem PySem.Spec PyProof.Rows L2

/-! ### the calculus: exceptions, f-strings -/
section
variable {α : Type} {ρ : Rho} {s : S}
theorem wS_raise {c : Str} {G : List D → S → R (List (Str × D))} {ms : MA} {Q : C → S → Prop} {E : D → Rho → S → Prop} : wS (sRaise c G ms ρ s) Q E = wp (ms ρ s) (fun ds s1 => wp (G ds s1) fun fs s2 => fs ≠ [] ∧ E (.ins c fs) ρ s2) (fun x s => E x ρ s) := by
  unfold sRaise
  cases ms ρ s with
  | bad => rw [wS_bad, wp_bad]
  | exc x s1 => rw [wS_exc, wp_exc]
  | ok ds s1 =>
    simp only [wp_ok]
    cases G ds s1 with
    | bad => rw [wS_bad, wp_bad]
    | exc x s2 => rw [wS_bad, wp_exc]
    | ok fs s2 =>
      simp only [wp_ok]
      cases fs with
      | nil => rw [wS_bad]; simp
      | cons f fs => rw [wS_exc]; simp
theorem wp_xinit {n : Nat} {msg : ME} {sets : List (Str × ME)} {ds : List D} {Q : List (Str × D) → S → Prop} {E : D → S → Prop} : wp (mXInit n msg sets ds s) Q E = (ds.length = n ∧ wp (msg (none :: ds.map some) s) (fun _ s1 => wp (setsM (none :: ds.map some) sets [] s1) Q E) E) := by
  unfold mXInit
  by_cases h : ds.length = n
  · rw [if_pos h, wp_bind]; simp [h]
  · rw [if_neg h, wp_bad]; simp [h]
theorem wp_sets0 {acc : List (Str × D)} {Q : List (Str × D) → S → Prop} {E : D → S → Prop} : wp (setsM ρ [] acc s) Q E = Q acc s := by rw [setsM, wp_ok]
theorem wp_sets1 {f : Str} {m : ME} {r : List (Str × ME)} {acc : List (Str × D)} {Q : List (Str × D) → S → Prop} {E : D → S → Prop} : wp (setsM ρ ((f, m) :: r) acc s) Q E = wp (m ρ s) (fun d s1 => wp (setsM ρ r ((f, d) :: acc) s1) Q E) E := by rw [setsM, wp_bind]
theorem wp_fs {ms : MA} {Q : D → S → Prop} {E : D → S → Prop} : wp (mFs ms ρ s) Q E = wp (ms ρ s) (fun ds s1 => fmtOk ds = true ∧ Q (.str (fmtT Str.empty ds)) s1) := by
  unfold mFs
  cases ms ρ s with
  | bad => rw [wp_bad, wp_bad]
  | exc x s1 => rw [wp_bad, wp_exc]
  | ok ds s1 =>
    simp only [wp_ok]
    by_cases h : fmtOk ds = true
    · rw [if_pos h, wp_ok]; simp [h]
    · rw [if_neg h, wp_bad]; simp [h]
theorem wp_xf {k : Nat} {f : Str} {cs : List Str} {m : ME} {Q : D → S → Prop} {E : D → S → Prop} : wp (mXf k f cs m ρ s) Q E = wp (m ρ s) (fun d s1 => match d with | .exn j c fs => (j = k ∧ c ∈ cs) ∧ (match fs.lookup f with | some v => Q v s1 | none => False) | _ => False) E := by
  unfold mXf
  rw [wp_bind]
  congr 1
  funext d s1
  cases d <;> try exact wp_bad
  rename_i j c fs
  simp only
  by_cases h : j = k ∧ c ∈ cs
  · rw [if_pos h]
    simp only [h, true_and, and_self]
    cases fs.lookup f
    · exact wp_bad
    · exact wp_ok
  · rw [if_neg h, wp_bad]; simp only [h, false_and]
theorem wp_xis {k : Nat} {tab : Str → Option Bool} {m : ME} {Q : D → S → Prop} {E : D → S → Prop} : wp (mXis k tab m ρ s) Q E = wp (m ρ s) (fun d s1 => match d with | .exn j c fs => j = k ∧ (match tab c with | some b => Q (.bl b) s1 | none => False) | _ => False) E := by
  unfold mXis
  rw [wp_bind]
  congr 1
  funext d s1
  cases d <;> try exact wp_bad
  rename_i j c fs
  simp only
  by_cases h : j = k
  · rw [if_pos h]
    simp only [h, true_and]
    cases tab c
    · exact wp_bad
    · exact wp_ok
  · rw [if_neg h, wp_bad]; simp only [h, false_and]
/-- behind a suite -/
def hdQ (i : Option Nat) (Q : C → S → Prop) : C → S → Prop
  | .nx ρ, s => Q (.nx (setO i none ρ)) s
  | .bk ρ, s => Q (.bk (setO i none ρ)) s
  | .ct ρ, s => Q (.ct (setO i none ρ)) s
  | .rt d, s => Q (.rt d) s
/-- what the clauses ask -/
def hdW (c : Str) (fs : List (Str × D)) (ρ : Rho) (s : S) (Q : C → S → Prop) (E : D → Rho → S → Prop) : List Hd → Prop
  | [] => E (.ins c fs) ρ s
  | h :: r => match h.p c with
    | some true => ∀ k, wS (h.m k (setO h.i (some (.exn k c fs)) ρ) s) (hdQ h.i Q)
    | some false => hdW c fs ρ s Q E r
    | none => False
theorem hdW_ok {c : Str} {fs : List (Str × D)} {Q : C → S → Prop} {E : D → Rho → S → Prop} : ∀ {hs : List Hd}, hdW c fs ρ s Q E hs → wS (hdM c fs ρ s hs) Q E
  | [], h => by unfold hdM; rw [wS_exc]; exact h
  | ⟨p, i, m⟩ :: r, h => by
    unfold hdM
    unfold hdW at h
    simp only at h ⊢
    cases e : p c with
    | none => rw [e] at h; exact False.elim h
    | some b =>
      rw [e] at h
      cases b with
      | false => exact hdW_ok h
      | true =>
        simp only at h ⊢
        have h1 := h (kxx ρ s fs)
        generalize m (kxx ρ s fs) (setO i (some (.exn (kxx ρ s fs) c fs)) ρ) s = r at h1
        cases r with
        | bad => rw [wS_bad] at h1; exact h1.elim
        | exc x ρ s => rw [wS_exc] at h1; exact h1.elim
        | ok c s =>
          rw [wS_ok] at h1
          cases c <;> (unfold hdEnd; rw [wS_ok]; exact h1)
theorem wS_try {b : MS} {hs : List Hd} {Q : C → S → Prop} {E : D → Rho → S → Prop} (h : wS (b ρ s) Q (fun x ρ1 s1 => match x with | .ins c fs => hdW c fs ρ1 s1 Q E hs | _ => False)) : wS (sTry b hs ρ s) Q E := by
  unfold sTry
  cases e : b ρ s with
  | bad => rw [e, wS_bad] at h; exact h.elim
  | ok c s1 => rw [e, wS_ok] at h; simp only; rw [wS_ok]; exact h
  | exc x ρ1 s1 =>
    rw [e, wS_exc] at h
    cases x <;> first
      | exact hdW_ok h
      | exact h.elim
theorem tabF_nil {c : Str} : tabF [] c = none := rfl
theorem tabF_cons {x y : String} {b : Bool} {l : List (Str × Bool)} : tabF ((Str.ofString x, b) :: l) (Str.ofString y) = if (y == x) = true then some b else tabF l (Str.ofString y) := by
  unfold tabF
  rw [List.lookup_cons, str_beq]
  cases y == x <;> rfl
end

/-! ### truth values -/
def isBl (d : D) (f : Bool → Prop) : Prop := match d with
  | .bl b => f b
  | _ => False
theorem isBl_bl {b : Bool} {f : Bool → Prop} : isBl (.bl b) f = f b := rfl
section
variable {Q : D → S → Prop} {E : D → S → Prop} {ρ : Rho} {s : S}
theorem wp_and' {a b : ME} : wp (mAnd a b ρ s) Q E = wp (a ρ s) (fun d s1 => isBl d fun k => if k = true then wp (b ρ s1) Q E else Q (.bl false) s1) E := by
  rw [wp_and]
  congr 1
  funext d s1
  cases d <;> try rfl
  rename_i k
  cases k <;> rfl
theorem wp_or' {a b : ME} : wp (mOr a b ρ s) Q E = wp (a ρ s) (fun d s1 => isBl d fun k => if k = true then Q (.bl true) s1 else wp (b ρ s1) Q E) E := by
  rw [wp_or]
  congr 1
  funext d s1
  cases d <;> try rfl
  rename_i k
  cases k <;> rfl
theorem wp_chain' {f g : D → D → S → R D} {a b c : ME} : wp (mChain f g a b c ρ s) Q E = wp (a ρ s) (fun x s1 => wp (b ρ s1) (fun y s2 => wp (f x y s2) (fun k s3 => isBl k fun k => if k = true then wp (c ρ s3) (fun z s4 => wp (g y z s4) Q E) E else Q (.bl false) s3) E) E) E := by
  rw [wp_chain]
  congr 1
  funext x s1
  congr 1
  funext y s2
  congr 1
  funext k s3
  cases k <;> try rfl
  rename_i b
  cases b <;> rfl
end
/-! ### and, or, if: one way where nothing happens on the way -/
section
variable {α : Type} {Q : α → S → Prop} {s s' : S} {k b : Bool} {x y : α}
def andK (k : Bool) (f : (Bool → S → Prop) → Prop) (Q : Bool → S → Prop) (s : S) : Prop := if k = true then f Q else Q false s
def orK (k : Bool) (f : (Bool → S → Prop) → Prop) (Q : Bool → S → Prop) (s : S) : Prop := if k = true then Q true s else f Q
def iteK (k : Bool) (f g : (α → S → Prop) → Prop) (Q : α → S → Prop) : Prop := if k = true then f Q else g Q
def andV (k : Bool) (f : (D → S → Prop) → Prop) (Q : D → S → Prop) (s : S) : Prop := if k = true then f Q else Q (.bl false) s
def orV (k : Bool) (f : (D → S → Prop) → Prop) (Q : D → S → Prop) (s : S) : Prop := if k = true then Q (.bl true) s else f Q
theorem andK_p {Q : Bool → S → Prop} : andK k (fun Q => Q b s) Q s = Q (k && b) s := by cases k <;> rfl
theorem orK_p {Q : Bool → S → Prop} : orK k (fun Q => Q b s) Q s = Q (k || b) s := by cases k <;> rfl
theorem andV_p {Q : D → S → Prop} : andV k (fun Q => Q (.bl b) s) Q s = Q (.bl (k && b)) s := by cases k <;> rfl
theorem orV_p {Q : D → S → Prop} : orV k (fun Q => Q (.bl b) s) Q s = Q (.bl (k || b)) s := by cases k <;> rfl
theorem iteK_p : iteK k (fun Q => Q x s) (fun Q => Q y s) Q = Q (if k = true then x else y) s := by cases k <;> rfl
theorem andK_t {f : (Bool → S → Prop) → Prop} {Q : Bool → S → Prop} : andK true f Q s = f Q := rfl
theorem andK_f {f : (Bool → S → Prop) → Prop} {Q : Bool → S → Prop} : andK false f Q s = Q false s := rfl
theorem orK_t {f : (Bool → S → Prop) → Prop} {Q : Bool → S → Prop} : orK true f Q s = Q true s := rfl
theorem orK_f {f : (Bool → S → Prop) → Prop} {Q : Bool → S → Prop} : orK false f Q s = f Q := rfl
theorem andV_t {f : (D → S → Prop) → Prop} {Q : D → S → Prop} : andV true f Q s = f Q := rfl
theorem andV_f {f : (D → S → Prop) → Prop} {Q : D → S → Prop} : andV false f Q s = Q (.bl false) s := rfl
theorem orV_t {f : (D → S → Prop) → Prop} {Q : D → S → Prop} : orV true f Q s = Q (.bl true) s := rfl
theorem orV_f {f : (D → S → Prop) → Prop} {Q : D → S → Prop} : orV false f Q s = f Q := rfl
theorem iteK_t {f g : (α → S → Prop) → Prop} : iteK true f g Q = f Q := rfl
theorem iteK_f {f g : (α → S → Prop) → Prop} : iteK false f g Q = g Q := rfl
end
section
variable {Q : D → S → Prop} {E : D → S → Prop} {ρ : Rho} {s : S}
theorem wp_and2 {a b : ME} : wp (mAnd a b ρ s) Q E = wp (a ρ s) (fun d s1 => isBl d fun k => andV k (fun Q => wp (b ρ s1) Q E) Q s1) E := wp_and'
theorem wp_or2 {a b : ME} : wp (mOr a b ρ s) Q E = wp (a ρ s) (fun d s1 => isBl d fun k => orV k (fun Q => wp (b ρ s1) Q E) Q s1) E := wp_or'
theorem wp_chain2 {f g : D → D → S → R D} {a b c : ME} : wp (mChain f g a b c ρ s) Q E = wp (a ρ s) (fun x s1 => wp (b ρ s1) (fun y s2 => wp (f x y s2) (fun k s3 => isBl k fun k => andV k (fun Q => wp (c ρ s3) (fun z s4 => wp (g y z s4) Q E) E) Q s3) E) E) E := wp_chain'
theorem wp_if2 {c : MT} {a b : ME} : wp (mIf c a b ρ s) Q E = wp (c ρ s) (fun k s1 => iteK k (fun Q => wp (a ρ s1) Q E) (fun Q => wp (b ρ s1) Q E) Q) E := wp_if
theorem wp_tAnd2 {a b : MT} {Q : Bool → S → Prop} : wp (tAnd2 a b ρ s) Q E = wp (a ρ s) (fun k s1 => andK k (fun Q => wp (b ρ s1) Q E) Q s1) E := wp_tAnd
theorem wp_tOr2 {a b : MT} {Q : Bool → S → Prop} : wp (tOr2 a b ρ s) Q E = wp (a ρ s) (fun k s1 => orK k (fun Q => wp (b ρ s1) Q E) Q s1) E := wp_tOr
/-- truth -/
theorem wp_tTru2 {a : ME} {Q : Bool → S → Prop} : wp (tTru dTru a ρ s) Q E = wp (a ρ s) (fun d s1 => ∃ b, dTru d s1 = some b ∧ Q b s1) E := by
  rw [wp_tTru]
  congr 1
  funext d s1
  cases dTru d s1 <;> simp
theorem dTru_bl {b : Bool} {P : Bool → Prop} : (∃ k, dTru (.bl b) s = some k ∧ P k) = P b := by simp [dTru]
theorem dTru_lst {xs : List D} {P : Bool → Prop} : (∃ k, dTru (.lst xs) s = some k ∧ P k) = P (!xs.isEmpty) := by simp only [dTru, Option.some.injEq, exists_eq_left']
theorem dTru_int {i : Int} {P : Bool → Prop} : (∃ k, dTru (.int i) s = some k ∧ P k) = P (i != 0) := by simp [dTru]
theorem dTru_non {P : Bool → Prop} : (∃ k, dTru .non s = some k ∧ P k) = P false := by simp [dTru]
theorem dTru_ref {n : Nat} {xs : List D} {P : Bool → Prop} (h : s[n]? = some (.lst xs)) : (∃ k, dTru (.ref n) s = some k ∧ P k) = P (!xs.isEmpty) := by simp only [dTru, h, Option.some.injEq, exists_eq_left']
end
/-! ### membership in written tuples -/
section
variable {Q : D → S → Prop} {E : D → S → Prop} {s : S}
theorem w_inUs' {xs : List String} {z : String} : wp (dIn (.str (Str.ofString z)) (.tup (xs.map fun x => .str (Str.ofString x))) s) Q E = Q (.bl (xs.any fun x => x == z)) s := by
  have e : (xs.map fun x => D.str (Str.ofString x)).all flatD = true := by
    rw [List.all_map]; exact List.all_eq_true.mpr fun _ _ => rfl
  have e2 : dMem (.str (Str.ofString z)) (.tup (xs.map fun x => .str (Str.ofString x))) s = some ((xs.map fun x => D.str (Str.ofString x)).any fun y => sEq y (.str (Str.ofString z))) := by
    simp only [dMem, flatD, e]; simp
  unfold dIn
  rw [e2, List.any_map]
  refine wp_ok.trans ?_
  congr 3
  funext x
  exact sEq_T
theorem w_notinUs {xs : List String} {z : String} : wp (dNotIn (.str (Str.ofString z)) (.tup (xs.map fun x => .str (Str.ofString x))) s) Q E = Q (.bl (!xs.any fun x => x == z)) s := by
  have e : (xs.map fun x => D.str (Str.ofString x)).all flatD = true := by
    rw [List.all_map]; exact List.all_eq_true.mpr fun _ _ => rfl
  have e2 : dMem (.str (Str.ofString z)) (.tup (xs.map fun x => .str (Str.ofString x))) s = some ((xs.map fun x => D.str (Str.ofString x)).any fun y => sEq y (.str (Str.ofString z))) := by
    simp only [dMem, flatD, e]; simp
  unfold dNotIn
  rw [e2, List.any_map]
  refine wp_ok.trans ?_
  congr 4
  funext x
  exact sEq_T
theorem w_inU1 {x0 z : String} : wp (dIn (.str (Str.ofString z)) (.tup [.str (Str.ofString x0)]) s) Q E = Q (.bl (x0 == z || false)) s := w_inUs' (xs := [x0])
theorem w_notinU1 {x0 z : String} : wp (dNotIn (.str (Str.ofString z)) (.tup [.str (Str.ofString x0)]) s) Q E = Q (.bl (!(x0 == z || false))) s := w_notinUs (xs := [x0])
theorem w_notinU2 {x0 x1 z : String} : wp (dNotIn (.str (Str.ofString z)) (.tup [.str (Str.ofString x0), .str (Str.ofString x1)]) s) Q E = Q (.bl (!(x0 == z || (x1 == z || false)))) s := w_notinUs (xs := [x0, x1])
theorem w_notinU3 {x0 x1 x2 z : String} : wp (dNotIn (.str (Str.ofString z)) (.tup [.str (Str.ofString x0), .str (Str.ofString x1), .str (Str.ofString x2)]) s) Q E = Q (.bl (!(x0 == z || (x1 == z || (x2 == z || false))))) s := w_notinUs (xs := [x0, x1, x2])
theorem w_inU4 {x0 x1 x2 x3 z : String} : wp (dIn (.str (Str.ofString z)) (.tup [.str (Str.ofString x0), .str (Str.ofString x1), .str (Str.ofString x2), .str (Str.ofString x3)]) s) Q E = Q (.bl (x0 == z || (x1 == z || (x2 == z || (x3 == z || false))))) s := w_inUs' (xs := [x0, x1, x2, x3])
theorem w_notinU4 {x0 x1 x2 x3 z : String} : wp (dNotIn (.str (Str.ofString z)) (.tup [.str (Str.ofString x0), .str (Str.ofString x1), .str (Str.ofString x2), .str (Str.ofString x3)]) s) Q E = Q (.bl (!(x0 == z || (x1 == z || (x2 == z || (x3 == z || false)))))) s := w_notinUs (xs := [x0, x1, x2, x3])
theorem w_inU5 {x0 x1 x2 x3 x4 z : String} : wp (dIn (.str (Str.ofString z)) (.tup [.str (Str.ofString x0), .str (Str.ofString x1), .str (Str.ofString x2), .str (Str.ofString x3), .str (Str.ofString x4)]) s) Q E = Q (.bl (x0 == z || (x1 == z || (x2 == z || (x3 == z || (x4 == z || false)))))) s := w_inUs' (xs := [x0, x1, x2, x3, x4])
theorem w_notinU5 {x0 x1 x2 x3 x4 z : String} : wp (dNotIn (.str (Str.ofString z)) (.tup [.str (Str.ofString x0), .str (Str.ofString x1), .str (Str.ofString x2), .str (Str.ofString x3), .str (Str.ofString x4)]) s) Q E = Q (.bl (!(x0 == z || (x1 == z || (x2 == z || (x3 == z || (x4 == z || false))))))) s := w_notinUs (xs := [x0, x1, x2, x3, x4])
theorem w_inU6 {x0 x1 x2 x3 x4 x5 z : String} : wp (dIn (.str (Str.ofString z)) (.tup [.str (Str.ofString x0), .str (Str.ofString x1), .str (Str.ofString x2), .str (Str.ofString x3), .str (Str.ofString x4), .str (Str.ofString x5)]) s) Q E = Q (.bl (x0 == z || (x1 == z || (x2 == z || (x3 == z || (x4 == z || (x5 == z || false))))))) s := w_inUs' (xs := [x0, x1, x2, x3, x4, x5])
theorem w_notinU6 {x0 x1 x2 x3 x4 x5 z : String} : wp (dNotIn (.str (Str.ofString z)) (.tup [.str (Str.ofString x0), .str (Str.ofString x1), .str (Str.ofString x2), .str (Str.ofString x3), .str (Str.ofString x4), .str (Str.ofString x5)]) s) Q E = Q (.bl (!(x0 == z || (x1 == z || (x2 == z || (x3 == z || (x4 == z || (x5 == z || false)))))))) s := w_notinUs (xs := [x0, x1, x2, x3, x4, x5])
end

theorem w_lenSo {x : String} {Q : D → S → Prop} {E : D → S → Prop} {s : S} : wp (dLen [.str (Str.ofString x)] s) Q E = (x.length ≤ 16777216 ∧ Q (.int x.length) s) := by rw [w_lenS, ofStr_len, line_eq]

/-! ### loops that look for a wrong item -/
theorem wS_forAll {α : Type} {enc : α → D} {P : α → Bool} {d : D} {R : Rho → Prop} {gd : Option Nat} {all : List D} {g : MG} {b : MS} {s : S} {Q : C → S → Prop} {E : D → Rho → S → Prop} (hg : gOk gd all s) : ∀ {xs : List α}, (∀ x ∈ xs, ∀ ρ (Q' : C → S → Prop), R ρ → (P x = false → Q' (.rt d) s) → (P x = true → ∀ ρ', R ρ' → Q' (.nx ρ') s) → wp (g (enc x) ρ s) (fun ρ1 s1 => wS (b ρ1 s1) Q' E)) →
    ∀ ρ, R ρ → (xs.all P = true → ∀ ρ', R ρ' → Q (.nx ρ') s) → (xs.all P = false → Q (.rt d) s) → wS (forL gd all g b (xs.map enc) ρ s) Q E
  | [], _, ρ, hr, h1, _ => by
    rw [List.map_nil, wS_forL_nil]
    exact ⟨hg, h1 rfl ρ hr⟩
  | x :: xs, hb, ρ, hr, h1, h2 => by
    rw [List.map_cons, wS_forL_cons]
    refine ⟨hg, hb x (List.mem_cons_self ..) ρ _ hr (fun hp => ?_) fun hp ρ' hr' => ?_⟩
    · exact h2 (by rw [List.all_cons, hp]; rfl)
    · exact wS_forAll hg (fun y hy => hb y (List.mem_cons_of_mem _ hy)) ρ' hr' (fun h => h1 (by rw [List.all_cons, hp, h]; rfl)) fun h => h2 (by rw [List.all_cons, hp, h]; rfl)
/-- a range whose turns change nothing but slots -/
theorem wS_forR {R : Rho → Prop} {lo : Int} {n : Nat} {gd : Option Nat} {all : List D} {g : MG} {b : MS} {s : S} {Q : C → S → Prop} {E : D → Rho → S → Prop} (hg : gOk gd all s) (hb : ∀ i < n, ∀ ρ (Q' : C → S → Prop), R ρ → (∀ ρ', R ρ' → Q' (.nx ρ') s) → wp (g (.int (lo + (i : Nat))) ρ s) (fun ρ1 s1 => wS (b ρ1 s1) Q' E))
    (ρ : Rho) (h : R ρ) (k : ∀ ρ', R ρ' → Q (.nx ρ') s) : wS (forL gd all g b (rng lo n) ρ s) Q E := by
  unfold rng
  refine wS_forAll (P := fun _ => true) (d := .non) (R := R) hg (fun i hi ρ Q' hr _ h2 => hb i (List.mem_range.mp hi) ρ Q' hr (h2 rfl)) ρ h (fun _ => k) fun h => ?_
  simp at h
/-- a comprehension that changes nothing -/
theorem wp_mapF {α : Type} {enc f : α → D} {P : α → Bool} {gd : Option Nat} {all : List D} {g : MG} {t : MT} {m : ME} {ρ : Rho} {s : S} {Q : List D → S → Prop} {xs : List α} (hg : gOk gd all s)
    (h : ∀ x ∈ xs, ∀ (Q1 : Bool → Rho → S → Prop), (∀ ρ1, (∀ Q2 : D → S → Prop, P x = true → Q2 (f x) s → wp (m ρ1 s) Q2) → Q1 (P x) ρ1 s) → wp (g (enc x) ρ s) fun ρ1 s1 => wp (t ρ1 s1) fun k s2 => Q1 k ρ1 s2)
    (k : Q ((xs.filter P).map f) s) : wp (mapL gd all g t m (xs.map enc) ρ s) Q := by
  refine wp_mapL (I := fun rest acc s' => s' = s ∧ ∃ us vs, xs = us ++ vs ∧ rest = vs.map enc ∧ acc = (us.filter P).map f) (fun _ _ _ h => h.1 ▸ hg) ?_ (xs.map enc) [] s ⟨rfl, [], xs, rfl, rfl, rfl⟩ ?_
  · rintro x rest a s' ⟨rfl, us, vs, e1, e2, rfl⟩
    cases vs with
    | nil => cases e2
    | cons v vs =>
      cases e2
      have hm : v ∈ xs := by rw [e1]; simp
      refine h v hm (fun k ρ1 s2 => if k = true then wp (m ρ1 s2) (fun d s3 => s3 = s' ∧ ∃ us vs', xs = us ++ vs' ∧ vs.map enc = vs'.map enc ∧ _ ++ [d] = (us.filter P).map f) else s2 = s' ∧ ∃ us vs', xs = us ++ vs' ∧ vs.map enc = vs'.map enc ∧ _ = (us.filter P).map f) fun ρ1 hQ => ?_
      by_cases hp : P v = true
      · rw [if_pos hp]
        refine hQ _ hp ⟨rfl, us ++ [v], vs, by rw [e1]; simp, rfl, by simp [hp]⟩
      · rw [if_neg hp]
        exact ⟨rfl, us ++ [v], vs, by rw [e1]; simp, rfl, by simp [hp]⟩
  · rintro a' s' ⟨rfl, us, vs, e1, e2, e3⟩
    cases vs with
    | cons v vs => cases e2
    | nil =>
      rw [List.append_nil] at e1
      subst e1
      rw [List.nil_append] at e3
      rw [e3]
      exact k
theorem wp_mapP {α : Type} {enc f : α → D} {gd : Option Nat} {all : List D} {g : MG} {m : ME} {ρ : Rho} {s : S} {Q : List D → S → Prop} {xs : List α} (hg : gOk gd all s)
    (h : ∀ x ∈ xs, ∀ (Q2 : D → S → Prop), Q2 (f x) s → wp (g (enc x) ρ s) fun ρ1 s1 => wp (m ρ1 s1) Q2) (k : Q (xs.map f) s) : wp (mapL gd all g tAll m (xs.map enc) ρ s) Q := by
  refine wp_mapL (I := fun rest acc s' => s' = s ∧ ∃ us vs, xs = us ++ vs ∧ rest = vs.map enc ∧ acc = us.map f) (fun _ _ _ h => h.1 ▸ hg) ?_ (xs.map enc) [] s ⟨rfl, [], xs, rfl, rfl, rfl⟩ ?_
  · rintro x rest a s' ⟨rfl, us, vs, e1, e2, rfl⟩
    cases vs with
    | nil => cases e2
    | cons v vs =>
      cases e2
      have hm : v ∈ xs := by rw [e1]; simp
      simp only [wp_tAll, if_true]
      exact h v hm _ ⟨rfl, us ++ [v], vs, by rw [e1]; simp, rfl, by simp⟩
  · rintro a' s' ⟨rfl, us, vs, e1, e2, e3⟩
    cases vs with
    | cons v vs => cases e2
    | nil =>
      rw [List.append_nil] at e1
      subst e1
      rw [List.nil_append] at e3
      rw [e3]
      exact k
section
variable {Q : D → S → Prop} {E : D → S → Prop} {s : S} {xs : List D}
theorem w_tupT : wp (dTuple [.tup xs] s) Q E = Q (.tup xs) s := wp_ok
theorem w_tupL : wp (dTuple [.lst xs] s) Q E = Q (.tup xs) s := wp_ok
theorem w_tupR {n : Nat} (h : s[n]? = some (.lst xs)) : wp (dTuple [.ref n] s) Q E = Q (.tup xs) s := by
  show wp (match sview s (.ref n) with | some xs => R.ok (.tup xs) s | none => .bad) Q E = _
  rw [show sview s (.ref n) = lview s (.ref n) from rfl, lview_ref h]
  exact wp_ok
end
theorem ty_tup {s : S} {xs : List D} : tyName s (.tup xs) = some "tuple" := rfl
theorem ty_lst {s : S} {xs : List D} : tyName s (.lst xs) = some "list" := rfl
theorem ty_int {s : S} {i : Int} : tyName s (.int i) = some "int" := rfl
theorem ty_bl {s : S} {i : Bool} : tyName s (.bl i) = some "bool" := rfl
theorem ty_str {s : S} {i : Str} : tyName s (.str i) = some "str" := rfl
theorem ty_non {s : S} : tyName s .non = some "NoneType" := rfl
theorem ty_ref {s : S} {n : Nat} {xs : List D} (h : s[n]? = some (.lst xs)) : tyName s (.ref n) = some "list" := by simp only [tyName, h]
theorem wp_rep {ms : MA} {mk : ME} {new : Bool} {ρ : Rho} {s : S} {Q : D → S → Prop} {E : D → S → Prop} : wp (mRep ms mk new ρ s) Q E = wp (ms ρ s) (fun ds s1 => ds.length ≤ sizeLine ∧ wp (mk ρ s1) (fun d s2 => match d with
    | .int k => (-(2 ^ 63) ≤ k ∧ k < 2 ^ 63 ∧ ds.length * k.toNat ≤ sizeLine) ∧ (if new = true then Q (.ref s2.length) (s2 ++ [.lst (List.replicate k.toNat ds).flatten]) else Q (.lst (List.replicate k.toNat ds).flatten) s2)
    | _ => False) E) E := by
  unfold mRep
  rw [wp_bind]
  congr 1
  funext ds s1
  by_cases h : ds.length ≤ sizeLine
  · rw [if_pos h, wp_bind]
    simp only [h, true_and]
    congr 1
    funext d s2
    cases d <;> try exact wp_bad
    rename_i k
    simp only
    by_cases h2 : -(2 ^ 63) ≤ k ∧ k < 2 ^ 63 ∧ ds.length * k.toNat ≤ sizeLine
    · rw [if_pos h2]
      simp only [h2, and_self, true_and]
      cases new <;> exact wp_ok
    · rw [if_neg h2, wp_bad]; simp only [h2, false_and]
  · rw [if_neg h, wp_bad]; simp only [h, false_and]
theorem gok0 {all : List D} {s : S} : gOk none all s = True := rfl
theorem nb {b : Bool} : ((!b) = true) = ¬ (b = true) := by cases b <;> simp
end Pm
namespace Pm
open PySem PySem.Spec PyProof.Rows L2

/-! ### == and != of data that stand for plain things -/
structure EncOk {α : Type} [DecidableEq α] (k : Nat) (enc : α → D) : Prop where
  ok : ∀ s x, ∃ p, toPy s k (enc x) = some p
  eq : ∀ s x y p q, toPy s k (enc x) = some p → toPy s k (enc y) = some q → PyData.eqv p q = decide (x = y)
section
variable {α β : Type} [DecidableEq α] [DecidableEq β] {k j : Nat} {enc : α → D} {enc2 : β → D}
theorem EncOk.up (h : EncOk k enc) (hj : k ≤ j) : EncOk j enc where
  ok := fun s x => let ⟨p, hp⟩ := h.ok s x; ⟨p, toPy_le hj hp⟩
  eq := fun s x y p q hp hq => by
    obtain ⟨p', hp'⟩ := h.ok s x
    obtain ⟨q', hq'⟩ := h.ok s y
    rw [toPy_le hj hp'] at hp
    rw [toPy_le hj hq'] at hq
    cases hp
    cases hq
    exact h.eq s x y p q hp' hq'
theorem enc_int : EncOk 1 D.int where
  ok := fun s x => ⟨_, rfl⟩
  eq := fun s x y p q hp hq => by
    cases hp
    cases hq
    show (x == y) = _
    rw [Bool.eq_iff_iff, beq_iff_eq, decide_eq_true_eq]
theorem enc_bl : EncOk 1 D.bl where
  ok := fun s x => ⟨_, rfl⟩
  eq := fun s x y p q hp hq => by
    cases hp
    cases hq
    show (x == y) = _
    rw [Bool.eq_iff_iff, beq_iff_eq, decide_eq_true_eq]
theorem enc_str : EncOk 1 (fun z : String => D.str (Str.ofString z)) where
  ok := fun s x => ⟨_, if_pos (strOk_of x)⟩
  eq := fun s x y p q hp hq => by
    cases (if_pos (strOk_of x)).symm.trans hp
    cases (if_pos (strOk_of y)).symm.trans hq
    show (Str.ofString x == Str.ofString y) = _
    rw [str_beq, Bool.eq_iff_iff, beq_iff_eq, decide_eq_true_eq]
theorem enc_tx : EncOk 1 (fun z : List Char => D.str (tx z)) where
  ok := fun s x => ⟨_, if_pos (tx_ok x)⟩
  eq := fun s x y p q hp hq => by
    cases (if_pos (tx_ok x)).symm.trans hp
    cases (if_pos (tx_ok y)).symm.trans hq
    show (tx x == tx y) = _
    exact tx_beq x y
theorem optAll_ok (h : EncOk k enc) (s : S) : ∀ xs : List α, ∃ ps, optAll (toPy s k) (xs.map enc) = some ps
  | [] => ⟨[], rfl⟩
  | x :: xs => by
    obtain ⟨p, hp⟩ := h.ok s x
    obtain ⟨ps, hps⟩ := optAll_ok h s xs
    exact ⟨p :: ps, by simp only [List.map_cons, optAll, hp, hps]⟩
theorem optAll_eq (h : EncOk k enc) (s : S) : ∀ (xs ys : List α) (ps qs : List PyData), optAll (toPy s k) (xs.map enc) = some ps → optAll (toPy s k) (ys.map enc) = some qs → PyData.eqvAll ps qs = decide (xs = ys)
  | [], [], ps, qs, hp, hq => by cases hp; cases hq; rfl
  | [], y :: ys, ps, qs, hp, hq => by
    cases hp
    obtain ⟨q, hq1⟩ := h.ok s y
    obtain ⟨qs', hq2⟩ := optAll_ok h s ys
    simp only [List.map_cons, optAll, hq1, hq2] at hq
    cases hq
    simp [PyData.eqvAll]
  | x :: xs, [], ps, qs, hp, hq => by
    cases hq
    obtain ⟨q, hq1⟩ := h.ok s x
    obtain ⟨qs', hq2⟩ := optAll_ok h s xs
    simp only [List.map_cons, optAll, hq1, hq2] at hp
    cases hp
    simp [PyData.eqvAll]
  | x :: xs, y :: ys, ps, qs, hp, hq => by
    obtain ⟨p, hp1⟩ := h.ok s x
    obtain ⟨ps', hp2⟩ := optAll_ok h s xs
    obtain ⟨q, hq1⟩ := h.ok s y
    obtain ⟨qs', hq2⟩ := optAll_ok h s ys
    simp only [List.map_cons, optAll, hp1, hp2] at hp
    simp only [List.map_cons, optAll, hq1, hq2] at hq
    cases hp
    cases hq
    simp only [PyData.eqvAll, h.eq s x y p q hp1 hq1, optAll_eq h s xs ys ps' qs' hp2 hq2, List.cons.injEq]
    by_cases h1 : x = y <;> by_cases h2 : xs = ys <;> simp [h1, h2]
theorem enc_lst (h : EncOk k enc) : EncOk (k + 1) (fun xs : List α => D.lst (xs.map enc)) where
  ok := fun s xs => by
    obtain ⟨ps, hps⟩ := optAll_ok h s xs
    exact ⟨.list ps, by simp only [toPy, hps, Option.map_some]⟩
  eq := fun s xs ys p q hp hq => by
    obtain ⟨ps, hps⟩ := optAll_ok h s xs
    obtain ⟨qs, hqs⟩ := optAll_ok h s ys
    simp only [toPy, hps, Option.map_some] at hp
    simp only [toPy, hqs, Option.map_some] at hq
    cases hp
    cases hq
    simp only [PyData.eqv]
    exact optAll_eq h s xs ys ps qs hps hqs
theorem enc_tup (h : EncOk k enc) : EncOk (k + 1) (fun xs : List α => D.tup (xs.map enc)) where
  ok := fun s xs => by
    obtain ⟨ps, hps⟩ := optAll_ok h s xs
    exact ⟨.tuple ps, by simp only [toPy, hps, Option.map_some]⟩
  eq := fun s xs ys p q hp hq => by
    obtain ⟨ps, hps⟩ := optAll_ok h s xs
    obtain ⟨qs, hqs⟩ := optAll_ok h s ys
    simp only [toPy, hps, Option.map_some] at hp
    simp only [toPy, hqs, Option.map_some] at hq
    cases hp
    cases hq
    simp only [PyData.eqv]
    exact optAll_eq h s xs ys ps qs hps hqs
theorem enc_pair (h : EncOk k enc) (h2 : EncOk k enc2) : EncOk (k + 1) (fun p : α × β => D.tup [enc p.1, enc2 p.2]) where
  ok := fun s p => by
    obtain ⟨a, ha⟩ := h.ok s p.1
    obtain ⟨b, hb⟩ := h2.ok s p.2
    exact ⟨.tuple [a, b], by simp only [toPy, optAll, ha, hb, Option.map_some]⟩
  eq := fun s x y p q hp hq => by
    obtain ⟨a, ha⟩ := h.ok s x.1
    obtain ⟨b, hb⟩ := h2.ok s x.2
    obtain ⟨a', ha'⟩ := h.ok s y.1
    obtain ⟨b', hb'⟩ := h2.ok s y.2
    simp only [toPy, optAll, ha, hb, Option.map_some] at hp
    simp only [toPy, optAll, ha', hb', Option.map_some] at hq
    cases hp
    cases hq
    obtain ⟨x1, x2⟩ := x
    obtain ⟨y1, y2⟩ := y
    simp only [PyData.eqv, PyData.eqvAll, h.eq s _ _ _ _ ha ha', h2.eq s _ _ _ _ hb hb', Prod.mk.injEq]
    by_cases c1 : x1 = y1 <;> by_cases c2 : x2 = y2 <;> simp [c1, c2]
/-- None or .. -/
theorem enc_opt {P : α → Bool} (h : EncOk k enc) (hk : 0 < k) (hn : ∀ s x p, toPy s k (enc x) = some p → PyData.eqv .none p = false ∧ PyData.eqv p .none = false) : EncOk k (fun o : Option α => match o with | none => D.non | some x => enc x) where
  ok := fun s o => by
    cases o with
    | none =>
      obtain ⟨k', rfl⟩ : ∃ k', k = k' + 1 := ⟨k - 1, by omega⟩
      exact ⟨.none, rfl⟩
    | some x => exact h.ok s x
  eq := fun s o o' p q hp hq => by
    obtain ⟨k', rfl⟩ : ∃ k', k = k' + 1 := ⟨k - 1, by omega⟩
    cases o with
    | none =>
      cases hp
      cases o' with
      | none => cases hq; rfl
      | some y => rw [(hn s y q hq).1]; rfl
    | some x =>
      cases o' with
      | none => cases hq; rw [(hn s x p hp).2]; rfl
      | some y => rw [h.eq s x y p q hp hq]; simp
variable {s : S} {Q : D → S → Prop} {E : D → S → Prop}
theorem w_eqE (h : EncOk k enc) (hk : k ≤ 60) {x y : α} : wp (dEq (enc x) (enc y) s) Q E = Q (.bl (decide (x = y))) s := by
  have h := h.up hk
  obtain ⟨p, hp⟩ := h.ok s x
  obtain ⟨q, hq⟩ := h.ok s y
  unfold dEq
  simp only [hp, hq, h.eq s x y p q hp hq]
  exact wp_ok
theorem w_neE (h : EncOk k enc) (hk : k ≤ 60) {x y : α} : wp (dNe (enc x) (enc y) s) Q E = Q (.bl (!decide (x = y))) s := by
  have h := h.up hk
  obtain ⟨p, hp⟩ := h.ok s x
  obtain ⟨q, hq⟩ := h.ok s y
  unfold dNe
  simp only [hp, hq, h.eq s x y p q hp hq]
  exact wp_ok
theorem toPy_ref {n : Nat} {xs : List D} (h : s[n]? = some (.lst xs)) : ∀ k, toPy s k (.ref n) = toPy s k (.lst xs)
  | 0 => rfl
  | k + 1 => by simp only [toPy, h]
theorem eq_refL {n : Nat} {xs : List D} {d : D} (h : s[n]? = some (.lst xs)) : dEq (.ref n) d s = dEq (.lst xs) d s := by unfold dEq; rw [toPy_ref h]
theorem ne_refL {n : Nat} {xs : List D} {d : D} (h : s[n]? = some (.lst xs)) : dNe (.ref n) d s = dNe (.lst xs) d s := by unfold dNe; rw [toPy_ref h]
theorem eq_refR {n : Nat} {xs : List D} {d : D} (h : s[n]? = some (.lst xs)) : dEq d (.ref n) s = dEq d (.lst xs) s := by unfold dEq; rw [toPy_ref h]
theorem ne_refR {n : Nat} {xs : List D} {d : D} (h : s[n]? = some (.lst xs)) : dNe d (.ref n) s = dNe d (.lst xs) s := by unfold dNe; rw [toPy_ref h]
end

/-! ### finished data stay as they are -/
structure FinOk {α : Type} (k : Nat) (enc : α → D) : Prop where
  fz : ∀ s n x, frzD s n k (enc x) = some (enc x)
  lt : ∀ n x, ltD n (enc x) = true
mutual
theorem frz_up {s : S} {n : Nat} : ∀ {k : Nat} {d d' : D}, frzD s n k d = some d' → frzD s n (k + 1) d = some d'
  | 0, _, _, h => by simp [frzD] at h
  | k + 1, .non, _, h => h
  | k + 1, .bl b, _, h => h
  | k + 1, .int i, _, h => h
  | k + 1, .str x, _, h => h
  | k + 1, .glo a, _, h => h
  | k + 1, .ty a, _, h => h
  | k + 1, .dic a, _, h => h
  | k + 1, .exn a b c, _, h => h
  | k + 1, .tup xs, d', h => by
    obtain ⟨ys, e, rfl⟩ := Option.map_eq_some_iff.mp (show (allD (frzD s n k) xs).map D.tup = some d' from h)
    show (allD (frzD s n (k + 1)) xs).map D.tup = _
    rw [frzs_up e]
    rfl
  | k + 1, .lst xs, d', h => by
    obtain ⟨ys, e, rfl⟩ := Option.map_eq_some_iff.mp (show (allD (frzD s n k) xs).map D.lst = some d' from h)
    show (allD (frzD s n (k + 1)) xs).map D.lst = _
    rw [frzs_up e]
    rfl
  | k + 1, .ins c fs, d', h => by
    obtain ⟨ys, e, rfl⟩ := Option.map_eq_some_iff.mp (show (allF (frzD s n k) fs).map (D.ins c) = some d' from h)
    show (allF (frzD s n (k + 1)) fs).map (D.ins c) = _
    rw [frzf_up e]
    rfl
  | k + 1, .ref m, d', h => by
    rw [frzD] at h ⊢
    by_cases hm : m < n
    · rw [if_pos hm] at h ⊢; exact h
    · rw [if_neg hm] at h ⊢
      cases e : s[m]? with
      | none => rw [e] at h; cases h
      | some o =>
        rw [e] at h
        cases o with
        | lst xs =>
          obtain ⟨ys, e, rfl⟩ := Option.map_eq_some_iff.mp h
          simp only
          rw [frzs_up e]
          rfl
        | ins c fs =>
          obtain ⟨ys, e, rfl⟩ := Option.map_eq_some_iff.mp h
          simp only
          rw [frzf_up e]
          rfl
        | dK kvs => cases h
theorem frzs_up {s : S} {n : Nat} : ∀ {k : Nat} {xs ys : List D}, allD (frzD s n k) xs = some ys → allD (frzD s n (k + 1)) xs = some ys
  | k, [], _, h => h
  | k, x :: xs, ys, h => by
    rw [allD] at h ⊢
    cases e1 : frzD s n k x with
    | none => rw [e1] at h; cases h
    | some y =>
      cases e2 : allD (frzD s n k) xs with
      | none => rw [e1, e2] at h; cases h
      | some zs => rw [e1, e2] at h; rw [frz_up e1, frzs_up e2]; exact h
theorem frzf_up {s : S} {n : Nat} : ∀ {k : Nat} {xs ys : List (Str × D)}, allF (frzD s n k) xs = some ys → allF (frzD s n (k + 1)) xs = some ys
  | k, [], _, h => h
  | k, (f, x) :: xs, ys, h => by
    rw [allF] at h ⊢
    cases e1 : frzD s n k x with
    | none => rw [e1] at h; cases h
    | some y =>
      cases e2 : allF (frzD s n k) xs with
      | none => rw [e1, e2] at h; cases h
      | some zs => rw [e1, e2] at h; rw [frz_up e1, frzf_up e2]; exact h
end
theorem frz_le {s : S} {n : Nat} {d d' : D} {j k : Nat} (h : j ≤ k) (e : frzD s n j d = some d') : frzD s n k d = some d' := by
  obtain ⟨i, rfl⟩ : ∃ i, k = j + i := ⟨k - j, by omega⟩
  clear h
  induction i with
  | zero => exact e
  | succ i ih => exact frz_up ih
section
variable {α β : Type} {k j : Nat} {enc : α → D} {enc2 : β → D}
theorem FinOk.up (h : FinOk k enc) (hj : k ≤ j) : FinOk j enc := ⟨fun s n x => frz_le hj (h.fz s n x), h.lt⟩
theorem fin_int : FinOk 1 D.int := ⟨fun _ _ _ => rfl, fun _ _ => rfl⟩
theorem fin_bl : FinOk 1 D.bl := ⟨fun _ _ _ => rfl, fun _ _ => rfl⟩
theorem fin_str : FinOk 1 (fun z : String => D.str (Str.ofString z)) := ⟨fun _ _ _ => rfl, fun _ _ => rfl⟩
theorem fin_tx : FinOk 1 (fun z : List Char => D.str (tx z)) := ⟨fun _ _ _ => rfl, fun _ _ => rfl⟩
theorem fin_all (h : FinOk k enc) {s : S} {n : Nat} : ∀ xs : List α, allD (frzD s n k) (xs.map enc) = some (xs.map enc)
  | [] => rfl
  | x :: xs => by rw [List.map_cons, allD, h.fz, fin_all h xs]
theorem fin_lts (h : FinOk k enc) {n : Nat} : ∀ xs : List α, ltDs n (xs.map enc) = true
  | [] => rfl
  | x :: xs => by rw [List.map_cons, ltDs, h.lt, fin_lts h xs]; rfl
theorem fin_lst (h : FinOk k enc) : FinOk (k + 1) (fun xs : List α => D.lst (xs.map enc)) :=
  ⟨fun s n x => by show (allD (frzD s n k) (x.map enc)).map D.lst = _; rw [fin_all h]; rfl, fun n x => by show ltDs n (x.map enc) = true; exact fin_lts h x⟩
theorem fin_tup (h : FinOk k enc) : FinOk (k + 1) (fun xs : List α => D.tup (xs.map enc)) :=
  ⟨fun s n x => by show (allD (frzD s n k) (x.map enc)).map D.tup = _; rw [fin_all h]; rfl, fun n x => by show ltDs n (x.map enc) = true; exact fin_lts h x⟩
theorem fin_pair (h : FinOk k enc) (h2 : FinOk k enc2) : FinOk (k + 1) (fun p : α × β => D.tup [enc p.1, enc2 p.2]) :=
  ⟨fun s n x => by show (allD (frzD s n k) [enc x.1, enc2 x.2]).map D.tup = _; simp only [allD, h.fz, h2.fz]; rfl, fun n x => by show ltDs n [enc x.1, enc2 x.2] = true; simp [ltDs, h.lt, h2.lt]⟩
end
/-- a list whose things are data -/
theorem stOk_app {s t : S} : stOk s.length (s ++ t) = stOk s.length s := by
  unfold stOk
  rw [List.take_left, List.take_length]
theorem take_app {s t : S} : (s ++ t).take s.length = s := List.take_left

/-! ### the store's end -/
theorem ofS_inj {x y : String} : (Str.ofString x = Str.ofString y) = (x = y) := propext ⟨fun h => by
  have := str_beq x y
  rw [h, beq_self_eq_true] at this
  exact beq_iff_eq.mp this.symm, congrArg _⟩
section
variable {s t : S} {a b c d o : O}
theorem e_at0 : (s ++ a :: t)[s.length]? = some a := by simp
theorem e_at1 : (s ++ a :: b :: t)[s.length + 1]? = some b := by rw [List.getElem?_append_right (by omega)]; simp
theorem e_at2 : (s ++ a :: b :: c :: t)[s.length + 2]? = some c := by rw [List.getElem?_append_right (by omega)]; simp
theorem e_at3 : (s ++ a :: b :: c :: d :: t)[s.length + 3]? = some d := by rw [List.getElem?_append_right (by omega)]; simp
theorem e_set0 : (s ++ a :: t).set s.length o = s ++ o :: t := by simp
theorem e_set1 : (s ++ a :: b :: t).set (s.length + 1) o = s ++ a :: o :: t := by rw [List.set_append_right _ _ (by omega)]; simp
theorem e_set2 : (s ++ a :: b :: c :: t).set (s.length + 2) o = s ++ a :: b :: o :: t := by rw [List.set_append_right _ _ (by omega)]; simp
theorem e_set3 : (s ++ a :: b :: c :: d :: t).set (s.length + 3) o = s ++ a :: b :: c :: o :: t := by rw [List.set_append_right _ _ (by omega)]; simp
end
mutual
theorem ltD_le {n k : Nat} (h : n ≤ k) : ∀ {d : D}, ltD n d = true → ltD k d = true
  | .ref m, e => by simp only [ltD, decide_eq_true_eq] at e ⊢; omega
  | .tup xs, e => ltDs_le h (show ltDs n xs = true from e)
  | .lst xs, e => ltDs_le h (show ltDs n xs = true from e)
  | .ins c fs, e => ltFs_le h (show ltFs n fs = true from e)
  | .dic fs, e => ltFs_le h (show ltFs n fs = true from e)
  | .exn _ _ _, e => e
  | .non, _ => rfl
  | .bl _, _ => rfl
  | .int _, _ => rfl
  | .str _, _ => rfl
  | .glo _, _ => rfl
  | .ty _, _ => rfl
theorem ltDs_le {n k : Nat} (h : n ≤ k) : ∀ {d : List D}, ltDs n d = true → ltDs k d = true
  | [], _ => rfl
  | x :: xs, e => by
    simp only [ltDs, Bool.and_eq_true] at e ⊢
    exact ⟨ltD_le h e.1, ltDs_le h e.2⟩
theorem ltFs_le {n k : Nat} (h : n ≤ k) : ∀ {d : List (Str × D)}, ltFs n d = true → ltFs k d = true
  | [], _ => rfl
  | (_, x) :: xs, e => by
    simp only [ltFs, Bool.and_eq_true] at e ⊢
    exact ⟨ltD_le h e.1, ltFs_le h e.2⟩
end
theorem ltO_le {n k : Nat} (h : n ≤ k) {o : O} (e : ltO n o = true) : ltO k o = true := by
  cases o with
  | lst xs => exact ltDs_le h e
  | ins c fs => exact ltFs_le h e
  | dK kvs => exact ltDs_le h e
theorem set_ge {s t : S} {i : Nat} {o : O} : (s ++ t).set (s.length + i) o = s ++ t.set i o := by
  rw [List.set_append_right _ _ (by omega), Nat.add_sub_cancel_left]
theorem at_ge {s t : S} {i : Nat} : (s ++ t)[s.length + i]? = t[i]? := by
  rw [List.getElem?_append_right (by omega), Nat.add_sub_cancel_left]
/-! ### lists, finished or not -/
section
variable {s : S} {Q : D → S → Prop} {E : D → S → Prop} {x y : D} {xs ys : List D}
theorem w_addLv (hx : lview s x = some xs) (hy : lview s y = some ys) : wp (dAdd x y s) Q E = (xs.length + ys.length ≤ sizeLine ∧ Q (.lst (xs ++ ys)) s) := by
  have e : dAdd x y s = if xs.length + ys.length ≤ sizeLine then .ok (.lst (xs ++ ys)) s else .bad := by
    cases x <;> first
      | (simp only [lview] at hx; cases hx; done)
      | (cases y <;> first
          | (simp only [lview] at hy; cases hy; done)
          | (simp only [dAdd, hx, hy]))
  rw [e]
  exact wp_ifb'
theorem w_slLv {lo hi : Option Int} (hx : lview s x = some xs) : wp (dSl lo hi x s) Q E = Q (.lst (dCut xs lo hi)) s := by
  have e : dSl lo hi x s = .ok (.lst (dCut xs lo hi)) s := by
    cases x <;> first
      | (simp only [lview] at hx; cases hx; done)
      | (simp only [dSl, hx])
  rw [e]
  exact wp_ok
theorem w_ixLv {i : Int} (hx : lview s x = some xs) : wp (dIx x (.int i) s) Q E = match atI xs i with | some d => Q d s | none => False := by
  cases x <;> first
    | (simp only [lview] at hx; cases hx; done)
    | (simp only [lview] at hx; cases hx; exact w_ix)
    | skip
  rename_i n
  simp only [lview] at hx
  split at hx
  · rename_i l e
    cases hx
    exact w_ixR e
  · cases hx
theorem w_lenLv (hx : lview s x = some xs) : wp (dLen [x] s) Q E = Q (.int xs.length) s := by
  cases x <;> first
    | (simp only [lview] at hx; cases hx; done)
    | (simp only [lview] at hx; cases hx; exact w_len)
    | skip
  rename_i n
  simp only [lview] at hx
  split at hx
  · rename_i l e
    cases hx
    exact w_lenR e
  · cases hx
theorem cut_from {a : Nat} : dCut xs (some (a : Int)) none = xs.drop a := by
  unfold dCut
  rw [HT.sIx_nat, HT.sIx_none, List.take_of_length_le (by rw [List.length_drop]; omega)]
  by_cases h : a ≤ xs.length
  · rw [Nat.min_eq_left h]
  · rw [Nat.min_eq_right (by omega), List.drop_length, List.drop_eq_nil_of_le (by omega)]
theorem cut_to {b : Nat} : dCut xs none (some (b : Int)) = xs.take b := by
  unfold dCut
  rw [HT.sIx_nat, HT.sIx_none, List.drop_zero, Nat.sub_zero]
  by_cases h : b ≤ xs.length
  · rw [Nat.min_eq_left h]
  · rw [Nat.min_eq_right (by omega), List.take_length, List.take_of_length_le (by omega)]
theorem cut_mid {a b : Nat} : dCut xs (some (a : Int)) (some (b : Int)) = (xs.drop a).take (b - a) := by
  unfold dCut
  rw [HT.sIx_nat, HT.sIx_nat]
  by_cases h : a ≤ xs.length
  · rw [Nat.min_eq_left h]
    by_cases h2 : b ≤ xs.length
    · rw [Nat.min_eq_left h2]
    · rw [Nat.min_eq_right (by omega), List.take_of_length_le (by rw [List.length_drop]; omega), List.take_of_length_le (by rw [List.length_drop]; omega)]
  · have e : min a xs.length = xs.length := Nat.min_eq_right (by omega)
    rw [e, List.drop_length, List.drop_eq_nil_of_le (by omega : xs.length ≤ a)]
    simp
end
/-! ### the deck and what stands behind it -/
section
variable {s t : S}
theorem Dk.get {q : Nat} (h : Dk s t) : s[q + 1]? = t[q]? := by
  obtain ⟨L, rfl, _⟩ := h
  rfl
theorem Dk.len (h : Dk s t) : s.length = t.length + 1 := by
  obtain ⟨L, rfl, _⟩ := h
  rfl
theorem Dk.app {u : S} (h : Dk s t) : Dk (s ++ u) (t ++ u) := by
  obtain ⟨L, rfl, hL⟩ := h
  exact ⟨L, rfl, hL⟩
theorem Dk.set {q : Nat} {o : O} (h : Dk s t) : Dk (s.set (q + 1) o) (t.set q o) := by
  obtain ⟨L, rfl, hL⟩ := h
  exact ⟨L, rfl, hL⟩
end
theorem andK_i {c : Bool} {f : (Bool → S → Prop) → Prop} {Q : Bool → S → Prop} {s : S} (h1 : c = true → f Q) (h2 : c = false → Q false s) : andK c f Q s := by
  cases c
  · exact h2 rfl
  · exact h1 rfl
theorem orK_i {c : Bool} {f : (Bool → S → Prop) → Prop} {Q : Bool → S → Prop} {s : S} (h1 : c = true → Q true s) (h2 : c = false → f Q) : orK c f Q s := by
  cases c
  · exact h2 rfl
  · exact h1 rfl
/-- two ways meet -/
theorem ite_join {X P : D → S → Prop} {E : D → S → Prop} {c : Prop} [Decidable c] {r : R D} {d0 : D} {s0 : S} (h1 : c → wp r P E) (h2 : ¬ c → P d0 s0) (h3 : ∀ d s, P d s → X d s) : if c then wp r X E else X d0 s0 := by
  split
  · exact wp_mono (h1 ‹_›) h3
  · exact h3 _ _ (h2 ‹_›)
end Pm
namespace K46
open PySem PySem.Spec PyProof.Rows L2 Pm
noncomputable section
def top (i : Nat) : Stmt := PySem.Challenge.pw_gluebridge_k46_rows_in_order.main.body.getD i (.Pass ⟨0, 0, 0, 0⟩)
abbrev s_law_deck : Stmt := (top 19)
abbrev s_law_take : Stmt := (top 20)
abbrev s_law_word : Stmt := (top 22)
abbrev s_law_rule : Stmt := (top 23)
abbrev s_law_spoilt_rule : Stmt := (top 24)
abbrev s_law_parts : Stmt := (top 25)
abbrev s_law_rule_in_order : Stmt := (top 26)
abbrev s_law_first_wrong : Stmt := (top 27)
abbrev s_is_mark : Stmt := (top 14)
abbrev s_is_rule : Stmt := (top 15)
abbrev s_Row_init : Stmt := (inClass (top 16) 0)
abbrev s_law_refused : Stmt := (top 28)
abbrev s_law_whole : Stmt := (top 21)
abbrev s_law_same_rule : Stmt := (top 29)
abbrev s_law_fields : Stmt := (top 30)
abbrev s_law_built : Stmt := (top 31)
abbrev s_plain_row : Stmt := (top 17)
abbrev s_law_plain : Stmt := (top 32)
abbrev s_law : Stmt := (top 33)
abbrev s_InvalidRow_init : Stmt := (inClass (top 3) 0)
def d_EVENTS : D := (.str "LGHRFD")
def c_EVENTS : ME := mC d_EVENTS
def d_GRIPS : D := (.tup [(.str "slot"), (.str "place"), (.str "pin")])
def c_GRIPS : ME := mC d_GRIPS
def d_LEASES : D := (.tup [(.str "always"), (.str "call")])
def c_LEASES : ME := mC d_LEASES
def d_MODES : D := (.tup [(.str "held"), (.str "copied"), (.str "refused")])
def c_MODES : ME := mC d_MODES
def d_MOST_CHANGE : D := (.int 3)
def c_MOST_CHANGE : ME := mC d_MOST_CHANGE
def d_MOST_MARKS : D := (.int 4)
def c_MOST_MARKS : ME := mC d_MOST_MARKS
def d_SHARINGS : D := (.tup [(.str "one"), (.str "each")])
def c_SHARINGS : ME := mC d_SHARINGS
def d_STILL : D := (.tup [(.tup [(.int 0), (.int 0)]), (.tup [(.int 0), (.int 0)]), (.tup [(.int 0), (.int 0)]), (.tup [(.int 0), (.int 0)]), (.tup [(.int 0), (.int 0)]), (.tup [(.int 0), (.int 0)])])
def c_STILL : ME := mC d_STILL
def x_InvalidRow : List D → S → R (List (Str × D)) := mXInit 1 (m2 dAdd (mC (.str "invalid row: ")) (mVar 1)) [("what", (mVar 1))]
theorem arx_InvalidRow : ∀ ds s, ds.length ≠ 1 → x_InvalidRow ds s = .bad := mXInit_arity
/-- _law_deck: 0 script, 1 cells, 2 each, 3 deck, 4 seed, 5 k, 6 cell, 7 rest, 8 at -/
def m_law_deck : MS := (ssCons (sSet 3 (mN dNew aNil))
  (ssCons (sSet 4 (m2 dAdd (mC (.int 7)) (mN dLen (aCons (mVar 0) aNil))))
  (ssCons (sFor (iRange1 (mVar 1)) (gSlot 5)
  (ssCons (sSet 6 (mC (.int 0)))
  (ssCons (sIf (tBool (m2 dLt (mVar 5) (mN dLen (aCons (mVar 0) aNil))))
  (sSet 6 (m2 dIx (mVar 0) (mVar 5)))
  ssNil)
  (ssCons (sSet 7 (mN dAbs (aCons (mVar 6) aNil)))
  (sIf (tBool (m2 dGe (mVar 7) (m2 dPow (mC (.int 10)) (mC (.int 30)))))
  (sFor (iRange1 (mVar 2)) (gSlot 8)
  (ssCons (sExpr (mMt "list" dAppend (mVar 3) (aCons (m2 dMod (mN dInt (aCons (mVar 7) aNil)) (mC (.int 1000003))) aNil)))
  (sSet 7 (m2 dFdiv (mVar 7) (mC (.int 1000003))))))
  (ssCons (sSet 4 (m2 dMod (mN dInt (aCons (m2 dAdd (m2 dAdd (m2 dAdd (m2 dMul (mVar 4) (mC (.int 48271))) (m2 dMul (mC (.int 2)) (mVar 7))) (mN dInt (aCons (m2 dLt (mVar 6) (mC (.int 0))) aNil))) (mVar 5)) aNil)) (mC (.int 2147483647))))
  (sFor (iRange1 (mVar 2)) (gSlot 8)
  (ssCons (sSet 4 (m2 dMod (mN dInt (aCons (m2 dAdd (m2 dAdd (m2 dMul (mVar 4) (mC (.int 69621))) (mVar 8)) (mC (.int 1))) aNil)) (mC (.int 2147483629))))
  (sExpr (mMt "list" dAppend (mVar 3) (aCons (m2 dMod (mN dInt (aCons (m2 dFdiv (mVar 4) (mC (.int 5))) aNil)) (mC (.int 1000003))) aNil)))))))))))
  (ssCons (sExpr (mMt "list" dReverse (mVar 3) aNil))
  (sRet (mVar 3))))))
def f_law_deck : List D → S → R D := mkFn 3 9 m_law_deck
theorem ar_law_deck : ∀ ds s, ds.length ≠ 3 → f_law_deck ds s = .bad := mkFn_arity
/-- _law_take: 0 deck, 1 many -/
def m_law_take : MS := (ssCons (sIf (tBool (m2 dEq (mN dLen (aCons (mVar 0) aNil)) (mC (.int 0))))
  (sRet (mC (.int 0)))
  ssNil)
  (sRet (m2 dMod (mN dInt (aCons (mMt "list" dPop (mVar 0) aNil) aNil)) (mVar 1))))
def f_law_take : List D → S → R D := mkFn 2 2 m_law_take
theorem ar_law_take : ∀ ds s, ds.length ≠ 2 → f_law_take ds s = .bad := mkFn_arity
/-- _law_word: 0 deck, 1 good, 2 bad -/
def m_law_word : MS := (ssCons (sIf (tBool (m2 dEq (mN f_law_take (aCons (mVar 0) (aCons (mC (.int 7)) aNil))) (mC (.int 0))))
  (sRet (m2 dIx (mVar 2) (mN f_law_take (aCons (mVar 0) (aCons (mN dLen (aCons (mVar 2) aNil)) aNil)))))
  ssNil)
  (sRet (m2 dIx (mVar 1) (mN f_law_take (aCons (mVar 0) (aCons (mN dLen (aCons (mVar 1) aNil)) aNil))))))
def f_law_word : List D → S → R D := mkFn 3 3 m_law_word
theorem ar_law_word : ∀ ds s, ds.length ≠ 3 → f_law_word ds s = .bad := mkFn_arity
/-- _law_rule: 0 deck, 1 size, 2 rule, 3 mark, 4 event -/
def m_law_rule : MS := (ssCons (sSet 2 (mN dNew aNil))
  (ssCons (sFor (iRange1 (mVar 1)) (gSlot 3)
  (sExpr (mMt "list" dAppend (mVar 2) (aCons (mLcN (iRange1 (mC (.int 6))) (gSlot 4) tAll (mN dTup (aCons (mN f_law_take (aCons (mVar 0) (aCons (mN dMax2 (aCons (mC (.int 1)) (aCons (mVar 1) aNil))) aNil))) (aCons (m2 dSub (mN f_law_take (aCons (mVar 0) (aCons (mC (.int 7)) aNil))) (mC (.int 3))) aNil))) [4]) aNil))))
  (sRet (mVar 2))))
def f_law_rule : List D → S → R D := mkFn 2 5 m_law_rule
theorem ar_law_rule : ∀ ds s, ds.length ≠ 2 → f_law_rule ds s = .bad := mkFn_arity
/-- _law_spoilt_rule: 0 deck, 1 size, 2 kind, 3 rule, 4 mark, 5 event, 6 pair -/
def m_law_spoilt_rule : MS := (ssCons (sSet 2 (mN f_law_take (aCons (mVar 0) (aCons (mC (.int 6)) aNil))))
  (ssCons (sIf (tBool (m2 dEq (mVar 2) (mC (.int 0))))
  (sRet (mN dLst aNil))
  ssNil)
  (ssCons (sIf (tBool (m2 dEq (mVar 2) (mC (.int 1))))
  (sRet (mN f_law_rule (aCons (mVar 0) (aCons (mC (.int 5)) aNil))))
  ssNil)
  (ssCons (sSet 3 (mN f_law_rule (aCons (mVar 0) (aCons (mVar 1) aNil))))
  (ssCons (sSet 4 (mN f_law_take (aCons (mVar 0) (aCons (mVar 1) aNil))))
  (ssCons (sSet 5 (mN f_law_take (aCons (mVar 0) (aCons (mC (.int 6)) aNil))))
  (ssCons (sSet 6 (m2 dIx (m2 dIx (mVar 3) (mVar 4)) (mVar 5)))
  (ssCons (sIf (tBool (m2 dEq (mVar 2) (mC (.int 2))))
  (sAsg (mSl (m2 dIx (mVar 3) (mVar 4)) (oSome (mC (.int 1))) oNone) (gSubD (mVar 3) (mVar 4)))
  (sIf (tBool (m2 dEq (mVar 2) (mC (.int 3))))
  (sAsg (m2 dAdd (m2 dIx (mVar 3) (mVar 4)) (mN dLst (aCons (mVar 6) aNil))) (gSubD (mVar 3) (mVar 4)))
  (sIf (tBool (m2 dEq (mVar 2) (mC (.int 4))))
  (sAsg (mN dTup (aCons (m2 dIx (mN dLst (aCons (m1 dNeg (mC (.int 1))) (aCons (mVar 1) (aCons (m2 dAdd (m2 dAdd (mVar 1) (mC (.int 1))) (mN f_law_take (aCons (mVar 0) (aCons (mC (.int 9)) aNil)))) aNil)))) (mN f_law_take (aCons (mVar 0) (aCons (mC (.int 3)) aNil)))) (aCons (m2 dIx (mVar 6) (mC (.int 1))) aNil))) (gSubD (m2 dIx (mVar 3) (mVar 4)) (mVar 5)))
  (sAsg (mN dTup (aCons (m2 dIx (mVar 6) (mC (.int 0))) (aCons (m2 dIx (mN dLst (aCons (m1 dNeg (mC (.int 4))) (aCons (mC (.int 4)) (aCons (m2 dAdd (mC (.int 4)) (mN f_law_take (aCons (mVar 0) (aCons (mC (.int 90)) aNil)))) aNil)))) (mN f_law_take (aCons (mVar 0) (aCons (mC (.int 3)) aNil)))) aNil))) (gSubD (m2 dIx (mVar 3) (mVar 4)) (mVar 5))))))
  (sRet (mVar 3))))))))))
def f_law_spoilt_rule : List D → S → R D := mkFn 2 7 m_law_spoilt_rule
theorem ar_law_spoilt_rule : ∀ ds s, ds.length ≠ 2 → f_law_spoilt_rule ds s = .bad := mkFn_arity
/-- _law_parts: 0 deck, 1 mode, 2 size, 3 rule, 4 sharing, 5 lease, 6 grip -/
def m_law_parts : MS := (ssCons (sSet 1 (mN f_law_word (aCons (mVar 0) (aCons (mN dLst (aCons (mC (.str "held")) (aCons (mC (.str "held")) (aCons (mC (.str "copied")) (aCons (mC (.str "refused")) aNil))))) (aCons (mN dLst (aCons (mC (.str "hold")) (aCons (mC (.str "")) (aCons (mC (.str "Held")) (aCons (mC (.str "refused ")) aNil))))) aNil)))))
  (ssCons (sSet 2 (m2 dAdd (mC (.int 1)) (mN f_law_take (aCons (mVar 0) (aCons (mC (.int 4)) aNil)))))
  (ssCons (sSet 3 (mN f_law_rule (aCons (mVar 0) (aCons (mVar 2) aNil))))
  (ssCons (sIf (tBool (m2 dEq (mN f_law_take (aCons (mVar 0) (aCons (mC (.int 5)) aNil))) (mC (.int 0))))
  (sSet 3 (mN f_law_spoilt_rule (aCons (mVar 0) (aCons (mVar 2) aNil))))
  ssNil)
  (ssCons (sIf (tAnd2 (tBool (m2 dNe (mVar 1) (mC (.str "held")))) (tBool (m2 dEq (mN f_law_take (aCons (mVar 0) (aCons (mC (.int 2)) aNil))) (mC (.int 0)))))
  (ssCons (sSet 3 (mN dNew (aCons (mN dNew (aCons (mN dTup (aCons (mC (.int 0)) (aCons (mC (.int 0)) aNil))) (aCons (mN dTup (aCons (mC (.int 0)) (aCons (mC (.int 0)) aNil))) (aCons (mN dTup (aCons (mC (.int 0)) (aCons (mC (.int 0)) aNil))) (aCons (mN dTup (aCons (mC (.int 0)) (aCons (mC (.int 0)) aNil))) (aCons (mN dTup (aCons (mC (.int 0)) (aCons (mC (.int 0)) aNil))) (aCons (mN dTup (aCons (mC (.int 0)) (aCons (mC (.int 0)) aNil))) aNil))))))) aNil)))
  (ssCons (sIf (tBool (m2 dEq (mN f_law_take (aCons (mVar 0) (aCons (mC (.int 5)) aNil))) (mC (.int 0))))
  (sAsg (mN dTup (aCons (mC (.int 0)) (aCons (m2 dSub (mC (.int 1)) (m2 dMul (mC (.int 2)) (mN f_law_take (aCons (mVar 0) (aCons (mC (.int 2)) aNil))))) aNil))) (gSubD (m2 dIx (mVar 3) (mC (.int 0))) (mN f_law_take (aCons (mVar 0) (aCons (mC (.int 6)) aNil)))))
  ssNil)
  (ssCons (sSet 4 (mN f_law_word (aCons (mVar 0) (aCons (mN dLst (aCons (mC (.str "one")) aNil)) (aCons (mN dLst (aCons (mC (.str "each")) (aCons (mC (.str "all")) aNil))) aNil)))))
  (ssCons (sSet 5 (mN f_law_word (aCons (mVar 0) (aCons (mN dLst (aCons (mC (.str "always")) aNil)) (aCons (mN dLst (aCons (mC (.str "call")) (aCons (mC (.str "calls")) aNil))) aNil)))))
  (ssCons (sSet 6 (mN f_law_word (aCons (mVar 0) (aCons (mN dLst (aCons (mC (.str "slot")) aNil)) (aCons (mN dLst (aCons (mC (.str "place")) (aCons (mC (.str "pin")) (aCons (mC (.str "slots")) aNil)))) aNil)))))
  (sRet (mN dLst (aCons (mVar 1) (aCons (mVar 4) (aCons (mVar 5) (aCons (mVar 6) (aCons (mVar 3) aNil))))))))))))
  ssNil)
  (ssCons (sSet 4 (mN f_law_word (aCons (mVar 0) (aCons (mN dLst (aCons (mC (.str "one")) (aCons (mC (.str "each")) aNil))) (aCons (mN dLst (aCons (mC (.str "both")) (aCons (mC (.str "")) (aCons (mC (.str "One")) aNil)))) aNil)))))
  (ssCons (sSet 5 (mN f_law_word (aCons (mVar 0) (aCons (mN dLst (aCons (mC (.str "always")) (aCons (mC (.str "call")) aNil))) (aCons (mN dLst (aCons (mC (.str "never")) (aCons (mC (.str "")) (aCons (mC (.str "calls")) aNil)))) aNil)))))
  (ssCons (sSet 6 (mN f_law_word (aCons (mVar 0) (aCons (mN dLst (aCons (mC (.str "slot")) (aCons (mC (.str "place")) (aCons (mC (.str "pin")) aNil)))) (aCons (mN dLst (aCons (mC (.str "pins")) (aCons (mC (.str "")) (aCons (mC (.str "slot,")) aNil)))) aNil)))))
  (sRet (mN dLst (aCons (mVar 1) (aCons (mVar 4) (aCons (mVar 5) (aCons (mVar 6) (aCons (mVar 3) aNil)))))))))))))))
def f_law_parts : List D → S → R D := mkFz (mkFn 1 7 m_law_parts)
theorem ar_law_parts : ∀ ds s, ds.length ≠ 1 → f_law_parts ds s = .bad := mkFz_arity mkFn_arity
/-- _law_rule_in_order: 0 rule, 1 mark, 2 pair -/
def m_law_rule_in_order : MS := (ssCons (sIf (tNot1 (tBool (mChain dLe dLe (mC (.int 1)) (mN dLen (aCons (mVar 0) aNil)) (mC (.int 4)))))
  (sRet (mC (.bl false)))
  ssNil)
  (ssCons (sFor (iAny (mVar 0)) (gSlot 1)
  (ssCons (sIf (tBool (m2 dNe (mN dLen (aCons (mVar 1) aNil)) (mC (.int 6))))
  (sRet (mC (.bl false)))
  ssNil)
  (sFor (iAny (mVar 1)) (gSlot 2)
  (sIf (tOr2 (tNot1 (tBool (mChain dLe dLt (mC (.int 0)) (m2 dIx (mVar 2) (mC (.int 0))) (mN dLen (aCons (mVar 0) aNil))))) (tNot1 (tBool (mChain dLe dLe (m1 dNeg (mC (.int 3))) (m2 dIx (mVar 2) (mC (.int 1))) (mC (.int 3))))))
  (sRet (mC (.bl false)))
  ssNil))))
  (sRet (mC (.bl true)))))
def f_law_rule_in_order : List D → S → R D := mkFn 1 3 m_law_rule_in_order
theorem ar_law_rule_in_order : ∀ ds s, ds.length ≠ 1 → f_law_rule_in_order ds s = .bad := mkFn_arity
/-- _law_first_wrong: 0 parts, 1 held -/
def m_law_first_wrong : MS := (ssCons (sSet 1 (m2 dEq (m2 dIx (mVar 0) (mC (.int 0))) (mC (.str "held"))))
  (ssCons (sIf (tBool (m2 dNotIn (m2 dIx (mVar 0) (mC (.int 0))) (mN dTup (aCons (mC (.str "held")) (aCons (mC (.str "copied")) (aCons (mC (.str "refused")) aNil))))))
  (sRet (mC (.str "mode")))
  ssNil)
  (ssCons (sIf (tAnd2 (tBool (m2 dNe (m2 dIx (mVar 0) (mC (.int 1))) (mC (.str "one")))) (tOr2 (tBool (m2 dNe (m2 dIx (mVar 0) (mC (.int 1))) (mC (.str "each")))) (tNot1 (tTru dTru (mVar 1)))))
  (sRet (mC (.str "sharing")))
  ssNil)
  (ssCons (sIf (tAnd2 (tBool (m2 dNe (m2 dIx (mVar 0) (mC (.int 2))) (mC (.str "always")))) (tOr2 (tBool (m2 dNe (m2 dIx (mVar 0) (mC (.int 2))) (mC (.str "call")))) (tNot1 (tTru dTru (mVar 1)))))
  (sRet (mC (.str "lease")))
  ssNil)
  (ssCons (sIf (tAnd2 (tBool (m2 dNe (m2 dIx (mVar 0) (mC (.int 3))) (mC (.str "slot")))) (tOr2 (tBool (m2 dNotIn (m2 dIx (mVar 0) (mC (.int 3))) (mN dTup (aCons (mC (.str "place")) (aCons (mC (.str "pin")) aNil))))) (tNot1 (tTru dTru (mVar 1)))))
  (sRet (mC (.str "grip")))
  ssNil)
  (ssCons (sIf (tNot1 (tTru dTru (mN f_law_rule_in_order (aCons (m2 dIx (mVar 0) (mC (.int 4))) aNil))))
  (sRet (mC (.str "rule")))
  ssNil)
  (ssCons (sIf (tAnd2 (tNot1 (tTru dTru (mVar 1))) (tBool (m2 dNe (m2 dIx (mVar 0) (mC (.int 4))) (mN dLst (aCons (mN dLst (aCons (mN dTup (aCons (mC (.int 0)) (aCons (mC (.int 0)) aNil))) (aCons (mN dTup (aCons (mC (.int 0)) (aCons (mC (.int 0)) aNil))) (aCons (mN dTup (aCons (mC (.int 0)) (aCons (mC (.int 0)) aNil))) (aCons (mN dTup (aCons (mC (.int 0)) (aCons (mC (.int 0)) aNil))) (aCons (mN dTup (aCons (mC (.int 0)) (aCons (mC (.int 0)) aNil))) (aCons (mN dTup (aCons (mC (.int 0)) (aCons (mC (.int 0)) aNil))) aNil))))))) aNil)))))
  (sRet (mC (.str "rule")))
  ssNil)
  (sRet (mC (.str ""))))))))))
def f_law_first_wrong : List D → S → R D := mkFn 1 2 m_law_first_wrong
theorem ar_law_first_wrong : ∀ ds s, ds.length ≠ 1 → f_law_first_wrong ds s = .bad := mkFn_arity
/-- is_mark: 0 mark, 1 marks, 2 follow, 3 change -/
def m_is_mark : MS := (ssCons (sIf (tBool (m2 dNe (mN dLen (aCons (mVar 0) aNil)) (mN dLen (aCons c_EVENTS aNil))))
  (sRet (mC (.bl false)))
  ssNil)
  (ssCons (sFor (iAny (mVar 0)) (gTupD 2 (gsCons (gSlot 2) (gsCons (gSlot 3) gsNil)))
  (sIf (tOr2 (tNot1 (tBool (mChain dLe dLt (mC (.int 0)) (mVar 2) (mVar 1)))) (tBool (m2 dGt (mN dAbs (aCons (mVar 3) aNil)) c_MOST_CHANGE)))
  (sRet (mC (.bl false)))
  ssNil))
  (sRet (mC (.bl true)))))
def f_is_mark : List D → S → R D := mkFn 2 4 m_is_mark
theorem ar_is_mark : ∀ ds s, ds.length ≠ 2 → f_is_mark ds s = .bad := mkFn_arity
/-- is_rule: 0 rule, 1 mark -/
def m_is_rule : MS := (ssCons (sIf (tNot1 (tBool (mChain dLe dLe (mC (.int 1)) (mN dLen (aCons (mVar 0) aNil)) c_MOST_MARKS)))
  (sRet (mC (.bl false)))
  ssNil)
  (ssCons (sFor (iAny (mVar 0)) (gSlot 1)
  (sIf (tNot1 (tTru dTru (mN f_is_mark (aCons (mVar 1) (aCons (mN dLen (aCons (mVar 0) aNil)) aNil)))))
  (sRet (mC (.bl false)))
  ssNil))
  (sRet (mC (.bl true)))))
def f_is_rule : List D → S → R D := mkFn 1 2 m_is_rule
theorem ar_is_rule : ∀ ds s, ds.length ≠ 1 → f_is_rule ds s = .bad := mkFn_arity
/-- Row.__init__: 0 self, 1 mode, 2 sharing, 3 lease, 4 grip, 5 rule, 6 held, 7 marks, 8 mark, 9 pair -/
def m_Row_init : MS := (ssCons (sIf (tBool (m2 dNotIn (mVar 1) c_MODES))
  (sRaise "InvalidRow" x_InvalidRow (aCons (mC (.str "mode")) aNil))
  ssNil)
  (ssCons (sSet 6 (m2 dEq (mVar 1) (mC (.str "held"))))
  (ssCons (sIf (tOr2 (tBool (m2 dNotIn (mVar 2) c_SHARINGS)) (tAnd2 (tNot1 (tTru dTru (mVar 6))) (tBool (m2 dNe (mVar 2) (mC (.str "one"))))))
  (sRaise "InvalidRow" x_InvalidRow (aCons (mC (.str "sharing")) aNil))
  ssNil)
  (ssCons (sIf (tOr2 (tBool (m2 dNotIn (mVar 3) c_LEASES)) (tAnd2 (tNot1 (tTru dTru (mVar 6))) (tBool (m2 dNe (mVar 3) (mC (.str "always"))))))
  (sRaise "InvalidRow" x_InvalidRow (aCons (mC (.str "lease")) aNil))
  ssNil)
  (ssCons (sIf (tOr2 (tBool (m2 dNotIn (mVar 4) c_GRIPS)) (tAnd2 (tNot1 (tTru dTru (mVar 6))) (tBool (m2 dNe (mVar 4) (mC (.str "slot"))))))
  (sRaise "InvalidRow" x_InvalidRow (aCons (mC (.str "grip")) aNil))
  ssNil)
  (ssCons (sSet 7 (mN dNew aNil))
  (ssCons (sFor (iAny (mVar 5)) (gSlot 8)
  (sExpr (mMt "list" dAppend (mVar 7) (aCons (mN dTuple (aCons (mLc (iAny (mVar 8)) (gSlot 9) tAll (mN dTuple (aCons (mVar 9) aNil)) [9]) aNil)) aNil))))
  (ssCons (sIf (tOr2 (tNot1 (tTru dTru (mN f_is_rule (aCons (mVar 7) aNil)))) (tAnd2 (tNot1 (tTru dTru (mVar 6))) (tBool (m2 dNe (mVar 7) (mN dLst (aCons c_STILL aNil))))))
  (sRaise "InvalidRow" x_InvalidRow (aCons (mC (.str "rule")) aNil))
  ssNil)
  (ssCons (sFldD "mode" ["Row"] (mVar 0) (mVar 1))
  (ssCons (sFldD "sharing" ["Row"] (mVar 0) (mVar 2))
  (ssCons (sFldD "lease" ["Row"] (mVar 0) (mVar 3))
  (ssCons (sFldD "grip" ["Row"] (mVar 0) (mVar 4))
  (sFldD "rule" ["Row"] (mVar 0) (mN dTuple (aCons (mVar 7) aNil)))))))))))))))
def f_Row_init : List D → S → R D := mkFn 6 10 m_Row_init
theorem ar_Row_init : ∀ ds s, ds.length ≠ 6 → f_Row_init ds s = .bad := mkFn_arity
/-- _law_refused: 0 parts, 1 what, 2 e, 3 mark -/
def m_law_refused : MS := (ssCons (sTry (sExpr (mFz (mMake "Row" f_Row_init (aCons (m2 dIx (mVar 0) (mC (.int 0))) (aCons (m2 dIx (mVar 0) (mC (.int 1))) (aCons (m2 dIx (mVar 0) (mC (.int 2))) (aCons (m2 dIx (mVar 0) (mC (.int 3))) (aCons (mLc (iAny (m2 dIx (mVar 0) (mC (.int 4)))) (gSlot 3) tAll (mN (dList false) (aCons (mVar 3) aNil)) [3]) aNil)))))))) [⟨tabF [("InvalidRow", true)], some 2, fun k => (ssCons (sIf (tOr2 (tNot1 (tTru dTru (mXis k (tabF [("InvalidRow", true)]) (mVar 2)))) (tNot1 (tTru dTru (mXis k (tabF [("InvalidRow", true)]) (mVar 2)))))
  (sRet (mC (.bl false)))
  ssNil)
  (ssCons (sIf (tOr2 (tTru dTru (mXis k (tabF [("InvalidRow", false)]) (mVar 2))) (tTru dTru (mXis k (tabF [("InvalidRow", false)]) (mVar 2))))
  (sRet (mC (.bl false)))
  ssNil)
  (sRet (mAnd (mIsi ["str"] (mXf k "what" ["InvalidRow"] (mVar 2))) (m2 dEq (mXf k "what" ["InvalidRow"] (mVar 2)) (mVar 1))))))⟩])
  (sRet (mC (.bl false))))
def f_law_refused : List D → S → R D := mkFz (mkFn 2 4 m_law_refused)
theorem ar_law_refused : ∀ ds s, ds.length ≠ 2 → f_law_refused ds s = .bad := mkFz_arity mkFn_arity
/-- _law_whole: 0 value -/
def m_law_whole : MS := (sRet (mAnd (mIsi ["int"] (mVar 0)) (mNot (mIsi ["bool"] (mVar 0)))))
def f_law_whole : List D → S → R D := mkFn 1 1 m_law_whole
theorem ar_law_whole : ∀ ds s, ds.length ≠ 1 → f_law_whole ds s = .bad := mkFn_arity
/-- _law_same_rule: 0 rule, 1 marks, 2 at, 3 event, 4 pair -/
def m_law_same_rule : MS := (ssCons (sIf (tOr2 (tNot1 (tTru dTru (mIsi ["tuple"] (mVar 0)))) (tBool (m2 dNe (mN dLen (aCons (mVar 0) aNil)) (mN dLen (aCons (mVar 1) aNil)))))
  (sRet (mC (.bl false)))
  ssNil)
  (ssCons (sFor (iRange1 (mN dLen (aCons (mVar 1) aNil))) (gSlot 2)
  (ssCons (sIf (tOr2 (tNot1 (tTru dTru (mIsi ["tuple"] (m2 dIx (mVar 0) (mVar 2))))) (tBool (m2 dNe (mN dLen (aCons (m2 dIx (mVar 0) (mVar 2)) aNil)) (mC (.int 6)))))
  (sRet (mC (.bl false)))
  ssNil)
  (sFor (iRange1 (mC (.int 6))) (gSlot 3)
  (ssCons (sSet 4 (m2 dIx (m2 dIx (mVar 0) (mVar 2)) (mVar 3)))
  (ssCons (sIf (tOr2 (tNot1 (tTru dTru (mIsi ["tuple"] (mVar 4)))) (tBool (m2 dNe (mN dLen (aCons (mVar 4) aNil)) (mC (.int 2)))))
  (sRet (mC (.bl false)))
  ssNil)
  (sIf (tOr2 (tNot1 (tTru dTru (mN f_law_whole (aCons (m2 dIx (mVar 4) (mC (.int 0))) aNil)))) (tOr2 (tNot1 (tTru dTru (mN f_law_whole (aCons (m2 dIx (mVar 4) (mC (.int 1))) aNil)))) (tBool (m2 dNe (mVar 4) (m2 dIx (m2 dIx (mVar 1) (mVar 2)) (mVar 3))))))
  (sRet (mC (.bl false)))
  ssNil))))))
  (sRet (mC (.bl true)))))
def f_law_same_rule : List D → S → R D := mkFn 2 5 m_law_same_rule
theorem ar_law_same_rule : ∀ ds s, ds.length ≠ 2 → f_law_same_rule ds s = .bad := mkFn_arity
/-- _law_fields: 0 row, 1 parts, 2 word -/
def m_law_fields : MS := (ssCons (sFor (iAny (mN dTup (aCons (mFld "mode" ["Row"] (mVar 0)) (aCons (mFld "sharing" ["Row"] (mVar 0)) (aCons (mFld "lease" ["Row"] (mVar 0)) (aCons (mFld "grip" ["Row"] (mVar 0)) aNil)))))) (gSlot 2)
  (sIf (tNot1 (tTru dTru (mIsi ["str"] (mVar 2))))
  (sRet (mC (.bl false)))
  ssNil))
  (ssCons (sIf (tOr2 (tBool (m2 dNe (mFld "mode" ["Row"] (mVar 0)) (m2 dIx (mVar 1) (mC (.int 0))))) (tOr2 (tBool (m2 dNe (mFld "sharing" ["Row"] (mVar 0)) (m2 dIx (mVar 1) (mC (.int 1))))) (tOr2 (tBool (m2 dNe (mFld "lease" ["Row"] (mVar 0)) (m2 dIx (mVar 1) (mC (.int 2))))) (tBool (m2 dNe (mFld "grip" ["Row"] (mVar 0)) (m2 dIx (mVar 1) (mC (.int 3))))))))
  (sRet (mC (.bl false)))
  ssNil)
  (sRet (mN f_law_same_rule (aCons (mFld "rule" ["Row"] (mVar 0)) (aCons (m2 dIx (mVar 1) (mC (.int 4))) aNil))))))
def f_law_fields : List D → S → R D := mkFn 2 3 m_law_fields
theorem ar_law_fields : ∀ ds s, ds.length ≠ 2 → f_law_fields ds s = .bad := mkFn_arity
/-- _law_built: 0 parts, 1 passed, 2 row, 3 mark -/
def m_law_built : MS := (ssCons (sSet 1 (mLcN (iAny (m2 dIx (mVar 0) (mC (.int 4)))) (gSlot 3) tAll (mN (dList true) (aCons (mVar 3) aNil)) [3]))
  (ssCons (sSet 2 (mFz (mMake "Row" f_Row_init (aCons (m2 dIx (mVar 0) (mC (.int 0))) (aCons (m2 dIx (mVar 0) (mC (.int 1))) (aCons (m2 dIx (mVar 0) (mC (.int 2))) (aCons (m2 dIx (mVar 0) (mC (.int 3))) (aCons (mVar 1) aNil))))))))
  (ssCons (sIf (tOr2 (tBool (m2 dNe (mVar 1) (m2 dIx (mVar 0) (mC (.int 4))))) (tNot1 (tTru dTru (mN f_law_fields (aCons (mVar 2) (aCons (mVar 0) aNil))))))
  (sRet (mC (.bl false)))
  ssNil)
  (ssCons (sAsg (mN dTup (aCons (mC (.int 0)) (aCons (mC (.int 2)) aNil))) (gSubD (m2 dIx (mVar 1) (mC (.int 0))) (mC (.int 2))))
  (ssCons (sExpr (mMt "list" dAppend (mVar 1) (aCons (mN dLst (aCons (mN dTup (aCons (mC (.int 0)) (aCons (mC (.int 1)) aNil))) (aCons (mN dTup (aCons (mC (.int 0)) (aCons (mC (.int 1)) aNil))) (aCons (mN dTup (aCons (mC (.int 0)) (aCons (mC (.int 1)) aNil))) (aCons (mN dTup (aCons (mC (.int 0)) (aCons (mC (.int 1)) aNil))) (aCons (mN dTup (aCons (mC (.int 0)) (aCons (mC (.int 1)) aNil))) (aCons (mN dTup (aCons (mC (.int 0)) (aCons (mC (.int 1)) aNil))) aNil))))))) aNil)))
  (sRet (mN f_law_fields (aCons (mVar 2) (aCons (mVar 0) aNil)))))))))
def f_law_built : List D → S → R D := mkFz (mkFn 1 4 m_law_built)
theorem ar_law_built : ∀ ds s, ds.length ≠ 1 → f_law_built ds s = .bad := mkFz_arity mkFn_arity
/-- plain_row: 0 mode -/
def m_plain_row : MS := (ssCons (sIf (tBool (m2 dEq (mVar 0) (mC (.str "held"))))
  (sRaise "InvalidRow" x_InvalidRow (aCons (mC (.str "mode")) aNil))
  ssNil)
  (sRet (mFz (mMake "Row" f_Row_init (aCons (mVar 0) (aCons (mC (.str "one")) (aCons (mC (.str "always")) (aCons (mC (.str "slot")) (aCons (mN dLst (aCons c_STILL aNil)) aNil)))))))))
def f_plain_row : List D → S → R D := mkFn 1 1 m_plain_row
theorem ar_plain_row : ∀ ds s, ds.length ≠ 1 → f_plain_row ds s = .bad := mkFn_arity
/-- _law_plain: 0 mode, 1 still, 2 row, 3 e -/
def m_law_plain : MS := (ssCons (sSet 1 (mN dLst (aCons (mN dLst (aCons (mN dTup (aCons (mC (.int 0)) (aCons (mC (.int 0)) aNil))) (aCons (mN dTup (aCons (mC (.int 0)) (aCons (mC (.int 0)) aNil))) (aCons (mN dTup (aCons (mC (.int 0)) (aCons (mC (.int 0)) aNil))) (aCons (mN dTup (aCons (mC (.int 0)) (aCons (mC (.int 0)) aNil))) (aCons (mN dTup (aCons (mC (.int 0)) (aCons (mC (.int 0)) aNil))) (aCons (mN dTup (aCons (mC (.int 0)) (aCons (mC (.int 0)) aNil))) aNil))))))) aNil)))
  (ssCons (sTry (sSet 2 (mN f_plain_row (aCons (mVar 0) aNil))) [⟨tabF [("InvalidRow", true)], some 3, fun k => (sRet (mAnd (m2 dNotIn (mVar 0) (mN dTup (aCons (mC (.str "copied")) (aCons (mC (.str "refused")) aNil)))) (m2 dEq (mXf k "what" ["InvalidRow"] (mVar 3)) (mC (.str "mode")))))⟩])
  (sRet (mAnd (m2 dIn (mVar 0) (mN dTup (aCons (mC (.str "copied")) (aCons (mC (.str "refused")) aNil)))) (mN f_law_fields (aCons (mVar 2) (aCons (mN dLst (aCons (mVar 0) (aCons (mC (.str "one")) (aCons (mC (.str "always")) (aCons (mC (.str "slot")) (aCons (mVar 1) aNil)))))) aNil)))))))
def f_law_plain : List D → S → R D := mkFz (mkFn 1 4 m_law_plain)
theorem ar_law_plain : ∀ ds s, ds.length ≠ 1 → f_law_plain ds s = .bad := mkFz_arity mkFn_arity
/-- law: 0 script, 1 deck, 2 turn, 3 parts, 4 what, 5 mode -/
def m_law : MS := (ssCons (sSet 1 (mN f_law_deck (aCons (mVar 0) (aCons (mC (.int 12)) (aCons (mC (.int 12)) aNil)))))
  (ssCons (sIf (tBool (m2 dNe c_EVENTS (mC (.str "LGHRFD"))))
  (sRet (mC (.bl false)))
  ssNil)
  (ssCons (sFor (iRange1 (mC (.int 3))) (gSlot 2)
  (ssCons (sSet 3 (mN f_law_parts (aCons (mVar 1) aNil)))
  (ssCons (sSet 4 (mN f_law_first_wrong (aCons (mVar 3) aNil)))
  (ssCons (sIf (tAnd2 (tBool (m2 dNe (mVar 4) (mC (.str "")))) (tNot1 (tTru dTru (mN f_law_refused (aCons (mVar 3) (aCons (mVar 4) aNil))))))
  (sRet (mC (.bl false)))
  ssNil)
  (sIf (tAnd2 (tBool (m2 dEq (mVar 4) (mC (.str "")))) (tNot1 (tTru dTru (mN f_law_built (aCons (mVar 3) aNil)))))
  (sRet (mC (.bl false)))
  ssNil)))))
  (ssCons (sFor (iAny (mN dTup (aCons (mC (.str "copied")) (aCons (mC (.str "refused")) (aCons (mC (.str "held")) (aCons (mC (.str "hold")) (aCons (mC (.str "Copied")) (aCons (mC (.str "")) aNil)))))))) (gSlot 5)
  (sIf (tNot1 (tTru dTru (mN f_law_plain (aCons (mVar 5) aNil))))
  (sRet (mC (.bl false)))
  ssNil))
  (sRet (mC (.bl true)))))))
def f_law : List D → S → R D := mkFn 1 6 m_law
theorem ar_law : ∀ ds s, ds.length ≠ 1 → f_law ds s = .bad := mkFn_arity
end
end K46
namespace K46
open PySem PySem.Spec PyProof.Rows L2 Pm
noncomputable section
structure Gs where
  a_law_deck : Addr
  fd_law_deck : FuncData
  a_law_take : Addr
  fd_law_take : FuncData
  a_law_word : Addr
  fd_law_word : FuncData
  a_law_rule : Addr
  fd_law_rule : FuncData
  a_law_spoilt_rule : Addr
  fd_law_spoilt_rule : FuncData
  a_law_parts : Addr
  fd_law_parts : FuncData
  a_law_rule_in_order : Addr
  fd_law_rule_in_order : FuncData
  a_law_first_wrong : Addr
  fd_law_first_wrong : FuncData
  a_is_mark : Addr
  fd_is_mark : FuncData
  a_is_rule : Addr
  fd_is_rule : FuncData
  a_Row_init : Addr
  fd_Row_init : FuncData
  a_law_refused : Addr
  fd_law_refused : FuncData
  a_law_whole : Addr
  fd_law_whole : FuncData
  a_law_same_rule : Addr
  fd_law_same_rule : FuncData
  a_law_fields : Addr
  fd_law_fields : FuncData
  a_law_built : Addr
  fd_law_built : FuncData
  a_plain_row : Addr
  fd_plain_row : FuncData
  a_law_plain : Addr
  fd_law_plain : FuncData
  a_law : Addr
  fd_law : FuncData
  a_InvalidRow_init : Addr
  fd_InvalidRow_init : FuncData
  C_Row : Addr
  C_InvalidRow : Addr
  C_InvalidMap : Addr
  C_ImpossibleLife : Addr
  C_BridgeError : Addr
structure GOk (w : World) (K : PySem.W.Frag) (mg : Str → Option Value) (cl : Str → Option Addr) (g : Gs) : Prop where
  F_law_deck : Fun K "_law_deck" "_law_deck" s_law_deck g.a_law_deck g.fd_law_deck
  b_law_deck : Binds K g.fd_law_deck ["script", "cells", "each"] []
  k_law_deck : PySem.W.keepIn K (.ref g.a_law_deck) = true
  g_law_deck : mg "_law_deck" = some (.ref g.a_law_deck)
  F_law_take : Fun K "_law_take" "_law_take" s_law_take g.a_law_take g.fd_law_take
  b_law_take : Binds K g.fd_law_take ["deck", "many"] []
  k_law_take : PySem.W.keepIn K (.ref g.a_law_take) = true
  g_law_take : mg "_law_take" = some (.ref g.a_law_take)
  F_law_word : Fun K "_law_word" "_law_word" s_law_word g.a_law_word g.fd_law_word
  b_law_word : Binds K g.fd_law_word ["deck", "good", "bad"] []
  k_law_word : PySem.W.keepIn K (.ref g.a_law_word) = true
  g_law_word : mg "_law_word" = some (.ref g.a_law_word)
  F_law_rule : Fun K "_law_rule" "_law_rule" s_law_rule g.a_law_rule g.fd_law_rule
  b_law_rule : Binds K g.fd_law_rule ["deck", "size"] []
  k_law_rule : PySem.W.keepIn K (.ref g.a_law_rule) = true
  g_law_rule : mg "_law_rule" = some (.ref g.a_law_rule)
  F_law_spoilt_rule : Fun K "_law_spoilt_rule" "_law_spoilt_rule" s_law_spoilt_rule g.a_law_spoilt_rule g.fd_law_spoilt_rule
  b_law_spoilt_rule : Binds K g.fd_law_spoilt_rule ["deck", "size"] []
  k_law_spoilt_rule : PySem.W.keepIn K (.ref g.a_law_spoilt_rule) = true
  g_law_spoilt_rule : mg "_law_spoilt_rule" = some (.ref g.a_law_spoilt_rule)
  F_law_parts : Fun K "_law_parts" "_law_parts" s_law_parts g.a_law_parts g.fd_law_parts
  b_law_parts : Binds K g.fd_law_parts ["deck"] []
  k_law_parts : PySem.W.keepIn K (.ref g.a_law_parts) = true
  g_law_parts : mg "_law_parts" = some (.ref g.a_law_parts)
  F_law_rule_in_order : Fun K "_law_rule_in_order" "_law_rule_in_order" s_law_rule_in_order g.a_law_rule_in_order g.fd_law_rule_in_order
  b_law_rule_in_order : Binds K g.fd_law_rule_in_order ["rule"] []
  k_law_rule_in_order : PySem.W.keepIn K (.ref g.a_law_rule_in_order) = true
  g_law_rule_in_order : mg "_law_rule_in_order" = some (.ref g.a_law_rule_in_order)
  F_law_first_wrong : Fun K "_law_first_wrong" "_law_first_wrong" s_law_first_wrong g.a_law_first_wrong g.fd_law_first_wrong
  b_law_first_wrong : Binds K g.fd_law_first_wrong ["parts"] []
  k_law_first_wrong : PySem.W.keepIn K (.ref g.a_law_first_wrong) = true
  g_law_first_wrong : mg "_law_first_wrong" = some (.ref g.a_law_first_wrong)
  F_is_mark : Fun K "is_mark" "is_mark" s_is_mark g.a_is_mark g.fd_is_mark
  b_is_mark : Binds K g.fd_is_mark ["mark", "marks"] []
  k_is_mark : PySem.W.keepIn K (.ref g.a_is_mark) = true
  g_is_mark : mg "is_mark" = some (.ref g.a_is_mark)
  F_is_rule : Fun K "is_rule" "is_rule" s_is_rule g.a_is_rule g.fd_is_rule
  b_is_rule : Binds K g.fd_is_rule ["rule"] []
  k_is_rule : PySem.W.keepIn K (.ref g.a_is_rule) = true
  g_is_rule : mg "is_rule" = some (.ref g.a_is_rule)
  F_Row_init : Fun K "__init__" "Row.__init__" s_Row_init g.a_Row_init g.fd_Row_init
  b_Row_init : Binds K g.fd_Row_init ["self", "mode", "sharing", "lease", "grip", "rule"] []
  k_Row_init : PySem.W.keepIn K (.ref g.a_Row_init) = true
  F_law_refused : Fun K "_law_refused" "_law_refused" s_law_refused g.a_law_refused g.fd_law_refused
  b_law_refused : Binds K g.fd_law_refused ["parts", "what"] []
  k_law_refused : PySem.W.keepIn K (.ref g.a_law_refused) = true
  g_law_refused : mg "_law_refused" = some (.ref g.a_law_refused)
  F_law_whole : Fun K "_law_whole" "_law_whole" s_law_whole g.a_law_whole g.fd_law_whole
  b_law_whole : Binds K g.fd_law_whole ["value"] []
  k_law_whole : PySem.W.keepIn K (.ref g.a_law_whole) = true
  g_law_whole : mg "_law_whole" = some (.ref g.a_law_whole)
  F_law_same_rule : Fun K "_law_same_rule" "_law_same_rule" s_law_same_rule g.a_law_same_rule g.fd_law_same_rule
  b_law_same_rule : Binds K g.fd_law_same_rule ["rule", "marks"] []
  k_law_same_rule : PySem.W.keepIn K (.ref g.a_law_same_rule) = true
  g_law_same_rule : mg "_law_same_rule" = some (.ref g.a_law_same_rule)
  F_law_fields : Fun K "_law_fields" "_law_fields" s_law_fields g.a_law_fields g.fd_law_fields
  b_law_fields : Binds K g.fd_law_fields ["row", "parts"] []
  k_law_fields : PySem.W.keepIn K (.ref g.a_law_fields) = true
  g_law_fields : mg "_law_fields" = some (.ref g.a_law_fields)
  F_law_built : Fun K "_law_built" "_law_built" s_law_built g.a_law_built g.fd_law_built
  b_law_built : Binds K g.fd_law_built ["parts"] []
  k_law_built : PySem.W.keepIn K (.ref g.a_law_built) = true
  g_law_built : mg "_law_built" = some (.ref g.a_law_built)
  F_plain_row : Fun K "plain_row" "plain_row" s_plain_row g.a_plain_row g.fd_plain_row
  b_plain_row : Binds K g.fd_plain_row ["mode"] []
  k_plain_row : PySem.W.keepIn K (.ref g.a_plain_row) = true
  g_plain_row : mg "plain_row" = some (.ref g.a_plain_row)
  F_law_plain : Fun K "_law_plain" "_law_plain" s_law_plain g.a_law_plain g.fd_law_plain
  b_law_plain : Binds K g.fd_law_plain ["mode"] []
  k_law_plain : PySem.W.keepIn K (.ref g.a_law_plain) = true
  g_law_plain : mg "_law_plain" = some (.ref g.a_law_plain)
  F_law : Fun K "law" "law" s_law g.a_law g.fd_law
  b_law : Binds K g.fd_law ["script"] []
  k_law : PySem.W.keepIn K (.ref g.a_law) = true
  g_law : mg "law" = some (.ref g.a_law)
  gc_Row : mg "Row" = some (.ref g.C_Row)
  cl_Row : cl "Row" = some g.C_Row
  cls_Row : Cls K g.C_Row
  mk_Row : Mk K g.C_Row g.a_Row_init
  na_Row_grip : NoAttr K g.C_Row "grip"
  na_Row_lease : NoAttr K g.C_Row "lease"
  na_Row_mode : NoAttr K g.C_Row "mode"
  na_Row_rule : NoAttr K g.C_Row "rule"
  na_Row_sharing : NoAttr K g.C_Row "sharing"
  F_InvalidRow_init : Fun K "__init__" "InvalidRow.__init__" s_InvalidRow_init g.a_InvalidRow_init g.fd_InvalidRow_init
  b_InvalidRow_init : Binds K g.fd_InvalidRow_init ["self", "what"] []
  cl_InvalidRow : cl "InvalidRow" = some g.C_InvalidRow
  ox_InvalidRow : OexC K g.C_InvalidRow
  ic_InvalidRow : PySem.W.findIn K (.ref g.C_InvalidRow) "__init__" = some (some (.ref g.a_InvalidRow_init))
  ti_InvalidRow : PySem.W.typeIn K (.ref g.a_InvalidRow_init) = some (.type "function")
  xf_InvalidRow : XfC K g.C_InvalidRow
  xi_InvalidRow : XIs K g.C_InvalidRow
  gc_InvalidRow : mg "InvalidRow" = some (.ref g.C_InvalidRow)
  gc_InvalidMap : mg "InvalidMap" = some (.ref g.C_InvalidMap)
  gc_ImpossibleLife : mg "ImpossibleLife" = some (.ref g.C_ImpossibleLife)
  gc_BridgeError : mg "BridgeError" = some (.ref g.C_BridgeError)
  bi_BridgeError : BInit K g.C_BridgeError
  xna_InvalidRow_what : PySem.W.findIn K (.ref g.C_InvalidRow) "what" = some none
  kit_InvalidRow_ImpossibleLife : PySem.W.kitOne K (.ref g.C_InvalidRow) (.ref g.C_ImpossibleLife) = some false
  kit_InvalidRow_InvalidMap : PySem.W.kitOne K (.ref g.C_InvalidRow) (.ref g.C_InvalidMap) = some false
  kit_InvalidRow_InvalidRow : PySem.W.kitOne K (.ref g.C_InvalidRow) (.ref g.C_InvalidRow) = some true
  kit_InvalidRow_ValueError : PySem.W.kitOne K (.ref g.C_InvalidRow) (.type "ValueError") = some true
  xm_InvalidRow_BridgeError : PySem.W.exmOne K (.ref g.C_InvalidRow) (.ref g.C_BridgeError) = some true
  xm_InvalidRow_InvalidRow : PySem.W.exmOne K (.ref g.C_InvalidRow) (.ref g.C_InvalidRow) = some true
  xsg : PySem.W.specialIn K (.builtin "object.__class__") "__get__" = some (some (.builtin "getset_descriptor.__get__"))
  xst : PySem.W.takesIn K (.builtin "object.__class__") = some true
  n_ValueError : mg "ValueError" = none
  n_abs : mg "abs" = none
  n_bool : mg "bool" = none
  n_int : mg "int" = none
  n_isinstance : mg "isinstance" = none
  n_len : mg "len" = none
  n_list : mg "list" = none
  n_max : mg "max" = none
  n_range : mg "range" = none
  n_str : mg "str" = none
  n_tuple : mg "tuple" = none
  v_EVENTS : ∃ v u, mg "EVENTS" = some u ∧ RelV v u ∧ ∀ (cl : Cl) ι H, RelD K w cl ι H d_EVENTS v
  v_GRIPS : ∃ v u, mg "GRIPS" = some u ∧ RelV v u ∧ ∀ (cl : Cl) ι H, RelD K w cl ι H d_GRIPS v
  v_LEASES : ∃ v u, mg "LEASES" = some u ∧ RelV v u ∧ ∀ (cl : Cl) ι H, RelD K w cl ι H d_LEASES v
  v_MODES : ∃ v u, mg "MODES" = some u ∧ RelV v u ∧ ∀ (cl : Cl) ι H, RelD K w cl ι H d_MODES v
  v_MOST_CHANGE : ∃ v u, mg "MOST_CHANGE" = some u ∧ RelV v u ∧ ∀ (cl : Cl) ι H, RelD K w cl ι H d_MOST_CHANGE v
  v_MOST_MARKS : ∃ v u, mg "MOST_MARKS" = some u ∧ RelV v u ∧ ∀ (cl : Cl) ι H, RelD K w cl ι H d_MOST_MARKS v
  v_SHARINGS : ∃ v u, mg "SHARINGS" = some u ∧ RelV v u ∧ ∀ (cl : Cl) ι H, RelD K w cl ι H d_SHARINGS v
  v_STILL : ∃ v u, mg "STILL" = some u ∧ RelV v u ∧ ∀ (cl : Cl) ι H, RelD K w cl ι H d_STILL v
section
variable {P : Program} {w : World} {K : PySem.W.Frag} {mg : Str → Option Value} {base : Heap} {cl : Str → Option Addr} {g : Gs}
theorem GOk.e_EVENTS {X : Cx} {W : Wish} {c1 : Cl} {pos : Pos} (T : GOk X.w X.K mg cl g) (hg : Gl X "EVENTS") (hm : X.mg = mg) : SE X c1 W (.Name "EVENTS" pos) c_EVENTS := by
  obtain ⟨v, u, h1, h2, h3⟩ := T.v_EVENTS
  exact se_glob hg (by rw [hm]; exact h1) h2 (h3 c1)
theorem GOk.e_GRIPS {X : Cx} {W : Wish} {c1 : Cl} {pos : Pos} (T : GOk X.w X.K mg cl g) (hg : Gl X "GRIPS") (hm : X.mg = mg) : SE X c1 W (.Name "GRIPS" pos) c_GRIPS := by
  obtain ⟨v, u, h1, h2, h3⟩ := T.v_GRIPS
  exact se_glob hg (by rw [hm]; exact h1) h2 (h3 c1)
theorem GOk.e_LEASES {X : Cx} {W : Wish} {c1 : Cl} {pos : Pos} (T : GOk X.w X.K mg cl g) (hg : Gl X "LEASES") (hm : X.mg = mg) : SE X c1 W (.Name "LEASES" pos) c_LEASES := by
  obtain ⟨v, u, h1, h2, h3⟩ := T.v_LEASES
  exact se_glob hg (by rw [hm]; exact h1) h2 (h3 c1)
theorem GOk.e_MODES {X : Cx} {W : Wish} {c1 : Cl} {pos : Pos} (T : GOk X.w X.K mg cl g) (hg : Gl X "MODES") (hm : X.mg = mg) : SE X c1 W (.Name "MODES" pos) c_MODES := by
  obtain ⟨v, u, h1, h2, h3⟩ := T.v_MODES
  exact se_glob hg (by rw [hm]; exact h1) h2 (h3 c1)
theorem GOk.e_MOST_CHANGE {X : Cx} {W : Wish} {c1 : Cl} {pos : Pos} (T : GOk X.w X.K mg cl g) (hg : Gl X "MOST_CHANGE") (hm : X.mg = mg) : SE X c1 W (.Name "MOST_CHANGE" pos) c_MOST_CHANGE := by
  obtain ⟨v, u, h1, h2, h3⟩ := T.v_MOST_CHANGE
  exact se_glob hg (by rw [hm]; exact h1) h2 (h3 c1)
theorem GOk.e_MOST_MARKS {X : Cx} {W : Wish} {c1 : Cl} {pos : Pos} (T : GOk X.w X.K mg cl g) (hg : Gl X "MOST_MARKS") (hm : X.mg = mg) : SE X c1 W (.Name "MOST_MARKS" pos) c_MOST_MARKS := by
  obtain ⟨v, u, h1, h2, h3⟩ := T.v_MOST_MARKS
  exact se_glob hg (by rw [hm]; exact h1) h2 (h3 c1)
theorem GOk.e_SHARINGS {X : Cx} {W : Wish} {c1 : Cl} {pos : Pos} (T : GOk X.w X.K mg cl g) (hg : Gl X "SHARINGS") (hm : X.mg = mg) : SE X c1 W (.Name "SHARINGS" pos) c_SHARINGS := by
  obtain ⟨v, u, h1, h2, h3⟩ := T.v_SHARINGS
  exact se_glob hg (by rw [hm]; exact h1) h2 (h3 c1)
theorem GOk.e_STILL {X : Cx} {W : Wish} {c1 : Cl} {pos : Pos} (T : GOk X.w X.K mg cl g) (hg : Gl X "STILL") (hm : X.mg = mg) : SE X c1 W (.Name "STILL" pos) c_STILL := by
  obtain ⟨v, u, h1, h2, h3⟩ := T.v_STILL
  exact se_glob hg (by rw [hm]; exact h1) h2 (h3 c1)
theorem sc_InvalidRow_init : FnScope ["self", "what"] ["self", "what"] (defScope s_InvalidRow_init) := ⟨rfl, rfl, rfl, by decide +kernel, rfl, by decide +kernel, by decide +kernel⟩
theorem okx_InvalidRow (T : GOk w K mg cl g) : FnOk P w K mg base (L2.CX P w) 1 g.a_InvalidRow_init g.fd_InvalidRow_init ["self", "what"] (spX K w ⟨cl, none⟩ g.C_InvalidRow 1 x_InvalidRow) :=
  fnx_ok T.F_InvalidRow_init sc_InvalidRow_init fun cdv A outer s H E hr => sx_body T.ox_InvalidRow T.bi_BridgeError rfl T.gc_BridgeError rfl (Or.inl rfl) (se_op d_add se_str (se_var 1)) (si_cons T.ox_InvalidRow rfl (Or.inl rfl) T.xna_InvalidRow_what (se_var 1) si_nil) (by decide)
theorem sc_law_deck : FnScope ["script", "cells", "each", "deck", "seed", "k", "cell", "rest", "at"] ["script", "cells", "each"] (defScope s_law_deck) := ⟨rfl, rfl, rfl, by decide +kernel, rfl, by decide +kernel, by decide +kernel⟩
theorem ok_law_deck (T : GOk w K mg cl g) : FnOk P w K mg base (L2.CX P w) 1 g.a_law_deck g.fd_law_deck ["script", "cells", "each"] (spD K w ⟨cl, none⟩ 3 f_law_deck) := by
  refine fn_ok T.F_law_deck sc_law_deck fun cdv A outer s H E hr => ?_
  exact (ss_cons (ss_set 3 sc_law_deck.nd (se_new sa_nil))
    (ss_cons (ss_set 4 sc_law_deck.nd (se_op d_add se_int (se_callB d_len rfl T.n_len boot_len (sa_cons (se_var 0) sa_nil))))
    (ss_cons (ss_for (passes_of rfl) rfl (si_range1 rfl T.n_range (se_var 1)) (sg_name 5 sc_law_deck.nd) (ss_cons (ss_set 6 sc_law_deck.nd se_int)
    (ss_cons (ss_if (sb_cmp d_lt (se_var 5) (se_callB d_len rfl T.n_len boot_len (sa_cons (se_var 0) sa_nil))) (ss_one (ss_set 6 sc_law_deck.nd (se_ix (se_var 0) (se_var 5)))) ss_nil)
    (ss_cons (ss_set 7 sc_law_deck.nd (se_callB d_abs rfl T.n_abs boot_abs (sa_cons (se_var 6) sa_nil)))
    (ss_one (ss_if (sb_cmp d_ge (se_var 7) (se_op d_pow se_int se_int)) (ss_one (ss_for (passes_of rfl) rfl (si_range1 rfl T.n_range (se_var 2)) (sg_name 8 sc_law_deck.nd) (ss_cons (ss_expr (se_mt PySem.F.plainAttrs_list PySem.F.slot_list_append PySem.F.type_list_append d_append (se_var 3) (sa_cons (se_op d_mod (se_callTy d_int rfl T.n_int boot_int (sa_cons (se_var 7) sa_nil)) se_int) sa_nil)))
    (ss_one (ss_set 7 sc_law_deck.nd (se_op d_fdiv (se_var 7) se_int)))))) (ss_cons (ss_set 4 sc_law_deck.nd (se_op d_mod (se_callTy d_int rfl T.n_int boot_int (sa_cons (se_op d_add (se_op d_add (se_op d_add (se_op d_mul (se_var 4) se_int) (se_op d_mul se_int (se_var 7))) (se_callTy d_int rfl T.n_int boot_int (sa_cons (se_cmp d_lt (se_var 6) se_int) sa_nil))) (se_var 5)) sa_nil)) se_int))
    (ss_one (ss_for (passes_of rfl) rfl (si_range1 rfl T.n_range (se_var 2)) (sg_name 8 sc_law_deck.nd) (ss_cons (ss_set 4 sc_law_deck.nd (se_op d_mod (se_callTy d_int rfl T.n_int boot_int (sa_cons (se_op d_add (se_op d_add (se_op d_mul (se_var 4) se_int) (se_var 8)) se_int) sa_nil)) se_int))
    (ss_one (ss_expr (se_mt PySem.F.plainAttrs_list PySem.F.slot_list_append PySem.F.type_list_append d_append (se_var 3) (sa_cons (se_op d_mod (se_callTy d_int rfl T.n_int boot_int (sa_cons (se_op d_fdiv (se_var 4) se_int) sa_nil)) se_int) sa_nil))))))))))))))
    (ss_cons (ss_expr (se_mt0 PySem.F.plainAttrs_list PySem.F.slot_list_reverse PySem.F.type_list_reverse d_reverse (se_var 3)))
    (ss_one (ss_ret (se_var 3)))))))
theorem sc_law_take : FnScope ["deck", "many"] ["deck", "many"] (defScope s_law_take) := ⟨rfl, rfl, rfl, by decide +kernel, rfl, by decide +kernel, by decide +kernel⟩
theorem ok_law_take (T : GOk w K mg cl g) : FnOk P w K mg base (L2.CX P w) 1 g.a_law_take g.fd_law_take ["deck", "many"] (spD K w ⟨cl, none⟩ 2 f_law_take) := by
  refine fn_ok T.F_law_take sc_law_take fun cdv A outer s H E hr => ?_
  exact (ss_cons (ss_if (sb_cmp (d_eq (room_u hr)) (se_callB d_len rfl T.n_len boot_len (sa_cons (se_var 0) sa_nil)) se_int) (ss_one (ss_ret se_int)) ss_nil)
    (ss_one (ss_ret (se_op d_mod (se_callTy d_int rfl T.n_int boot_int (sa_cons (se_mt0 PySem.F.plainAttrs_list PySem.F.slot_list_pop PySem.F.type_list_pop d_pop (se_var 0)) sa_nil)) (se_var 1)))))
theorem sc_law_word : FnScope ["deck", "good", "bad"] ["deck", "good", "bad"] (defScope s_law_word) := ⟨rfl, rfl, rfl, by decide +kernel, rfl, by decide +kernel, by decide +kernel⟩
theorem ok_law_word (T : GOk w K mg cl g) : FnOk P w K mg base (L2.CX P w) 2 g.a_law_word g.fd_law_word ["deck", "good", "bad"] (spD K w ⟨cl, none⟩ 3 f_law_word) := by
  refine fn_ok T.F_law_word sc_law_word fun cdv A outer s H E hr => ?_
  exact (ss_cons (ss_if (sb_cmp (d_eq (room_u hr)) (se_call (takes_of rfl rfl rfl rfl) (ok_law_take T) ar_law_take (hr.mono (by decide)) rfl T.g_law_take T.k_law_take T.b_law_take (sa_cons (se_var 0) (sa_cons se_int sa_nil))) se_int) (ss_one (ss_ret (se_ix (se_var 2) (se_call (takes_of rfl rfl rfl rfl) (ok_law_take T) ar_law_take (hr.mono (by decide)) rfl T.g_law_take T.k_law_take T.b_law_take (sa_cons (se_var 0) (sa_cons (se_callB d_len rfl T.n_len boot_len (sa_cons (se_var 2) sa_nil)) sa_nil)))))) ss_nil)
    (ss_one (ss_ret (se_ix (se_var 1) (se_call (takes_of rfl rfl rfl rfl) (ok_law_take T) ar_law_take (hr.mono (by decide)) rfl T.g_law_take T.k_law_take T.b_law_take (sa_cons (se_var 0) (sa_cons (se_callB d_len rfl T.n_len boot_len (sa_cons (se_var 1) sa_nil)) sa_nil)))))))
theorem sc_law_rule : FnScope ["deck", "size", "rule", "mark", "event"] ["deck", "size"] (defScope s_law_rule) := ⟨rfl, rfl, rfl, by decide +kernel, rfl, by decide +kernel, by decide +kernel⟩
theorem ok_law_rule (T : GOk w K mg cl g) : FnOk P w K mg base (L2.CX P w) 2 g.a_law_rule g.fd_law_rule ["deck", "size"] (spD K w ⟨cl, none⟩ 2 f_law_rule) := by
  refine fn_ok T.F_law_rule sc_law_rule fun cdv A outer s H E hr => ?_
  exact (ss_cons (ss_set 2 sc_law_rule.nd (se_new sa_nil))
    (ss_cons (ss_for (passes_of rfl) rfl (si_range1 rfl T.n_range (se_var 1)) (sg_name 3 sc_law_rule.nd) (ss_one (ss_expr (se_mt PySem.F.plainAttrs_list PySem.F.slot_list_append PySem.F.type_list_append d_append (se_var 2) (sa_cons (se_lcN rfl sc_law_rule.nd (si_range1 rfl T.n_range se_int) (own := [("event", 4)]) (blkOk_by (by first | rfl | decide +kernel)) (.name 4 _ (by decide)) (fun _ _ _ _ _ => pg_name (i := 4) sc_law_rule.nd rfl (Or.inl rfl)) (fun _ _ _ _ _ => sp_nil) (fun _ _ _ _ _ => (se_tup (sa_cons (se_call takes0 (ok_law_take T) ar_law_take (hr.mono (by decide)) rfl T.g_law_take T.k_law_take T.b_law_take (sa_cons (se_var 0) (sa_cons (se_callB (d_max2 rfl) rfl T.n_max boot_max (sa_cons se_int (sa_cons (se_var 1) sa_nil))) sa_nil))) (sa_cons (se_op d_sub (se_call takes0 (ok_law_take T) ar_law_take (hr.mono (by decide)) rfl T.g_law_take T.k_law_take T.b_law_take (sa_cons (se_var 0) (sa_cons se_int sa_nil))) se_int) sa_nil))))) sa_nil)))))
    (ss_one (ss_ret (se_var 2)))))
theorem sc_law_spoilt_rule : FnScope ["deck", "size", "kind", "rule", "mark", "event", "pair"] ["deck", "size"] (defScope s_law_spoilt_rule) := ⟨rfl, rfl, rfl, by decide +kernel, rfl, by decide +kernel, by decide +kernel⟩
theorem ok_law_spoilt_rule (T : GOk w K mg cl g) : FnOk P w K mg base (L2.CX P w) 3 g.a_law_spoilt_rule g.fd_law_spoilt_rule ["deck", "size"] (spD K w ⟨cl, none⟩ 2 f_law_spoilt_rule) := by
  refine fn_ok T.F_law_spoilt_rule sc_law_spoilt_rule fun cdv A outer s H E hr => ?_
  exact (ss_cons (ss_set 2 sc_law_spoilt_rule.nd (se_call (takes_of rfl rfl rfl rfl) (ok_law_take T) ar_law_take (hr.mono (by decide)) rfl T.g_law_take T.k_law_take T.b_law_take (sa_cons (se_var 0) (sa_cons se_int sa_nil))))
    (ss_cons (ss_if (sb_cmp (d_eq (room_u hr)) (se_var 2) se_int) (ss_one (ss_ret (se_lst sa_nil))) ss_nil)
    (ss_cons (ss_if (sb_cmp (d_eq (room_u hr)) (se_var 2) se_int) (ss_one (ss_ret (se_call (takes_of rfl rfl rfl rfl) (ok_law_rule T) ar_law_rule (hr.mono (by decide)) rfl T.g_law_rule T.k_law_rule T.b_law_rule (sa_cons (se_var 0) (sa_cons se_int sa_nil))))) ss_nil)
    (ss_cons (ss_set 3 sc_law_spoilt_rule.nd (se_call (takes_of rfl rfl rfl rfl) (ok_law_rule T) ar_law_rule (hr.mono (by decide)) rfl T.g_law_rule T.k_law_rule T.b_law_rule (sa_cons (se_var 0) (sa_cons (se_var 1) sa_nil))))
    (ss_cons (ss_set 4 sc_law_spoilt_rule.nd (se_call (takes_of rfl rfl rfl rfl) (ok_law_take T) ar_law_take (hr.mono (by decide)) rfl T.g_law_take T.k_law_take T.b_law_take (sa_cons (se_var 0) (sa_cons (se_var 1) sa_nil))))
    (ss_cons (ss_set 5 sc_law_spoilt_rule.nd (se_call (takes_of rfl rfl rfl rfl) (ok_law_take T) ar_law_take (hr.mono (by decide)) rfl T.g_law_take T.k_law_take T.b_law_take (sa_cons (se_var 0) (sa_cons se_int sa_nil))))
    (ss_cons (ss_set 6 sc_law_spoilt_rule.nd (se_ix (se_ix (se_var 3) (se_var 4)) (se_var 5)))
    (ss_cons (ss_if (sb_cmp (d_eq (room_u hr)) (se_var 2) se_int) (ss_one (ss_asg (se_slice (se_ix (se_var 3) (se_var 4)) (so_some se_int) so_none) (sg_sub (se_var 3) (se_var 4)))) (ss_one (ss_if (sb_cmp (d_eq (room_u hr)) (se_var 2) se_int) (ss_one (ss_asg (se_op d_add (se_ix (se_var 3) (se_var 4)) (se_lst (sa_cons (se_var 6) sa_nil))) (sg_sub (se_var 3) (se_var 4)))) (ss_one (ss_if (sb_cmp (d_eq (room_u hr)) (se_var 2) se_int) (ss_one (ss_asg (se_tup (sa_cons (se_ix (se_lst (sa_cons (se_un d_neg se_int) (sa_cons (se_var 1) (sa_cons (se_op d_add (se_op d_add (se_var 1) se_int) (se_call (takes_of rfl rfl rfl rfl) (ok_law_take T) ar_law_take (hr.mono (by decide)) rfl T.g_law_take T.k_law_take T.b_law_take (sa_cons (se_var 0) (sa_cons se_int sa_nil)))) sa_nil)))) (se_call (takes_of rfl rfl rfl rfl) (ok_law_take T) ar_law_take (hr.mono (by decide)) rfl T.g_law_take T.k_law_take T.b_law_take (sa_cons (se_var 0) (sa_cons se_int sa_nil)))) (sa_cons (se_ix (se_var 6) se_int) sa_nil))) (sg_sub (se_ix (se_var 3) (se_var 4)) (se_var 5)))) (ss_one (ss_asg (se_tup (sa_cons (se_ix (se_var 6) se_int) (sa_cons (se_ix (se_lst (sa_cons (se_un d_neg se_int) (sa_cons se_int (sa_cons (se_op d_add se_int (se_call (takes_of rfl rfl rfl rfl) (ok_law_take T) ar_law_take (hr.mono (by decide)) rfl T.g_law_take T.k_law_take T.b_law_take (sa_cons (se_var 0) (sa_cons se_int sa_nil)))) sa_nil)))) (se_call (takes_of rfl rfl rfl rfl) (ok_law_take T) ar_law_take (hr.mono (by decide)) rfl T.g_law_take T.k_law_take T.b_law_take (sa_cons (se_var 0) (sa_cons se_int sa_nil)))) sa_nil))) (sg_sub (se_ix (se_var 3) (se_var 4)) (se_var 5)))))))))
    (ss_one (ss_ret (se_var 3)))))))))))
theorem sc_law_parts : FnScope ["deck", "mode", "size", "rule", "sharing", "lease", "grip"] ["deck"] (defScope s_law_parts) := ⟨rfl, rfl, rfl, by decide +kernel, rfl, by decide +kernel, by decide +kernel⟩
theorem ok_law_parts (T : GOk w K mg cl g) : FnOk P w K mg base (L2.CX P w) 4 g.a_law_parts g.fd_law_parts ["deck"] (spD K w ⟨cl, none⟩ 1 f_law_parts) := by
  refine fn_frz (fn_ok T.F_law_parts sc_law_parts fun cdv A outer s H E hr => ?_)
  exact (ss_cons (ss_set 1 sc_law_parts.nd (se_call (takes_of rfl rfl rfl rfl) (ok_law_word T) ar_law_word (hr.mono (by decide)) rfl T.g_law_word T.k_law_word T.b_law_word (sa_cons (se_var 0) (sa_cons (se_lst (sa_cons se_str (sa_cons se_str (sa_cons se_str (sa_cons se_str sa_nil))))) (sa_cons (se_lst (sa_cons se_str (sa_cons se_str (sa_cons se_str (sa_cons se_str sa_nil))))) sa_nil)))))
    (ss_cons (ss_set 2 sc_law_parts.nd (se_op d_add se_int (se_call (takes_of rfl rfl rfl rfl) (ok_law_take T) ar_law_take (hr.mono (by decide)) rfl T.g_law_take T.k_law_take T.b_law_take (sa_cons (se_var 0) (sa_cons se_int sa_nil)))))
    (ss_cons (ss_set 3 sc_law_parts.nd (se_call (takes_of rfl rfl rfl rfl) (ok_law_rule T) ar_law_rule (hr.mono (by decide)) rfl T.g_law_rule T.k_law_rule T.b_law_rule (sa_cons (se_var 0) (sa_cons (se_var 2) sa_nil))))
    (ss_cons (ss_if (sb_cmp (d_eq (room_u hr)) (se_call (takes_of rfl rfl rfl rfl) (ok_law_take T) ar_law_take (hr.mono (by decide)) rfl T.g_law_take T.k_law_take T.b_law_take (sa_cons (se_var 0) (sa_cons se_int sa_nil))) se_int) (ss_one (ss_set 3 sc_law_parts.nd (se_call (takes_of rfl rfl rfl rfl) (ok_law_spoilt_rule T) ar_law_spoilt_rule (hr.mono (by decide)) rfl T.g_law_spoilt_rule T.k_law_spoilt_rule T.b_law_spoilt_rule (sa_cons (se_var 0) (sa_cons (se_var 2) sa_nil))))) ss_nil)
    (ss_cons (ss_if (sb_bool (sw_and (sb_cmp (d_ne (room_u hr)) (se_var 1) se_str) (sw_and1 (sb_cmp (d_eq (room_u hr)) (se_call (takes_of rfl rfl rfl rfl) (ok_law_take T) ar_law_take (hr.mono (by decide)) rfl T.g_law_take T.k_law_take T.b_law_take (sa_cons (se_var 0) (sa_cons se_int sa_nil))) se_int)))) (ss_cons (ss_set 3 sc_law_parts.nd (se_new (sa_cons (se_new (sa_cons (se_tup (sa_cons se_int (sa_cons se_int sa_nil))) (sa_cons (se_tup (sa_cons se_int (sa_cons se_int sa_nil))) (sa_cons (se_tup (sa_cons se_int (sa_cons se_int sa_nil))) (sa_cons (se_tup (sa_cons se_int (sa_cons se_int sa_nil))) (sa_cons (se_tup (sa_cons se_int (sa_cons se_int sa_nil))) (sa_cons (se_tup (sa_cons se_int (sa_cons se_int sa_nil))) sa_nil))))))) sa_nil)))
    (ss_cons (ss_if (sb_cmp (d_eq (room_u hr)) (se_call (takes_of rfl rfl rfl rfl) (ok_law_take T) ar_law_take (hr.mono (by decide)) rfl T.g_law_take T.k_law_take T.b_law_take (sa_cons (se_var 0) (sa_cons se_int sa_nil))) se_int) (ss_one (ss_asg (se_tup (sa_cons se_int (sa_cons (se_op d_sub se_int (se_op d_mul se_int (se_call (takes_of rfl rfl rfl rfl) (ok_law_take T) ar_law_take (hr.mono (by decide)) rfl T.g_law_take T.k_law_take T.b_law_take (sa_cons (se_var 0) (sa_cons se_int sa_nil))))) sa_nil))) (sg_sub (se_ix (se_var 3) se_int) (se_call (takes_of rfl rfl rfl rfl) (ok_law_take T) ar_law_take (hr.mono (by decide)) rfl T.g_law_take T.k_law_take T.b_law_take (sa_cons (se_var 0) (sa_cons se_int sa_nil)))))) ss_nil)
    (ss_cons (ss_set 4 sc_law_parts.nd (se_call (takes_of rfl rfl rfl rfl) (ok_law_word T) ar_law_word (hr.mono (by decide)) rfl T.g_law_word T.k_law_word T.b_law_word (sa_cons (se_var 0) (sa_cons (se_lst (sa_cons se_str sa_nil)) (sa_cons (se_lst (sa_cons se_str (sa_cons se_str sa_nil))) sa_nil)))))
    (ss_cons (ss_set 5 sc_law_parts.nd (se_call (takes_of rfl rfl rfl rfl) (ok_law_word T) ar_law_word (hr.mono (by decide)) rfl T.g_law_word T.k_law_word T.b_law_word (sa_cons (se_var 0) (sa_cons (se_lst (sa_cons se_str sa_nil)) (sa_cons (se_lst (sa_cons se_str (sa_cons se_str sa_nil))) sa_nil)))))
    (ss_cons (ss_set 6 sc_law_parts.nd (se_call (takes_of rfl rfl rfl rfl) (ok_law_word T) ar_law_word (hr.mono (by decide)) rfl T.g_law_word T.k_law_word T.b_law_word (sa_cons (se_var 0) (sa_cons (se_lst (sa_cons se_str sa_nil)) (sa_cons (se_lst (sa_cons se_str (sa_cons se_str (sa_cons se_str sa_nil)))) sa_nil)))))
    (ss_one (ss_ret (se_lst (sa_cons (se_var 1) (sa_cons (se_var 4) (sa_cons (se_var 5) (sa_cons (se_var 6) (sa_cons (se_var 3) sa_nil))))))))))))) ss_nil)
    (ss_cons (ss_set 4 sc_law_parts.nd (se_call (takes_of rfl rfl rfl rfl) (ok_law_word T) ar_law_word (hr.mono (by decide)) rfl T.g_law_word T.k_law_word T.b_law_word (sa_cons (se_var 0) (sa_cons (se_lst (sa_cons se_str (sa_cons se_str sa_nil))) (sa_cons (se_lst (sa_cons se_str (sa_cons se_str (sa_cons se_str sa_nil)))) sa_nil)))))
    (ss_cons (ss_set 5 sc_law_parts.nd (se_call (takes_of rfl rfl rfl rfl) (ok_law_word T) ar_law_word (hr.mono (by decide)) rfl T.g_law_word T.k_law_word T.b_law_word (sa_cons (se_var 0) (sa_cons (se_lst (sa_cons se_str (sa_cons se_str sa_nil))) (sa_cons (se_lst (sa_cons se_str (sa_cons se_str (sa_cons se_str sa_nil)))) sa_nil)))))
    (ss_cons (ss_set 6 sc_law_parts.nd (se_call (takes_of rfl rfl rfl rfl) (ok_law_word T) ar_law_word (hr.mono (by decide)) rfl T.g_law_word T.k_law_word T.b_law_word (sa_cons (se_var 0) (sa_cons (se_lst (sa_cons se_str (sa_cons se_str (sa_cons se_str sa_nil)))) (sa_cons (se_lst (sa_cons se_str (sa_cons se_str (sa_cons se_str sa_nil)))) sa_nil)))))
    (ss_one (ss_ret (se_lst (sa_cons (se_var 1) (sa_cons (se_var 4) (sa_cons (se_var 5) (sa_cons (se_var 6) (sa_cons (se_var 3) sa_nil))))))))))))))))
theorem sc_law_rule_in_order : FnScope ["rule", "mark", "pair"] ["rule"] (defScope s_law_rule_in_order) := ⟨rfl, rfl, rfl, by decide +kernel, rfl, by decide +kernel, by decide +kernel⟩
theorem ok_law_rule_in_order (T : GOk w K mg cl g) : FnOk P w K mg base (L2.CX P w) 1 g.a_law_rule_in_order g.fd_law_rule_in_order ["rule"] (spD K w ⟨cl, none⟩ 1 f_law_rule_in_order) := by
  refine fn_ok T.F_law_rule_in_order sc_law_rule_in_order fun cdv A outer s H E hr => ?_
  exact (ss_cons (ss_if (sb_not (sb_chain d_le d_le se_int (se_callB d_len rfl T.n_len boot_len (sa_cons (se_var 0) sa_nil)) se_int)) (ss_one (ss_ret se_bl)) ss_nil)
    (ss_cons (ss_for (passes_of rfl) rfl (si_any (se_var 0)) (sg_name 1 sc_law_rule_in_order.nd) (ss_cons (ss_if (sb_cmp (d_ne (room_u hr)) (se_callB d_len rfl T.n_len boot_len (sa_cons (se_var 1) sa_nil)) se_int) (ss_one (ss_ret se_bl)) ss_nil)
    (ss_one (ss_for (passes_of rfl) rfl (si_any (se_var 1)) (sg_name 2 sc_law_rule_in_order.nd) (ss_one (ss_if (sb_bool (sw_or (sb_not (sb_chain d_le d_lt se_int (se_ix (se_var 2) se_int) (se_callB d_len rfl T.n_len boot_len (sa_cons (se_var 0) sa_nil)))) (sw_or1 (sb_not (sb_chain d_le d_le (se_un d_neg se_int) (se_ix (se_var 2) se_int) se_int))))) (ss_one (ss_ret se_bl)) ss_nil))))))
    (ss_one (ss_ret se_bl))))
theorem sc_law_first_wrong : FnScope ["parts", "held"] ["parts"] (defScope s_law_first_wrong) := ⟨rfl, rfl, rfl, by decide +kernel, rfl, by decide +kernel, by decide +kernel⟩
theorem ok_law_first_wrong (T : GOk w K mg cl g) : FnOk P w K mg base (L2.CX P w) 2 g.a_law_first_wrong g.fd_law_first_wrong ["parts"] (spD K w ⟨cl, none⟩ 1 f_law_first_wrong) := by
  refine fn_ok T.F_law_first_wrong sc_law_first_wrong fun cdv A outer s H E hr => ?_
  exact (ss_cons (ss_set 1 sc_law_first_wrong.nd (se_cmp (d_eq (room_u hr)) (se_ix (se_var 0) se_int) se_str))
    (ss_cons (ss_if (sb_cmp (d_notin (room_u1 hr)) (se_ix (se_var 0) se_int) (se_tup (sa_cons se_str (sa_cons se_str (sa_cons se_str sa_nil))))) (ss_one (ss_ret se_str)) ss_nil)
    (ss_cons (ss_if (sb_bool (sw_and (sb_cmp (d_ne (room_u hr)) (se_ix (se_var 0) se_int) se_str) (sw_and1 (sb_bool (sw_or (sb_cmp (d_ne (room_u hr)) (se_ix (se_var 0) se_int) se_str) (sw_or1 (sb_not (sb_tru (se_var 1))))))))) (ss_one (ss_ret se_str)) ss_nil)
    (ss_cons (ss_if (sb_bool (sw_and (sb_cmp (d_ne (room_u hr)) (se_ix (se_var 0) se_int) se_str) (sw_and1 (sb_bool (sw_or (sb_cmp (d_ne (room_u hr)) (se_ix (se_var 0) se_int) se_str) (sw_or1 (sb_not (sb_tru (se_var 1))))))))) (ss_one (ss_ret se_str)) ss_nil)
    (ss_cons (ss_if (sb_bool (sw_and (sb_cmp (d_ne (room_u hr)) (se_ix (se_var 0) se_int) se_str) (sw_and1 (sb_bool (sw_or (sb_cmp (d_notin (room_u1 hr)) (se_ix (se_var 0) se_int) (se_tup (sa_cons se_str (sa_cons se_str sa_nil)))) (sw_or1 (sb_not (sb_tru (se_var 1))))))))) (ss_one (ss_ret se_str)) ss_nil)
    (ss_cons (ss_if (sb_not (sb_tru (se_call (takes_of rfl rfl rfl rfl) (ok_law_rule_in_order T) ar_law_rule_in_order (hr.mono (by decide)) rfl T.g_law_rule_in_order T.k_law_rule_in_order T.b_law_rule_in_order (sa_cons (se_ix (se_var 0) se_int) sa_nil)))) (ss_one (ss_ret se_str)) ss_nil)
    (ss_cons (ss_if (sb_bool (sw_and (sb_not (sb_tru (se_var 1))) (sw_and1 (sb_cmp (d_ne (room_u hr)) (se_ix (se_var 0) se_int) (se_lst (sa_cons (se_lst (sa_cons (se_tup (sa_cons se_int (sa_cons se_int sa_nil))) (sa_cons (se_tup (sa_cons se_int (sa_cons se_int sa_nil))) (sa_cons (se_tup (sa_cons se_int (sa_cons se_int sa_nil))) (sa_cons (se_tup (sa_cons se_int (sa_cons se_int sa_nil))) (sa_cons (se_tup (sa_cons se_int (sa_cons se_int sa_nil))) (sa_cons (se_tup (sa_cons se_int (sa_cons se_int sa_nil))) sa_nil))))))) sa_nil)))))) (ss_one (ss_ret se_str)) ss_nil)
    (ss_one (ss_ret se_str)))))))))
theorem sc_is_mark : FnScope ["mark", "marks", "follow", "change"] ["mark", "marks"] (defScope s_is_mark) := ⟨rfl, rfl, rfl, by decide +kernel, rfl, by decide +kernel, by decide +kernel⟩
theorem ok_is_mark (T : GOk w K mg cl g) : FnOk P w K mg base (L2.CX P w) 1 g.a_is_mark g.fd_is_mark ["mark", "marks"] (spD K w ⟨cl, none⟩ 2 f_is_mark) := by
  refine fn_ok T.F_is_mark sc_is_mark fun cdv A outer s H E hr => ?_
  exact (ss_cons (ss_if (sb_cmp (d_ne (room_u hr)) (se_callB d_len rfl T.n_len boot_len (sa_cons (se_var 0) sa_nil)) (se_callB d_len rfl T.n_len boot_len (sa_cons (T.e_EVENTS rfl rfl) sa_nil))) (ss_one (ss_ret se_bl)) ss_nil)
    (ss_cons (ss_for (passes_of rfl) rfl (si_any (se_var 0)) (sg_tup rfl (sgs_cons (sg_name 2 sc_is_mark.nd) (sgs_cons (sg_name 3 sc_is_mark.nd) sgs_nil))) (ss_one (ss_if (sb_bool (sw_or (sb_not (sb_chain d_le d_lt se_int (se_var 2) (se_var 1))) (sw_or1 (sb_cmp d_gt (se_callB d_abs rfl T.n_abs boot_abs (sa_cons (se_var 3) sa_nil)) (T.e_MOST_CHANGE rfl rfl))))) (ss_one (ss_ret se_bl)) ss_nil)))
    (ss_one (ss_ret se_bl))))
theorem sc_is_rule : FnScope ["rule", "mark"] ["rule"] (defScope s_is_rule) := ⟨rfl, rfl, rfl, by decide +kernel, rfl, by decide +kernel, by decide +kernel⟩
theorem ok_is_rule (T : GOk w K mg cl g) : FnOk P w K mg base (L2.CX P w) 2 g.a_is_rule g.fd_is_rule ["rule"] (spD K w ⟨cl, none⟩ 1 f_is_rule) := by
  refine fn_ok T.F_is_rule sc_is_rule fun cdv A outer s H E hr => ?_
  exact (ss_cons (ss_if (sb_not (sb_chain d_le d_le se_int (se_callB d_len rfl T.n_len boot_len (sa_cons (se_var 0) sa_nil)) (T.e_MOST_MARKS rfl rfl))) (ss_one (ss_ret se_bl)) ss_nil)
    (ss_cons (ss_for (passes_of rfl) rfl (si_any (se_var 0)) (sg_name 1 sc_is_rule.nd) (ss_one (ss_if (sb_not (sb_tru (se_call (takes_of rfl rfl rfl rfl) (ok_is_mark T) ar_is_mark (hr.mono (by decide)) rfl T.g_is_mark T.k_is_mark T.b_is_mark (sa_cons (se_var 1) (sa_cons (se_callB d_len rfl T.n_len boot_len (sa_cons (se_var 0) sa_nil)) sa_nil))))) (ss_one (ss_ret se_bl)) ss_nil)))
    (ss_one (ss_ret se_bl))))
theorem sc_Row_init : FnScope ["self", "mode", "sharing", "lease", "grip", "rule", "held", "marks", "mark", "pair"] ["self", "mode", "sharing", "lease", "grip", "rule"] (defScope s_Row_init) := ⟨rfl, rfl, rfl, by decide +kernel, rfl, by decide +kernel, by decide +kernel⟩
theorem ok_Row_init (T : GOk w K mg cl g) : FnOk P w K mg base (L2.CX P w) 3 g.a_Row_init g.fd_Row_init ["self", "mode", "sharing", "lease", "grip", "rule"] (spD K w ⟨cl, none⟩ 6 f_Row_init) := by
  refine fn_ok T.F_Row_init sc_Row_init fun cdv A outer s H E hr => ?_
  exact (ss_cons (ss_if (sb_cmp (d_notin (room_u1 hr)) (se_var 1) (T.e_MODES rfl rfl)) (ss_one (ss_raise T.cl_InvalidRow T.ox_InvalidRow T.ic_InvalidRow T.ti_InvalidRow (okx_InvalidRow T) arx_InvalidRow (by decide) (hr.mono (by decide)) T.b_InvalidRow_init rfl T.gc_InvalidRow rfl (takes_of rfl rfl rfl rfl) (sa_cons se_str sa_nil))) ss_nil)
    (ss_cons (ss_set 6 sc_Row_init.nd (se_cmp (d_eq (room_u hr)) (se_var 1) se_str))
    (ss_cons (ss_if (sb_bool (sw_or (sb_cmp (d_notin (room_u1 hr)) (se_var 2) (T.e_SHARINGS rfl rfl)) (sw_or1 (sb_bool (sw_and (sb_not (sb_tru (se_var 6))) (sw_and1 (sb_cmp (d_ne (room_u hr)) (se_var 2) se_str))))))) (ss_one (ss_raise T.cl_InvalidRow T.ox_InvalidRow T.ic_InvalidRow T.ti_InvalidRow (okx_InvalidRow T) arx_InvalidRow (by decide) (hr.mono (by decide)) T.b_InvalidRow_init rfl T.gc_InvalidRow rfl (takes_of rfl rfl rfl rfl) (sa_cons se_str sa_nil))) ss_nil)
    (ss_cons (ss_if (sb_bool (sw_or (sb_cmp (d_notin (room_u1 hr)) (se_var 3) (T.e_LEASES rfl rfl)) (sw_or1 (sb_bool (sw_and (sb_not (sb_tru (se_var 6))) (sw_and1 (sb_cmp (d_ne (room_u hr)) (se_var 3) se_str))))))) (ss_one (ss_raise T.cl_InvalidRow T.ox_InvalidRow T.ic_InvalidRow T.ti_InvalidRow (okx_InvalidRow T) arx_InvalidRow (by decide) (hr.mono (by decide)) T.b_InvalidRow_init rfl T.gc_InvalidRow rfl (takes_of rfl rfl rfl rfl) (sa_cons se_str sa_nil))) ss_nil)
    (ss_cons (ss_if (sb_bool (sw_or (sb_cmp (d_notin (room_u1 hr)) (se_var 4) (T.e_GRIPS rfl rfl)) (sw_or1 (sb_bool (sw_and (sb_not (sb_tru (se_var 6))) (sw_and1 (sb_cmp (d_ne (room_u hr)) (se_var 4) se_str))))))) (ss_one (ss_raise T.cl_InvalidRow T.ox_InvalidRow T.ic_InvalidRow T.ti_InvalidRow (okx_InvalidRow T) arx_InvalidRow (by decide) (hr.mono (by decide)) T.b_InvalidRow_init rfl T.gc_InvalidRow rfl (takes_of rfl rfl rfl rfl) (sa_cons se_str sa_nil))) ss_nil)
    (ss_cons (ss_set 7 sc_Row_init.nd (se_new sa_nil))
    (ss_cons (ss_for (passes_of rfl) rfl (si_any (se_var 5)) (sg_name 8 sc_Row_init.nd) (ss_one (ss_expr (se_mt PySem.F.plainAttrs_list PySem.F.slot_list_append PySem.F.type_list_append d_append (se_var 7) (sa_cons (se_callTy d_tuple rfl T.n_tuple boot_tuple (sa_cons (se_lc rfl sc_Row_init.nd (si_any (se_var 8)) (own := [("pair", 9)]) (blkOk_by (by first | rfl | decide +kernel)) (.name 9 _ (by decide)) (fun _ _ _ _ _ => pg_name (i := 9) sc_Row_init.nd rfl (Or.inl rfl)) (fun _ _ _ _ _ => sp_nil) (fun _ _ _ _ _ => (se_callTy d_tuple rfl T.n_tuple boot_tuple (sa_cons (se_var 9) sa_nil)))) sa_nil)) sa_nil)))))
    (ss_cons (ss_if (sb_bool (sw_or (sb_not (sb_tru (se_call (takes_of rfl rfl rfl rfl) (ok_is_rule T) ar_is_rule (hr.mono (by decide)) rfl T.g_is_rule T.k_is_rule T.b_is_rule (sa_cons (se_var 7) sa_nil)))) (sw_or1 (sb_bool (sw_and (sb_not (sb_tru (se_var 6))) (sw_and1 (sb_cmp (d_ne (room_u hr)) (se_var 7) (se_lst (sa_cons (T.e_STILL rfl rfl) sa_nil))))))))) (ss_one (ss_raise T.cl_InvalidRow T.ox_InvalidRow T.ic_InvalidRow T.ti_InvalidRow (okx_InvalidRow T) arx_InvalidRow (by decide) (hr.mono (by decide)) T.b_InvalidRow_init rfl T.gc_InvalidRow rfl (takes_of rfl rfl rfl rfl) (sa_cons se_str sa_nil))) ss_nil)
    (ss_cons (ss_fld "mode" ["Row"] (na_cons T.cl_Row T.na_Row_mode na_nil) (se_var 0) (se_var 1))
    (ss_cons (ss_fld "sharing" ["Row"] (na_cons T.cl_Row T.na_Row_sharing na_nil) (se_var 0) (se_var 2))
    (ss_cons (ss_fld "lease" ["Row"] (na_cons T.cl_Row T.na_Row_lease na_nil) (se_var 0) (se_var 3))
    (ss_cons (ss_fld "grip" ["Row"] (na_cons T.cl_Row T.na_Row_grip na_nil) (se_var 0) (se_var 4))
    (ss_one (ss_fld "rule" ["Row"] (na_cons T.cl_Row T.na_Row_rule na_nil) (se_var 0) (se_callTy d_tuple rfl T.n_tuple boot_tuple (sa_cons (se_var 7) sa_nil))))))))))))))))
theorem sc_law_refused : FnScope ["parts", "what", "e", "mark"] ["parts", "what"] (defScope s_law_refused) := ⟨rfl, rfl, rfl, by decide +kernel, rfl, by decide +kernel, by decide +kernel⟩
theorem ok_law_refused (T : GOk w K mg cl g) : FnOk P w K mg base (L2.CX P w) 5 g.a_law_refused g.fd_law_refused ["parts", "what"] (spD K w ⟨cl, none⟩ 2 f_law_refused) := by
  refine fn_frz (fn_ok T.F_law_refused sc_law_refused fun cdv A outer s H E hr => ?_)
  exact (ss_cons (ss_try_as rfl rfl rfl sc_law_refused.nd rfl rfl ⟨rfl, by decide, .inl T.gc_BridgeError⟩ (takes_of rfl rfl rfl rfl) (hdok_cons T.cl_InvalidRow (T.xm_InvalidRow_BridgeError) hdok_nil)
    (fun W pn xe tk pe => (ss_one (ss_expr (se_frz (se_make "Row" T.cl_Row T.cls_Row tk T.mk_Row (ok_Row_init T) ar_Row_init (hr.mono (by decide)) rfl T.gc_Row T.b_Row_init (sa_cons (se_ix (se_var 0) se_int) (sa_cons (se_ix (se_var 0) se_int) (sa_cons (se_ix (se_var 0) se_int) (sa_cons (se_ix (se_var 0) se_int) (sa_cons (se_lc rfl sc_law_refused.nd (si_any (se_ix (se_var 0) se_int)) (own := [("mark", 3)]) (blkOk_by (by first | rfl | decide +kernel)) (.name 3 _ (by decide)) (fun _ _ _ _ _ => pg_name (i := 3) sc_law_refused.nd rfl (Or.inl rfl)) (fun _ _ _ _ _ => sp_nil) (fun _ _ _ _ _ => (se_callTy (d_list false) rfl T.n_list boot_list (sa_cons (se_var 3) sa_nil)))) sa_nil))))))))))
    ⟨fun k a dd A oe pn hz hf => (ss_cons (ss_if (sb_bool (sw_or (sb_not (sb_tru (se_xis rfl T.n_isinstance T.xsg T.xst (c := .ref g.C_InvalidRow) (cv := .ref g.C_InvalidRow) (fun _ h => h) (pe_glob (v := .ref g.C_InvalidRow) rfl T.gc_InvalidRow rfl) (xis_cons T.cl_InvalidRow T.xi_InvalidRow T.kit_InvalidRow_InvalidRow xis_nil) hz hf (se_var 2)))) (sw_or1 (sb_not (sb_tru (se_xis rfl T.n_isinstance T.xsg T.xst (c := .ty "ValueError") (cv := .type "ValueError") (fun _ h => h) (pe_tyn rfl T.n_ValueError PyProof.Rows.Boot.«ValueError») (xis_cons T.cl_InvalidRow T.xi_InvalidRow T.kit_InvalidRow_ValueError xis_nil) hz hf (se_var 2))))))) (ss_one (ss_ret se_bl)) ss_nil)
    (ss_cons (ss_if (sb_bool (sw_or (sb_tru (se_xis rfl T.n_isinstance T.xsg T.xst (c := .ref g.C_InvalidMap) (cv := .ref g.C_InvalidMap) (fun _ h => h) (pe_glob (v := .ref g.C_InvalidMap) rfl T.gc_InvalidMap rfl) (xis_cons T.cl_InvalidRow T.xi_InvalidRow T.kit_InvalidRow_InvalidMap xis_nil) hz hf (se_var 2))) (sw_or1 (sb_tru (se_xis rfl T.n_isinstance T.xsg T.xst (c := .ref g.C_ImpossibleLife) (cv := .ref g.C_ImpossibleLife) (fun _ h => h) (pe_glob (v := .ref g.C_ImpossibleLife) rfl T.gc_ImpossibleLife rfl) (xis_cons T.cl_InvalidRow T.xi_InvalidRow T.kit_InvalidRow_ImpossibleLife xis_nil) hz hf (se_var 2)))))) (ss_one (ss_ret se_bl)) ss_nil)
    (ss_one (ss_ret (se_and (se_isi1 rfl T.n_isinstance (se_xf (xcs_cons T.cl_InvalidRow T.xf_InvalidRow T.xna_InvalidRow_what xcs_nil) hz hf (se_var 2)) (pe_tyn rfl T.n_str boot_str) rfl) (se_one (se_cmp (d_eq (room_su (room_u hr))) (se_xf (xcs_cons T.cl_InvalidRow T.xf_InvalidRow T.xna_InvalidRow_what xcs_nil) hz hf (se_var 2)) (se_var 1))))))))⟩)
    (ss_one (ss_ret se_bl)))
theorem sc_law_whole : FnScope ["value"] ["value"] (defScope s_law_whole) := ⟨rfl, rfl, rfl, by decide +kernel, rfl, by decide +kernel, by decide +kernel⟩
theorem ok_law_whole (T : GOk w K mg cl g) : FnOk P w K mg base (L2.CX P w) 1 g.a_law_whole g.fd_law_whole ["value"] (spD K w ⟨cl, none⟩ 1 f_law_whole) := by
  refine fn_ok T.F_law_whole sc_law_whole fun cdv A outer s H E hr => ?_
  exact (ss_one (ss_ret (se_and (se_isi1 rfl T.n_isinstance (se_var 0) (pe_tyn rfl T.n_int boot_int) rfl) (se_one (se_not (se_isi1 rfl T.n_isinstance (se_var 0) (pe_tyn rfl T.n_bool boot_bool) rfl))))))
theorem sc_law_same_rule : FnScope ["rule", "marks", "at", "event", "pair"] ["rule", "marks"] (defScope s_law_same_rule) := ⟨rfl, rfl, rfl, by decide +kernel, rfl, by decide +kernel, by decide +kernel⟩
theorem ok_law_same_rule (T : GOk w K mg cl g) : FnOk P w K mg base (L2.CX P w) 2 g.a_law_same_rule g.fd_law_same_rule ["rule", "marks"] (spD K w ⟨cl, none⟩ 2 f_law_same_rule) := by
  refine fn_ok T.F_law_same_rule sc_law_same_rule fun cdv A outer s H E hr => ?_
  exact (ss_cons (ss_if (sb_bool (sw_or (sb_not (sb_tru (se_isi1 rfl T.n_isinstance (se_var 0) (pe_tyn rfl T.n_tuple boot_tuple) rfl))) (sw_or1 (sb_cmp (d_ne (room_u hr)) (se_callB d_len rfl T.n_len boot_len (sa_cons (se_var 0) sa_nil)) (se_callB d_len rfl T.n_len boot_len (sa_cons (se_var 1) sa_nil)))))) (ss_one (ss_ret se_bl)) ss_nil)
    (ss_cons (ss_for (passes_of rfl) rfl (si_range1 rfl T.n_range (se_callB d_len rfl T.n_len boot_len (sa_cons (se_var 1) sa_nil))) (sg_name 2 sc_law_same_rule.nd) (ss_cons (ss_if (sb_bool (sw_or (sb_not (sb_tru (se_isi1 rfl T.n_isinstance (se_ix (se_var 0) (se_var 2)) (pe_tyn rfl T.n_tuple boot_tuple) rfl))) (sw_or1 (sb_cmp (d_ne (room_u hr)) (se_callB d_len rfl T.n_len boot_len (sa_cons (se_ix (se_var 0) (se_var 2)) sa_nil)) se_int)))) (ss_one (ss_ret se_bl)) ss_nil)
    (ss_one (ss_for (passes_of rfl) rfl (si_range1 rfl T.n_range se_int) (sg_name 3 sc_law_same_rule.nd) (ss_cons (ss_set 4 sc_law_same_rule.nd (se_ix (se_ix (se_var 0) (se_var 2)) (se_var 3)))
    (ss_cons (ss_if (sb_bool (sw_or (sb_not (sb_tru (se_isi1 rfl T.n_isinstance (se_var 4) (pe_tyn rfl T.n_tuple boot_tuple) rfl))) (sw_or1 (sb_cmp (d_ne (room_u hr)) (se_callB d_len rfl T.n_len boot_len (sa_cons (se_var 4) sa_nil)) se_int)))) (ss_one (ss_ret se_bl)) ss_nil)
    (ss_one (ss_if (sb_bool (sw_or (sb_not (sb_tru (se_call (takes_of rfl rfl rfl rfl) (ok_law_whole T) ar_law_whole (hr.mono (by decide)) rfl T.g_law_whole T.k_law_whole T.b_law_whole (sa_cons (se_ix (se_var 4) se_int) sa_nil)))) (sw_or (sb_not (sb_tru (se_call (takes_of rfl rfl rfl rfl) (ok_law_whole T) ar_law_whole (hr.mono (by decide)) rfl T.g_law_whole T.k_law_whole T.b_law_whole (sa_cons (se_ix (se_var 4) se_int) sa_nil)))) (sw_or1 (sb_cmp (d_ne (room_u hr)) (se_var 4) (se_ix (se_ix (se_var 1) (se_var 2)) (se_var 3))))))) (ss_one (ss_ret se_bl)) ss_nil))))))))
    (ss_one (ss_ret se_bl))))
theorem sc_law_fields : FnScope ["row", "parts", "word"] ["row", "parts"] (defScope s_law_fields) := ⟨rfl, rfl, rfl, by decide +kernel, rfl, by decide +kernel, by decide +kernel⟩
theorem ok_law_fields (T : GOk w K mg cl g) : FnOk P w K mg base (L2.CX P w) 3 g.a_law_fields g.fd_law_fields ["row", "parts"] (spD K w ⟨cl, none⟩ 2 f_law_fields) := by
  refine fn_ok T.F_law_fields sc_law_fields fun cdv A outer s H E hr => ?_
  exact (ss_cons (ss_for (passes_of rfl) rfl (si_any (se_tup (sa_cons (se_fld "mode" ["Row"] (na_cons T.cl_Row T.na_Row_mode na_nil) (se_var 0)) (sa_cons (se_fld "sharing" ["Row"] (na_cons T.cl_Row T.na_Row_sharing na_nil) (se_var 0)) (sa_cons (se_fld "lease" ["Row"] (na_cons T.cl_Row T.na_Row_lease na_nil) (se_var 0)) (sa_cons (se_fld "grip" ["Row"] (na_cons T.cl_Row T.na_Row_grip na_nil) (se_var 0)) sa_nil)))))) (sg_name 2 sc_law_fields.nd) (ss_one (ss_if (sb_not (sb_tru (se_isi1 rfl T.n_isinstance (se_var 2) (pe_tyn rfl T.n_str boot_str) rfl))) (ss_one (ss_ret se_bl)) ss_nil)))
    (ss_cons (ss_if (sb_bool (sw_or (sb_cmp (d_ne (room_u hr)) (se_fld "mode" ["Row"] (na_cons T.cl_Row T.na_Row_mode na_nil) (se_var 0)) (se_ix (se_var 1) se_int)) (sw_or (sb_cmp (d_ne (room_u hr)) (se_fld "sharing" ["Row"] (na_cons T.cl_Row T.na_Row_sharing na_nil) (se_var 0)) (se_ix (se_var 1) se_int)) (sw_or (sb_cmp (d_ne (room_u hr)) (se_fld "lease" ["Row"] (na_cons T.cl_Row T.na_Row_lease na_nil) (se_var 0)) (se_ix (se_var 1) se_int)) (sw_or1 (sb_cmp (d_ne (room_u hr)) (se_fld "grip" ["Row"] (na_cons T.cl_Row T.na_Row_grip na_nil) (se_var 0)) (se_ix (se_var 1) se_int))))))) (ss_one (ss_ret se_bl)) ss_nil)
    (ss_one (ss_ret (se_call (takes_of rfl rfl rfl rfl) (ok_law_same_rule T) ar_law_same_rule (hr.mono (by decide)) rfl T.g_law_same_rule T.k_law_same_rule T.b_law_same_rule (sa_cons (se_fld "rule" ["Row"] (na_cons T.cl_Row T.na_Row_rule na_nil) (se_var 0)) (sa_cons (se_ix (se_var 1) se_int) sa_nil)))))))
theorem sc_law_built : FnScope ["parts", "passed", "row", "mark"] ["parts"] (defScope s_law_built) := ⟨rfl, rfl, rfl, by decide +kernel, rfl, by decide +kernel, by decide +kernel⟩
theorem ok_law_built (T : GOk w K mg cl g) : FnOk P w K mg base (L2.CX P w) 5 g.a_law_built g.fd_law_built ["parts"] (spD K w ⟨cl, none⟩ 1 f_law_built) := by
  refine fn_frz (fn_ok T.F_law_built sc_law_built fun cdv A outer s H E hr => ?_)
  exact (ss_cons (ss_setLcN 1 rfl sc_law_built.nd (si_any (se_ix (se_var 0) se_int)) (own := [("mark", 3)]) (blkOk_by (by first | rfl | decide +kernel)) (.name 3 _ (by decide)) (fun _ _ _ _ _ => pg_name (i := 3) sc_law_built.nd rfl (Or.inl rfl)) (fun _ _ _ _ _ => sp_nil) (fun _ _ _ _ _ => (se_callTy (d_list true) rfl T.n_list boot_list (sa_cons (se_var 3) sa_nil))) rfl)
    (ss_cons (ss_set 2 sc_law_built.nd (se_frz (se_make "Row" T.cl_Row T.cls_Row (takes_of rfl rfl rfl rfl) T.mk_Row (ok_Row_init T) ar_Row_init (hr.mono (by decide)) rfl T.gc_Row T.b_Row_init (sa_cons (se_ix (se_var 0) se_int) (sa_cons (se_ix (se_var 0) se_int) (sa_cons (se_ix (se_var 0) se_int) (sa_cons (se_ix (se_var 0) se_int) (sa_cons (se_var 1) sa_nil))))))))
    (ss_cons (ss_if (sb_bool (sw_or (sb_cmp (d_ne (room_u hr)) (se_var 1) (se_ix (se_var 0) se_int)) (sw_or1 (sb_not (sb_tru (se_call (takes_of rfl rfl rfl rfl) (ok_law_fields T) ar_law_fields (hr.mono (by decide)) rfl T.g_law_fields T.k_law_fields T.b_law_fields (sa_cons (se_var 2) (sa_cons (se_var 0) sa_nil)))))))) (ss_one (ss_ret se_bl)) ss_nil)
    (ss_cons (ss_asg (se_tup (sa_cons se_int (sa_cons se_int sa_nil))) (sg_sub (se_ix (se_var 1) se_int) se_int))
    (ss_cons (ss_expr (se_mt PySem.F.plainAttrs_list PySem.F.slot_list_append PySem.F.type_list_append d_append (se_var 1) (sa_cons (se_lst (sa_cons (se_tup (sa_cons se_int (sa_cons se_int sa_nil))) (sa_cons (se_tup (sa_cons se_int (sa_cons se_int sa_nil))) (sa_cons (se_tup (sa_cons se_int (sa_cons se_int sa_nil))) (sa_cons (se_tup (sa_cons se_int (sa_cons se_int sa_nil))) (sa_cons (se_tup (sa_cons se_int (sa_cons se_int sa_nil))) (sa_cons (se_tup (sa_cons se_int (sa_cons se_int sa_nil))) sa_nil))))))) sa_nil)))
    (ss_one (ss_ret (se_call (takes_of rfl rfl rfl rfl) (ok_law_fields T) ar_law_fields (hr.mono (by decide)) rfl T.g_law_fields T.k_law_fields T.b_law_fields (sa_cons (se_var 2) (sa_cons (se_var 0) sa_nil))))))))))
theorem sc_plain_row : FnScope ["mode"] ["mode"] (defScope s_plain_row) := ⟨rfl, rfl, rfl, by decide +kernel, rfl, by decide +kernel, by decide +kernel⟩
theorem ok_plain_row (T : GOk w K mg cl g) : FnOk P w K mg base (L2.CX P w) 5 g.a_plain_row g.fd_plain_row ["mode"] (spD K w ⟨cl, none⟩ 1 f_plain_row) := by
  refine fn_ok T.F_plain_row sc_plain_row fun cdv A outer s H E hr => ?_
  exact (ss_cons (ss_if (sb_cmp (d_eq (room_u hr)) (se_var 0) se_str) (ss_one (ss_raise T.cl_InvalidRow T.ox_InvalidRow T.ic_InvalidRow T.ti_InvalidRow (okx_InvalidRow T) arx_InvalidRow (by decide) (hr.mono (by decide)) T.b_InvalidRow_init rfl T.gc_InvalidRow rfl (takes_of rfl rfl rfl rfl) (sa_cons se_str sa_nil))) ss_nil)
    (ss_one (ss_ret (se_frz (se_make "Row" T.cl_Row T.cls_Row (takes_of rfl rfl rfl rfl) T.mk_Row (ok_Row_init T) ar_Row_init (hr.mono (by decide)) rfl T.gc_Row T.b_Row_init (sa_cons (se_var 0) (sa_cons se_str (sa_cons se_str (sa_cons se_str (sa_cons (se_lst (sa_cons (T.e_STILL rfl rfl) sa_nil)) sa_nil))))))))))
theorem sc_law_plain : FnScope ["mode", "still", "row", "e"] ["mode"] (defScope s_law_plain) := ⟨rfl, rfl, rfl, by decide +kernel, rfl, by decide +kernel, by decide +kernel⟩
theorem ok_law_plain (T : GOk w K mg cl g) : FnOk P w K mg base (L2.CX P w) 6 g.a_law_plain g.fd_law_plain ["mode"] (spD K w ⟨cl, none⟩ 1 f_law_plain) := by
  refine fn_frz (fn_ok T.F_law_plain sc_law_plain fun cdv A outer s H E hr => ?_)
  exact (ss_cons (ss_set 1 sc_law_plain.nd (se_lst (sa_cons (se_lst (sa_cons (se_tup (sa_cons se_int (sa_cons se_int sa_nil))) (sa_cons (se_tup (sa_cons se_int (sa_cons se_int sa_nil))) (sa_cons (se_tup (sa_cons se_int (sa_cons se_int sa_nil))) (sa_cons (se_tup (sa_cons se_int (sa_cons se_int sa_nil))) (sa_cons (se_tup (sa_cons se_int (sa_cons se_int sa_nil))) (sa_cons (se_tup (sa_cons se_int (sa_cons se_int sa_nil))) sa_nil))))))) sa_nil)))
    (ss_cons (ss_try_as rfl rfl rfl sc_law_plain.nd rfl rfl ⟨rfl, by decide, .inl T.gc_InvalidRow⟩ (takes_of rfl rfl rfl rfl) (hdok_cons T.cl_InvalidRow (T.xm_InvalidRow_InvalidRow) hdok_nil)
    (fun W pn xe tk pe => (ss_one (ss_set 2 sc_law_plain.nd (se_call tk (ok_plain_row T) ar_plain_row (hr.mono (by decide)) rfl T.g_plain_row T.k_plain_row T.b_plain_row (sa_cons (se_var 0) sa_nil)))))
    ⟨fun k a dd A oe pn hz hf => (ss_one (ss_ret (se_and (se_cmp (d_notin (room_su1 (room_u1 hr))) (se_var 0) (se_tup (sa_cons se_str (sa_cons se_str sa_nil)))) (se_one (se_cmp (d_eq (room_su (room_u hr))) (se_xf (xcs_cons T.cl_InvalidRow T.xf_InvalidRow T.xna_InvalidRow_what xcs_nil) hz hf (se_var 3)) se_str)))))⟩)
    (ss_one (ss_ret (se_and (se_cmp (d_in (room_u1 hr)) (se_var 0) (se_tup (sa_cons se_str (sa_cons se_str sa_nil)))) (se_one (se_call (takes_of rfl rfl rfl rfl) (ok_law_fields T) ar_law_fields (hr.mono (by decide)) rfl T.g_law_fields T.k_law_fields T.b_law_fields (sa_cons (se_var 2) (sa_cons (se_lst (sa_cons (se_var 0) (sa_cons se_str (sa_cons se_str (sa_cons se_str (sa_cons (se_var 1) sa_nil)))))) sa_nil)))))))))
theorem sc_law : FnScope ["script", "deck", "turn", "parts", "what", "mode"] ["script"] (defScope s_law) := ⟨rfl, rfl, rfl, by decide +kernel, rfl, by decide +kernel, by decide +kernel⟩
theorem ok_law (T : GOk w K mg cl g) : FnOk P w K mg base (L2.CX P w) 7 g.a_law g.fd_law ["script"] (spD K w ⟨cl, none⟩ 1 f_law) := by
  refine fn_ok T.F_law sc_law fun cdv A outer s H E hr => ?_
  exact (ss_cons (ss_set 1 sc_law.nd (se_call (takes_of rfl rfl rfl rfl) (ok_law_deck T) ar_law_deck (hr.mono (by decide)) rfl T.g_law_deck T.k_law_deck T.b_law_deck (sa_cons (se_var 0) (sa_cons se_int (sa_cons se_int sa_nil)))))
    (ss_cons (ss_if (sb_cmp (d_ne (room_u hr)) (T.e_EVENTS rfl rfl) se_str) (ss_one (ss_ret se_bl)) ss_nil)
    (ss_cons (ss_for (passes_of rfl) rfl (si_range1 rfl T.n_range se_int) (sg_name 2 sc_law.nd) (ss_cons (ss_set 3 sc_law.nd (se_call (takes_of rfl rfl rfl rfl) (ok_law_parts T) ar_law_parts (hr.mono (by decide)) rfl T.g_law_parts T.k_law_parts T.b_law_parts (sa_cons (se_var 1) sa_nil)))
    (ss_cons (ss_set 4 sc_law.nd (se_call (takes_of rfl rfl rfl rfl) (ok_law_first_wrong T) ar_law_first_wrong (hr.mono (by decide)) rfl T.g_law_first_wrong T.k_law_first_wrong T.b_law_first_wrong (sa_cons (se_var 3) sa_nil)))
    (ss_cons (ss_if (sb_bool (sw_and (sb_cmp (d_ne (room_u hr)) (se_var 4) se_str) (sw_and1 (sb_not (sb_tru (se_call (takes_of rfl rfl rfl rfl) (ok_law_refused T) ar_law_refused (hr.mono (by decide)) rfl T.g_law_refused T.k_law_refused T.b_law_refused (sa_cons (se_var 3) (sa_cons (se_var 4) sa_nil)))))))) (ss_one (ss_ret se_bl)) ss_nil)
    (ss_one (ss_if (sb_bool (sw_and (sb_cmp (d_eq (room_u hr)) (se_var 4) se_str) (sw_and1 (sb_not (sb_tru (se_call (takes_of rfl rfl rfl rfl) (ok_law_built T) ar_law_built (hr.mono (by decide)) rfl T.g_law_built T.k_law_built T.b_law_built (sa_cons (se_var 3) sa_nil))))))) (ss_one (ss_ret se_bl)) ss_nil))))))
    (ss_cons (ss_for (passes_of rfl) rfl (si_any (se_tup (sa_cons se_str (sa_cons se_str (sa_cons se_str (sa_cons se_str (sa_cons se_str (sa_cons se_str sa_nil)))))))) (sg_name 5 sc_law.nd) (ss_one (ss_if (sb_not (sb_tru (se_call (takes_of rfl rfl rfl rfl) (ok_law_plain T) ar_law_plain (hr.mono (by decide)) rfl T.g_law_plain T.k_law_plain T.b_law_plain (sa_cons (se_var 5) sa_nil)))) (ss_one (ss_ret se_bl)) ss_nil)))
    (ss_one (ss_ret se_bl))))))
end
theorem all_mk {l : PySem.W.OpenLaw} {w : World} {K : PySem.W.Frag} {h : Heap} {mg : Str → Option Value} {fa : Addr} (X : K.In h) (G : h.Ns mainGlobals mg) (hfa : mg "law" = some (.ref fa))
    {a_law_deck : Addr} {od_law_deck an_law_deck : Option Addr} {sl_law_deck : Array (Option Value)} {oc_law_deck kV_law_deck dc_law_deck pm_law_deck cd_law_deck ct_law_deck : Value}
    {a_law_take : Addr} {od_law_take an_law_take : Option Addr} {sl_law_take : Array (Option Value)} {oc_law_take kV_law_take dc_law_take pm_law_take cd_law_take ct_law_take : Value}
    {a_law_word : Addr} {od_law_word an_law_word : Option Addr} {sl_law_word : Array (Option Value)} {oc_law_word kV_law_word dc_law_word pm_law_word cd_law_word ct_law_word : Value}
    {a_law_rule : Addr} {od_law_rule an_law_rule : Option Addr} {sl_law_rule : Array (Option Value)} {oc_law_rule kV_law_rule dc_law_rule pm_law_rule cd_law_rule ct_law_rule : Value}
    {a_law_spoilt_rule : Addr} {od_law_spoilt_rule an_law_spoilt_rule : Option Addr} {sl_law_spoilt_rule : Array (Option Value)} {oc_law_spoilt_rule kV_law_spoilt_rule dc_law_spoilt_rule pm_law_spoilt_rule cd_law_spoilt_rule ct_law_spoilt_rule : Value}
    {a_law_parts : Addr} {od_law_parts an_law_parts : Option Addr} {sl_law_parts : Array (Option Value)} {oc_law_parts kV_law_parts dc_law_parts pm_law_parts cd_law_parts ct_law_parts : Value}
    {a_law_rule_in_order : Addr} {od_law_rule_in_order an_law_rule_in_order : Option Addr} {sl_law_rule_in_order : Array (Option Value)} {oc_law_rule_in_order kV_law_rule_in_order dc_law_rule_in_order pm_law_rule_in_order cd_law_rule_in_order ct_law_rule_in_order : Value}
    {a_law_first_wrong : Addr} {od_law_first_wrong an_law_first_wrong : Option Addr} {sl_law_first_wrong : Array (Option Value)} {oc_law_first_wrong kV_law_first_wrong dc_law_first_wrong pm_law_first_wrong cd_law_first_wrong ct_law_first_wrong : Value}
    {a_is_mark : Addr} {od_is_mark an_is_mark : Option Addr} {sl_is_mark : Array (Option Value)} {oc_is_mark kV_is_mark dc_is_mark pm_is_mark cd_is_mark ct_is_mark : Value}
    {a_is_rule : Addr} {od_is_rule an_is_rule : Option Addr} {sl_is_rule : Array (Option Value)} {oc_is_rule kV_is_rule dc_is_rule pm_is_rule cd_is_rule ct_is_rule : Value}
    {a_Row_init : Addr} {od_Row_init an_Row_init : Option Addr} {sl_Row_init : Array (Option Value)} {oc_Row_init kV_Row_init dc_Row_init pm_Row_init cd_Row_init ct_Row_init : Value}
    {a_law_refused : Addr} {od_law_refused an_law_refused : Option Addr} {sl_law_refused : Array (Option Value)} {oc_law_refused kV_law_refused dc_law_refused pm_law_refused cd_law_refused ct_law_refused : Value}
    {a_law_whole : Addr} {od_law_whole an_law_whole : Option Addr} {sl_law_whole : Array (Option Value)} {oc_law_whole kV_law_whole dc_law_whole pm_law_whole cd_law_whole ct_law_whole : Value}
    {a_law_same_rule : Addr} {od_law_same_rule an_law_same_rule : Option Addr} {sl_law_same_rule : Array (Option Value)} {oc_law_same_rule kV_law_same_rule dc_law_same_rule pm_law_same_rule cd_law_same_rule ct_law_same_rule : Value}
    {a_law_fields : Addr} {od_law_fields an_law_fields : Option Addr} {sl_law_fields : Array (Option Value)} {oc_law_fields kV_law_fields dc_law_fields pm_law_fields cd_law_fields ct_law_fields : Value}
    {a_law_built : Addr} {od_law_built an_law_built : Option Addr} {sl_law_built : Array (Option Value)} {oc_law_built kV_law_built dc_law_built pm_law_built cd_law_built ct_law_built : Value}
    {a_plain_row : Addr} {od_plain_row an_plain_row : Option Addr} {sl_plain_row : Array (Option Value)} {oc_plain_row kV_plain_row dc_plain_row pm_plain_row cd_plain_row ct_plain_row : Value}
    {a_law_plain : Addr} {od_law_plain an_law_plain : Option Addr} {sl_law_plain : Array (Option Value)} {oc_law_plain kV_law_plain dc_law_plain pm_law_plain cd_law_plain ct_law_plain : Value}
    {a_law : Addr} {od_law an_law : Option Addr} {sl_law : Array (Option Value)} {oc_law kV_law dc_law pm_law cd_law ct_law : Value}
    {a_InvalidRow_init : Addr} {od_InvalidRow_init an_InvalidRow_init : Option Addr} {sl_InvalidRow_init : Array (Option Value)} {oc_InvalidRow_init kV_InvalidRow_init dc_InvalidRow_init pm_InvalidRow_init cd_InvalidRow_init ct_InvalidRow_init : Value}
    {C_Row : Addr}
    {C_InvalidRow : Addr}
    {C_InvalidMap : Addr}
    {C_ImpossibleLife : Addr}
    {C_BridgeError : Addr}
    {nm_InvalidRow : Str} {qn_InvalidRow : Str} {N_InvalidRow : Addr} {bs_InvalidRow : List Value} {sn_InvalidRow : _} {sub_InvalidRow : _} {ab_InvalidRow : _} {col_InvalidRow : _} {dd_InvalidRow : _} {k0_InvalidRow : _} {k1_InvalidRow : _} {k2_InvalidRow : _} {k3_InvalidRow : _} {k5_InvalidRow : _}
    {t_EVENTS : Tok}
    {A_GRIPS : Addr} {n_GRIPS : Nat}
    {t_GRIPS_0 : Tok}
    {t_GRIPS_1 : Tok}
    {t_GRIPS_2 : Tok}
    {A_LEASES : Addr} {n_LEASES : Nat}
    {t_LEASES_0 : Tok}
    {t_LEASES_1 : Tok}
    {A_MODES : Addr} {n_MODES : Nat}
    {t_MODES_0 : Tok}
    {t_MODES_1 : Tok}
    {t_MODES_2 : Tok}
    {t_MOST_CHANGE : Tok}
    {t_MOST_MARKS : Tok}
    {A_SHARINGS : Addr} {n_SHARINGS : Nat}
    {t_SHARINGS_0 : Tok}
    {t_SHARINGS_1 : Tok}
    {A_STILL : Addr} {n_STILL : Nat}
    {A_STILL_0 : Addr} {n_STILL_0 : Nat}
    {t_STILL_0_0 : Tok}
    {t_STILL_0_1 : Tok}
    {A_STILL_1 : Addr} {n_STILL_1 : Nat}
    {t_STILL_1_0 : Tok}
    {t_STILL_1_1 : Tok}
    {A_STILL_2 : Addr} {n_STILL_2 : Nat}
    {t_STILL_2_0 : Tok}
    {t_STILL_2_1 : Tok}
    {A_STILL_3 : Addr} {n_STILL_3 : Nat}
    {t_STILL_3_0 : Tok}
    {t_STILL_3_1 : Tok}
    {A_STILL_4 : Addr} {n_STILL_4 : Nat}
    {t_STILL_4_0 : Tok}
    {t_STILL_4_1 : Tok}
    {A_STILL_5 : Addr} {n_STILL_5 : Nat}
    {t_STILL_5_0 : Tok}
    {t_STILL_5_1 : Tok}
    (n_law_deck : PySem.W.nsIn K mainGlobals "_law_deck" = some (some (.ref a_law_deck)))
    (n_law_take : PySem.W.nsIn K mainGlobals "_law_take" = some (some (.ref a_law_take)))
    (n_law_word : PySem.W.nsIn K mainGlobals "_law_word" = some (some (.ref a_law_word)))
    (n_law_rule : PySem.W.nsIn K mainGlobals "_law_rule" = some (some (.ref a_law_rule)))
    (n_law_spoilt_rule : PySem.W.nsIn K mainGlobals "_law_spoilt_rule" = some (some (.ref a_law_spoilt_rule)))
    (n_law_parts : PySem.W.nsIn K mainGlobals "_law_parts" = some (some (.ref a_law_parts)))
    (n_law_rule_in_order : PySem.W.nsIn K mainGlobals "_law_rule_in_order" = some (some (.ref a_law_rule_in_order)))
    (n_law_first_wrong : PySem.W.nsIn K mainGlobals "_law_first_wrong" = some (some (.ref a_law_first_wrong)))
    (n_is_mark : PySem.W.nsIn K mainGlobals "is_mark" = some (some (.ref a_is_mark)))
    (n_is_rule : PySem.W.nsIn K mainGlobals "is_rule" = some (some (.ref a_is_rule)))
    (n_law_refused : PySem.W.nsIn K mainGlobals "_law_refused" = some (some (.ref a_law_refused)))
    (n_law_whole : PySem.W.nsIn K mainGlobals "_law_whole" = some (some (.ref a_law_whole)))
    (n_law_same_rule : PySem.W.nsIn K mainGlobals "_law_same_rule" = some (some (.ref a_law_same_rule)))
    (n_law_fields : PySem.W.nsIn K mainGlobals "_law_fields" = some (some (.ref a_law_fields)))
    (n_law_built : PySem.W.nsIn K mainGlobals "_law_built" = some (some (.ref a_law_built)))
    (n_plain_row : PySem.W.nsIn K mainGlobals "plain_row" = some (some (.ref a_plain_row)))
    (n_law_plain : PySem.W.nsIn K mainGlobals "_law_plain" = some (some (.ref a_law_plain)))
    (n_law : PySem.W.nsIn K mainGlobals "law" = some (some (.ref a_law)))
    (nc_Row : PySem.W.nsIn K mainGlobals "Row" = some (some (.ref C_Row)))
    (nc_InvalidRow : PySem.W.nsIn K mainGlobals "InvalidRow" = some (some (.ref C_InvalidRow)))
    (nc_InvalidMap : PySem.W.nsIn K mainGlobals "InvalidMap" = some (some (.ref C_InvalidMap)))
    (nc_ImpossibleLife : PySem.W.nsIn K mainGlobals "ImpossibleLife" = some (some (.ref C_ImpossibleLife)))
    (nc_BridgeError : PySem.W.nsIn K mainGlobals "BridgeError" = some (some (.ref C_BridgeError)))
    (l_law_deck : K.lookup a_law_deck = some ⟨oc_law_deck, od_law_deck, .func (PySem.W.fnOf "_law_deck" "_law_deck" (defArgs s_law_deck) (defBody s_law_deck) (defScope s_law_deck) .none kV_law_deck dc_law_deck pm_law_deck an_law_deck cd_law_deck ct_law_deck), sl_law_deck⟩)
    (c_law_deck : PySem.W.codeIn K cd_law_deck "_law_deck" = true)
    (k_law_deck : PySem.W.keepIn K (.ref a_law_deck) = true)
    (l_law_take : K.lookup a_law_take = some ⟨oc_law_take, od_law_take, .func (PySem.W.fnOf "_law_take" "_law_take" (defArgs s_law_take) (defBody s_law_take) (defScope s_law_take) .none kV_law_take dc_law_take pm_law_take an_law_take cd_law_take ct_law_take), sl_law_take⟩)
    (c_law_take : PySem.W.codeIn K cd_law_take "_law_take" = true)
    (k_law_take : PySem.W.keepIn K (.ref a_law_take) = true)
    (l_law_word : K.lookup a_law_word = some ⟨oc_law_word, od_law_word, .func (PySem.W.fnOf "_law_word" "_law_word" (defArgs s_law_word) (defBody s_law_word) (defScope s_law_word) .none kV_law_word dc_law_word pm_law_word an_law_word cd_law_word ct_law_word), sl_law_word⟩)
    (c_law_word : PySem.W.codeIn K cd_law_word "_law_word" = true)
    (k_law_word : PySem.W.keepIn K (.ref a_law_word) = true)
    (l_law_rule : K.lookup a_law_rule = some ⟨oc_law_rule, od_law_rule, .func (PySem.W.fnOf "_law_rule" "_law_rule" (defArgs s_law_rule) (defBody s_law_rule) (defScope s_law_rule) .none kV_law_rule dc_law_rule pm_law_rule an_law_rule cd_law_rule ct_law_rule), sl_law_rule⟩)
    (c_law_rule : PySem.W.codeIn K cd_law_rule "_law_rule" = true)
    (k_law_rule : PySem.W.keepIn K (.ref a_law_rule) = true)
    (l_law_spoilt_rule : K.lookup a_law_spoilt_rule = some ⟨oc_law_spoilt_rule, od_law_spoilt_rule, .func (PySem.W.fnOf "_law_spoilt_rule" "_law_spoilt_rule" (defArgs s_law_spoilt_rule) (defBody s_law_spoilt_rule) (defScope s_law_spoilt_rule) .none kV_law_spoilt_rule dc_law_spoilt_rule pm_law_spoilt_rule an_law_spoilt_rule cd_law_spoilt_rule ct_law_spoilt_rule), sl_law_spoilt_rule⟩)
    (c_law_spoilt_rule : PySem.W.codeIn K cd_law_spoilt_rule "_law_spoilt_rule" = true)
    (k_law_spoilt_rule : PySem.W.keepIn K (.ref a_law_spoilt_rule) = true)
    (l_law_parts : K.lookup a_law_parts = some ⟨oc_law_parts, od_law_parts, .func (PySem.W.fnOf "_law_parts" "_law_parts" (defArgs s_law_parts) (defBody s_law_parts) (defScope s_law_parts) .none kV_law_parts dc_law_parts pm_law_parts an_law_parts cd_law_parts ct_law_parts), sl_law_parts⟩)
    (c_law_parts : PySem.W.codeIn K cd_law_parts "_law_parts" = true)
    (k_law_parts : PySem.W.keepIn K (.ref a_law_parts) = true)
    (l_law_rule_in_order : K.lookup a_law_rule_in_order = some ⟨oc_law_rule_in_order, od_law_rule_in_order, .func (PySem.W.fnOf "_law_rule_in_order" "_law_rule_in_order" (defArgs s_law_rule_in_order) (defBody s_law_rule_in_order) (defScope s_law_rule_in_order) .none kV_law_rule_in_order dc_law_rule_in_order pm_law_rule_in_order an_law_rule_in_order cd_law_rule_in_order ct_law_rule_in_order), sl_law_rule_in_order⟩)
    (c_law_rule_in_order : PySem.W.codeIn K cd_law_rule_in_order "_law_rule_in_order" = true)
    (k_law_rule_in_order : PySem.W.keepIn K (.ref a_law_rule_in_order) = true)
    (l_law_first_wrong : K.lookup a_law_first_wrong = some ⟨oc_law_first_wrong, od_law_first_wrong, .func (PySem.W.fnOf "_law_first_wrong" "_law_first_wrong" (defArgs s_law_first_wrong) (defBody s_law_first_wrong) (defScope s_law_first_wrong) .none kV_law_first_wrong dc_law_first_wrong pm_law_first_wrong an_law_first_wrong cd_law_first_wrong ct_law_first_wrong), sl_law_first_wrong⟩)
    (c_law_first_wrong : PySem.W.codeIn K cd_law_first_wrong "_law_first_wrong" = true)
    (k_law_first_wrong : PySem.W.keepIn K (.ref a_law_first_wrong) = true)
    (l_is_mark : K.lookup a_is_mark = some ⟨oc_is_mark, od_is_mark, .func (PySem.W.fnOf "is_mark" "is_mark" (defArgs s_is_mark) (defBody s_is_mark) (defScope s_is_mark) .none kV_is_mark dc_is_mark pm_is_mark an_is_mark cd_is_mark ct_is_mark), sl_is_mark⟩)
    (c_is_mark : PySem.W.codeIn K cd_is_mark "is_mark" = true)
    (k_is_mark : PySem.W.keepIn K (.ref a_is_mark) = true)
    (l_is_rule : K.lookup a_is_rule = some ⟨oc_is_rule, od_is_rule, .func (PySem.W.fnOf "is_rule" "is_rule" (defArgs s_is_rule) (defBody s_is_rule) (defScope s_is_rule) .none kV_is_rule dc_is_rule pm_is_rule an_is_rule cd_is_rule ct_is_rule), sl_is_rule⟩)
    (c_is_rule : PySem.W.codeIn K cd_is_rule "is_rule" = true)
    (k_is_rule : PySem.W.keepIn K (.ref a_is_rule) = true)
    (at_Row_init : PySem.W.findIn K (.ref C_Row) "__init__" = some (some (.ref a_Row_init)))
    (if_Row_init : PySem.W.isFn K (.ref a_Row_init) = true)
    (l_Row_init : K.lookup a_Row_init = some ⟨oc_Row_init, od_Row_init, .func (PySem.W.fnOf "__init__" "Row.__init__" (defArgs s_Row_init) (defBody s_Row_init) (defScope s_Row_init) .none kV_Row_init dc_Row_init pm_Row_init an_Row_init cd_Row_init ct_Row_init), sl_Row_init⟩)
    (c_Row_init : PySem.W.codeIn K cd_Row_init "Row.__init__" = true)
    (k_Row_init : PySem.W.keepIn K (.ref a_Row_init) = true)
    (l_law_refused : K.lookup a_law_refused = some ⟨oc_law_refused, od_law_refused, .func (PySem.W.fnOf "_law_refused" "_law_refused" (defArgs s_law_refused) (defBody s_law_refused) (defScope s_law_refused) .none kV_law_refused dc_law_refused pm_law_refused an_law_refused cd_law_refused ct_law_refused), sl_law_refused⟩)
    (c_law_refused : PySem.W.codeIn K cd_law_refused "_law_refused" = true)
    (k_law_refused : PySem.W.keepIn K (.ref a_law_refused) = true)
    (l_law_whole : K.lookup a_law_whole = some ⟨oc_law_whole, od_law_whole, .func (PySem.W.fnOf "_law_whole" "_law_whole" (defArgs s_law_whole) (defBody s_law_whole) (defScope s_law_whole) .none kV_law_whole dc_law_whole pm_law_whole an_law_whole cd_law_whole ct_law_whole), sl_law_whole⟩)
    (c_law_whole : PySem.W.codeIn K cd_law_whole "_law_whole" = true)
    (k_law_whole : PySem.W.keepIn K (.ref a_law_whole) = true)
    (l_law_same_rule : K.lookup a_law_same_rule = some ⟨oc_law_same_rule, od_law_same_rule, .func (PySem.W.fnOf "_law_same_rule" "_law_same_rule" (defArgs s_law_same_rule) (defBody s_law_same_rule) (defScope s_law_same_rule) .none kV_law_same_rule dc_law_same_rule pm_law_same_rule an_law_same_rule cd_law_same_rule ct_law_same_rule), sl_law_same_rule⟩)
    (c_law_same_rule : PySem.W.codeIn K cd_law_same_rule "_law_same_rule" = true)
    (k_law_same_rule : PySem.W.keepIn K (.ref a_law_same_rule) = true)
    (l_law_fields : K.lookup a_law_fields = some ⟨oc_law_fields, od_law_fields, .func (PySem.W.fnOf "_law_fields" "_law_fields" (defArgs s_law_fields) (defBody s_law_fields) (defScope s_law_fields) .none kV_law_fields dc_law_fields pm_law_fields an_law_fields cd_law_fields ct_law_fields), sl_law_fields⟩)
    (c_law_fields : PySem.W.codeIn K cd_law_fields "_law_fields" = true)
    (k_law_fields : PySem.W.keepIn K (.ref a_law_fields) = true)
    (l_law_built : K.lookup a_law_built = some ⟨oc_law_built, od_law_built, .func (PySem.W.fnOf "_law_built" "_law_built" (defArgs s_law_built) (defBody s_law_built) (defScope s_law_built) .none kV_law_built dc_law_built pm_law_built an_law_built cd_law_built ct_law_built), sl_law_built⟩)
    (c_law_built : PySem.W.codeIn K cd_law_built "_law_built" = true)
    (k_law_built : PySem.W.keepIn K (.ref a_law_built) = true)
    (l_plain_row : K.lookup a_plain_row = some ⟨oc_plain_row, od_plain_row, .func (PySem.W.fnOf "plain_row" "plain_row" (defArgs s_plain_row) (defBody s_plain_row) (defScope s_plain_row) .none kV_plain_row dc_plain_row pm_plain_row an_plain_row cd_plain_row ct_plain_row), sl_plain_row⟩)
    (c_plain_row : PySem.W.codeIn K cd_plain_row "plain_row" = true)
    (k_plain_row : PySem.W.keepIn K (.ref a_plain_row) = true)
    (l_law_plain : K.lookup a_law_plain = some ⟨oc_law_plain, od_law_plain, .func (PySem.W.fnOf "_law_plain" "_law_plain" (defArgs s_law_plain) (defBody s_law_plain) (defScope s_law_plain) .none kV_law_plain dc_law_plain pm_law_plain an_law_plain cd_law_plain ct_law_plain), sl_law_plain⟩)
    (c_law_plain : PySem.W.codeIn K cd_law_plain "_law_plain" = true)
    (k_law_plain : PySem.W.keepIn K (.ref a_law_plain) = true)
    (l_law : K.lookup a_law = some ⟨oc_law, od_law, .func (PySem.W.fnOf "law" "law" (defArgs s_law) (defBody s_law) (defScope s_law) .none kV_law dc_law pm_law an_law cd_law ct_law), sl_law⟩)
    (c_law : PySem.W.codeIn K cd_law "law" = true)
    (k_law : PySem.W.keepIn K (.ref a_law) = true)
    (at_InvalidRow_init : PySem.W.findIn K (.ref C_InvalidRow) "__init__" = some (some (.ref a_InvalidRow_init)))
    (l_InvalidRow_init : K.lookup a_InvalidRow_init = some ⟨oc_InvalidRow_init, od_InvalidRow_init, .func (PySem.W.fnOf "__init__" "InvalidRow.__init__" (defArgs s_InvalidRow_init) (defBody s_InvalidRow_init) (defScope s_InvalidRow_init) .none kV_InvalidRow_init dc_InvalidRow_init pm_InvalidRow_init an_InvalidRow_init cd_InvalidRow_init ct_InvalidRow_init), sl_InvalidRow_init⟩)
    (c_InvalidRow_init : PySem.W.codeIn K cd_InvalidRow_init "InvalidRow.__init__" = true)
    (k_InvalidRow_init : PySem.W.keepIn K (.ref a_InvalidRow_init) = true)
    (tf_InvalidRow_init : PySem.W.typeIn K (.ref a_InvalidRow_init) = some (.type "function"))
    (xl_InvalidRow : K.lookup C_InvalidRow = some (PySem.excClassObj nm_InvalidRow qn_InvalidRow C_InvalidRow N_InvalidRow bs_InvalidRow [.ref C_BridgeError, .type "ValueError", .type "Exception", .type "BaseException", .type "object"] true sn_InvalidRow sub_InvalidRow ab_InvalidRow col_InvalidRow dd_InvalidRow k0_InvalidRow k1_InvalidRow k2_InvalidRow k3_InvalidRow k5_InvalidRow "ValueError.__new__"))
    (sa_InvalidRow : PySem.W.findIn K (.ref C_InvalidRow) "__setattr__" = some (some (.builtin "object.__setattr__")))
    (ga_InvalidRow : PySem.W.findIn K (.ref C_InvalidRow) "__getattribute__" = some (some (.builtin "BaseException.__getattribute__")))
    (gg_InvalidRow : PySem.W.findIn K (.ref C_InvalidRow) "__getattr__" = some none)
    (ca_InvalidRow : PySem.W.findIn K (.ref C_InvalidRow) "__class__" = some (some (.builtin "object.__class__")))
    (mr_InvalidRow : PySem.W.mroIn K C_InvalidRow (.type "object") = some true)
    (su_InvalidRow : PySem.W.subIn K (.ref C_InvalidRow) (.type "BaseException") = some true)
    (ty_InvalidRow : PySem.W.typeIn K (.ref C_InvalidRow) = some (.type "type"))
    (hd_InvalidRow : PySem.W.hasDictIn K C_InvalidRow = true)
    (kc_InvalidRow : PySem.W.keepIn K (.ref C_InvalidRow) = true)
    (ty_InvalidMap : PySem.W.typeIn K (.ref C_InvalidMap) = some (.type "type"))
    (hd_InvalidMap : PySem.W.hasDictIn K C_InvalidMap = true)
    (su_InvalidMap : PySem.W.subIn K (.ref C_InvalidMap) (.type "BaseException") = some true)
    (ty_ImpossibleLife : PySem.W.typeIn K (.ref C_ImpossibleLife) = some (.type "type"))
    (hd_ImpossibleLife : PySem.W.hasDictIn K C_ImpossibleLife = true)
    (su_ImpossibleLife : PySem.W.subIn K (.ref C_ImpossibleLife) (.type "BaseException") = some true)
    (ty_BridgeError : PySem.W.typeIn K (.ref C_BridgeError) = some (.type "type"))
    (hd_BridgeError : PySem.W.hasDictIn K C_BridgeError = true)
    (su_BridgeError : PySem.W.subIn K (.ref C_BridgeError) (.type "BaseException") = some true)
    (br_BridgeError : PySem.W.readsIn K C_BridgeError (.type "type") = true)
    (bg_BridgeError : PySem.W.specialIn K (.ref C_BridgeError) "__getattribute__" = some (some (.builtin "type.__getattribute__")))
    (bf_BridgeError : PySem.W.findCls K (.ref C_BridgeError) (.type "type") "__init__" = some (.val (.builtin "ValueError.__init__")))
    (xna_InvalidRow_what : PySem.W.findIn K (.ref C_InvalidRow) "what" = some none)
    (ne_InvalidRow_ImpossibleLife : (Value.ref C_InvalidRow == Value.ref C_ImpossibleLife) = false)
    (ne_InvalidRow_InvalidMap : (Value.ref C_InvalidRow == Value.ref C_InvalidMap) = false)
    (sb_InvalidRow_BridgeError : PySem.W.subIn K (.ref C_InvalidRow) (.ref C_BridgeError) = some true)
    (sb_InvalidRow_ImpossibleLife : PySem.W.subIn K (.ref C_InvalidRow) (.ref C_ImpossibleLife) = some false)
    (sb_InvalidRow_InvalidMap : PySem.W.subIn K (.ref C_InvalidRow) (.ref C_InvalidMap) = some false)
    (sb_InvalidRow_InvalidRow : PySem.W.subIn K (.ref C_InvalidRow) (.ref C_InvalidRow) = some true)
    (sb_InvalidRow_ValueError : PySem.W.subIn K (.ref C_InvalidRow) (.type "ValueError") = some true)
    (xsg : PySem.W.specialIn K (.builtin "object.__class__") "__get__" = some (some (.builtin "getset_descriptor.__get__")))
    (xst : PySem.W.takesIn K (.builtin "object.__class__") = some true)
    (pg_Row : PySem.W.plainGet K C_Row Str.empty = true)
    (hd_Row : PySem.W.hasDictIn K C_Row = true)
    (po_Row : PySem.W.plainOver K C_Row = true)
    (sa_Row : PySem.W.findIn K (.ref C_Row) "__setattr__" = some (some (.builtin "object.__setattr__")))
    (mk_Row : PySem.W.makesIn K C_Row = true)
    (kc_Row : PySem.W.keepIn K (.ref C_Row) = true)
    (na_Row_grip : PySem.W.findIn K (.ref C_Row) "grip" = some none)
    (na_Row_lease : PySem.W.findIn K (.ref C_Row) "lease" = some none)
    (na_Row_mode : PySem.W.findIn K (.ref C_Row) "mode" = some none)
    (na_Row_rule : PySem.W.findIn K (.ref C_Row) "rule" = some none)
    (na_Row_sharing : PySem.W.findIn K (.ref C_Row) "sharing" = some none)
    (bn_ValueError : PySem.W.nsIn K mainGlobals "ValueError" = some none)
    (bn_abs : PySem.W.nsIn K mainGlobals "abs" = some none)
    (bn_bool : PySem.W.nsIn K mainGlobals "bool" = some none)
    (bn_int : PySem.W.nsIn K mainGlobals "int" = some none)
    (bn_isinstance : PySem.W.nsIn K mainGlobals "isinstance" = some none)
    (bn_len : PySem.W.nsIn K mainGlobals "len" = some none)
    (bn_list : PySem.W.nsIn K mainGlobals "list" = some none)
    (bn_max : PySem.W.nsIn K mainGlobals "max" = some none)
    (bn_range : PySem.W.nsIn K mainGlobals "range" = some none)
    (bn_str : PySem.W.nsIn K mainGlobals "str" = some none)
    (bn_tuple : PySem.W.nsIn K mainGlobals "tuple" = some none)
    (g_EVENTS : PySem.W.nsIn K mainGlobals "EVENTS" = some (some (.str "LGHRFD" t_EVENTS)))
    (g_GRIPS : PySem.W.nsIn K mainGlobals "GRIPS" = some (some (.ref A_GRIPS)))
    (L_GRIPS : K.lookup A_GRIPS = some ⟨.type "tuple", none, .seq #[(.str "slot" t_GRIPS_0), (.str "place" t_GRIPS_1), (.str "pin" t_GRIPS_2)] n_GRIPS, #[]⟩)
    (g_LEASES : PySem.W.nsIn K mainGlobals "LEASES" = some (some (.ref A_LEASES)))
    (L_LEASES : K.lookup A_LEASES = some ⟨.type "tuple", none, .seq #[(.str "always" t_LEASES_0), (.str "call" t_LEASES_1)] n_LEASES, #[]⟩)
    (g_MODES : PySem.W.nsIn K mainGlobals "MODES" = some (some (.ref A_MODES)))
    (L_MODES : K.lookup A_MODES = some ⟨.type "tuple", none, .seq #[(.str "held" t_MODES_0), (.str "copied" t_MODES_1), (.str "refused" t_MODES_2)] n_MODES, #[]⟩)
    (g_MOST_CHANGE : PySem.W.nsIn K mainGlobals "MOST_CHANGE" = some (some (.int 3 t_MOST_CHANGE)))
    (g_MOST_MARKS : PySem.W.nsIn K mainGlobals "MOST_MARKS" = some (some (.int 4 t_MOST_MARKS)))
    (g_SHARINGS : PySem.W.nsIn K mainGlobals "SHARINGS" = some (some (.ref A_SHARINGS)))
    (L_SHARINGS : K.lookup A_SHARINGS = some ⟨.type "tuple", none, .seq #[(.str "one" t_SHARINGS_0), (.str "each" t_SHARINGS_1)] n_SHARINGS, #[]⟩)
    (g_STILL : PySem.W.nsIn K mainGlobals "STILL" = some (some (.ref A_STILL)))
    (L_STILL : K.lookup A_STILL = some ⟨.type "tuple", none, .seq #[(.ref A_STILL_0), (.ref A_STILL_1), (.ref A_STILL_2), (.ref A_STILL_3), (.ref A_STILL_4), (.ref A_STILL_5)] n_STILL, #[]⟩)
    (L_STILL_0 : K.lookup A_STILL_0 = some ⟨.type "tuple", none, .seq #[(.int 0 t_STILL_0_0), (.int 0 t_STILL_0_1)] n_STILL_0, #[]⟩)
    (L_STILL_1 : K.lookup A_STILL_1 = some ⟨.type "tuple", none, .seq #[(.int 0 t_STILL_1_0), (.int 0 t_STILL_1_1)] n_STILL_1, #[]⟩)
    (L_STILL_2 : K.lookup A_STILL_2 = some ⟨.type "tuple", none, .seq #[(.int 0 t_STILL_2_0), (.int 0 t_STILL_2_1)] n_STILL_2, #[]⟩)
    (L_STILL_3 : K.lookup A_STILL_3 = some ⟨.type "tuple", none, .seq #[(.int 0 t_STILL_3_0), (.int 0 t_STILL_3_1)] n_STILL_3, #[]⟩)
    (L_STILL_4 : K.lookup A_STILL_4 = some ⟨.type "tuple", none, .seq #[(.int 0 t_STILL_4_0), (.int 0 t_STILL_4_1)] n_STILL_4, #[]⟩)
    (L_STILL_5 : K.lookup A_STILL_5 = some ⟨.type "tuple", none, .seq #[(.int 0 t_STILL_5_0), (.int 0 t_STILL_5_1)] n_STILL_5, #[]⟩) :
    ∃ (fd : FuncData) (cl : Cl), (∀ (s : Shared) (v : Value), BindsTo s fd ⟨[v], []⟩ [("script", v)]) ∧ ∀ base : Heap, K.In base → base.Ns mainGlobals mg → FnOk l.prog w K mg base (L2.CX l.prog w) 7 fa fd ["script"] (spD K w cl 1 f_law) := by
  have e := hfa.symm.trans (PySem.W.mg_of X G n_law)
  cases e
  have F_law_deck := fun_mk (st := s_law_deck) l_law_deck c_law_deck k_law_deck
  have b_law_deck := F_law_deck.binds (ps := ["script", "cells", "each"]) fun _ _ _ _ _ _ us hl => match us, hl with | [_, _, _], _ => rfl
  have F_law_take := fun_mk (st := s_law_take) l_law_take c_law_take k_law_take
  have b_law_take := F_law_take.binds (ps := ["deck", "many"]) fun _ _ _ _ _ _ us hl => match us, hl with | [_, _], _ => rfl
  have F_law_word := fun_mk (st := s_law_word) l_law_word c_law_word k_law_word
  have b_law_word := F_law_word.binds (ps := ["deck", "good", "bad"]) fun _ _ _ _ _ _ us hl => match us, hl with | [_, _, _], _ => rfl
  have F_law_rule := fun_mk (st := s_law_rule) l_law_rule c_law_rule k_law_rule
  have b_law_rule := F_law_rule.binds (ps := ["deck", "size"]) fun _ _ _ _ _ _ us hl => match us, hl with | [_, _], _ => rfl
  have F_law_spoilt_rule := fun_mk (st := s_law_spoilt_rule) l_law_spoilt_rule c_law_spoilt_rule k_law_spoilt_rule
  have b_law_spoilt_rule := F_law_spoilt_rule.binds (ps := ["deck", "size"]) fun _ _ _ _ _ _ us hl => match us, hl with | [_, _], _ => rfl
  have F_law_parts := fun_mk (st := s_law_parts) l_law_parts c_law_parts k_law_parts
  have b_law_parts := F_law_parts.binds (ps := ["deck"]) fun _ _ _ _ _ _ us hl => match us, hl with | [_], _ => rfl
  have F_law_rule_in_order := fun_mk (st := s_law_rule_in_order) l_law_rule_in_order c_law_rule_in_order k_law_rule_in_order
  have b_law_rule_in_order := F_law_rule_in_order.binds (ps := ["rule"]) fun _ _ _ _ _ _ us hl => match us, hl with | [_], _ => rfl
  have F_law_first_wrong := fun_mk (st := s_law_first_wrong) l_law_first_wrong c_law_first_wrong k_law_first_wrong
  have b_law_first_wrong := F_law_first_wrong.binds (ps := ["parts"]) fun _ _ _ _ _ _ us hl => match us, hl with | [_], _ => rfl
  have F_is_mark := fun_mk (st := s_is_mark) l_is_mark c_is_mark k_is_mark
  have b_is_mark := F_is_mark.binds (ps := ["mark", "marks"]) fun _ _ _ _ _ _ us hl => match us, hl with | [_, _], _ => rfl
  have F_is_rule := fun_mk (st := s_is_rule) l_is_rule c_is_rule k_is_rule
  have b_is_rule := F_is_rule.binds (ps := ["rule"]) fun _ _ _ _ _ _ us hl => match us, hl with | [_], _ => rfl
  have F_Row_init := fun_mk (st := s_Row_init) l_Row_init c_Row_init k_Row_init
  have b_Row_init := F_Row_init.binds (ps := ["self", "mode", "sharing", "lease", "grip", "rule"]) fun _ _ _ _ _ _ us hl => match us, hl with | [_, _, _, _, _, _], _ => rfl
  have F_law_refused := fun_mk (st := s_law_refused) l_law_refused c_law_refused k_law_refused
  have b_law_refused := F_law_refused.binds (ps := ["parts", "what"]) fun _ _ _ _ _ _ us hl => match us, hl with | [_, _], _ => rfl
  have F_law_whole := fun_mk (st := s_law_whole) l_law_whole c_law_whole k_law_whole
  have b_law_whole := F_law_whole.binds (ps := ["value"]) fun _ _ _ _ _ _ us hl => match us, hl with | [_], _ => rfl
  have F_law_same_rule := fun_mk (st := s_law_same_rule) l_law_same_rule c_law_same_rule k_law_same_rule
  have b_law_same_rule := F_law_same_rule.binds (ps := ["rule", "marks"]) fun _ _ _ _ _ _ us hl => match us, hl with | [_, _], _ => rfl
  have F_law_fields := fun_mk (st := s_law_fields) l_law_fields c_law_fields k_law_fields
  have b_law_fields := F_law_fields.binds (ps := ["row", "parts"]) fun _ _ _ _ _ _ us hl => match us, hl with | [_, _], _ => rfl
  have F_law_built := fun_mk (st := s_law_built) l_law_built c_law_built k_law_built
  have b_law_built := F_law_built.binds (ps := ["parts"]) fun _ _ _ _ _ _ us hl => match us, hl with | [_], _ => rfl
  have F_plain_row := fun_mk (st := s_plain_row) l_plain_row c_plain_row k_plain_row
  have b_plain_row := F_plain_row.binds (ps := ["mode"]) fun _ _ _ _ _ _ us hl => match us, hl with | [_], _ => rfl
  have F_law_plain := fun_mk (st := s_law_plain) l_law_plain c_law_plain k_law_plain
  have b_law_plain := F_law_plain.binds (ps := ["mode"]) fun _ _ _ _ _ _ us hl => match us, hl with | [_], _ => rfl
  have F_law := fun_mk (st := s_law) l_law c_law k_law
  have b_law := F_law.binds (ps := ["script"]) fun _ _ _ _ _ _ us hl => match us, hl with | [_], _ => rfl
  have F_InvalidRow_init := fun_mk (st := s_InvalidRow_init) l_InvalidRow_init c_InvalidRow_init k_InvalidRow_init
  have b_InvalidRow_init := F_InvalidRow_init.binds (ps := ["self", "what"]) fun _ _ _ _ _ _ us hl => match us, hl with | [_, _], _ => rfl
  let cl : Str → Option Addr := fun c => if c = "Row" then some C_Row else if c = "InvalidRow" then some C_InvalidRow else none
  have hcl_Row : cl "Row" = some C_Row := if_pos rfl
  have hcl_InvalidRow : cl "InvalidRow" = some C_InvalidRow := (if_neg (by decide +kernel)).trans (if_pos rfl)
  have T : GOk w K mg cl ⟨a_law_deck, _, a_law_take, _, a_law_word, _, a_law_rule, _, a_law_spoilt_rule, _, a_law_parts, _, a_law_rule_in_order, _, a_law_first_wrong, _, a_is_mark, _, a_is_rule, _, a_Row_init, _, a_law_refused, _, a_law_whole, _, a_law_same_rule, _, a_law_fields, _, a_law_built, _, a_plain_row, _, a_law_plain, _, fa, _, a_InvalidRow_init, _, C_Row, C_InvalidRow, C_InvalidMap, C_ImpossibleLife, C_BridgeError⟩ := {
    F_law_deck := F_law_deck
    b_law_deck := b_law_deck
    k_law_deck := k_law_deck
    g_law_deck := PySem.W.mg_of X G n_law_deck
    F_law_take := F_law_take
    b_law_take := b_law_take
    k_law_take := k_law_take
    g_law_take := PySem.W.mg_of X G n_law_take
    F_law_word := F_law_word
    b_law_word := b_law_word
    k_law_word := k_law_word
    g_law_word := PySem.W.mg_of X G n_law_word
    F_law_rule := F_law_rule
    b_law_rule := b_law_rule
    k_law_rule := k_law_rule
    g_law_rule := PySem.W.mg_of X G n_law_rule
    F_law_spoilt_rule := F_law_spoilt_rule
    b_law_spoilt_rule := b_law_spoilt_rule
    k_law_spoilt_rule := k_law_spoilt_rule
    g_law_spoilt_rule := PySem.W.mg_of X G n_law_spoilt_rule
    F_law_parts := F_law_parts
    b_law_parts := b_law_parts
    k_law_parts := k_law_parts
    g_law_parts := PySem.W.mg_of X G n_law_parts
    F_law_rule_in_order := F_law_rule_in_order
    b_law_rule_in_order := b_law_rule_in_order
    k_law_rule_in_order := k_law_rule_in_order
    g_law_rule_in_order := PySem.W.mg_of X G n_law_rule_in_order
    F_law_first_wrong := F_law_first_wrong
    b_law_first_wrong := b_law_first_wrong
    k_law_first_wrong := k_law_first_wrong
    g_law_first_wrong := PySem.W.mg_of X G n_law_first_wrong
    F_is_mark := F_is_mark
    b_is_mark := b_is_mark
    k_is_mark := k_is_mark
    g_is_mark := PySem.W.mg_of X G n_is_mark
    F_is_rule := F_is_rule
    b_is_rule := b_is_rule
    k_is_rule := k_is_rule
    g_is_rule := PySem.W.mg_of X G n_is_rule
    F_Row_init := F_Row_init
    b_Row_init := b_Row_init
    k_Row_init := k_Row_init
    F_law_refused := F_law_refused
    b_law_refused := b_law_refused
    k_law_refused := k_law_refused
    g_law_refused := PySem.W.mg_of X G n_law_refused
    F_law_whole := F_law_whole
    b_law_whole := b_law_whole
    k_law_whole := k_law_whole
    g_law_whole := PySem.W.mg_of X G n_law_whole
    F_law_same_rule := F_law_same_rule
    b_law_same_rule := b_law_same_rule
    k_law_same_rule := k_law_same_rule
    g_law_same_rule := PySem.W.mg_of X G n_law_same_rule
    F_law_fields := F_law_fields
    b_law_fields := b_law_fields
    k_law_fields := k_law_fields
    g_law_fields := PySem.W.mg_of X G n_law_fields
    F_law_built := F_law_built
    b_law_built := b_law_built
    k_law_built := k_law_built
    g_law_built := PySem.W.mg_of X G n_law_built
    F_plain_row := F_plain_row
    b_plain_row := b_plain_row
    k_plain_row := k_plain_row
    g_plain_row := PySem.W.mg_of X G n_plain_row
    F_law_plain := F_law_plain
    b_law_plain := b_law_plain
    k_law_plain := k_law_plain
    g_law_plain := PySem.W.mg_of X G n_law_plain
    F_law := F_law
    b_law := b_law
    k_law := k_law
    g_law := PySem.W.mg_of X G n_law
    gc_Row := PySem.W.mg_of X G nc_Row
    cl_Row := hcl_Row
    cls_Row := ⟨pg_Row, hd_Row, po_Row, sa_Row⟩
    mk_Row := ⟨mk_Row, at_Row_init, if_Row_init, kc_Row⟩
    F_InvalidRow_init := F_InvalidRow_init
    b_InvalidRow_init := b_InvalidRow_init
    cl_InvalidRow := hcl_InvalidRow
    ox_InvalidRow := ⟨⟨_, _, _, _, _, _, _, _, _, _, _, _, _, _, _, xl_InvalidRow, by rfl⟩, sa_InvalidRow, su_InvalidRow, ty_InvalidRow, kc_InvalidRow⟩
    ic_InvalidRow := at_InvalidRow_init
    ti_InvalidRow := tf_InvalidRow_init
    xf_InvalidRow := ⟨ga_InvalidRow, gg_InvalidRow, su_InvalidRow, hd_InvalidRow⟩
    xi_InvalidRow := ⟨cls_some hd_InvalidRow, ga_InvalidRow, gg_InvalidRow, su_InvalidRow, ca_InvalidRow, mr_InvalidRow⟩
    gc_InvalidRow := PySem.W.mg_of X G nc_InvalidRow
    gc_InvalidMap := PySem.W.mg_of X G nc_InvalidMap
    gc_ImpossibleLife := PySem.W.mg_of X G nc_ImpossibleLife
    gc_BridgeError := PySem.W.mg_of X G nc_BridgeError
    bi_BridgeError := ⟨br_BridgeError, bg_BridgeError, bf_BridgeError⟩
    xna_InvalidRow_what := xna_InvalidRow_what
    kit_InvalidRow_ImpossibleLife := kit_ref ne_InvalidRow_ImpossibleLife hd_ImpossibleLife ty_ImpossibleLife sb_InvalidRow_ImpossibleLife
    kit_InvalidRow_InvalidMap := kit_ref ne_InvalidRow_InvalidMap hd_InvalidMap ty_InvalidMap sb_InvalidRow_InvalidMap
    kit_InvalidRow_InvalidRow := kit_self
    kit_InvalidRow_ValueError := kit_typ (by decide +kernel) sb_InvalidRow_ValueError
    xm_InvalidRow_BridgeError := PySem.W.exm_ref su_BridgeError hd_BridgeError ty_BridgeError sb_InvalidRow_BridgeError
    xm_InvalidRow_InvalidRow := PySem.W.exm_ref su_InvalidRow hd_InvalidRow ty_InvalidRow sb_InvalidRow_InvalidRow
    xsg := xsg
    xst := xst
    na_Row_grip := na_Row_grip
    na_Row_lease := na_Row_lease
    na_Row_mode := na_Row_mode
    na_Row_rule := na_Row_rule
    na_Row_sharing := na_Row_sharing
    n_ValueError := PySem.W.mg_none_of X G bn_ValueError
    n_abs := PySem.W.mg_none_of X G bn_abs
    n_bool := PySem.W.mg_none_of X G bn_bool
    n_int := PySem.W.mg_none_of X G bn_int
    n_isinstance := PySem.W.mg_none_of X G bn_isinstance
    n_len := PySem.W.mg_none_of X G bn_len
    n_list := PySem.W.mg_none_of X G bn_list
    n_max := PySem.W.mg_none_of X G bn_max
    n_range := PySem.W.mg_none_of X G bn_range
    n_str := PySem.W.mg_none_of X G bn_str
    n_tuple := PySem.W.mg_none_of X G bn_tuple
    v_EVENTS := ⟨(.str "LGHRFD"), _, PySem.W.mg_of X G g_EVENTS, ⟨_, rfl⟩, fun _ ι H => .str _⟩
    v_GRIPS := ⟨(.ref A_GRIPS), _, PySem.W.mg_of X G g_GRIPS, rfl, fun _ ι H => .tup (st_K (xs := [(.str "slot"), (.str "place"), (.str "pin")]) L_GRIPS rfl rfl (Nat.le_of_ble_eq_true (by rfl)) (.cons ⟨_, rfl⟩ (.cons ⟨_, rfl⟩ (.cons ⟨_, rfl⟩ .nil)))) (.cons (.str _) (.cons (.str _) (.cons (.str _) .nil)))⟩
    v_LEASES := ⟨(.ref A_LEASES), _, PySem.W.mg_of X G g_LEASES, rfl, fun _ ι H => .tup (st_K (xs := [(.str "always"), (.str "call")]) L_LEASES rfl rfl (Nat.le_of_ble_eq_true (by rfl)) (.cons ⟨_, rfl⟩ (.cons ⟨_, rfl⟩ .nil))) (.cons (.str _) (.cons (.str _) .nil))⟩
    v_MODES := ⟨(.ref A_MODES), _, PySem.W.mg_of X G g_MODES, rfl, fun _ ι H => .tup (st_K (xs := [(.str "held"), (.str "copied"), (.str "refused")]) L_MODES rfl rfl (Nat.le_of_ble_eq_true (by rfl)) (.cons ⟨_, rfl⟩ (.cons ⟨_, rfl⟩ (.cons ⟨_, rfl⟩ .nil)))) (.cons (.str _) (.cons (.str _) (.cons (.str _) .nil)))⟩
    v_MOST_CHANGE := ⟨(.int 3), _, PySem.W.mg_of X G g_MOST_CHANGE, ⟨_, rfl⟩, fun _ ι H => .int _⟩
    v_MOST_MARKS := ⟨(.int 4), _, PySem.W.mg_of X G g_MOST_MARKS, ⟨_, rfl⟩, fun _ ι H => .int _⟩
    v_SHARINGS := ⟨(.ref A_SHARINGS), _, PySem.W.mg_of X G g_SHARINGS, rfl, fun _ ι H => .tup (st_K (xs := [(.str "one"), (.str "each")]) L_SHARINGS rfl rfl (Nat.le_of_ble_eq_true (by rfl)) (.cons ⟨_, rfl⟩ (.cons ⟨_, rfl⟩ .nil))) (.cons (.str _) (.cons (.str _) .nil))⟩
    v_STILL := ⟨(.ref A_STILL), _, PySem.W.mg_of X G g_STILL, rfl, fun _ ι H => .tup (st_K (xs := [(.ref A_STILL_0), (.ref A_STILL_1), (.ref A_STILL_2), (.ref A_STILL_3), (.ref A_STILL_4), (.ref A_STILL_5)]) L_STILL rfl rfl (Nat.le_of_ble_eq_true (by rfl)) (.cons rfl (.cons rfl (.cons rfl (.cons rfl (.cons rfl (.cons rfl .nil))))))) (.cons (.tup (st_K (xs := [(.int 0), (.int 0)]) L_STILL_0 rfl rfl (Nat.le_of_ble_eq_true (by rfl)) (.cons ⟨_, rfl⟩ (.cons ⟨_, rfl⟩ .nil))) (.cons (.int _) (.cons (.int _) .nil))) (.cons (.tup (st_K (xs := [(.int 0), (.int 0)]) L_STILL_1 rfl rfl (Nat.le_of_ble_eq_true (by rfl)) (.cons ⟨_, rfl⟩ (.cons ⟨_, rfl⟩ .nil))) (.cons (.int _) (.cons (.int _) .nil))) (.cons (.tup (st_K (xs := [(.int 0), (.int 0)]) L_STILL_2 rfl rfl (Nat.le_of_ble_eq_true (by rfl)) (.cons ⟨_, rfl⟩ (.cons ⟨_, rfl⟩ .nil))) (.cons (.int _) (.cons (.int _) .nil))) (.cons (.tup (st_K (xs := [(.int 0), (.int 0)]) L_STILL_3 rfl rfl (Nat.le_of_ble_eq_true (by rfl)) (.cons ⟨_, rfl⟩ (.cons ⟨_, rfl⟩ .nil))) (.cons (.int _) (.cons (.int _) .nil))) (.cons (.tup (st_K (xs := [(.int 0), (.int 0)]) L_STILL_4 rfl rfl (Nat.le_of_ble_eq_true (by rfl)) (.cons ⟨_, rfl⟩ (.cons ⟨_, rfl⟩ .nil))) (.cons (.int _) (.cons (.int _) .nil))) (.cons (.tup (st_K (xs := [(.int 0), (.int 0)]) L_STILL_5 rfl rfl (Nat.le_of_ble_eq_true (by rfl)) (.cons ⟨_, rfl⟩ (.cons ⟨_, rfl⟩ .nil))) (.cons (.int _) (.cons (.int _) .nil))) .nil))))))⟩ }
  exact ⟨_, ⟨cl, none⟩, fun s v => .of_eq rfl, fun base _ _ => ok_law T⟩
end
end K46
namespace K46
open PySem PySem.Spec PyProof.Rows L2 Pm
noncomputable section
abbrev Mark := List (Int × Int)
def pairD (p : Int × Int) : D := .tup [.int p.1, .int p.2]
def markL (m : Mark) : D := .lst (m.map pairD)
def markT (m : Mark) : D := .tup (m.map pairD)
def pairB (n : Int) (p : Int × Int) : Bool := decide (0 ≤ p.1) && decide (p.1 < n) && decide (-3 ≤ p.2) && decide (p.2 ≤ 3)
def markB (n : Int) (m : Mark) : Bool := decide (m.length = 6) && m.all (pairB n)
def ruleB (r : List Mark) : Bool := decide (1 ≤ r.length) && decide (r.length ≤ 4) && r.all (markB r.length)
theorem pd {a b : Int} : pairD (a, b) = .tup [.int a, .int b] := rfl
theorem mt {m : Mark} : markT m = .tup (m.map pairD) := rfl
theorem ml {m : Mark} : markL m = .lst (m.map pairD) := rfl
section
variable {s : S} {Q : D → S → Prop} {E : D → S → Prop}
theorem is_mark_wp {m : Mark} {n : Int} : (Q (.bl (markB n m)) s) → wp (f_is_mark [markT m, .int n] s) Q E := by
  intro k
  refine (wp_fn (n := 2) (tot := 4) (m := m_is_mark) rfl).mpr ?_
  show wS (m_is_mark [some (markT m), some (.int n), none, none] _) _ _
  unfold m_is_mark markT c_EVENTS d_EVENTS c_MOST_CHANGE d_MOST_CHANGE
  have e6 : "LGHRFD".length = 6 := rfl
  try simp only [wp_rep, wp_meth, w_lenSo, w_tupT, w_tupL, List.length_map, wp_ok, wp_bad, wp_bind, wS_ok, wS_bad, wS_cons, wS_nil, wS_pass, wS_break, wS_cont, wS_never, wS_set, wS_expr, wS_ret, wS_retN, wS_if, wS_asg, wS_aug, wS_for, wp_lc, wp_m1, wp_m2, wp_mN, wp_aNil, wp_aCons, wp_mC, wp_var, wp_if2, wp_and2, wp_or2, wp_not, wp_chain2, isBl_bl, andK_p, orK_p, andV_p, orV_p, iteK_p, andK_t, andK_f, orK_t, orK_f, andV_t, andV_f, orV_t, orV_f, iteK_t, iteK_f, wp_tTru2, dTru_bl, dTru_lst, dTru_int, dTru_non, wp_mt, wp_get, wp_isi, wp_fld, wp_sl, wp_oNone, wp_oSome, wp_tBool, wp_tNot, wp_tAnd2, wp_tOr2, wp_tAll, wp_gSlot, wp_gsNil, wp_gsCons, wp_gTup, wp_gSub, wp_iAny, wp_iSeq, wp_iTup, wp_iStr, wp_iRange1, wp_iRange2, wp_iZip, wS_fld, wp_make, seqQ, rtQ, turnQ, List.getElem?_cons_zero, List.getElem?_cons_succ, List.set_cons_zero, List.set_cons_succ, wipeD, if_true, if_false, Bool.false_eq_true, Bool.true_eq_false, reduceIte, w_add, w_iadd, w_iaddS, w_addS, w_addL, w_addT, w_sub, w_mul, w_mod, w_fdiv, w_pow, w_neg, w_lt, w_le, w_gt, w_ge, w_eqI, w_neI, w_eqT, w_neT, w_isN, w_isnotN, w_isB, w_isNB, w_len, w_lenT, w_int, w_intB, w_abs, w_min, w_max, w_tup, w_lst, w_new, w_list, w_listN, w_ix, w_ixT, w_ixD, w_inT1, w_notinT1, w_inT2, w_notinT2, w_inT3, w_notinT3, w_inT4, w_notinT4, w_inT5, w_notinT5, w_inT6, w_notinT6, w_inT7, w_notinT7, w_inT8, w_notinT8, w_sl1, at_0, at_1, at_2, at_3, at_4, at_5, hasTy_list, hasTy_str, isNonD, flatD, sEq_T, List.all_cons, List.all_nil, List.any_cons, List.any_nil, Bool.and_true, Bool.true_and, Bool.or_false, Bool.or_true, Bool.true_or, Bool.false_or, Bool.not_true, Bool.not_false, List.length_cons, List.length_nil, Nat.zero_add, Nat.reduceAdd, line_eq, true_and, and_true, String.reduceBEq, Int.reduceBEq, decide_true, decide_false, Int.reduceLT, Int.reduceLE, beq_self_eq_true, Nat.reduceLeDiff, wS_raise, wp_xinit, wp_sets0, wp_sets1, wp_fs, wp_xf, wp_xis, hdQ, setO, List.map_cons, List.map_nil, tabF_cons, tabF_nil, lview, w_inU1, w_inU2, w_inU3, w_inU4, w_notinU1, w_notinU2, w_notinU3, w_notinU4, wp_lcN, and_self, or_true, true_or, or_false, false_or, not_true_eq_false, not_false_eq_true, ne_eq, reduceCtorEq, List.cons.injEq, Bool.and_false, Bool.false_and, Bool.and_self, Bool.or_self, List.mem_cons, List.not_mem_nil, isSub, ty_tup, ty_lst, ty_int, ty_bl, ty_str, ty_non, nb, Bool.and_eq_true, Bool.or_eq_true, decide_eq_true_eq, beq_iff_eq, Int.cast_ofNat_Int, List.lookup_cons, List.lookup_nil, str_beq, insOf, not_true_eq_false, gok0]
  simp only [e6]
  refine ⟨by decide, ?_⟩
  unfold markB at k
  by_cases h6 : m.length = 6
  · rw [if_neg (by simp [h6])]
    simp only [h6, decide_true, Bool.true_and] at k
    refine wS_forAll (P := pairB n) (d := .bl false) (R := fun ρ => ∃ u v, ρ = [some (.tup (m.map pairD)), some (.int n), u, v]) (gd := none) trivial ?_ _ ⟨_, _, rfl⟩ (fun h ρ' hr => ?_) fun h => ?_
    · rintro ⟨a, b⟩ _ ρ Q' ⟨u, v, rfl⟩ h1 h2
      unfold pairD pairB at *
      try simp only [wp_rep, wp_meth, w_lenSo, w_tupT, w_tupL, List.length_map, wp_ok, wp_bad, wp_bind, wS_ok, wS_bad, wS_cons, wS_nil, wS_pass, wS_break, wS_cont, wS_never, wS_set, wS_expr, wS_ret, wS_retN, wS_if, wS_asg, wS_aug, wS_for, wp_lc, wp_m1, wp_m2, wp_mN, wp_aNil, wp_aCons, wp_mC, wp_var, wp_if2, wp_and2, wp_or2, wp_not, wp_chain2, isBl_bl, andK_p, orK_p, andV_p, orV_p, iteK_p, andK_t, andK_f, orK_t, orK_f, andV_t, andV_f, orV_t, orV_f, iteK_t, iteK_f, wp_tTru2, dTru_bl, dTru_lst, dTru_int, dTru_non, wp_mt, wp_get, wp_isi, wp_fld, wp_sl, wp_oNone, wp_oSome, wp_tBool, wp_tNot, wp_tAnd2, wp_tOr2, wp_tAll, wp_gSlot, wp_gsNil, wp_gsCons, wp_gTup, wp_gSub, wp_iAny, wp_iSeq, wp_iTup, wp_iStr, wp_iRange1, wp_iRange2, wp_iZip, wS_fld, wp_make, seqQ, rtQ, turnQ, List.getElem?_cons_zero, List.getElem?_cons_succ, List.set_cons_zero, List.set_cons_succ, wipeD, if_true, if_false, Bool.false_eq_true, Bool.true_eq_false, reduceIte, w_add, w_iadd, w_iaddS, w_addS, w_addL, w_addT, w_sub, w_mul, w_mod, w_fdiv, w_pow, w_neg, w_lt, w_le, w_gt, w_ge, w_eqI, w_neI, w_eqT, w_neT, w_isN, w_isnotN, w_isB, w_isNB, w_len, w_lenT, w_int, w_intB, w_abs, w_min, w_max, w_tup, w_lst, w_new, w_list, w_listN, w_ix, w_ixT, w_ixD, w_inT1, w_notinT1, w_inT2, w_notinT2, w_inT3, w_notinT3, w_inT4, w_notinT4, w_inT5, w_notinT5, w_inT6, w_notinT6, w_inT7, w_notinT7, w_inT8, w_notinT8, w_sl1, at_0, at_1, at_2, at_3, at_4, at_5, hasTy_list, hasTy_str, isNonD, flatD, sEq_T, List.all_cons, List.all_nil, List.any_cons, List.any_nil, Bool.and_true, Bool.true_and, Bool.or_false, Bool.or_true, Bool.true_or, Bool.false_or, Bool.not_true, Bool.not_false, List.length_cons, List.length_nil, Nat.zero_add, Nat.reduceAdd, line_eq, true_and, and_true, String.reduceBEq, Int.reduceBEq, decide_true, decide_false, Int.reduceLT, Int.reduceLE, beq_self_eq_true, Nat.reduceLeDiff, wS_raise, wp_xinit, wp_sets0, wp_sets1, wp_fs, wp_xf, wp_xis, hdQ, setO, List.map_cons, List.map_nil, tabF_cons, tabF_nil, lview, w_inU1, w_inU2, w_inU3, w_inU4, w_notinU1, w_notinU2, w_notinU3, w_notinU4, wp_lcN, and_self, or_true, true_or, or_false, false_or, not_true_eq_false, not_false_eq_true, ne_eq, reduceCtorEq, List.cons.injEq, Bool.and_false, Bool.false_and, Bool.and_self, Bool.or_self, List.mem_cons, List.not_mem_nil, isSub, ty_tup, ty_lst, ty_int, ty_bl, ty_str, ty_non, nb, Bool.and_eq_true, Bool.or_eq_true, decide_eq_true_eq, beq_iff_eq, Int.cast_ofNat_Int, List.lookup_cons, List.lookup_nil, str_beq, insOf, not_true_eq_false, gok0]
      grind
    · obtain ⟨u, v, rfl⟩ := hr
      try simp only [wp_rep, wp_meth, w_lenSo, w_tupT, w_tupL, List.length_map, wp_ok, wp_bad, wp_bind, wS_ok, wS_bad, wS_cons, wS_nil, wS_pass, wS_break, wS_cont, wS_never, wS_set, wS_expr, wS_ret, wS_retN, wS_if, wS_asg, wS_aug, wS_for, wp_lc, wp_m1, wp_m2, wp_mN, wp_aNil, wp_aCons, wp_mC, wp_var, wp_if2, wp_and2, wp_or2, wp_not, wp_chain2, isBl_bl, andK_p, orK_p, andV_p, orV_p, iteK_p, andK_t, andK_f, orK_t, orK_f, andV_t, andV_f, orV_t, orV_f, iteK_t, iteK_f, wp_tTru2, dTru_bl, dTru_lst, dTru_int, dTru_non, wp_mt, wp_get, wp_isi, wp_fld, wp_sl, wp_oNone, wp_oSome, wp_tBool, wp_tNot, wp_tAnd2, wp_tOr2, wp_tAll, wp_gSlot, wp_gsNil, wp_gsCons, wp_gTup, wp_gSub, wp_iAny, wp_iSeq, wp_iTup, wp_iStr, wp_iRange1, wp_iRange2, wp_iZip, wS_fld, wp_make, seqQ, rtQ, turnQ, List.getElem?_cons_zero, List.getElem?_cons_succ, List.set_cons_zero, List.set_cons_succ, wipeD, if_true, if_false, Bool.false_eq_true, Bool.true_eq_false, reduceIte, w_add, w_iadd, w_iaddS, w_addS, w_addL, w_addT, w_sub, w_mul, w_mod, w_fdiv, w_pow, w_neg, w_lt, w_le, w_gt, w_ge, w_eqI, w_neI, w_eqT, w_neT, w_isN, w_isnotN, w_isB, w_isNB, w_len, w_lenT, w_int, w_intB, w_abs, w_min, w_max, w_tup, w_lst, w_new, w_list, w_listN, w_ix, w_ixT, w_ixD, w_inT1, w_notinT1, w_inT2, w_notinT2, w_inT3, w_notinT3, w_inT4, w_notinT4, w_inT5, w_notinT5, w_inT6, w_notinT6, w_inT7, w_notinT7, w_inT8, w_notinT8, w_sl1, at_0, at_1, at_2, at_3, at_4, at_5, hasTy_list, hasTy_str, isNonD, flatD, sEq_T, List.all_cons, List.all_nil, List.any_cons, List.any_nil, Bool.and_true, Bool.true_and, Bool.or_false, Bool.or_true, Bool.true_or, Bool.false_or, Bool.not_true, Bool.not_false, List.length_cons, List.length_nil, Nat.zero_add, Nat.reduceAdd, line_eq, true_and, and_true, String.reduceBEq, Int.reduceBEq, decide_true, decide_false, Int.reduceLT, Int.reduceLE, beq_self_eq_true, Nat.reduceLeDiff, wS_raise, wp_xinit, wp_sets0, wp_sets1, wp_fs, wp_xf, wp_xis, hdQ, setO, List.map_cons, List.map_nil, tabF_cons, tabF_nil, lview, w_inU1, w_inU2, w_inU3, w_inU4, w_notinU1, w_notinU2, w_notinU3, w_notinU4, wp_lcN, and_self, or_true, true_or, or_false, false_or, not_true_eq_false, not_false_eq_true, ne_eq, reduceCtorEq, List.cons.injEq, Bool.and_false, Bool.false_and, Bool.and_self, Bool.or_self, List.mem_cons, List.not_mem_nil, isSub, ty_tup, ty_lst, ty_int, ty_bl, ty_str, ty_non, nb, Bool.and_eq_true, Bool.or_eq_true, decide_eq_true_eq, beq_iff_eq, Int.cast_ofNat_Int, List.lookup_cons, List.lookup_nil, str_beq, insOf, not_true_eq_false, gok0]
      rw [h] at k
      exact k
    · try simp only [wp_rep, wp_meth, w_lenSo, w_tupT, w_tupL, List.length_map, wp_ok, wp_bad, wp_bind, wS_ok, wS_bad, wS_cons, wS_nil, wS_pass, wS_break, wS_cont, wS_never, wS_set, wS_expr, wS_ret, wS_retN, wS_if, wS_asg, wS_aug, wS_for, wp_lc, wp_m1, wp_m2, wp_mN, wp_aNil, wp_aCons, wp_mC, wp_var, wp_if2, wp_and2, wp_or2, wp_not, wp_chain2, isBl_bl, andK_p, orK_p, andV_p, orV_p, iteK_p, andK_t, andK_f, orK_t, orK_f, andV_t, andV_f, orV_t, orV_f, iteK_t, iteK_f, wp_tTru2, dTru_bl, dTru_lst, dTru_int, dTru_non, wp_mt, wp_get, wp_isi, wp_fld, wp_sl, wp_oNone, wp_oSome, wp_tBool, wp_tNot, wp_tAnd2, wp_tOr2, wp_tAll, wp_gSlot, wp_gsNil, wp_gsCons, wp_gTup, wp_gSub, wp_iAny, wp_iSeq, wp_iTup, wp_iStr, wp_iRange1, wp_iRange2, wp_iZip, wS_fld, wp_make, seqQ, rtQ, turnQ, List.getElem?_cons_zero, List.getElem?_cons_succ, List.set_cons_zero, List.set_cons_succ, wipeD, if_true, if_false, Bool.false_eq_true, Bool.true_eq_false, reduceIte, w_add, w_iadd, w_iaddS, w_addS, w_addL, w_addT, w_sub, w_mul, w_mod, w_fdiv, w_pow, w_neg, w_lt, w_le, w_gt, w_ge, w_eqI, w_neI, w_eqT, w_neT, w_isN, w_isnotN, w_isB, w_isNB, w_len, w_lenT, w_int, w_intB, w_abs, w_min, w_max, w_tup, w_lst, w_new, w_list, w_listN, w_ix, w_ixT, w_ixD, w_inT1, w_notinT1, w_inT2, w_notinT2, w_inT3, w_notinT3, w_inT4, w_notinT4, w_inT5, w_notinT5, w_inT6, w_notinT6, w_inT7, w_notinT7, w_inT8, w_notinT8, w_sl1, at_0, at_1, at_2, at_3, at_4, at_5, hasTy_list, hasTy_str, isNonD, flatD, sEq_T, List.all_cons, List.all_nil, List.any_cons, List.any_nil, Bool.and_true, Bool.true_and, Bool.or_false, Bool.or_true, Bool.true_or, Bool.false_or, Bool.not_true, Bool.not_false, List.length_cons, List.length_nil, Nat.zero_add, Nat.reduceAdd, line_eq, true_and, and_true, String.reduceBEq, Int.reduceBEq, decide_true, decide_false, Int.reduceLT, Int.reduceLE, beq_self_eq_true, Nat.reduceLeDiff, wS_raise, wp_xinit, wp_sets0, wp_sets1, wp_fs, wp_xf, wp_xis, hdQ, setO, List.map_cons, List.map_nil, tabF_cons, tabF_nil, lview, w_inU1, w_inU2, w_inU3, w_inU4, w_notinU1, w_notinU2, w_notinU3, w_notinU4, wp_lcN, and_self, or_true, true_or, or_false, false_or, not_true_eq_false, not_false_eq_true, ne_eq, reduceCtorEq, List.cons.injEq, Bool.and_false, Bool.false_and, Bool.and_self, Bool.or_self, List.mem_cons, List.not_mem_nil, isSub, ty_tup, ty_lst, ty_int, ty_bl, ty_str, ty_non, nb, Bool.and_eq_true, Bool.or_eq_true, decide_eq_true_eq, beq_iff_eq, Int.cast_ofNat_Int, List.lookup_cons, List.lookup_nil, str_beq, insOf, not_true_eq_false, gok0]
      rw [h] at k
      exact k
  · rw [if_pos (by simp [h6]; omega)]
    simp only [h6, decide_false, Bool.false_and] at k
    exact k
theorem is_rule_wp {r : List Mark} {p : Nat} (hp : s[p]? = some (.lst (r.map markT))) (k : Q (.bl (ruleB r)) s) : wp (f_is_rule [.ref p] s) Q E := by
  refine (wp_fn (n := 1) (tot := 2) (m := m_is_rule) rfl).mpr ?_
  show wS (m_is_rule [some (.ref p), none] _) _ _
  unfold m_is_rule c_MOST_MARKS d_MOST_MARKS
  unfold ruleB at k
  try simp only [wp_rep, wp_meth, w_lenSo, w_tupT, w_tupL, List.length_map, wp_ok, wp_bad, wp_bind, wS_ok, wS_bad, wS_cons, wS_nil, wS_pass, wS_break, wS_cont, wS_never, wS_set, wS_expr, wS_ret, wS_retN, wS_if, wS_asg, wS_aug, wS_for, wp_lc, wp_m1, wp_m2, wp_mN, wp_aNil, wp_aCons, wp_mC, wp_var, wp_if2, wp_and2, wp_or2, wp_not, wp_chain2, isBl_bl, andK_p, orK_p, andV_p, orV_p, iteK_p, andK_t, andK_f, orK_t, orK_f, andV_t, andV_f, orV_t, orV_f, iteK_t, iteK_f, wp_tTru2, dTru_bl, dTru_lst, dTru_int, dTru_non, wp_mt, wp_get, wp_isi, wp_fld, wp_sl, wp_oNone, wp_oSome, wp_tBool, wp_tNot, wp_tAnd2, wp_tOr2, wp_tAll, wp_gSlot, wp_gsNil, wp_gsCons, wp_gTup, wp_gSub, wp_iAny, wp_iSeq, wp_iTup, wp_iStr, wp_iRange1, wp_iRange2, wp_iZip, wS_fld, wp_make, seqQ, rtQ, turnQ, List.getElem?_cons_zero, List.getElem?_cons_succ, List.set_cons_zero, List.set_cons_succ, wipeD, if_true, if_false, Bool.false_eq_true, Bool.true_eq_false, reduceIte, w_add, w_iadd, w_iaddS, w_addS, w_addL, w_addT, w_sub, w_mul, w_mod, w_fdiv, w_pow, w_neg, w_lt, w_le, w_gt, w_ge, w_eqI, w_neI, w_eqT, w_neT, w_isN, w_isnotN, w_isB, w_isNB, w_len, w_lenT, w_int, w_intB, w_abs, w_min, w_max, w_tup, w_lst, w_new, w_list, w_listN, w_ix, w_ixT, w_ixD, w_inT1, w_notinT1, w_inT2, w_notinT2, w_inT3, w_notinT3, w_inT4, w_notinT4, w_inT5, w_notinT5, w_inT6, w_notinT6, w_inT7, w_notinT7, w_inT8, w_notinT8, w_sl1, at_0, at_1, at_2, at_3, at_4, at_5, hasTy_list, hasTy_str, isNonD, flatD, sEq_T, List.all_cons, List.all_nil, List.any_cons, List.any_nil, Bool.and_true, Bool.true_and, Bool.or_false, Bool.or_true, Bool.true_or, Bool.false_or, Bool.not_true, Bool.not_false, List.length_cons, List.length_nil, Nat.zero_add, Nat.reduceAdd, line_eq, true_and, and_true, String.reduceBEq, Int.reduceBEq, decide_true, decide_false, Int.reduceLT, Int.reduceLE, beq_self_eq_true, Nat.reduceLeDiff, wS_raise, wp_xinit, wp_sets0, wp_sets1, wp_fs, wp_xf, wp_xis, hdQ, setO, List.map_cons, List.map_nil, tabF_cons, tabF_nil, lview, w_inU1, w_inU2, w_inU3, w_inU4, w_notinU1, w_notinU2, w_notinU3, w_notinU4, wp_lcN, and_self, or_true, true_or, or_false, false_or, not_true_eq_false, not_false_eq_true, ne_eq, reduceCtorEq, List.cons.injEq, Bool.and_false, Bool.false_and, Bool.and_self, Bool.or_self, List.mem_cons, List.not_mem_nil, isSub, ty_tup, ty_lst, ty_int, ty_bl, ty_str, ty_non, nb, Bool.and_eq_true, Bool.or_eq_true, decide_eq_true_eq, beq_iff_eq, Int.cast_ofNat_Int, List.lookup_cons, List.lookup_nil, str_beq, insOf, not_true_eq_false, gok0]
  rw [w_lenR hp]
  try simp only [wp_rep, wp_meth, w_lenSo, w_tupT, w_tupL, List.length_map, wp_ok, wp_bad, wp_bind, wS_ok, wS_bad, wS_cons, wS_nil, wS_pass, wS_break, wS_cont, wS_never, wS_set, wS_expr, wS_ret, wS_retN, wS_if, wS_asg, wS_aug, wS_for, wp_lc, wp_m1, wp_m2, wp_mN, wp_aNil, wp_aCons, wp_mC, wp_var, wp_if2, wp_and2, wp_or2, wp_not, wp_chain2, isBl_bl, andK_p, orK_p, andV_p, orV_p, iteK_p, andK_t, andK_f, orK_t, orK_f, andV_t, andV_f, orV_t, orV_f, iteK_t, iteK_f, wp_tTru2, dTru_bl, dTru_lst, dTru_int, dTru_non, wp_mt, wp_get, wp_isi, wp_fld, wp_sl, wp_oNone, wp_oSome, wp_tBool, wp_tNot, wp_tAnd2, wp_tOr2, wp_tAll, wp_gSlot, wp_gsNil, wp_gsCons, wp_gTup, wp_gSub, wp_iAny, wp_iSeq, wp_iTup, wp_iStr, wp_iRange1, wp_iRange2, wp_iZip, wS_fld, wp_make, seqQ, rtQ, turnQ, List.getElem?_cons_zero, List.getElem?_cons_succ, List.set_cons_zero, List.set_cons_succ, wipeD, if_true, if_false, Bool.false_eq_true, Bool.true_eq_false, reduceIte, w_add, w_iadd, w_iaddS, w_addS, w_addL, w_addT, w_sub, w_mul, w_mod, w_fdiv, w_pow, w_neg, w_lt, w_le, w_gt, w_ge, w_eqI, w_neI, w_eqT, w_neT, w_isN, w_isnotN, w_isB, w_isNB, w_len, w_lenT, w_int, w_intB, w_abs, w_min, w_max, w_tup, w_lst, w_new, w_list, w_listN, w_ix, w_ixT, w_ixD, w_inT1, w_notinT1, w_inT2, w_notinT2, w_inT3, w_notinT3, w_inT4, w_notinT4, w_inT5, w_notinT5, w_inT6, w_notinT6, w_inT7, w_notinT7, w_inT8, w_notinT8, w_sl1, at_0, at_1, at_2, at_3, at_4, at_5, hasTy_list, hasTy_str, isNonD, flatD, sEq_T, List.all_cons, List.all_nil, List.any_cons, List.any_nil, Bool.and_true, Bool.true_and, Bool.or_false, Bool.or_true, Bool.true_or, Bool.false_or, Bool.not_true, Bool.not_false, List.length_cons, List.length_nil, Nat.zero_add, Nat.reduceAdd, line_eq, true_and, and_true, String.reduceBEq, Int.reduceBEq, decide_true, decide_false, Int.reduceLT, Int.reduceLE, beq_self_eq_true, Nat.reduceLeDiff, wS_raise, wp_xinit, wp_sets0, wp_sets1, wp_fs, wp_xf, wp_xis, hdQ, setO, List.map_cons, List.map_nil, tabF_cons, tabF_nil, lview, w_inU1, w_inU2, w_inU3, w_inU4, w_notinU1, w_notinU2, w_notinU3, w_notinU4, wp_lcN, and_self, or_true, true_or, or_false, false_or, not_true_eq_false, not_false_eq_true, ne_eq, reduceCtorEq, List.cons.injEq, Bool.and_false, Bool.false_and, Bool.and_self, Bool.or_self, List.mem_cons, List.not_mem_nil, isSub, ty_tup, ty_lst, ty_int, ty_bl, ty_str, ty_non, nb, Bool.and_eq_true, Bool.or_eq_true, decide_eq_true_eq, beq_iff_eq, Int.cast_ofNat_Int, List.lookup_cons, List.lookup_nil, str_beq, insOf, not_true_eq_false, gok0]
  simp only [hp]
  split
  · grind
  · refine wS_forAll (P := markB r.length) (d := .bl false) (R := fun ρ => ∃ u, ρ = [some (.ref p), u]) (gd := some p) hp ?_ _ ⟨_, rfl⟩ (fun h ρ' hr => ?_) fun h => ?_
    · rintro m hm ρ Q' ⟨u, rfl⟩ g1 g2
      try simp only [wp_rep, wp_meth, w_lenSo, w_tupT, w_tupL, List.length_map, wp_ok, wp_bad, wp_bind, wS_ok, wS_bad, wS_cons, wS_nil, wS_pass, wS_break, wS_cont, wS_never, wS_set, wS_expr, wS_ret, wS_retN, wS_if, wS_asg, wS_aug, wS_for, wp_lc, wp_m1, wp_m2, wp_mN, wp_aNil, wp_aCons, wp_mC, wp_var, wp_if2, wp_and2, wp_or2, wp_not, wp_chain2, isBl_bl, andK_p, orK_p, andV_p, orV_p, iteK_p, andK_t, andK_f, orK_t, orK_f, andV_t, andV_f, orV_t, orV_f, iteK_t, iteK_f, wp_tTru2, dTru_bl, dTru_lst, dTru_int, dTru_non, wp_mt, wp_get, wp_isi, wp_fld, wp_sl, wp_oNone, wp_oSome, wp_tBool, wp_tNot, wp_tAnd2, wp_tOr2, wp_tAll, wp_gSlot, wp_gsNil, wp_gsCons, wp_gTup, wp_gSub, wp_iAny, wp_iSeq, wp_iTup, wp_iStr, wp_iRange1, wp_iRange2, wp_iZip, wS_fld, wp_make, seqQ, rtQ, turnQ, List.getElem?_cons_zero, List.getElem?_cons_succ, List.set_cons_zero, List.set_cons_succ, wipeD, if_true, if_false, Bool.false_eq_true, Bool.true_eq_false, reduceIte, w_add, w_iadd, w_iaddS, w_addS, w_addL, w_addT, w_sub, w_mul, w_mod, w_fdiv, w_pow, w_neg, w_lt, w_le, w_gt, w_ge, w_eqI, w_neI, w_eqT, w_neT, w_isN, w_isnotN, w_isB, w_isNB, w_len, w_lenT, w_int, w_intB, w_abs, w_min, w_max, w_tup, w_lst, w_new, w_list, w_listN, w_ix, w_ixT, w_ixD, w_inT1, w_notinT1, w_inT2, w_notinT2, w_inT3, w_notinT3, w_inT4, w_notinT4, w_inT5, w_notinT5, w_inT6, w_notinT6, w_inT7, w_notinT7, w_inT8, w_notinT8, w_sl1, at_0, at_1, at_2, at_3, at_4, at_5, hasTy_list, hasTy_str, isNonD, flatD, sEq_T, List.all_cons, List.all_nil, List.any_cons, List.any_nil, Bool.and_true, Bool.true_and, Bool.or_false, Bool.or_true, Bool.true_or, Bool.false_or, Bool.not_true, Bool.not_false, List.length_cons, List.length_nil, Nat.zero_add, Nat.reduceAdd, line_eq, true_and, and_true, String.reduceBEq, Int.reduceBEq, decide_true, decide_false, Int.reduceLT, Int.reduceLE, beq_self_eq_true, Nat.reduceLeDiff, wS_raise, wp_xinit, wp_sets0, wp_sets1, wp_fs, wp_xf, wp_xis, hdQ, setO, List.map_cons, List.map_nil, tabF_cons, tabF_nil, lview, w_inU1, w_inU2, w_inU3, w_inU4, w_notinU1, w_notinU2, w_notinU3, w_notinU4, wp_lcN, and_self, or_true, true_or, or_false, false_or, not_true_eq_false, not_false_eq_true, ne_eq, reduceCtorEq, List.cons.injEq, Bool.and_false, Bool.false_and, Bool.and_self, Bool.or_self, List.mem_cons, List.not_mem_nil, isSub, ty_tup, ty_lst, ty_int, ty_bl, ty_str, ty_non, nb, Bool.and_eq_true, Bool.or_eq_true, decide_eq_true_eq, beq_iff_eq, Int.cast_ofNat_Int, List.lookup_cons, List.lookup_nil, str_beq, insOf, not_true_eq_false, gok0]
      rw [w_lenR hp, List.length_map]
      refine is_mark_wp ?_
      try simp only [wp_rep, wp_meth, w_lenSo, w_tupT, w_tupL, List.length_map, wp_ok, wp_bad, wp_bind, wS_ok, wS_bad, wS_cons, wS_nil, wS_pass, wS_break, wS_cont, wS_never, wS_set, wS_expr, wS_ret, wS_retN, wS_if, wS_asg, wS_aug, wS_for, wp_lc, wp_m1, wp_m2, wp_mN, wp_aNil, wp_aCons, wp_mC, wp_var, wp_if2, wp_and2, wp_or2, wp_not, wp_chain2, isBl_bl, andK_p, orK_p, andV_p, orV_p, iteK_p, andK_t, andK_f, orK_t, orK_f, andV_t, andV_f, orV_t, orV_f, iteK_t, iteK_f, wp_tTru2, dTru_bl, dTru_lst, dTru_int, dTru_non, wp_mt, wp_get, wp_isi, wp_fld, wp_sl, wp_oNone, wp_oSome, wp_tBool, wp_tNot, wp_tAnd2, wp_tOr2, wp_tAll, wp_gSlot, wp_gsNil, wp_gsCons, wp_gTup, wp_gSub, wp_iAny, wp_iSeq, wp_iTup, wp_iStr, wp_iRange1, wp_iRange2, wp_iZip, wS_fld, wp_make, seqQ, rtQ, turnQ, List.getElem?_cons_zero, List.getElem?_cons_succ, List.set_cons_zero, List.set_cons_succ, wipeD, if_true, if_false, Bool.false_eq_true, Bool.true_eq_false, reduceIte, w_add, w_iadd, w_iaddS, w_addS, w_addL, w_addT, w_sub, w_mul, w_mod, w_fdiv, w_pow, w_neg, w_lt, w_le, w_gt, w_ge, w_eqI, w_neI, w_eqT, w_neT, w_isN, w_isnotN, w_isB, w_isNB, w_len, w_lenT, w_int, w_intB, w_abs, w_min, w_max, w_tup, w_lst, w_new, w_list, w_listN, w_ix, w_ixT, w_ixD, w_inT1, w_notinT1, w_inT2, w_notinT2, w_inT3, w_notinT3, w_inT4, w_notinT4, w_inT5, w_notinT5, w_inT6, w_notinT6, w_inT7, w_notinT7, w_inT8, w_notinT8, w_sl1, at_0, at_1, at_2, at_3, at_4, at_5, hasTy_list, hasTy_str, isNonD, flatD, sEq_T, List.all_cons, List.all_nil, List.any_cons, List.any_nil, Bool.and_true, Bool.true_and, Bool.or_false, Bool.or_true, Bool.true_or, Bool.false_or, Bool.not_true, Bool.not_false, List.length_cons, List.length_nil, Nat.zero_add, Nat.reduceAdd, line_eq, true_and, and_true, String.reduceBEq, Int.reduceBEq, decide_true, decide_false, Int.reduceLT, Int.reduceLE, beq_self_eq_true, Nat.reduceLeDiff, wS_raise, wp_xinit, wp_sets0, wp_sets1, wp_fs, wp_xf, wp_xis, hdQ, setO, List.map_cons, List.map_nil, tabF_cons, tabF_nil, lview, w_inU1, w_inU2, w_inU3, w_inU4, w_notinU1, w_notinU2, w_notinU3, w_notinU4, wp_lcN, and_self, or_true, true_or, or_false, false_or, not_true_eq_false, not_false_eq_true, ne_eq, reduceCtorEq, List.cons.injEq, Bool.and_false, Bool.false_and, Bool.and_self, Bool.or_self, List.mem_cons, List.not_mem_nil, isSub, ty_tup, ty_lst, ty_int, ty_bl, ty_str, ty_non, nb, Bool.and_eq_true, Bool.or_eq_true, decide_eq_true_eq, beq_iff_eq, Int.cast_ofNat_Int, List.lookup_cons, List.lookup_nil, str_beq, insOf, not_true_eq_false, gok0]
      grind
    · obtain ⟨u, rfl⟩ := hr
      try simp only [wp_rep, wp_meth, w_lenSo, w_tupT, w_tupL, List.length_map, wp_ok, wp_bad, wp_bind, wS_ok, wS_bad, wS_cons, wS_nil, wS_pass, wS_break, wS_cont, wS_never, wS_set, wS_expr, wS_ret, wS_retN, wS_if, wS_asg, wS_aug, wS_for, wp_lc, wp_m1, wp_m2, wp_mN, wp_aNil, wp_aCons, wp_mC, wp_var, wp_if2, wp_and2, wp_or2, wp_not, wp_chain2, isBl_bl, andK_p, orK_p, andV_p, orV_p, iteK_p, andK_t, andK_f, orK_t, orK_f, andV_t, andV_f, orV_t, orV_f, iteK_t, iteK_f, wp_tTru2, dTru_bl, dTru_lst, dTru_int, dTru_non, wp_mt, wp_get, wp_isi, wp_fld, wp_sl, wp_oNone, wp_oSome, wp_tBool, wp_tNot, wp_tAnd2, wp_tOr2, wp_tAll, wp_gSlot, wp_gsNil, wp_gsCons, wp_gTup, wp_gSub, wp_iAny, wp_iSeq, wp_iTup, wp_iStr, wp_iRange1, wp_iRange2, wp_iZip, wS_fld, wp_make, seqQ, rtQ, turnQ, List.getElem?_cons_zero, List.getElem?_cons_succ, List.set_cons_zero, List.set_cons_succ, wipeD, if_true, if_false, Bool.false_eq_true, Bool.true_eq_false, reduceIte, w_add, w_iadd, w_iaddS, w_addS, w_addL, w_addT, w_sub, w_mul, w_mod, w_fdiv, w_pow, w_neg, w_lt, w_le, w_gt, w_ge, w_eqI, w_neI, w_eqT, w_neT, w_isN, w_isnotN, w_isB, w_isNB, w_len, w_lenT, w_int, w_intB, w_abs, w_min, w_max, w_tup, w_lst, w_new, w_list, w_listN, w_ix, w_ixT, w_ixD, w_inT1, w_notinT1, w_inT2, w_notinT2, w_inT3, w_notinT3, w_inT4, w_notinT4, w_inT5, w_notinT5, w_inT6, w_notinT6, w_inT7, w_notinT7, w_inT8, w_notinT8, w_sl1, at_0, at_1, at_2, at_3, at_4, at_5, hasTy_list, hasTy_str, isNonD, flatD, sEq_T, List.all_cons, List.all_nil, List.any_cons, List.any_nil, Bool.and_true, Bool.true_and, Bool.or_false, Bool.or_true, Bool.true_or, Bool.false_or, Bool.not_true, Bool.not_false, List.length_cons, List.length_nil, Nat.zero_add, Nat.reduceAdd, line_eq, true_and, and_true, String.reduceBEq, Int.reduceBEq, decide_true, decide_false, Int.reduceLT, Int.reduceLE, beq_self_eq_true, Nat.reduceLeDiff, wS_raise, wp_xinit, wp_sets0, wp_sets1, wp_fs, wp_xf, wp_xis, hdQ, setO, List.map_cons, List.map_nil, tabF_cons, tabF_nil, lview, w_inU1, w_inU2, w_inU3, w_inU4, w_notinU1, w_notinU2, w_notinU3, w_notinU4, wp_lcN, and_self, or_true, true_or, or_false, false_or, not_true_eq_false, not_false_eq_true, ne_eq, reduceCtorEq, List.cons.injEq, Bool.and_false, Bool.false_and, Bool.and_self, Bool.or_self, List.mem_cons, List.not_mem_nil, isSub, ty_tup, ty_lst, ty_int, ty_bl, ty_str, ty_non, nb, Bool.and_eq_true, Bool.or_eq_true, decide_eq_true_eq, beq_iff_eq, Int.cast_ofNat_Int, List.lookup_cons, List.lookup_nil, str_beq, insOf, not_true_eq_false, gok0]
      grind
    · simp only [seqQ, rtQ]
      grind
theorem in_order_wp {r : List Mark} (k : Q (.bl (ruleB r)) s) : wp (f_law_rule_in_order [.lst (r.map markL)] s) Q E := by
  refine (wp_fn (n := 1) (tot := 3) (m := m_law_rule_in_order) rfl).mpr ?_
  show wS (m_law_rule_in_order [some (.lst (r.map markL)), none, none] _) _ _
  unfold m_law_rule_in_order
  unfold ruleB at k
  try simp only [wp_rep, wp_meth, w_lenSo, w_tupT, w_tupL, List.length_map, wp_ok, wp_bad, wp_bind, wS_ok, wS_bad, wS_cons, wS_nil, wS_pass, wS_break, wS_cont, wS_never, wS_set, wS_expr, wS_ret, wS_retN, wS_if, wS_asg, wS_aug, wS_for, wp_lc, wp_m1, wp_m2, wp_mN, wp_aNil, wp_aCons, wp_mC, wp_var, wp_if2, wp_and2, wp_or2, wp_not, wp_chain2, isBl_bl, andK_p, orK_p, andV_p, orV_p, iteK_p, andK_t, andK_f, orK_t, orK_f, andV_t, andV_f, orV_t, orV_f, iteK_t, iteK_f, wp_tTru2, dTru_bl, dTru_lst, dTru_int, dTru_non, wp_mt, wp_get, wp_isi, wp_fld, wp_sl, wp_oNone, wp_oSome, wp_tBool, wp_tNot, wp_tAnd2, wp_tOr2, wp_tAll, wp_gSlot, wp_gsNil, wp_gsCons, wp_gTup, wp_gSub, wp_iAny, wp_iSeq, wp_iTup, wp_iStr, wp_iRange1, wp_iRange2, wp_iZip, wS_fld, wp_make, seqQ, rtQ, turnQ, List.getElem?_cons_zero, List.getElem?_cons_succ, List.set_cons_zero, List.set_cons_succ, wipeD, if_true, if_false, Bool.false_eq_true, Bool.true_eq_false, reduceIte, w_add, w_iadd, w_iaddS, w_addS, w_addL, w_addT, w_sub, w_mul, w_mod, w_fdiv, w_pow, w_neg, w_lt, w_le, w_gt, w_ge, w_eqI, w_neI, w_eqT, w_neT, w_isN, w_isnotN, w_isB, w_isNB, w_len, w_lenT, w_int, w_intB, w_abs, w_min, w_max, w_tup, w_lst, w_new, w_list, w_listN, w_ix, w_ixT, w_ixD, w_inT1, w_notinT1, w_inT2, w_notinT2, w_inT3, w_notinT3, w_inT4, w_notinT4, w_inT5, w_notinT5, w_inT6, w_notinT6, w_inT7, w_notinT7, w_inT8, w_notinT8, w_sl1, at_0, at_1, at_2, at_3, at_4, at_5, hasTy_list, hasTy_str, isNonD, flatD, sEq_T, List.all_cons, List.all_nil, List.any_cons, List.any_nil, Bool.and_true, Bool.true_and, Bool.or_false, Bool.or_true, Bool.true_or, Bool.false_or, Bool.not_true, Bool.not_false, List.length_cons, List.length_nil, Nat.zero_add, Nat.reduceAdd, line_eq, true_and, and_true, String.reduceBEq, Int.reduceBEq, decide_true, decide_false, Int.reduceLT, Int.reduceLE, beq_self_eq_true, Nat.reduceLeDiff, wS_raise, wp_xinit, wp_sets0, wp_sets1, wp_fs, wp_xf, wp_xis, hdQ, setO, List.map_cons, List.map_nil, tabF_cons, tabF_nil, lview, w_inU1, w_inU2, w_inU3, w_inU4, w_notinU1, w_notinU2, w_notinU3, w_notinU4, wp_lcN, and_self, or_true, true_or, or_false, false_or, not_true_eq_false, not_false_eq_true, ne_eq, reduceCtorEq, List.cons.injEq, Bool.and_false, Bool.false_and, Bool.and_self, Bool.or_self, List.mem_cons, List.not_mem_nil, isSub, ty_tup, ty_lst, ty_int, ty_bl, ty_str, ty_non, nb, Bool.and_eq_true, Bool.or_eq_true, decide_eq_true_eq, beq_iff_eq, Int.cast_ofNat_Int, List.lookup_cons, List.lookup_nil, str_beq, insOf, not_true_eq_false, gok0]
  split
  · grind
  · refine wS_forAll (P := markB r.length) (d := .bl false) (R := fun ρ => ∃ u v, ρ = [some (.lst (r.map markL)), u, v]) (gd := none) trivial ?_ _ ⟨_, _, rfl⟩ (fun h ρ' hr => ?_) fun h => ?_
    · rintro m hm ρ Q' ⟨u, v, rfl⟩ g1 g2
      rw [ml]
      try simp only [wp_rep, wp_meth, w_lenSo, w_tupT, w_tupL, List.length_map, wp_ok, wp_bad, wp_bind, wS_ok, wS_bad, wS_cons, wS_nil, wS_pass, wS_break, wS_cont, wS_never, wS_set, wS_expr, wS_ret, wS_retN, wS_if, wS_asg, wS_aug, wS_for, wp_lc, wp_m1, wp_m2, wp_mN, wp_aNil, wp_aCons, wp_mC, wp_var, wp_if2, wp_and2, wp_or2, wp_not, wp_chain2, isBl_bl, andK_p, orK_p, andV_p, orV_p, iteK_p, andK_t, andK_f, orK_t, orK_f, andV_t, andV_f, orV_t, orV_f, iteK_t, iteK_f, wp_tTru2, dTru_bl, dTru_lst, dTru_int, dTru_non, wp_mt, wp_get, wp_isi, wp_fld, wp_sl, wp_oNone, wp_oSome, wp_tBool, wp_tNot, wp_tAnd2, wp_tOr2, wp_tAll, wp_gSlot, wp_gsNil, wp_gsCons, wp_gTup, wp_gSub, wp_iAny, wp_iSeq, wp_iTup, wp_iStr, wp_iRange1, wp_iRange2, wp_iZip, wS_fld, wp_make, seqQ, rtQ, turnQ, List.getElem?_cons_zero, List.getElem?_cons_succ, List.set_cons_zero, List.set_cons_succ, wipeD, if_true, if_false, Bool.false_eq_true, Bool.true_eq_false, reduceIte, w_add, w_iadd, w_iaddS, w_addS, w_addL, w_addT, w_sub, w_mul, w_mod, w_fdiv, w_pow, w_neg, w_lt, w_le, w_gt, w_ge, w_eqI, w_neI, w_eqT, w_neT, w_isN, w_isnotN, w_isB, w_isNB, w_len, w_lenT, w_int, w_intB, w_abs, w_min, w_max, w_tup, w_lst, w_new, w_list, w_listN, w_ix, w_ixT, w_ixD, w_inT1, w_notinT1, w_inT2, w_notinT2, w_inT3, w_notinT3, w_inT4, w_notinT4, w_inT5, w_notinT5, w_inT6, w_notinT6, w_inT7, w_notinT7, w_inT8, w_notinT8, w_sl1, at_0, at_1, at_2, at_3, at_4, at_5, hasTy_list, hasTy_str, isNonD, flatD, sEq_T, List.all_cons, List.all_nil, List.any_cons, List.any_nil, Bool.and_true, Bool.true_and, Bool.or_false, Bool.or_true, Bool.true_or, Bool.false_or, Bool.not_true, Bool.not_false, List.length_cons, List.length_nil, Nat.zero_add, Nat.reduceAdd, line_eq, true_and, and_true, String.reduceBEq, Int.reduceBEq, decide_true, decide_false, Int.reduceLT, Int.reduceLE, beq_self_eq_true, Nat.reduceLeDiff, wS_raise, wp_xinit, wp_sets0, wp_sets1, wp_fs, wp_xf, wp_xis, hdQ, setO, List.map_cons, List.map_nil, tabF_cons, tabF_nil, lview, w_inU1, w_inU2, w_inU3, w_inU4, w_notinU1, w_notinU2, w_notinU3, w_notinU4, wp_lcN, and_self, or_true, true_or, or_false, false_or, not_true_eq_false, not_false_eq_true, ne_eq, reduceCtorEq, List.cons.injEq, Bool.and_false, Bool.false_and, Bool.and_self, Bool.or_self, List.mem_cons, List.not_mem_nil, isSub, ty_tup, ty_lst, ty_int, ty_bl, ty_str, ty_non, nb, Bool.and_eq_true, Bool.or_eq_true, decide_eq_true_eq, beq_iff_eq, Int.cast_ofNat_Int, List.lookup_cons, List.lookup_nil, str_beq, insOf, not_true_eq_false, gok0]
      unfold markB at g1 g2
      split
      · grind
      · refine wS_forAll (P := pairB r.length) (d := .bl false) (R := fun ρ => ∃ v, ρ = [some (.lst (r.map markL)), some (.lst (m.map pairD)), v]) (gd := none) trivial ?_ _ ⟨_, rfl⟩ (fun h ρ' hr => ?_) fun h => ?_
        · rintro ⟨a, b⟩ hp ρ Q' ⟨v, rfl⟩ g1 g2
          rw [pd]
          try simp only [wp_rep, wp_meth, w_lenSo, w_tupT, w_tupL, List.length_map, wp_ok, wp_bad, wp_bind, wS_ok, wS_bad, wS_cons, wS_nil, wS_pass, wS_break, wS_cont, wS_never, wS_set, wS_expr, wS_ret, wS_retN, wS_if, wS_asg, wS_aug, wS_for, wp_lc, wp_m1, wp_m2, wp_mN, wp_aNil, wp_aCons, wp_mC, wp_var, wp_if2, wp_and2, wp_or2, wp_not, wp_chain2, isBl_bl, andK_p, orK_p, andV_p, orV_p, iteK_p, andK_t, andK_f, orK_t, orK_f, andV_t, andV_f, orV_t, orV_f, iteK_t, iteK_f, wp_tTru2, dTru_bl, dTru_lst, dTru_int, dTru_non, wp_mt, wp_get, wp_isi, wp_fld, wp_sl, wp_oNone, wp_oSome, wp_tBool, wp_tNot, wp_tAnd2, wp_tOr2, wp_tAll, wp_gSlot, wp_gsNil, wp_gsCons, wp_gTup, wp_gSub, wp_iAny, wp_iSeq, wp_iTup, wp_iStr, wp_iRange1, wp_iRange2, wp_iZip, wS_fld, wp_make, seqQ, rtQ, turnQ, List.getElem?_cons_zero, List.getElem?_cons_succ, List.set_cons_zero, List.set_cons_succ, wipeD, if_true, if_false, Bool.false_eq_true, Bool.true_eq_false, reduceIte, w_add, w_iadd, w_iaddS, w_addS, w_addL, w_addT, w_sub, w_mul, w_mod, w_fdiv, w_pow, w_neg, w_lt, w_le, w_gt, w_ge, w_eqI, w_neI, w_eqT, w_neT, w_isN, w_isnotN, w_isB, w_isNB, w_len, w_lenT, w_int, w_intB, w_abs, w_min, w_max, w_tup, w_lst, w_new, w_list, w_listN, w_ix, w_ixT, w_ixD, w_inT1, w_notinT1, w_inT2, w_notinT2, w_inT3, w_notinT3, w_inT4, w_notinT4, w_inT5, w_notinT5, w_inT6, w_notinT6, w_inT7, w_notinT7, w_inT8, w_notinT8, w_sl1, at_0, at_1, at_2, at_3, at_4, at_5, hasTy_list, hasTy_str, isNonD, flatD, sEq_T, List.all_cons, List.all_nil, List.any_cons, List.any_nil, Bool.and_true, Bool.true_and, Bool.or_false, Bool.or_true, Bool.true_or, Bool.false_or, Bool.not_true, Bool.not_false, List.length_cons, List.length_nil, Nat.zero_add, Nat.reduceAdd, line_eq, true_and, and_true, String.reduceBEq, Int.reduceBEq, decide_true, decide_false, Int.reduceLT, Int.reduceLE, beq_self_eq_true, Nat.reduceLeDiff, wS_raise, wp_xinit, wp_sets0, wp_sets1, wp_fs, wp_xf, wp_xis, hdQ, setO, List.map_cons, List.map_nil, tabF_cons, tabF_nil, lview, w_inU1, w_inU2, w_inU3, w_inU4, w_notinU1, w_notinU2, w_notinU3, w_notinU4, wp_lcN, and_self, or_true, true_or, or_false, false_or, not_true_eq_false, not_false_eq_true, ne_eq, reduceCtorEq, List.cons.injEq, Bool.and_false, Bool.false_and, Bool.and_self, Bool.or_self, List.mem_cons, List.not_mem_nil, isSub, ty_tup, ty_lst, ty_int, ty_bl, ty_str, ty_non, nb, Bool.and_eq_true, Bool.or_eq_true, decide_eq_true_eq, beq_iff_eq, Int.cast_ofNat_Int, List.lookup_cons, List.lookup_nil, str_beq, insOf, not_true_eq_false, gok0]
          unfold pairB at g1 g2
          grind
        · obtain ⟨v, rfl⟩ := hr
          refine g2 ?_ _ ⟨_, _, rfl⟩
          grind
        · refine g1 ?_
          grind
    · obtain ⟨u, v, rfl⟩ := hr
      try simp only [wp_rep, wp_meth, w_lenSo, w_tupT, w_tupL, List.length_map, wp_ok, wp_bad, wp_bind, wS_ok, wS_bad, wS_cons, wS_nil, wS_pass, wS_break, wS_cont, wS_never, wS_set, wS_expr, wS_ret, wS_retN, wS_if, wS_asg, wS_aug, wS_for, wp_lc, wp_m1, wp_m2, wp_mN, wp_aNil, wp_aCons, wp_mC, wp_var, wp_if2, wp_and2, wp_or2, wp_not, wp_chain2, isBl_bl, andK_p, orK_p, andV_p, orV_p, iteK_p, andK_t, andK_f, orK_t, orK_f, andV_t, andV_f, orV_t, orV_f, iteK_t, iteK_f, wp_tTru2, dTru_bl, dTru_lst, dTru_int, dTru_non, wp_mt, wp_get, wp_isi, wp_fld, wp_sl, wp_oNone, wp_oSome, wp_tBool, wp_tNot, wp_tAnd2, wp_tOr2, wp_tAll, wp_gSlot, wp_gsNil, wp_gsCons, wp_gTup, wp_gSub, wp_iAny, wp_iSeq, wp_iTup, wp_iStr, wp_iRange1, wp_iRange2, wp_iZip, wS_fld, wp_make, seqQ, rtQ, turnQ, List.getElem?_cons_zero, List.getElem?_cons_succ, List.set_cons_zero, List.set_cons_succ, wipeD, if_true, if_false, Bool.false_eq_true, Bool.true_eq_false, reduceIte, w_add, w_iadd, w_iaddS, w_addS, w_addL, w_addT, w_sub, w_mul, w_mod, w_fdiv, w_pow, w_neg, w_lt, w_le, w_gt, w_ge, w_eqI, w_neI, w_eqT, w_neT, w_isN, w_isnotN, w_isB, w_isNB, w_len, w_lenT, w_int, w_intB, w_abs, w_min, w_max, w_tup, w_lst, w_new, w_list, w_listN, w_ix, w_ixT, w_ixD, w_inT1, w_notinT1, w_inT2, w_notinT2, w_inT3, w_notinT3, w_inT4, w_notinT4, w_inT5, w_notinT5, w_inT6, w_notinT6, w_inT7, w_notinT7, w_inT8, w_notinT8, w_sl1, at_0, at_1, at_2, at_3, at_4, at_5, hasTy_list, hasTy_str, isNonD, flatD, sEq_T, List.all_cons, List.all_nil, List.any_cons, List.any_nil, Bool.and_true, Bool.true_and, Bool.or_false, Bool.or_true, Bool.true_or, Bool.false_or, Bool.not_true, Bool.not_false, List.length_cons, List.length_nil, Nat.zero_add, Nat.reduceAdd, line_eq, true_and, and_true, String.reduceBEq, Int.reduceBEq, decide_true, decide_false, Int.reduceLT, Int.reduceLE, beq_self_eq_true, Nat.reduceLeDiff, wS_raise, wp_xinit, wp_sets0, wp_sets1, wp_fs, wp_xf, wp_xis, hdQ, setO, List.map_cons, List.map_nil, tabF_cons, tabF_nil, lview, w_inU1, w_inU2, w_inU3, w_inU4, w_notinU1, w_notinU2, w_notinU3, w_notinU4, wp_lcN, and_self, or_true, true_or, or_false, false_or, not_true_eq_false, not_false_eq_true, ne_eq, reduceCtorEq, List.cons.injEq, Bool.and_false, Bool.false_and, Bool.and_self, Bool.or_self, List.mem_cons, List.not_mem_nil, isSub, ty_tup, ty_lst, ty_int, ty_bl, ty_str, ty_non, nb, Bool.and_eq_true, Bool.or_eq_true, decide_eq_true_eq, beq_iff_eq, Int.cast_ofNat_Int, List.lookup_cons, List.lookup_nil, str_beq, insOf, not_true_eq_false, gok0]
      grind
    · try simp only [wp_rep, wp_meth, w_lenSo, w_tupT, w_tupL, List.length_map, wp_ok, wp_bad, wp_bind, wS_ok, wS_bad, wS_cons, wS_nil, wS_pass, wS_break, wS_cont, wS_never, wS_set, wS_expr, wS_ret, wS_retN, wS_if, wS_asg, wS_aug, wS_for, wp_lc, wp_m1, wp_m2, wp_mN, wp_aNil, wp_aCons, wp_mC, wp_var, wp_if2, wp_and2, wp_or2, wp_not, wp_chain2, isBl_bl, andK_p, orK_p, andV_p, orV_p, iteK_p, andK_t, andK_f, orK_t, orK_f, andV_t, andV_f, orV_t, orV_f, iteK_t, iteK_f, wp_tTru2, dTru_bl, dTru_lst, dTru_int, dTru_non, wp_mt, wp_get, wp_isi, wp_fld, wp_sl, wp_oNone, wp_oSome, wp_tBool, wp_tNot, wp_tAnd2, wp_tOr2, wp_tAll, wp_gSlot, wp_gsNil, wp_gsCons, wp_gTup, wp_gSub, wp_iAny, wp_iSeq, wp_iTup, wp_iStr, wp_iRange1, wp_iRange2, wp_iZip, wS_fld, wp_make, seqQ, rtQ, turnQ, List.getElem?_cons_zero, List.getElem?_cons_succ, List.set_cons_zero, List.set_cons_succ, wipeD, if_true, if_false, Bool.false_eq_true, Bool.true_eq_false, reduceIte, w_add, w_iadd, w_iaddS, w_addS, w_addL, w_addT, w_sub, w_mul, w_mod, w_fdiv, w_pow, w_neg, w_lt, w_le, w_gt, w_ge, w_eqI, w_neI, w_eqT, w_neT, w_isN, w_isnotN, w_isB, w_isNB, w_len, w_lenT, w_int, w_intB, w_abs, w_min, w_max, w_tup, w_lst, w_new, w_list, w_listN, w_ix, w_ixT, w_ixD, w_inT1, w_notinT1, w_inT2, w_notinT2, w_inT3, w_notinT3, w_inT4, w_notinT4, w_inT5, w_notinT5, w_inT6, w_notinT6, w_inT7, w_notinT7, w_inT8, w_notinT8, w_sl1, at_0, at_1, at_2, at_3, at_4, at_5, hasTy_list, hasTy_str, isNonD, flatD, sEq_T, List.all_cons, List.all_nil, List.any_cons, List.any_nil, Bool.and_true, Bool.true_and, Bool.or_false, Bool.or_true, Bool.true_or, Bool.false_or, Bool.not_true, Bool.not_false, List.length_cons, List.length_nil, Nat.zero_add, Nat.reduceAdd, line_eq, true_and, and_true, String.reduceBEq, Int.reduceBEq, decide_true, decide_false, Int.reduceLT, Int.reduceLE, beq_self_eq_true, Nat.reduceLeDiff, wS_raise, wp_xinit, wp_sets0, wp_sets1, wp_fs, wp_xf, wp_xis, hdQ, setO, List.map_cons, List.map_nil, tabF_cons, tabF_nil, lview, w_inU1, w_inU2, w_inU3, w_inU4, w_notinU1, w_notinU2, w_notinU3, w_notinU4, wp_lcN, and_self, or_true, true_or, or_false, false_or, not_true_eq_false, not_false_eq_true, ne_eq, reduceCtorEq, List.cons.injEq, Bool.and_false, Bool.false_and, Bool.and_self, Bool.or_self, List.mem_cons, List.not_mem_nil, isSub, ty_tup, ty_lst, ty_int, ty_bl, ty_str, ty_non, nb, Bool.and_eq_true, Bool.or_eq_true, decide_eq_true_eq, beq_iff_eq, Int.cast_ofNat_Int, List.lookup_cons, List.lookup_nil, str_beq, insOf, not_true_eq_false, gok0]
      grind
/-! ### the parts of a row -/
structure Prt where
  mode : String
  sh : String
  le : String
  gr : String
  rule : List Mark
def still : Mark := [(0, 0), (0, 0), (0, 0), (0, 0), (0, 0), (0, 0)]
def Prt.d (p : Prt) : D := .lst [.str (Str.ofString p.mode), .str (Str.ofString p.sh), .str (Str.ofString p.le), .str (Str.ofString p.gr), .lst (p.rule.map markL)]
def wrong (p : Prt) : String :=
  if ¬ (p.mode = "held" ∨ p.mode = "copied" ∨ p.mode = "refused") then "mode"
  else if ¬ (p.sh = "one" ∨ p.sh = "each" ∧ p.mode = "held") then "sharing"
  else if ¬ (p.le = "always" ∨ p.le = "call" ∧ p.mode = "held") then "lease"
  else if ¬ (p.gr = "slot" ∨ (p.gr = "place" ∨ p.gr = "pin") ∧ p.mode = "held") then "grip"
  else if ruleB p.rule = false ∨ ¬ p.mode = "held" ∧ ¬ p.rule = [still] then "rule" else ""
theorem enc_mark : EncOk 3 markL := enc_lst (enc_pair enc_int enc_int)
theorem enc_markT : EncOk 3 markT := enc_tup (enc_pair enc_int enc_int)
theorem enc_rule : EncOk 4 (fun r : List Mark => D.lst (r.map markL)) := enc_lst enc_mark
theorem enc_ruleT : EncOk 4 (fun r : List Mark => D.lst (r.map markT)) := enc_lst enc_markT
theorem ne_still {r : List Mark} : wp (dNe (.lst (r.map markL)) (.lst [.lst [.tup [.int 0, .int 0], .tup [.int 0, .int 0], .tup [.int 0, .int 0], .tup [.int 0, .int 0], .tup [.int 0, .int 0], .tup [.int 0, .int 0]]]) s) Q E = Q (.bl (!decide (r = [still]))) s := w_neE enc_rule (by decide) (x := r) (y := [still])
theorem first_wrong_wp {p : Prt} (k : Q (.str (Str.ofString (wrong p))) s) : wp (f_law_first_wrong [p.d] s) Q E := by
  refine (wp_fn (n := 1) (tot := 2) (m := m_law_first_wrong) rfl).mpr ?_
  show wS (m_law_first_wrong [some p.d, none] _) _ _
  unfold m_law_first_wrong Prt.d
  unfold wrong at k
  try simp only [wp_rep, wp_meth, w_lenSo, w_tupT, w_tupL, List.length_map, wp_ok, wp_bad, wp_bind, wS_ok, wS_bad, wS_cons, wS_nil, wS_pass, wS_break, wS_cont, wS_never, wS_set, wS_expr, wS_ret, wS_retN, wS_if, wS_asg, wS_aug, wS_for, wp_lc, wp_m1, wp_m2, wp_mN, wp_aNil, wp_aCons, wp_mC, wp_var, wp_if2, wp_and2, wp_or2, wp_not, wp_chain2, isBl_bl, andK_p, orK_p, andV_p, orV_p, iteK_p, andK_t, andK_f, orK_t, orK_f, andV_t, andV_f, orV_t, orV_f, iteK_t, iteK_f, wp_tTru2, dTru_bl, dTru_lst, dTru_int, dTru_non, wp_mt, wp_get, wp_isi, wp_fld, wp_sl, wp_oNone, wp_oSome, wp_tBool, wp_tNot, wp_tAnd2, wp_tOr2, wp_tAll, wp_gSlot, wp_gsNil, wp_gsCons, wp_gTup, wp_gSub, wp_iAny, wp_iSeq, wp_iTup, wp_iStr, wp_iRange1, wp_iRange2, wp_iZip, wS_fld, wp_make, seqQ, rtQ, turnQ, List.getElem?_cons_zero, List.getElem?_cons_succ, List.set_cons_zero, List.set_cons_succ, wipeD, if_true, if_false, Bool.false_eq_true, Bool.true_eq_false, reduceIte, w_add, w_iadd, w_iaddS, w_addS, w_addL, w_addT, w_sub, w_mul, w_mod, w_fdiv, w_pow, w_neg, w_lt, w_le, w_gt, w_ge, w_eqI, w_neI, w_eqT, w_neT, w_isN, w_isnotN, w_isB, w_isNB, w_len, w_lenT, w_int, w_intB, w_abs, w_min, w_max, w_tup, w_lst, w_new, w_list, w_listN, w_ix, w_ixT, w_ixD, w_inT1, w_notinT1, w_inT2, w_notinT2, w_inT3, w_notinT3, w_inT4, w_notinT4, w_inT5, w_notinT5, w_inT6, w_notinT6, w_inT7, w_notinT7, w_inT8, w_notinT8, w_sl1, at_0, at_1, at_2, at_3, at_4, at_5, hasTy_list, hasTy_str, isNonD, flatD, sEq_T, List.all_cons, List.all_nil, List.any_cons, List.any_nil, Bool.and_true, Bool.true_and, Bool.or_false, Bool.or_true, Bool.true_or, Bool.false_or, Bool.not_true, Bool.not_false, List.length_cons, List.length_nil, Nat.zero_add, Nat.reduceAdd, line_eq, true_and, and_true, String.reduceBEq, Int.reduceBEq, decide_true, decide_false, Int.reduceLT, Int.reduceLE, beq_self_eq_true, Nat.reduceLeDiff, wS_raise, wp_xinit, wp_sets0, wp_sets1, wp_fs, wp_xf, wp_xis, hdQ, setO, List.map_cons, List.map_nil, tabF_cons, tabF_nil, lview, w_inU1, w_inU2, w_inU3, w_inU4, w_notinU1, w_notinU2, w_notinU3, w_notinU4, wp_lcN, and_self, or_true, true_or, or_false, false_or, not_true_eq_false, not_false_eq_true, ne_eq, reduceCtorEq, List.cons.injEq, Bool.and_false, Bool.false_and, Bool.and_self, Bool.or_self, List.mem_cons, List.not_mem_nil, isSub, ty_tup, ty_lst, ty_int, ty_bl, ty_str, ty_non, nb, Bool.and_eq_true, Bool.or_eq_true, decide_eq_true_eq, beq_iff_eq, Int.cast_ofNat_Int, List.lookup_cons, List.lookup_nil, str_beq, insOf, not_true_eq_false, gok0]
  iterate 4
    split
    · grind
  refine in_order_wp ?_
  simp only [ne_still]
  try simp only [wp_rep, wp_meth, w_lenSo, w_tupT, w_tupL, List.length_map, wp_ok, wp_bad, wp_bind, wS_ok, wS_bad, wS_cons, wS_nil, wS_pass, wS_break, wS_cont, wS_never, wS_set, wS_expr, wS_ret, wS_retN, wS_if, wS_asg, wS_aug, wS_for, wp_lc, wp_m1, wp_m2, wp_mN, wp_aNil, wp_aCons, wp_mC, wp_var, wp_if2, wp_and2, wp_or2, wp_not, wp_chain2, isBl_bl, andK_p, orK_p, andV_p, orV_p, iteK_p, andK_t, andK_f, orK_t, orK_f, andV_t, andV_f, orV_t, orV_f, iteK_t, iteK_f, wp_tTru2, dTru_bl, dTru_lst, dTru_int, dTru_non, wp_mt, wp_get, wp_isi, wp_fld, wp_sl, wp_oNone, wp_oSome, wp_tBool, wp_tNot, wp_tAnd2, wp_tOr2, wp_tAll, wp_gSlot, wp_gsNil, wp_gsCons, wp_gTup, wp_gSub, wp_iAny, wp_iSeq, wp_iTup, wp_iStr, wp_iRange1, wp_iRange2, wp_iZip, wS_fld, wp_make, seqQ, rtQ, turnQ, List.getElem?_cons_zero, List.getElem?_cons_succ, List.set_cons_zero, List.set_cons_succ, wipeD, if_true, if_false, Bool.false_eq_true, Bool.true_eq_false, reduceIte, w_add, w_iadd, w_iaddS, w_addS, w_addL, w_addT, w_sub, w_mul, w_mod, w_fdiv, w_pow, w_neg, w_lt, w_le, w_gt, w_ge, w_eqI, w_neI, w_eqT, w_neT, w_isN, w_isnotN, w_isB, w_isNB, w_len, w_lenT, w_int, w_intB, w_abs, w_min, w_max, w_tup, w_lst, w_new, w_list, w_listN, w_ix, w_ixT, w_ixD, w_inT1, w_notinT1, w_inT2, w_notinT2, w_inT3, w_notinT3, w_inT4, w_notinT4, w_inT5, w_notinT5, w_inT6, w_notinT6, w_inT7, w_notinT7, w_inT8, w_notinT8, w_sl1, at_0, at_1, at_2, at_3, at_4, at_5, hasTy_list, hasTy_str, isNonD, flatD, sEq_T, List.all_cons, List.all_nil, List.any_cons, List.any_nil, Bool.and_true, Bool.true_and, Bool.or_false, Bool.or_true, Bool.true_or, Bool.false_or, Bool.not_true, Bool.not_false, List.length_cons, List.length_nil, Nat.zero_add, Nat.reduceAdd, line_eq, true_and, and_true, String.reduceBEq, Int.reduceBEq, decide_true, decide_false, Int.reduceLT, Int.reduceLE, beq_self_eq_true, Nat.reduceLeDiff, wS_raise, wp_xinit, wp_sets0, wp_sets1, wp_fs, wp_xf, wp_xis, hdQ, setO, List.map_cons, List.map_nil, tabF_cons, tabF_nil, lview, w_inU1, w_inU2, w_inU3, w_inU4, w_notinU1, w_notinU2, w_notinU3, w_notinU4, wp_lcN, and_self, or_true, true_or, or_false, false_or, not_true_eq_false, not_false_eq_true, ne_eq, reduceCtorEq, List.cons.injEq, Bool.and_false, Bool.false_and, Bool.and_self, Bool.or_self, List.mem_cons, List.not_mem_nil, isSub, ty_tup, ty_lst, ty_int, ty_bl, ty_str, ty_non, nb, Bool.and_eq_true, Bool.or_eq_true, decide_eq_true_eq, beq_iff_eq, Int.cast_ofNat_Int, List.lookup_cons, List.lookup_nil, str_beq, insOf, not_true_eq_false, gok0]
  grind
/-! ### a row is made -/
/-- d is a mark's list -/
def MarkV (s : S) (d : D) (m : Mark) : Prop := d = markL m ∨ d = markT m ∨ ∃ q, d = .ref q ∧ s[q]? = some (.lst (m.map pairD))
theorem MarkV.ext {d : D} {m : Mark} {t : S} (h : MarkV s d m) : MarkV (s ++ t) d m := by
  rcases h with h | h | ⟨q, h, e⟩
  · exact .inl h
  · exact .inr (.inl h)
  · exact .inr (.inr ⟨q, h, by rw [List.getElem?_append_left (List.getElem?_eq_some_iff.mp e).1]; exact e⟩)
/-- d is a rule's list -/
def RuleV (s : S) (d : D) (r : List Mark) : Prop := ∃ items : List D, items.length = r.length ∧ (∀ (i : Nat) (x : D) (m : Mark), items[i]? = some x → r[i]? = some m → MarkV s x m) ∧ (d = .lst items ∨ ∃ p, d = .ref p ∧ s[p]? = some (.lst items))
def ri_b : MS := (sExpr (mMt "list" dAppend (mVar 7) (aCons (mN dTuple (aCons (mLc (iAny (mVar 8)) (gSlot 9) tAll (mN dTuple (aCons (mVar 9) aNil)) [9]) aNil)) aNil)))
theorem at_end {s : S} {o : O} : (s ++ [o])[s.length]? = some o := by simp
theorem set_end {s : S} {o o' : O} : (s ++ [o]).set s.length o' = s ++ [o'] := by simp
theorem ri_loop {gd : Option Nat} {all : List D} {Q : C → S → Prop} {E : D → Rho → S → Prop} {v0 v1 v2 v3 v4 v5 v6 : Option D} (hg : ∀ l, gOk gd all (s ++ [.lst l])) : ∀ (items : List D) (r done : List Mark) (v8 : Option D), items.length = r.length → done.length + r.length ≤ 1000 →
    (∀ (i : Nat) (x : D) (m : Mark), items[i]? = some x → r[i]? = some m → MarkV s x m) → (∀ m ∈ r, m.length ≤ 1000) → (∀ v8, Q (.nx [v0, v1, v2, v3, v4, v5, v6, some (.ref s.length), v8, none]) (s ++ [.lst ((done ++ r).map markT)])) →
    wS (forL gd all (gSlot 8) ri_b items [v0, v1, v2, v3, v4, v5, v6, some (.ref s.length), v8, none] (s ++ [.lst (done.map markT)])) Q E
  | [], [], done, v8, _, _, _, _, k => by
    rw [wS_forL_nil]
    refine ⟨hg _, ?_⟩
    have := k v8
    rwa [List.append_nil] at this
  | x :: items, [], _, _, h, _, _, _, _ => by cases h
  | [], m :: r, _, _, h, _, _, _, _ => by cases h
  | x :: items, m :: r, done, v8, hl, hd, hm, hz, k => by
    rw [wS_forL_cons]
    refine ⟨hg _, ?_⟩
    have hz1 := hz m (List.mem_cons_self ..)
    simp only [List.length_cons] at hl hd
    have go : ∀ (Q2 : D → S → Prop) (p : Int × Int) (ρ : Rho), Q2 (pairD p) (s ++ [.lst (done.map markT)]) → wp (gSlot 9 (pairD p) [v0, v1, v2, v3, v4, v5, v6, some (.ref s.length), some x, none] (s ++ [.lst (done.map markT)])) (fun ρ1 s1 => wp (mN dTuple (aCons (mVar 9) aNil) ρ1 s1) Q2) := fun Q2 p ρ h => by
      obtain ⟨a, b⟩ := p
      rw [pd]
      try simp only [wp_rep, wp_meth, w_lenSo, w_tupT, w_tupL, List.length_map, wp_ok, wp_bad, wp_bind, wS_ok, wS_bad, wS_cons, wS_nil, wS_pass, wS_break, wS_cont, wS_never, wS_set, wS_expr, wS_ret, wS_retN, wS_if, wS_asg, wS_aug, wS_for, wp_lc, wp_m1, wp_m2, wp_mN, wp_aNil, wp_aCons, wp_mC, wp_var, wp_if2, wp_and2, wp_or2, wp_not, wp_chain2, isBl_bl, andK_p, orK_p, andV_p, orV_p, iteK_p, andK_t, andK_f, orK_t, orK_f, andV_t, andV_f, orV_t, orV_f, iteK_t, iteK_f, wp_tTru2, dTru_bl, dTru_lst, dTru_int, dTru_non, wp_mt, wp_get, wp_isi, wp_fld, wp_sl, wp_oNone, wp_oSome, wp_tBool, wp_tNot, wp_tAnd2, wp_tOr2, wp_tAll, wp_gSlot, wp_gsNil, wp_gsCons, wp_gTup, wp_gSub, wp_iAny, wp_iSeq, wp_iTup, wp_iStr, wp_iRange1, wp_iRange2, wp_iZip, wS_fld, wp_make, seqQ, rtQ, turnQ, List.getElem?_cons_zero, List.getElem?_cons_succ, List.set_cons_zero, List.set_cons_succ, wipeD, if_true, if_false, Bool.false_eq_true, Bool.true_eq_false, reduceIte, w_add, w_iadd, w_iaddS, w_addS, w_addL, w_addT, w_sub, w_mul, w_mod, w_fdiv, w_pow, w_neg, w_lt, w_le, w_gt, w_ge, w_eqI, w_neI, w_eqT, w_neT, w_isN, w_isnotN, w_isB, w_isNB, w_len, w_lenT, w_int, w_intB, w_abs, w_min, w_max, w_tup, w_lst, w_new, w_list, w_listN, w_ix, w_ixT, w_ixD, w_inT1, w_notinT1, w_inT2, w_notinT2, w_inT3, w_notinT3, w_inT4, w_notinT4, w_inT5, w_notinT5, w_inT6, w_notinT6, w_inT7, w_notinT7, w_inT8, w_notinT8, w_sl1, at_0, at_1, at_2, at_3, at_4, at_5, hasTy_list, hasTy_str, isNonD, flatD, sEq_T, List.all_cons, List.all_nil, List.any_cons, List.any_nil, Bool.and_true, Bool.true_and, Bool.or_false, Bool.or_true, Bool.true_or, Bool.false_or, Bool.not_true, Bool.not_false, List.length_cons, List.length_nil, Nat.zero_add, Nat.reduceAdd, line_eq, true_and, and_true, String.reduceBEq, Int.reduceBEq, decide_true, decide_false, Int.reduceLT, Int.reduceLE, beq_self_eq_true, Nat.reduceLeDiff, wS_raise, wp_xinit, wp_sets0, wp_sets1, wp_fs, wp_xf, wp_xis, hdQ, setO, List.map_cons, List.map_nil, tabF_cons, tabF_nil, lview, w_inU1, w_inU2, w_inU3, w_inU4, w_notinU1, w_notinU2, w_notinU3, w_notinU4, wp_lcN, and_self, or_true, true_or, or_false, false_or, not_true_eq_false, not_false_eq_true, ne_eq, reduceCtorEq, List.cons.injEq, Bool.and_false, Bool.false_and, Bool.and_self, Bool.or_self, List.mem_cons, List.not_mem_nil, isSub, ty_tup, ty_lst, ty_int, ty_bl, ty_str, ty_non, nb, Bool.and_eq_true, Bool.or_eq_true, decide_eq_true_eq, beq_iff_eq, Int.cast_ofNat_Int, List.lookup_cons, List.lookup_nil, str_beq, insOf, not_true_eq_false, gok0]
      exact h
    have fin : ∀ E', m.length ≤ 16777216 ∧ wp (dAppend (.ref s.length) [.tup (m.map pairD)] (s ++ [.lst (done.map markT)])) (fun _ s1 => wS (forL gd all (gSlot 8) ri_b items [v0, v1, v2, v3, v4, v5, v6, some (.ref s.length), some x, none] s1) Q E) E' := fun E' => by
      refine ⟨by omega, ?_⟩
      rw [w_append at_end, set_end]
      refine ⟨by rw [List.length_map, line_eq]; omega, ?_⟩
      have e : done.map markT ++ [D.tup (m.map pairD)] = (done ++ [m]).map markT := by simp [markT]
      rw [e]
      refine ri_loop hg items r (done ++ [m]) _ (by omega) (by simp; omega) (fun i x' m' h1 h2 => hm (i + 1) x' m' h1 h2) (fun m' h => hz m' (List.mem_cons_of_mem _ h)) fun v8 => ?_
      have := k v8
      rwa [show done ++ m :: r = done ++ [m] ++ r by simp] at this
    rcases (hm 0 x m rfl rfl).ext (t := [.lst (done.map markT)]) with rfl | rfl | ⟨q, rfl, hq⟩
    · unfold ri_b
      rw [ml] at go fin ⊢
      try simp only [wp_rep, wp_meth, w_lenSo, w_tupT, w_tupL, List.length_map, wp_ok, wp_bad, wp_bind, wS_ok, wS_bad, wS_cons, wS_nil, wS_pass, wS_break, wS_cont, wS_never, wS_set, wS_expr, wS_ret, wS_retN, wS_if, wS_asg, wS_aug, wS_for, wp_lc, wp_m1, wp_m2, wp_mN, wp_aNil, wp_aCons, wp_mC, wp_var, wp_if2, wp_and2, wp_or2, wp_not, wp_chain2, isBl_bl, andK_p, orK_p, andV_p, orV_p, iteK_p, andK_t, andK_f, orK_t, orK_f, andV_t, andV_f, orV_t, orV_f, iteK_t, iteK_f, wp_tTru2, dTru_bl, dTru_lst, dTru_int, dTru_non, wp_mt, wp_get, wp_isi, wp_fld, wp_sl, wp_oNone, wp_oSome, wp_tBool, wp_tNot, wp_tAnd2, wp_tOr2, wp_tAll, wp_gSlot, wp_gsNil, wp_gsCons, wp_gTup, wp_gSub, wp_iAny, wp_iSeq, wp_iTup, wp_iStr, wp_iRange1, wp_iRange2, wp_iZip, wS_fld, wp_make, seqQ, rtQ, turnQ, List.getElem?_cons_zero, List.getElem?_cons_succ, List.set_cons_zero, List.set_cons_succ, wipeD, if_true, if_false, Bool.false_eq_true, Bool.true_eq_false, reduceIte, w_add, w_iadd, w_iaddS, w_addS, w_addL, w_addT, w_sub, w_mul, w_mod, w_fdiv, w_pow, w_neg, w_lt, w_le, w_gt, w_ge, w_eqI, w_neI, w_eqT, w_neT, w_isN, w_isnotN, w_isB, w_isNB, w_len, w_lenT, w_int, w_intB, w_abs, w_min, w_max, w_tup, w_lst, w_new, w_list, w_listN, w_ix, w_ixT, w_ixD, w_inT1, w_notinT1, w_inT2, w_notinT2, w_inT3, w_notinT3, w_inT4, w_notinT4, w_inT5, w_notinT5, w_inT6, w_notinT6, w_inT7, w_notinT7, w_inT8, w_notinT8, w_sl1, at_0, at_1, at_2, at_3, at_4, at_5, hasTy_list, hasTy_str, isNonD, flatD, sEq_T, List.all_cons, List.all_nil, List.any_cons, List.any_nil, Bool.and_true, Bool.true_and, Bool.or_false, Bool.or_true, Bool.true_or, Bool.false_or, Bool.not_true, Bool.not_false, List.length_cons, List.length_nil, Nat.zero_add, Nat.reduceAdd, line_eq, true_and, and_true, String.reduceBEq, Int.reduceBEq, decide_true, decide_false, Int.reduceLT, Int.reduceLE, beq_self_eq_true, Nat.reduceLeDiff, wS_raise, wp_xinit, wp_sets0, wp_sets1, wp_fs, wp_xf, wp_xis, hdQ, setO, List.map_cons, List.map_nil, tabF_cons, tabF_nil, lview, w_inU1, w_inU2, w_inU3, w_inU4, w_notinU1, w_notinU2, w_notinU3, w_notinU4, wp_lcN, and_self, or_true, true_or, or_false, false_or, not_true_eq_false, not_false_eq_true, ne_eq, reduceCtorEq, List.cons.injEq, Bool.and_false, Bool.false_and, Bool.and_self, Bool.or_self, List.mem_cons, List.not_mem_nil, isSub, ty_tup, ty_lst, ty_int, ty_bl, ty_str, ty_non, nb, Bool.and_eq_true, Bool.or_eq_true, decide_eq_true_eq, beq_iff_eq, Int.cast_ofNat_Int, List.lookup_cons, List.lookup_nil, str_beq, insOf, not_true_eq_false, gok0]
      refine ⟨hasTy_ref at_end, ?_⟩
      refine wp_mapP (enc := pairD) (f := pairD) (gd := none) trivial (fun p hp Q2 h => go Q2 p [] h) ?_
      exact fin _
    · unfold ri_b
      rw [mt] at go fin ⊢
      try simp only [wp_rep, wp_meth, w_lenSo, w_tupT, w_tupL, List.length_map, wp_ok, wp_bad, wp_bind, wS_ok, wS_bad, wS_cons, wS_nil, wS_pass, wS_break, wS_cont, wS_never, wS_set, wS_expr, wS_ret, wS_retN, wS_if, wS_asg, wS_aug, wS_for, wp_lc, wp_m1, wp_m2, wp_mN, wp_aNil, wp_aCons, wp_mC, wp_var, wp_if2, wp_and2, wp_or2, wp_not, wp_chain2, isBl_bl, andK_p, orK_p, andV_p, orV_p, iteK_p, andK_t, andK_f, orK_t, orK_f, andV_t, andV_f, orV_t, orV_f, iteK_t, iteK_f, wp_tTru2, dTru_bl, dTru_lst, dTru_int, dTru_non, wp_mt, wp_get, wp_isi, wp_fld, wp_sl, wp_oNone, wp_oSome, wp_tBool, wp_tNot, wp_tAnd2, wp_tOr2, wp_tAll, wp_gSlot, wp_gsNil, wp_gsCons, wp_gTup, wp_gSub, wp_iAny, wp_iSeq, wp_iTup, wp_iStr, wp_iRange1, wp_iRange2, wp_iZip, wS_fld, wp_make, seqQ, rtQ, turnQ, List.getElem?_cons_zero, List.getElem?_cons_succ, List.set_cons_zero, List.set_cons_succ, wipeD, if_true, if_false, Bool.false_eq_true, Bool.true_eq_false, reduceIte, w_add, w_iadd, w_iaddS, w_addS, w_addL, w_addT, w_sub, w_mul, w_mod, w_fdiv, w_pow, w_neg, w_lt, w_le, w_gt, w_ge, w_eqI, w_neI, w_eqT, w_neT, w_isN, w_isnotN, w_isB, w_isNB, w_len, w_lenT, w_int, w_intB, w_abs, w_min, w_max, w_tup, w_lst, w_new, w_list, w_listN, w_ix, w_ixT, w_ixD, w_inT1, w_notinT1, w_inT2, w_notinT2, w_inT3, w_notinT3, w_inT4, w_notinT4, w_inT5, w_notinT5, w_inT6, w_notinT6, w_inT7, w_notinT7, w_inT8, w_notinT8, w_sl1, at_0, at_1, at_2, at_3, at_4, at_5, hasTy_list, hasTy_str, isNonD, flatD, sEq_T, List.all_cons, List.all_nil, List.any_cons, List.any_nil, Bool.and_true, Bool.true_and, Bool.or_false, Bool.or_true, Bool.true_or, Bool.false_or, Bool.not_true, Bool.not_false, List.length_cons, List.length_nil, Nat.zero_add, Nat.reduceAdd, line_eq, true_and, and_true, String.reduceBEq, Int.reduceBEq, decide_true, decide_false, Int.reduceLT, Int.reduceLE, beq_self_eq_true, Nat.reduceLeDiff, wS_raise, wp_xinit, wp_sets0, wp_sets1, wp_fs, wp_xf, wp_xis, hdQ, setO, List.map_cons, List.map_nil, tabF_cons, tabF_nil, lview, w_inU1, w_inU2, w_inU3, w_inU4, w_notinU1, w_notinU2, w_notinU3, w_notinU4, wp_lcN, and_self, or_true, true_or, or_false, false_or, not_true_eq_false, not_false_eq_true, ne_eq, reduceCtorEq, List.cons.injEq, Bool.and_false, Bool.false_and, Bool.and_self, Bool.or_self, List.mem_cons, List.not_mem_nil, isSub, ty_tup, ty_lst, ty_int, ty_bl, ty_str, ty_non, nb, Bool.and_eq_true, Bool.or_eq_true, decide_eq_true_eq, beq_iff_eq, Int.cast_ofNat_Int, List.lookup_cons, List.lookup_nil, str_beq, insOf, not_true_eq_false, gok0]
      refine ⟨hasTy_ref at_end, ?_⟩
      refine wp_mapP (enc := pairD) (f := pairD) (gd := none) trivial (fun p hp Q2 h => go Q2 p [] h) ?_
      exact fin _
    · unfold ri_b
      try simp only [wp_rep, wp_meth, w_lenSo, w_tupT, w_tupL, List.length_map, wp_ok, wp_bad, wp_bind, wS_ok, wS_bad, wS_cons, wS_nil, wS_pass, wS_break, wS_cont, wS_never, wS_set, wS_expr, wS_ret, wS_retN, wS_if, wS_asg, wS_aug, wS_for, wp_lc, wp_m1, wp_m2, wp_mN, wp_aNil, wp_aCons, wp_mC, wp_var, wp_if2, wp_and2, wp_or2, wp_not, wp_chain2, isBl_bl, andK_p, orK_p, andV_p, orV_p, iteK_p, andK_t, andK_f, orK_t, orK_f, andV_t, andV_f, orV_t, orV_f, iteK_t, iteK_f, wp_tTru2, dTru_bl, dTru_lst, dTru_int, dTru_non, wp_mt, wp_get, wp_isi, wp_fld, wp_sl, wp_oNone, wp_oSome, wp_tBool, wp_tNot, wp_tAnd2, wp_tOr2, wp_tAll, wp_gSlot, wp_gsNil, wp_gsCons, wp_gTup, wp_gSub, wp_iAny, wp_iSeq, wp_iTup, wp_iStr, wp_iRange1, wp_iRange2, wp_iZip, wS_fld, wp_make, seqQ, rtQ, turnQ, List.getElem?_cons_zero, List.getElem?_cons_succ, List.set_cons_zero, List.set_cons_succ, wipeD, if_true, if_false, Bool.false_eq_true, Bool.true_eq_false, reduceIte, w_add, w_iadd, w_iaddS, w_addS, w_addL, w_addT, w_sub, w_mul, w_mod, w_fdiv, w_pow, w_neg, w_lt, w_le, w_gt, w_ge, w_eqI, w_neI, w_eqT, w_neT, w_isN, w_isnotN, w_isB, w_isNB, w_len, w_lenT, w_int, w_intB, w_abs, w_min, w_max, w_tup, w_lst, w_new, w_list, w_listN, w_ix, w_ixT, w_ixD, w_inT1, w_notinT1, w_inT2, w_notinT2, w_inT3, w_notinT3, w_inT4, w_notinT4, w_inT5, w_notinT5, w_inT6, w_notinT6, w_inT7, w_notinT7, w_inT8, w_notinT8, w_sl1, at_0, at_1, at_2, at_3, at_4, at_5, hasTy_list, hasTy_str, isNonD, flatD, sEq_T, List.all_cons, List.all_nil, List.any_cons, List.any_nil, Bool.and_true, Bool.true_and, Bool.or_false, Bool.or_true, Bool.true_or, Bool.false_or, Bool.not_true, Bool.not_false, List.length_cons, List.length_nil, Nat.zero_add, Nat.reduceAdd, line_eq, true_and, and_true, String.reduceBEq, Int.reduceBEq, decide_true, decide_false, Int.reduceLT, Int.reduceLE, beq_self_eq_true, Nat.reduceLeDiff, wS_raise, wp_xinit, wp_sets0, wp_sets1, wp_fs, wp_xf, wp_xis, hdQ, setO, List.map_cons, List.map_nil, tabF_cons, tabF_nil, lview, w_inU1, w_inU2, w_inU3, w_inU4, w_notinU1, w_notinU2, w_notinU3, w_notinU4, wp_lcN, and_self, or_true, true_or, or_false, false_or, not_true_eq_false, not_false_eq_true, ne_eq, reduceCtorEq, List.cons.injEq, Bool.and_false, Bool.false_and, Bool.and_self, Bool.or_self, List.mem_cons, List.not_mem_nil, isSub, ty_tup, ty_lst, ty_int, ty_bl, ty_str, ty_non, nb, Bool.and_eq_true, Bool.or_eq_true, decide_eq_true_eq, beq_iff_eq, Int.cast_ofNat_Int, List.lookup_cons, List.lookup_nil, str_beq, insOf, not_true_eq_false, gok0]
      refine ⟨hasTy_ref at_end, ?_⟩
      simp only [hq]
      refine wp_mapP (enc := pairD) (f := pairD) (gd := some q) hq (fun p hp Q2 h => go Q2 p [] h) ?_
      rw [List.length_map]
      exact fin _
def rowF (p : Prt) : List (Str × D) := [("mode", .str (Str.ofString p.mode)), ("sharing", .str (Str.ofString p.sh)), ("lease", .str (Str.ofString p.le)), ("grip", .str (Str.ofString p.gr)), ("rule", .tup (p.rule.map markT))]
def rowD (p : Prt) : D := .ins "Row" (rowF p)
def xD (w : String) : D := .ins "InvalidRow" [("what", .str (Str.ofString w))]
theorem x_wp {w : String} {Q : List (Str × D) → S → Prop} {E : D → S → Prop} (hw : w.length ≤ 1000) (k : Q [("what", .str (Str.ofString w))] s) : wp (x_InvalidRow [.str (Str.ofString w)] s) Q E := by
  unfold x_InvalidRow
  try simp only [wp_rep, wp_meth, w_lenSo, w_tupT, w_tupL, List.length_map, wp_ok, wp_bad, wp_bind, wS_ok, wS_bad, wS_cons, wS_nil, wS_pass, wS_break, wS_cont, wS_never, wS_set, wS_expr, wS_ret, wS_retN, wS_if, wS_asg, wS_aug, wS_for, wp_lc, wp_m1, wp_m2, wp_mN, wp_aNil, wp_aCons, wp_mC, wp_var, wp_if2, wp_and2, wp_or2, wp_not, wp_chain2, isBl_bl, andK_p, orK_p, andV_p, orV_p, iteK_p, andK_t, andK_f, orK_t, orK_f, andV_t, andV_f, orV_t, orV_f, iteK_t, iteK_f, wp_tTru2, dTru_bl, dTru_lst, dTru_int, dTru_non, wp_mt, wp_get, wp_isi, wp_fld, wp_sl, wp_oNone, wp_oSome, wp_tBool, wp_tNot, wp_tAnd2, wp_tOr2, wp_tAll, wp_gSlot, wp_gsNil, wp_gsCons, wp_gTup, wp_gSub, wp_iAny, wp_iSeq, wp_iTup, wp_iStr, wp_iRange1, wp_iRange2, wp_iZip, wS_fld, wp_make, seqQ, rtQ, turnQ, List.getElem?_cons_zero, List.getElem?_cons_succ, List.set_cons_zero, List.set_cons_succ, wipeD, if_true, if_false, Bool.false_eq_true, Bool.true_eq_false, reduceIte, w_add, w_iadd, w_iaddS, w_addS, w_addL, w_addT, w_sub, w_mul, w_mod, w_fdiv, w_pow, w_neg, w_lt, w_le, w_gt, w_ge, w_eqI, w_neI, w_eqT, w_neT, w_isN, w_isnotN, w_isB, w_isNB, w_len, w_lenT, w_int, w_intB, w_abs, w_min, w_max, w_tup, w_lst, w_new, w_list, w_listN, w_ix, w_ixT, w_ixD, w_inT1, w_notinT1, w_inT2, w_notinT2, w_inT3, w_notinT3, w_inT4, w_notinT4, w_inT5, w_notinT5, w_inT6, w_notinT6, w_inT7, w_notinT7, w_inT8, w_notinT8, w_sl1, at_0, at_1, at_2, at_3, at_4, at_5, hasTy_list, hasTy_str, isNonD, flatD, sEq_T, List.all_cons, List.all_nil, List.any_cons, List.any_nil, Bool.and_true, Bool.true_and, Bool.or_false, Bool.or_true, Bool.true_or, Bool.false_or, Bool.not_true, Bool.not_false, List.length_cons, List.length_nil, Nat.zero_add, Nat.reduceAdd, line_eq, true_and, and_true, String.reduceBEq, Int.reduceBEq, decide_true, decide_false, Int.reduceLT, Int.reduceLE, beq_self_eq_true, Nat.reduceLeDiff, wS_raise, wp_xinit, wp_sets0, wp_sets1, wp_fs, wp_xf, wp_xis, hdQ, setO, List.map_cons, List.map_nil, tabF_cons, tabF_nil, lview, w_inU1, w_inU2, w_inU3, w_inU4, w_notinU1, w_notinU2, w_notinU3, w_notinU4, wp_lcN, and_self, or_true, true_or, or_false, false_or, not_true_eq_false, not_false_eq_true, ne_eq, reduceCtorEq, List.cons.injEq, Bool.and_false, Bool.false_and, Bool.and_self, Bool.or_self, List.mem_cons, List.not_mem_nil, isSub, ty_tup, ty_lst, ty_int, ty_bl, ty_str, ty_non, nb, Bool.and_eq_true, Bool.or_eq_true, decide_eq_true_eq, beq_iff_eq, Int.cast_ofNat_Int, List.lookup_cons, List.lookup_nil, str_beq, insOf, not_true_eq_false, gok0]
  rw [ofStr_len, ofStr_len]
  exact ⟨by have : "invalid row: ".length = 13 := rfl; omega, k⟩
theorem ne_stillT {r : List Mark} {n : Nat} (h : s[n]? = some (.lst (r.map markT))) : wp (dNe (.ref n) (.lst [.tup [.tup [.int 0, .int 0], .tup [.int 0, .int 0], .tup [.int 0, .int 0], .tup [.int 0, .int 0], .tup [.int 0, .int 0], .tup [.int 0, .int 0]]]) s) Q E = Q (.bl (!decide (r = [still]))) s := by
  rw [ne_refL h]
  exact w_neE enc_ruleT (by decide) (x := r) (y := [still])
theorem init_wp {p : Prt} {d : D} {s0 : S} (hr : RuleV (s0 ++ [.ins "Row" []]) d p.rule) (hz : p.rule.length ≤ 900 ∧ ∀ m ∈ p.rule, m.length ≤ 1000) (k0 : wrong p = "" → Q .non (s0 ++ [.ins "Row" (rowF p), .lst (p.rule.map markT)]))
    (k1 : ∀ w, wrong p = w → w ≠ "" → ∀ t, E (xD w) (s0 ++ t)) : wp (f_Row_init [.ref s0.length, .str (Str.ofString p.mode), .str (Str.ofString p.sh), .str (Str.ofString p.le), .str (Str.ofString p.gr), d] (s0 ++ [.ins "Row" []])) Q E := by
  refine (wp_fn (n := 6) (tot := 10) (m := m_Row_init) rfl).mpr ?_
  show wS (m_Row_init [some (.ref s0.length), some (.str (Str.ofString p.mode)), some (.str (Str.ofString p.sh)), some (.str (Str.ofString p.le)), some (.str (Str.ofString p.gr)), some d, none, none, none, none] _) _ _
  unfold m_Row_init c_MODES d_MODES c_SHARINGS d_SHARINGS c_LEASES d_LEASES c_GRIPS d_GRIPS c_STILL d_STILL
  try simp only [wp_rep, wp_meth, w_lenSo, w_tupT, w_tupL, List.length_map, wp_ok, wp_bad, wp_bind, wS_ok, wS_bad, wS_cons, wS_nil, wS_pass, wS_break, wS_cont, wS_never, wS_set, wS_expr, wS_ret, wS_retN, wS_if, wS_asg, wS_aug, wS_for, wp_lc, wp_m1, wp_m2, wp_mN, wp_aNil, wp_aCons, wp_mC, wp_var, wp_if2, wp_and2, wp_or2, wp_not, wp_chain2, isBl_bl, andK_p, orK_p, andV_p, orV_p, iteK_p, andK_t, andK_f, orK_t, orK_f, andV_t, andV_f, orV_t, orV_f, iteK_t, iteK_f, wp_tTru2, dTru_bl, dTru_lst, dTru_int, dTru_non, wp_mt, wp_get, wp_isi, wp_fld, wp_sl, wp_oNone, wp_oSome, wp_tBool, wp_tNot, wp_tAnd2, wp_tOr2, wp_tAll, wp_gSlot, wp_gsNil, wp_gsCons, wp_gTup, wp_gSub, wp_iAny, wp_iSeq, wp_iTup, wp_iStr, wp_iRange1, wp_iRange2, wp_iZip, wS_fld, wp_make, seqQ, rtQ, turnQ, List.getElem?_cons_zero, List.getElem?_cons_succ, List.set_cons_zero, List.set_cons_succ, wipeD, if_true, if_false, Bool.false_eq_true, Bool.true_eq_false, reduceIte, w_add, w_iadd, w_iaddS, w_addS, w_addL, w_addT, w_sub, w_mul, w_mod, w_fdiv, w_pow, w_neg, w_lt, w_le, w_gt, w_ge, w_eqI, w_neI, w_eqT, w_neT, w_isN, w_isnotN, w_isB, w_isNB, w_len, w_lenT, w_int, w_intB, w_abs, w_min, w_max, w_tup, w_lst, w_new, w_list, w_listN, w_ix, w_ixT, w_ixD, w_inT1, w_notinT1, w_inT2, w_notinT2, w_inT3, w_notinT3, w_inT4, w_notinT4, w_inT5, w_notinT5, w_inT6, w_notinT6, w_inT7, w_notinT7, w_inT8, w_notinT8, w_sl1, at_0, at_1, at_2, at_3, at_4, at_5, hasTy_list, hasTy_str, isNonD, flatD, sEq_T, List.all_cons, List.all_nil, List.any_cons, List.any_nil, Bool.and_true, Bool.true_and, Bool.or_false, Bool.or_true, Bool.true_or, Bool.false_or, Bool.not_true, Bool.not_false, List.length_cons, List.length_nil, Nat.zero_add, Nat.reduceAdd, line_eq, true_and, and_true, String.reduceBEq, Int.reduceBEq, decide_true, decide_false, Int.reduceLT, Int.reduceLE, beq_self_eq_true, Nat.reduceLeDiff, wS_raise, wp_xinit, wp_sets0, wp_sets1, wp_fs, wp_xf, wp_xis, hdQ, setO, List.map_cons, List.map_nil, tabF_cons, tabF_nil, lview, w_inU1, w_inU2, w_inU3, w_inU4, w_notinU1, w_notinU2, w_notinU3, w_notinU4, wp_lcN, and_self, or_true, true_or, or_false, false_or, not_true_eq_false, not_false_eq_true, ne_eq, reduceCtorEq, List.cons.injEq, Bool.and_false, Bool.false_and, Bool.and_self, Bool.or_self, List.mem_cons, List.not_mem_nil, isSub, ty_tup, ty_lst, ty_int, ty_bl, ty_str, ty_non, nb, Bool.and_eq_true, Bool.or_eq_true, decide_eq_true_eq, beq_iff_eq, Int.cast_ofNat_Int, List.lookup_cons, List.lookup_nil, str_beq, insOf, not_true_eq_false, gok0]
  iterate 4
    split
    · refine x_wp (by decide) ⟨by simp, k1 _ ?_ (by decide) _⟩
      unfold wrong
      grind
  obtain ⟨items, hl, hm, hd⟩ := hr
  have e0 : ∀ l : List D, (s0 ++ [O.ins "Row" []] ++ [.lst l])[(s0 ++ [O.ins "Row" []]).length]? = some (.lst l) := fun l => at_end
  have h9 := hz.1
  rcases hd with rfl | ⟨q, rfl, hq⟩
  rotate_left
  · have hq' : ∀ l : List D, (s0 ++ [O.ins "Row" []] ++ [.lst l])[q]? = some (.lst items) := fun l => by
      rw [List.getElem?_append_left (List.getElem?_eq_some_iff.mp hq).1]; exact hq
    simp only [hq']
    refine ri_loop (gd := some q) (fun l => hq' l) items p.rule [] none hl (by simp; omega) hm hz.2 fun v8 => ?_
    rw [List.nil_append]
    try simp only [wp_rep, wp_meth, w_lenSo, w_tupT, w_tupL, List.length_map, wp_ok, wp_bad, wp_bind, wS_ok, wS_bad, wS_cons, wS_nil, wS_pass, wS_break, wS_cont, wS_never, wS_set, wS_expr, wS_ret, wS_retN, wS_if, wS_asg, wS_aug, wS_for, wp_lc, wp_m1, wp_m2, wp_mN, wp_aNil, wp_aCons, wp_mC, wp_var, wp_if2, wp_and2, wp_or2, wp_not, wp_chain2, isBl_bl, andK_p, orK_p, andV_p, orV_p, iteK_p, andK_t, andK_f, orK_t, orK_f, andV_t, andV_f, orV_t, orV_f, iteK_t, iteK_f, wp_tTru2, dTru_bl, dTru_lst, dTru_int, dTru_non, wp_mt, wp_get, wp_isi, wp_fld, wp_sl, wp_oNone, wp_oSome, wp_tBool, wp_tNot, wp_tAnd2, wp_tOr2, wp_tAll, wp_gSlot, wp_gsNil, wp_gsCons, wp_gTup, wp_gSub, wp_iAny, wp_iSeq, wp_iTup, wp_iStr, wp_iRange1, wp_iRange2, wp_iZip, wS_fld, wp_make, seqQ, rtQ, turnQ, List.getElem?_cons_zero, List.getElem?_cons_succ, List.set_cons_zero, List.set_cons_succ, wipeD, if_true, if_false, Bool.false_eq_true, Bool.true_eq_false, reduceIte, w_add, w_iadd, w_iaddS, w_addS, w_addL, w_addT, w_sub, w_mul, w_mod, w_fdiv, w_pow, w_neg, w_lt, w_le, w_gt, w_ge, w_eqI, w_neI, w_eqT, w_neT, w_isN, w_isnotN, w_isB, w_isNB, w_len, w_lenT, w_int, w_intB, w_abs, w_min, w_max, w_tup, w_lst, w_new, w_list, w_listN, w_ix, w_ixT, w_ixD, w_inT1, w_notinT1, w_inT2, w_notinT2, w_inT3, w_notinT3, w_inT4, w_notinT4, w_inT5, w_notinT5, w_inT6, w_notinT6, w_inT7, w_notinT7, w_inT8, w_notinT8, w_sl1, at_0, at_1, at_2, at_3, at_4, at_5, hasTy_list, hasTy_str, isNonD, flatD, sEq_T, List.all_cons, List.all_nil, List.any_cons, List.any_nil, Bool.and_true, Bool.true_and, Bool.or_false, Bool.or_true, Bool.true_or, Bool.false_or, Bool.not_true, Bool.not_false, List.length_cons, List.length_nil, Nat.zero_add, Nat.reduceAdd, line_eq, true_and, and_true, String.reduceBEq, Int.reduceBEq, decide_true, decide_false, Int.reduceLT, Int.reduceLE, beq_self_eq_true, Nat.reduceLeDiff, wS_raise, wp_xinit, wp_sets0, wp_sets1, wp_fs, wp_xf, wp_xis, hdQ, setO, List.map_cons, List.map_nil, tabF_cons, tabF_nil, lview, w_inU1, w_inU2, w_inU3, w_inU4, w_notinU1, w_notinU2, w_notinU3, w_notinU4, wp_lcN, and_self, or_true, true_or, or_false, false_or, not_true_eq_false, not_false_eq_true, ne_eq, reduceCtorEq, List.cons.injEq, Bool.and_false, Bool.false_and, Bool.and_self, Bool.or_self, List.mem_cons, List.not_mem_nil, isSub, ty_tup, ty_lst, ty_int, ty_bl, ty_str, ty_non, nb, Bool.and_eq_true, Bool.or_eq_true, decide_eq_true_eq, beq_iff_eq, Int.cast_ofNat_Int, List.lookup_cons, List.lookup_nil, str_beq, insOf, not_true_eq_false, gok0]
    refine is_rule_wp (e0 _) ?_
    simp only [ne_stillT (e0 _)]
    try simp only [wp_rep, wp_meth, w_lenSo, w_tupT, w_tupL, List.length_map, wp_ok, wp_bad, wp_bind, wS_ok, wS_bad, wS_cons, wS_nil, wS_pass, wS_break, wS_cont, wS_never, wS_set, wS_expr, wS_ret, wS_retN, wS_if, wS_asg, wS_aug, wS_for, wp_lc, wp_m1, wp_m2, wp_mN, wp_aNil, wp_aCons, wp_mC, wp_var, wp_if2, wp_and2, wp_or2, wp_not, wp_chain2, isBl_bl, andK_p, orK_p, andV_p, orV_p, iteK_p, andK_t, andK_f, orK_t, orK_f, andV_t, andV_f, orV_t, orV_f, iteK_t, iteK_f, wp_tTru2, dTru_bl, dTru_lst, dTru_int, dTru_non, wp_mt, wp_get, wp_isi, wp_fld, wp_sl, wp_oNone, wp_oSome, wp_tBool, wp_tNot, wp_tAnd2, wp_tOr2, wp_tAll, wp_gSlot, wp_gsNil, wp_gsCons, wp_gTup, wp_gSub, wp_iAny, wp_iSeq, wp_iTup, wp_iStr, wp_iRange1, wp_iRange2, wp_iZip, wS_fld, wp_make, seqQ, rtQ, turnQ, List.getElem?_cons_zero, List.getElem?_cons_succ, List.set_cons_zero, List.set_cons_succ, wipeD, if_true, if_false, Bool.false_eq_true, Bool.true_eq_false, reduceIte, w_add, w_iadd, w_iaddS, w_addS, w_addL, w_addT, w_sub, w_mul, w_mod, w_fdiv, w_pow, w_neg, w_lt, w_le, w_gt, w_ge, w_eqI, w_neI, w_eqT, w_neT, w_isN, w_isnotN, w_isB, w_isNB, w_len, w_lenT, w_int, w_intB, w_abs, w_min, w_max, w_tup, w_lst, w_new, w_list, w_listN, w_ix, w_ixT, w_ixD, w_inT1, w_notinT1, w_inT2, w_notinT2, w_inT3, w_notinT3, w_inT4, w_notinT4, w_inT5, w_notinT5, w_inT6, w_notinT6, w_inT7, w_notinT7, w_inT8, w_notinT8, w_sl1, at_0, at_1, at_2, at_3, at_4, at_5, hasTy_list, hasTy_str, isNonD, flatD, sEq_T, List.all_cons, List.all_nil, List.any_cons, List.any_nil, Bool.and_true, Bool.true_and, Bool.or_false, Bool.or_true, Bool.true_or, Bool.false_or, Bool.not_true, Bool.not_false, List.length_cons, List.length_nil, Nat.zero_add, Nat.reduceAdd, line_eq, true_and, and_true, String.reduceBEq, Int.reduceBEq, decide_true, decide_false, Int.reduceLT, Int.reduceLE, beq_self_eq_true, Nat.reduceLeDiff, wS_raise, wp_xinit, wp_sets0, wp_sets1, wp_fs, wp_xf, wp_xis, hdQ, setO, List.map_cons, List.map_nil, tabF_cons, tabF_nil, lview, w_inU1, w_inU2, w_inU3, w_inU4, w_notinU1, w_notinU2, w_notinU3, w_notinU4, wp_lcN, and_self, or_true, true_or, or_false, false_or, not_true_eq_false, not_false_eq_true, ne_eq, reduceCtorEq, List.cons.injEq, Bool.and_false, Bool.false_and, Bool.and_self, Bool.or_self, List.mem_cons, List.not_mem_nil, isSub, ty_tup, ty_lst, ty_int, ty_bl, ty_str, ty_non, nb, Bool.and_eq_true, Bool.or_eq_true, decide_eq_true_eq, beq_iff_eq, Int.cast_ofNat_Int, List.lookup_cons, List.lookup_nil, str_beq, insOf, not_true_eq_false, gok0]
    split
    · refine x_wp (by decide) ⟨by simp, ?_⟩
      rw [List.append_assoc]
      refine k1 _ ?_ (by decide) _
      unfold wrong
      grind
    · try simp only [List.append_assoc, List.cons_append, List.nil_append, List.length_append, List.length_cons, List.length_nil, Nat.zero_add, Nat.add_zero, Nat.add_assoc, Nat.reduceAdd, e_at0, e_at1, e_at2, e_at3, e_set0, e_set1, e_set2, e_set3, putFD, ofS_inj, String.reduceEq, if_true, if_false, reduceIte, true_and, and_true, and_self, Nat.reduceLT, List.map_nil]
      rw [w_tupR e_at1]
      try simp only [List.append_assoc, List.cons_append, List.nil_append, List.length_append, List.length_cons, List.length_nil, Nat.zero_add, Nat.add_zero, Nat.add_assoc, Nat.reduceAdd, e_at0, e_at1, e_at2, e_at3, e_set0, e_set1, e_set2, e_set3, putFD, ofS_inj, String.reduceEq, if_true, if_false, reduceIte, true_and, and_true, and_self, Nat.reduceLT, List.map_nil]
      refine k0 ?_
      unfold wrong
      grind
  · refine ri_loop (gd := none) (fun l => trivial) items p.rule [] none hl (by simp; omega) hm hz.2 fun v8 => ?_
    rw [List.nil_append]
    try simp only [wp_rep, wp_meth, w_lenSo, w_tupT, w_tupL, List.length_map, wp_ok, wp_bad, wp_bind, wS_ok, wS_bad, wS_cons, wS_nil, wS_pass, wS_break, wS_cont, wS_never, wS_set, wS_expr, wS_ret, wS_retN, wS_if, wS_asg, wS_aug, wS_for, wp_lc, wp_m1, wp_m2, wp_mN, wp_aNil, wp_aCons, wp_mC, wp_var, wp_if2, wp_and2, wp_or2, wp_not, wp_chain2, isBl_bl, andK_p, orK_p, andV_p, orV_p, iteK_p, andK_t, andK_f, orK_t, orK_f, andV_t, andV_f, orV_t, orV_f, iteK_t, iteK_f, wp_tTru2, dTru_bl, dTru_lst, dTru_int, dTru_non, wp_mt, wp_get, wp_isi, wp_fld, wp_sl, wp_oNone, wp_oSome, wp_tBool, wp_tNot, wp_tAnd2, wp_tOr2, wp_tAll, wp_gSlot, wp_gsNil, wp_gsCons, wp_gTup, wp_gSub, wp_iAny, wp_iSeq, wp_iTup, wp_iStr, wp_iRange1, wp_iRange2, wp_iZip, wS_fld, wp_make, seqQ, rtQ, turnQ, List.getElem?_cons_zero, List.getElem?_cons_succ, List.set_cons_zero, List.set_cons_succ, wipeD, if_true, if_false, Bool.false_eq_true, Bool.true_eq_false, reduceIte, w_add, w_iadd, w_iaddS, w_addS, w_addL, w_addT, w_sub, w_mul, w_mod, w_fdiv, w_pow, w_neg, w_lt, w_le, w_gt, w_ge, w_eqI, w_neI, w_eqT, w_neT, w_isN, w_isnotN, w_isB, w_isNB, w_len, w_lenT, w_int, w_intB, w_abs, w_min, w_max, w_tup, w_lst, w_new, w_list, w_listN, w_ix, w_ixT, w_ixD, w_inT1, w_notinT1, w_inT2, w_notinT2, w_inT3, w_notinT3, w_inT4, w_notinT4, w_inT5, w_notinT5, w_inT6, w_notinT6, w_inT7, w_notinT7, w_inT8, w_notinT8, w_sl1, at_0, at_1, at_2, at_3, at_4, at_5, hasTy_list, hasTy_str, isNonD, flatD, sEq_T, List.all_cons, List.all_nil, List.any_cons, List.any_nil, Bool.and_true, Bool.true_and, Bool.or_false, Bool.or_true, Bool.true_or, Bool.false_or, Bool.not_true, Bool.not_false, List.length_cons, List.length_nil, Nat.zero_add, Nat.reduceAdd, line_eq, true_and, and_true, String.reduceBEq, Int.reduceBEq, decide_true, decide_false, Int.reduceLT, Int.reduceLE, beq_self_eq_true, Nat.reduceLeDiff, wS_raise, wp_xinit, wp_sets0, wp_sets1, wp_fs, wp_xf, wp_xis, hdQ, setO, List.map_cons, List.map_nil, tabF_cons, tabF_nil, lview, w_inU1, w_inU2, w_inU3, w_inU4, w_notinU1, w_notinU2, w_notinU3, w_notinU4, wp_lcN, and_self, or_true, true_or, or_false, false_or, not_true_eq_false, not_false_eq_true, ne_eq, reduceCtorEq, List.cons.injEq, Bool.and_false, Bool.false_and, Bool.and_self, Bool.or_self, List.mem_cons, List.not_mem_nil, isSub, ty_tup, ty_lst, ty_int, ty_bl, ty_str, ty_non, nb, Bool.and_eq_true, Bool.or_eq_true, decide_eq_true_eq, beq_iff_eq, Int.cast_ofNat_Int, List.lookup_cons, List.lookup_nil, str_beq, insOf, not_true_eq_false, gok0]
    refine is_rule_wp (e0 _) ?_
    simp only [ne_stillT (e0 _)]
    try simp only [wp_rep, wp_meth, w_lenSo, w_tupT, w_tupL, List.length_map, wp_ok, wp_bad, wp_bind, wS_ok, wS_bad, wS_cons, wS_nil, wS_pass, wS_break, wS_cont, wS_never, wS_set, wS_expr, wS_ret, wS_retN, wS_if, wS_asg, wS_aug, wS_for, wp_lc, wp_m1, wp_m2, wp_mN, wp_aNil, wp_aCons, wp_mC, wp_var, wp_if2, wp_and2, wp_or2, wp_not, wp_chain2, isBl_bl, andK_p, orK_p, andV_p, orV_p, iteK_p, andK_t, andK_f, orK_t, orK_f, andV_t, andV_f, orV_t, orV_f, iteK_t, iteK_f, wp_tTru2, dTru_bl, dTru_lst, dTru_int, dTru_non, wp_mt, wp_get, wp_isi, wp_fld, wp_sl, wp_oNone, wp_oSome, wp_tBool, wp_tNot, wp_tAnd2, wp_tOr2, wp_tAll, wp_gSlot, wp_gsNil, wp_gsCons, wp_gTup, wp_gSub, wp_iAny, wp_iSeq, wp_iTup, wp_iStr, wp_iRange1, wp_iRange2, wp_iZip, wS_fld, wp_make, seqQ, rtQ, turnQ, List.getElem?_cons_zero, List.getElem?_cons_succ, List.set_cons_zero, List.set_cons_succ, wipeD, if_true, if_false, Bool.false_eq_true, Bool.true_eq_false, reduceIte, w_add, w_iadd, w_iaddS, w_addS, w_addL, w_addT, w_sub, w_mul, w_mod, w_fdiv, w_pow, w_neg, w_lt, w_le, w_gt, w_ge, w_eqI, w_neI, w_eqT, w_neT, w_isN, w_isnotN, w_isB, w_isNB, w_len, w_lenT, w_int, w_intB, w_abs, w_min, w_max, w_tup, w_lst, w_new, w_list, w_listN, w_ix, w_ixT, w_ixD, w_inT1, w_notinT1, w_inT2, w_notinT2, w_inT3, w_notinT3, w_inT4, w_notinT4, w_inT5, w_notinT5, w_inT6, w_notinT6, w_inT7, w_notinT7, w_inT8, w_notinT8, w_sl1, at_0, at_1, at_2, at_3, at_4, at_5, hasTy_list, hasTy_str, isNonD, flatD, sEq_T, List.all_cons, List.all_nil, List.any_cons, List.any_nil, Bool.and_true, Bool.true_and, Bool.or_false, Bool.or_true, Bool.true_or, Bool.false_or, Bool.not_true, Bool.not_false, List.length_cons, List.length_nil, Nat.zero_add, Nat.reduceAdd, line_eq, true_and, and_true, String.reduceBEq, Int.reduceBEq, decide_true, decide_false, Int.reduceLT, Int.reduceLE, beq_self_eq_true, Nat.reduceLeDiff, wS_raise, wp_xinit, wp_sets0, wp_sets1, wp_fs, wp_xf, wp_xis, hdQ, setO, List.map_cons, List.map_nil, tabF_cons, tabF_nil, lview, w_inU1, w_inU2, w_inU3, w_inU4, w_notinU1, w_notinU2, w_notinU3, w_notinU4, wp_lcN, and_self, or_true, true_or, or_false, false_or, not_true_eq_false, not_false_eq_true, ne_eq, reduceCtorEq, List.cons.injEq, Bool.and_false, Bool.false_and, Bool.and_self, Bool.or_self, List.mem_cons, List.not_mem_nil, isSub, ty_tup, ty_lst, ty_int, ty_bl, ty_str, ty_non, nb, Bool.and_eq_true, Bool.or_eq_true, decide_eq_true_eq, beq_iff_eq, Int.cast_ofNat_Int, List.lookup_cons, List.lookup_nil, str_beq, insOf, not_true_eq_false, gok0]
    split
    · refine x_wp (by decide) ⟨by simp, ?_⟩
      rw [List.append_assoc]
      refine k1 _ ?_ (by decide) _
      unfold wrong
      grind
    · try simp only [List.append_assoc, List.cons_append, List.nil_append, List.length_append, List.length_cons, List.length_nil, Nat.zero_add, Nat.add_zero, Nat.add_assoc, Nat.reduceAdd, e_at0, e_at1, e_at2, e_at3, e_set0, e_set1, e_set2, e_set3, putFD, ofS_inj, String.reduceEq, if_true, if_false, reduceIte, true_and, and_true, and_self, Nat.reduceLT, List.map_nil]
      rw [w_tupR e_at1]
      try simp only [List.append_assoc, List.cons_append, List.nil_append, List.length_append, List.length_cons, List.length_nil, Nat.zero_add, Nat.add_zero, Nat.add_assoc, Nat.reduceAdd, e_at0, e_at1, e_at2, e_at3, e_set0, e_set1, e_set2, e_set3, putFD, ofS_inj, String.reduceEq, if_true, if_false, reduceIte, true_and, and_true, and_self, Nat.reduceLT, List.map_nil]
      refine k0 ?_
      unfold wrong
      grind
end
end
end K46
namespace K46
open PySem PySem.Spec PyProof.Rows L2 Pm
noncomputable section
section
variable {s : S} {Q : D → S → Prop} {E : D → S → Prop} {ρ : Rho}
theorem fin_mark : FinOk 3 markL := fin_lst (fin_pair fin_int fin_int)
theorem fin_markT : FinOk 3 markT := fin_tup (fin_pair fin_int fin_int)
theorem fin_ruleT : FinOk 4 (fun r : List Mark => D.tup (r.map markT)) := fin_tup fin_markT
theorem fin_rule : FinOk 4 (fun r : List Mark => D.lst (r.map markL)) := fin_lst fin_mark
theorem frz_s {s : S} {n k : Nat} {x : Str} : frzD s n (k + 1) (.str x) = some (.str x) := rfl
theorem fz_row {p : Prt} {t : S} (h : stOk s.length s = true) (k : Q (rowD p) s) : fzQ s.length Q (.ref s.length) (s ++ .ins "Row" (rowF p) :: t) := by
  refine ⟨rowD p, ?_, by rw [stOk_app]; exact h, by rw [take_app]; exact k⟩
  rw [frzD, if_neg (by omega), e_at0]
  have hr : ∀ S, frzD S s.length 19 (.tup (p.rule.map markT)) = some (.tup (p.rule.map markT)) := fun S => (fin_ruleT.up (by decide)).fz S _ p.rule
  simp only [rowF, allF, hr, frz_s, Option.map_some]
  rfl
theorem fz_x {w : String} {t : S} (h : stOk s.length s = true) (k : E (xD w) s) : fzQ s.length E (xD w) (s ++ t) :=
  ⟨xD w, rfl, by rw [stOk_app]; exact h, by rw [take_app]; exact k⟩
/-- Row(..) -/
theorem row_wp {p : Prt} {d : D} (hr : RuleV (s ++ [.ins "Row" []]) d p.rule) (hz : p.rule.length ≤ 900 ∧ ∀ m ∈ p.rule, m.length ≤ 1000) (h : stOk s.length s = true) (k0 : wrong p = "" → Q (rowD p) s) (k1 : wrong p ≠ "" → E (xD (wrong p)) s) :
    wp (f_Row_init [.ref s.length, .str (Str.ofString p.mode), .str (Str.ofString p.sh), .str (Str.ofString p.le), .str (Str.ofString p.gr), d] (s ++ [.ins "Row" []])) (fun d s2 => d = .non ∧ fzQ s.length Q (.ref s.length) s2) (fzQ s.length E) :=
  init_wp hr hz (fun e => ⟨rfl, fz_row h (k0 e)⟩) fun w e hw t => fz_x h (e ▸ k1 (e ▸ hw))
/-! ### the fields of a row -/
theorem whole_wp {i : Int} : wp (f_law_whole [.int i] s) Q E = Q (.bl true) s := by
  refine (wp_fn (n := 1) (tot := 1) (m := m_law_whole) rfl).trans ?_
  show wS (m_law_whole [some (.int i)] s) _ _ = _
  unfold m_law_whole
  try simp only [wp_rep, wp_meth, w_lenSo, w_tupT, w_tupL, List.length_map, wp_ok, wp_bad, wp_bind, wS_ok, wS_bad, wS_cons, wS_nil, wS_pass, wS_break, wS_cont, wS_never, wS_set, wS_expr, wS_ret, wS_retN, wS_if, wS_asg, wS_aug, wS_for, wp_lc, wp_m1, wp_m2, wp_mN, wp_aNil, wp_aCons, wp_mC, wp_var, wp_if2, wp_and2, wp_or2, wp_not, wp_chain2, isBl_bl, andK_p, orK_p, andV_p, orV_p, iteK_p, andK_t, andK_f, orK_t, orK_f, andV_t, andV_f, orV_t, orV_f, iteK_t, iteK_f, wp_tTru2, dTru_bl, dTru_lst, dTru_int, dTru_non, wp_mt, wp_get, wp_isi, wp_fld, wp_sl, wp_oNone, wp_oSome, wp_tBool, wp_tNot, wp_tAnd2, wp_tOr2, wp_tAll, wp_gSlot, wp_gsNil, wp_gsCons, wp_gTup, wp_gSub, wp_iAny, wp_iSeq, wp_iTup, wp_iStr, wp_iRange1, wp_iRange2, wp_iZip, wS_fld, wp_make, seqQ, rtQ, turnQ, List.getElem?_cons_zero, List.getElem?_cons_succ, List.set_cons_zero, List.set_cons_succ, wipeD, if_true, if_false, Bool.false_eq_true, Bool.true_eq_false, reduceIte, w_add, w_iadd, w_iaddS, w_addS, w_addL, w_addT, w_sub, w_mul, w_mod, w_fdiv, w_pow, w_neg, w_lt, w_le, w_gt, w_ge, w_eqI, w_neI, w_eqT, w_neT, w_isN, w_isnotN, w_isB, w_isNB, w_len, w_lenT, w_int, w_intB, w_abs, w_min, w_max, w_tup, w_lst, w_new, w_list, w_listN, w_ix, w_ixT, w_ixD, w_inT1, w_notinT1, w_inT2, w_notinT2, w_inT3, w_notinT3, w_inT4, w_notinT4, w_inT5, w_notinT5, w_inT6, w_notinT6, w_inT7, w_notinT7, w_inT8, w_notinT8, w_sl1, at_0, at_1, at_2, at_3, at_4, at_5, hasTy_list, hasTy_str, isNonD, flatD, sEq_T, List.all_cons, List.all_nil, List.any_cons, List.any_nil, Bool.and_true, Bool.true_and, Bool.or_false, Bool.or_true, Bool.true_or, Bool.false_or, Bool.not_true, Bool.not_false, List.length_cons, List.length_nil, Nat.zero_add, Nat.reduceAdd, line_eq, true_and, and_true, String.reduceBEq, Int.reduceBEq, decide_true, decide_false, Int.reduceLT, Int.reduceLE, beq_self_eq_true, Nat.reduceLeDiff, wS_raise, wp_xinit, wp_sets0, wp_sets1, wp_fs, wp_xf, wp_xis, hdQ, setO, List.map_cons, List.map_nil, tabF_cons, tabF_nil, lview, w_inU1, w_inU2, w_inU3, w_inU4, w_notinU1, w_notinU2, w_notinU3, w_notinU4, wp_lcN, and_self, or_true, true_or, or_false, false_or, not_true_eq_false, not_false_eq_true, ne_eq, reduceCtorEq, List.cons.injEq, Bool.and_false, Bool.false_and, Bool.and_self, Bool.or_self, List.mem_cons, List.not_mem_nil, isSub, ty_tup, ty_lst, ty_int, ty_bl, ty_str, ty_non, nb, Bool.and_eq_true, Bool.or_eq_true, decide_eq_true_eq, beq_iff_eq, Int.cast_ofNat_Int, List.lookup_cons, List.lookup_nil, str_beq, insOf, not_true_eq_false, gok0]
theorem ne_p {x y : Int} : wp (dNe (.tup [.int x, .int y]) (.tup [.int x, .int y]) s) Q E = Q (.bl false) s := (w_neE (enc_pair enc_int enc_int) (by decide) (x := (x, y)) (y := (x, y))).trans (by simp)
theorem same_wp {r : List Mark} (hz : r.length ≤ 900 ∧ ∀ m ∈ r, m.length = 6) (k : Q (.bl true) s) : wp (f_law_same_rule [.tup (r.map markT), .lst (r.map markL)] s) Q E := by
  refine (wp_fn (n := 2) (tot := 5) (m := m_law_same_rule) rfl).mpr ?_
  show wS (m_law_same_rule [some (.tup (r.map markT)), some (.lst (r.map markL)), none, none, none] _) _ _
  unfold m_law_same_rule
  try simp only [wp_rep, wp_meth, w_lenSo, w_tupT, w_tupL, List.length_map, wp_ok, wp_bad, wp_bind, wS_ok, wS_bad, wS_cons, wS_nil, wS_pass, wS_break, wS_cont, wS_never, wS_set, wS_expr, wS_ret, wS_retN, wS_if, wS_asg, wS_aug, wS_for, wp_lc, wp_m1, wp_m2, wp_mN, wp_aNil, wp_aCons, wp_mC, wp_var, wp_if2, wp_and2, wp_or2, wp_not, wp_chain2, isBl_bl, andK_p, orK_p, andV_p, orV_p, iteK_p, andK_t, andK_f, orK_t, orK_f, andV_t, andV_f, orV_t, orV_f, iteK_t, iteK_f, wp_tTru2, dTru_bl, dTru_lst, dTru_int, dTru_non, wp_mt, wp_get, wp_isi, wp_fld, wp_sl, wp_oNone, wp_oSome, wp_tBool, wp_tNot, wp_tAnd2, wp_tOr2, wp_tAll, wp_gSlot, wp_gsNil, wp_gsCons, wp_gTup, wp_gSub, wp_iAny, wp_iSeq, wp_iTup, wp_iStr, wp_iRange1, wp_iRange2, wp_iZip, wS_fld, wp_make, seqQ, rtQ, turnQ, List.getElem?_cons_zero, List.getElem?_cons_succ, List.set_cons_zero, List.set_cons_succ, wipeD, if_true, if_false, Bool.false_eq_true, Bool.true_eq_false, reduceIte, w_add, w_iadd, w_iaddS, w_addS, w_addL, w_addT, w_sub, w_mul, w_mod, w_fdiv, w_pow, w_neg, w_lt, w_le, w_gt, w_ge, w_eqI, w_neI, w_eqT, w_neT, w_isN, w_isnotN, w_isB, w_isNB, w_len, w_lenT, w_int, w_intB, w_abs, w_min, w_max, w_tup, w_lst, w_new, w_list, w_listN, w_ix, w_ixT, w_ixD, w_inT1, w_notinT1, w_inT2, w_notinT2, w_inT3, w_notinT3, w_inT4, w_notinT4, w_inT5, w_notinT5, w_inT6, w_notinT6, w_inT7, w_notinT7, w_inT8, w_notinT8, w_sl1, at_0, at_1, at_2, at_3, at_4, at_5, hasTy_list, hasTy_str, isNonD, flatD, sEq_T, List.all_cons, List.all_nil, List.any_cons, List.any_nil, Bool.and_true, Bool.true_and, Bool.or_false, Bool.or_true, Bool.true_or, Bool.false_or, Bool.not_true, Bool.not_false, List.length_cons, List.length_nil, Nat.zero_add, Nat.reduceAdd, line_eq, true_and, and_true, String.reduceBEq, Int.reduceBEq, decide_true, decide_false, Int.reduceLT, Int.reduceLE, beq_self_eq_true, Nat.reduceLeDiff, wS_raise, wp_xinit, wp_sets0, wp_sets1, wp_fs, wp_xf, wp_xis, hdQ, setO, List.map_cons, List.map_nil, tabF_cons, tabF_nil, lview, w_inU1, w_inU2, w_inU3, w_inU4, w_notinU1, w_notinU2, w_notinU3, w_notinU4, wp_lcN, and_self, or_true, true_or, or_false, false_or, not_true_eq_false, not_false_eq_true, ne_eq, reduceCtorEq, List.cons.injEq, Bool.and_false, Bool.false_and, Bool.and_self, Bool.or_self, List.mem_cons, List.not_mem_nil, isSub, ty_tup, ty_lst, ty_int, ty_bl, ty_str, ty_non, nb, Bool.and_eq_true, Bool.or_eq_true, decide_eq_true_eq, beq_iff_eq, Int.cast_ofNat_Int, List.lookup_cons, List.lookup_nil, str_beq, insOf, not_true_eq_false, gok0]
  refine ⟨by omega, ?_⟩
  refine wS_forR (gd := none) (R := fun ρ => ∃ a b c, ρ = [some (.tup (r.map markT)), some (.lst (r.map markL)), a, b, c]) trivial ?_ _ ⟨_, _, _, rfl⟩ fun ρ' hr => ?_
  · rintro i hi ρ Q' ⟨a, b, c, rfl⟩ h1
    have hi' : i < r.length := by omega
    have h6 := hz.2 r[i] (List.getElem_mem hi')
    have e1 : atI (r.map markT) (0 + (i : Nat)) = some (markT r[i]) := by rw [atI_nat (n := i) (by omega), List.getElem?_map, List.getElem?_eq_getElem hi']; rfl
    have e2 : atI (r.map markL) (0 + (i : Nat)) = some (markL r[i]) := by rw [atI_nat (n := i) (by omega), List.getElem?_map, List.getElem?_eq_getElem hi']; rfl
    have f1 : markT r[i] = .tup (r[i].map pairD) := rfl
    have f2 : markL r[i] = .lst (r[i].map pairD) := rfl
    try simp only [wp_rep, wp_meth, w_lenSo, w_tupT, w_tupL, List.length_map, wp_ok, wp_bad, wp_bind, wS_ok, wS_bad, wS_cons, wS_nil, wS_pass, wS_break, wS_cont, wS_never, wS_set, wS_expr, wS_ret, wS_retN, wS_if, wS_asg, wS_aug, wS_for, wp_lc, wp_m1, wp_m2, wp_mN, wp_aNil, wp_aCons, wp_mC, wp_var, wp_if2, wp_and2, wp_or2, wp_not, wp_chain2, isBl_bl, andK_p, orK_p, andV_p, orV_p, iteK_p, andK_t, andK_f, orK_t, orK_f, andV_t, andV_f, orV_t, orV_f, iteK_t, iteK_f, wp_tTru2, dTru_bl, dTru_lst, dTru_int, dTru_non, wp_mt, wp_get, wp_isi, wp_fld, wp_sl, wp_oNone, wp_oSome, wp_tBool, wp_tNot, wp_tAnd2, wp_tOr2, wp_tAll, wp_gSlot, wp_gsNil, wp_gsCons, wp_gTup, wp_gSub, wp_iAny, wp_iSeq, wp_iTup, wp_iStr, wp_iRange1, wp_iRange2, wp_iZip, wS_fld, wp_make, seqQ, rtQ, turnQ, List.getElem?_cons_zero, List.getElem?_cons_succ, List.set_cons_zero, List.set_cons_succ, wipeD, if_true, if_false, Bool.false_eq_true, Bool.true_eq_false, reduceIte, w_add, w_iadd, w_iaddS, w_addS, w_addL, w_addT, w_sub, w_mul, w_mod, w_fdiv, w_pow, w_neg, w_lt, w_le, w_gt, w_ge, w_eqI, w_neI, w_eqT, w_neT, w_isN, w_isnotN, w_isB, w_isNB, w_len, w_lenT, w_int, w_intB, w_abs, w_min, w_max, w_tup, w_lst, w_new, w_list, w_listN, w_ix, w_ixT, w_ixD, w_inT1, w_notinT1, w_inT2, w_notinT2, w_inT3, w_notinT3, w_inT4, w_notinT4, w_inT5, w_notinT5, w_inT6, w_notinT6, w_inT7, w_notinT7, w_inT8, w_notinT8, w_sl1, at_0, at_1, at_2, at_3, at_4, at_5, hasTy_list, hasTy_str, isNonD, flatD, sEq_T, List.all_cons, List.all_nil, List.any_cons, List.any_nil, Bool.and_true, Bool.true_and, Bool.or_false, Bool.or_true, Bool.true_or, Bool.false_or, Bool.not_true, Bool.not_false, List.length_cons, List.length_nil, Nat.zero_add, Nat.reduceAdd, line_eq, true_and, and_true, String.reduceBEq, Int.reduceBEq, decide_true, decide_false, Int.reduceLT, Int.reduceLE, beq_self_eq_true, Nat.reduceLeDiff, wS_raise, wp_xinit, wp_sets0, wp_sets1, wp_fs, wp_xf, wp_xis, hdQ, setO, List.map_cons, List.map_nil, tabF_cons, tabF_nil, lview, w_inU1, w_inU2, w_inU3, w_inU4, w_notinU1, w_notinU2, w_notinU3, w_notinU4, wp_lcN, and_self, or_true, true_or, or_false, false_or, not_true_eq_false, not_false_eq_true, ne_eq, reduceCtorEq, List.cons.injEq, Bool.and_false, Bool.false_and, Bool.and_self, Bool.or_self, List.mem_cons, List.not_mem_nil, isSub, ty_tup, ty_lst, ty_int, ty_bl, ty_str, ty_non, nb, Bool.and_eq_true, Bool.or_eq_true, decide_eq_true_eq, beq_iff_eq, Int.cast_ofNat_Int, List.lookup_cons, List.lookup_nil, str_beq, insOf, not_true_eq_false, gok0]
    simp only [e1, e2, f1, f2]
    try simp only [wp_rep, wp_meth, w_lenSo, w_tupT, w_tupL, List.length_map, wp_ok, wp_bad, wp_bind, wS_ok, wS_bad, wS_cons, wS_nil, wS_pass, wS_break, wS_cont, wS_never, wS_set, wS_expr, wS_ret, wS_retN, wS_if, wS_asg, wS_aug, wS_for, wp_lc, wp_m1, wp_m2, wp_mN, wp_aNil, wp_aCons, wp_mC, wp_var, wp_if2, wp_and2, wp_or2, wp_not, wp_chain2, isBl_bl, andK_p, orK_p, andV_p, orV_p, iteK_p, andK_t, andK_f, orK_t, orK_f, andV_t, andV_f, orV_t, orV_f, iteK_t, iteK_f, wp_tTru2, dTru_bl, dTru_lst, dTru_int, dTru_non, wp_mt, wp_get, wp_isi, wp_fld, wp_sl, wp_oNone, wp_oSome, wp_tBool, wp_tNot, wp_tAnd2, wp_tOr2, wp_tAll, wp_gSlot, wp_gsNil, wp_gsCons, wp_gTup, wp_gSub, wp_iAny, wp_iSeq, wp_iTup, wp_iStr, wp_iRange1, wp_iRange2, wp_iZip, wS_fld, wp_make, seqQ, rtQ, turnQ, List.getElem?_cons_zero, List.getElem?_cons_succ, List.set_cons_zero, List.set_cons_succ, wipeD, if_true, if_false, Bool.false_eq_true, Bool.true_eq_false, reduceIte, w_add, w_iadd, w_iaddS, w_addS, w_addL, w_addT, w_sub, w_mul, w_mod, w_fdiv, w_pow, w_neg, w_lt, w_le, w_gt, w_ge, w_eqI, w_neI, w_eqT, w_neT, w_isN, w_isnotN, w_isB, w_isNB, w_len, w_lenT, w_int, w_intB, w_abs, w_min, w_max, w_tup, w_lst, w_new, w_list, w_listN, w_ix, w_ixT, w_ixD, w_inT1, w_notinT1, w_inT2, w_notinT2, w_inT3, w_notinT3, w_inT4, w_notinT4, w_inT5, w_notinT5, w_inT6, w_notinT6, w_inT7, w_notinT7, w_inT8, w_notinT8, w_sl1, at_0, at_1, at_2, at_3, at_4, at_5, hasTy_list, hasTy_str, isNonD, flatD, sEq_T, List.all_cons, List.all_nil, List.any_cons, List.any_nil, Bool.and_true, Bool.true_and, Bool.or_false, Bool.or_true, Bool.true_or, Bool.false_or, Bool.not_true, Bool.not_false, List.length_cons, List.length_nil, Nat.zero_add, Nat.reduceAdd, line_eq, true_and, and_true, String.reduceBEq, Int.reduceBEq, decide_true, decide_false, Int.reduceLT, Int.reduceLE, beq_self_eq_true, Nat.reduceLeDiff, wS_raise, wp_xinit, wp_sets0, wp_sets1, wp_fs, wp_xf, wp_xis, hdQ, setO, List.map_cons, List.map_nil, tabF_cons, tabF_nil, lview, w_inU1, w_inU2, w_inU3, w_inU4, w_notinU1, w_notinU2, w_notinU3, w_notinU4, wp_lcN, and_self, or_true, true_or, or_false, false_or, not_true_eq_false, not_false_eq_true, ne_eq, reduceCtorEq, List.cons.injEq, Bool.and_false, Bool.false_and, Bool.and_self, Bool.or_self, List.mem_cons, List.not_mem_nil, isSub, ty_tup, ty_lst, ty_int, ty_bl, ty_str, ty_non, nb, Bool.and_eq_true, Bool.or_eq_true, decide_eq_true_eq, beq_iff_eq, Int.cast_ofNat_Int, List.lookup_cons, List.lookup_nil, str_beq, insOf, not_true_eq_false, gok0]
    rw [if_neg (by omega)]
    refine ⟨by decide, ?_⟩
    refine wS_forR (gd := none) (R := fun ρ => ∃ b c, ρ = [some (.tup (r.map markT)), some (.lst (r.map markL)), some (.int (0 + (i : Nat))), b, c]) trivial ?_ _ ⟨_, _, rfl⟩ fun ρ' hr => ?_
    · rintro j hj ρ Q2 ⟨b, c, rfl⟩ h2
      have hj' : j < r[i].length := by rw [h6]; exact hj
      obtain ⟨x, y, hxy⟩ : ∃ x y, r[i][j] = (x, y) := ⟨_, _, rfl⟩
      have e3 : atI (r[i].map pairD) (0 + (j : Nat)) = some (.tup [.int x, .int y]) := by rw [atI_nat (n := j) (by omega), List.getElem?_map, List.getElem?_eq_getElem hj', hxy]; rfl
      try simp only [wp_rep, wp_meth, w_lenSo, w_tupT, w_tupL, List.length_map, wp_ok, wp_bad, wp_bind, wS_ok, wS_bad, wS_cons, wS_nil, wS_pass, wS_break, wS_cont, wS_never, wS_set, wS_expr, wS_ret, wS_retN, wS_if, wS_asg, wS_aug, wS_for, wp_lc, wp_m1, wp_m2, wp_mN, wp_aNil, wp_aCons, wp_mC, wp_var, wp_if2, wp_and2, wp_or2, wp_not, wp_chain2, isBl_bl, andK_p, orK_p, andV_p, orV_p, iteK_p, andK_t, andK_f, orK_t, orK_f, andV_t, andV_f, orV_t, orV_f, iteK_t, iteK_f, wp_tTru2, dTru_bl, dTru_lst, dTru_int, dTru_non, wp_mt, wp_get, wp_isi, wp_fld, wp_sl, wp_oNone, wp_oSome, wp_tBool, wp_tNot, wp_tAnd2, wp_tOr2, wp_tAll, wp_gSlot, wp_gsNil, wp_gsCons, wp_gTup, wp_gSub, wp_iAny, wp_iSeq, wp_iTup, wp_iStr, wp_iRange1, wp_iRange2, wp_iZip, wS_fld, wp_make, seqQ, rtQ, turnQ, List.getElem?_cons_zero, List.getElem?_cons_succ, List.set_cons_zero, List.set_cons_succ, wipeD, if_true, if_false, Bool.false_eq_true, Bool.true_eq_false, reduceIte, w_add, w_iadd, w_iaddS, w_addS, w_addL, w_addT, w_sub, w_mul, w_mod, w_fdiv, w_pow, w_neg, w_lt, w_le, w_gt, w_ge, w_eqI, w_neI, w_eqT, w_neT, w_isN, w_isnotN, w_isB, w_isNB, w_len, w_lenT, w_int, w_intB, w_abs, w_min, w_max, w_tup, w_lst, w_new, w_list, w_listN, w_ix, w_ixT, w_ixD, w_inT1, w_notinT1, w_inT2, w_notinT2, w_inT3, w_notinT3, w_inT4, w_notinT4, w_inT5, w_notinT5, w_inT6, w_notinT6, w_inT7, w_notinT7, w_inT8, w_notinT8, w_sl1, at_0, at_1, at_2, at_3, at_4, at_5, hasTy_list, hasTy_str, isNonD, flatD, sEq_T, List.all_cons, List.all_nil, List.any_cons, List.any_nil, Bool.and_true, Bool.true_and, Bool.or_false, Bool.or_true, Bool.true_or, Bool.false_or, Bool.not_true, Bool.not_false, List.length_cons, List.length_nil, Nat.zero_add, Nat.reduceAdd, line_eq, true_and, and_true, String.reduceBEq, Int.reduceBEq, decide_true, decide_false, Int.reduceLT, Int.reduceLE, beq_self_eq_true, Nat.reduceLeDiff, wS_raise, wp_xinit, wp_sets0, wp_sets1, wp_fs, wp_xf, wp_xis, hdQ, setO, List.map_cons, List.map_nil, tabF_cons, tabF_nil, lview, w_inU1, w_inU2, w_inU3, w_inU4, w_notinU1, w_notinU2, w_notinU3, w_notinU4, wp_lcN, and_self, or_true, true_or, or_false, false_or, not_true_eq_false, not_false_eq_true, ne_eq, reduceCtorEq, List.cons.injEq, Bool.and_false, Bool.false_and, Bool.and_self, Bool.or_self, List.mem_cons, List.not_mem_nil, isSub, ty_tup, ty_lst, ty_int, ty_bl, ty_str, ty_non, nb, Bool.and_eq_true, Bool.or_eq_true, decide_eq_true_eq, beq_iff_eq, Int.cast_ofNat_Int, List.lookup_cons, List.lookup_nil, str_beq, insOf, not_true_eq_false, gok0]
      simp only [e1, e2, f1, f2, e3]
      try simp only [wp_rep, wp_meth, w_lenSo, w_tupT, w_tupL, List.length_map, wp_ok, wp_bad, wp_bind, wS_ok, wS_bad, wS_cons, wS_nil, wS_pass, wS_break, wS_cont, wS_never, wS_set, wS_expr, wS_ret, wS_retN, wS_if, wS_asg, wS_aug, wS_for, wp_lc, wp_m1, wp_m2, wp_mN, wp_aNil, wp_aCons, wp_mC, wp_var, wp_if2, wp_and2, wp_or2, wp_not, wp_chain2, isBl_bl, andK_p, orK_p, andV_p, orV_p, iteK_p, andK_t, andK_f, orK_t, orK_f, andV_t, andV_f, orV_t, orV_f, iteK_t, iteK_f, wp_tTru2, dTru_bl, dTru_lst, dTru_int, dTru_non, wp_mt, wp_get, wp_isi, wp_fld, wp_sl, wp_oNone, wp_oSome, wp_tBool, wp_tNot, wp_tAnd2, wp_tOr2, wp_tAll, wp_gSlot, wp_gsNil, wp_gsCons, wp_gTup, wp_gSub, wp_iAny, wp_iSeq, wp_iTup, wp_iStr, wp_iRange1, wp_iRange2, wp_iZip, wS_fld, wp_make, seqQ, rtQ, turnQ, List.getElem?_cons_zero, List.getElem?_cons_succ, List.set_cons_zero, List.set_cons_succ, wipeD, if_true, if_false, Bool.false_eq_true, Bool.true_eq_false, reduceIte, w_add, w_iadd, w_iaddS, w_addS, w_addL, w_addT, w_sub, w_mul, w_mod, w_fdiv, w_pow, w_neg, w_lt, w_le, w_gt, w_ge, w_eqI, w_neI, w_eqT, w_neT, w_isN, w_isnotN, w_isB, w_isNB, w_len, w_lenT, w_int, w_intB, w_abs, w_min, w_max, w_tup, w_lst, w_new, w_list, w_listN, w_ix, w_ixT, w_ixD, w_inT1, w_notinT1, w_inT2, w_notinT2, w_inT3, w_notinT3, w_inT4, w_notinT4, w_inT5, w_notinT5, w_inT6, w_notinT6, w_inT7, w_notinT7, w_inT8, w_notinT8, w_sl1, at_0, at_1, at_2, at_3, at_4, at_5, hasTy_list, hasTy_str, isNonD, flatD, sEq_T, List.all_cons, List.all_nil, List.any_cons, List.any_nil, Bool.and_true, Bool.true_and, Bool.or_false, Bool.or_true, Bool.true_or, Bool.false_or, Bool.not_true, Bool.not_false, List.length_cons, List.length_nil, Nat.zero_add, Nat.reduceAdd, line_eq, true_and, and_true, String.reduceBEq, Int.reduceBEq, decide_true, decide_false, Int.reduceLT, Int.reduceLE, beq_self_eq_true, Nat.reduceLeDiff, wS_raise, wp_xinit, wp_sets0, wp_sets1, wp_fs, wp_xf, wp_xis, hdQ, setO, List.map_cons, List.map_nil, tabF_cons, tabF_nil, lview, w_inU1, w_inU2, w_inU3, w_inU4, w_notinU1, w_notinU2, w_notinU3, w_notinU4, wp_lcN, and_self, or_true, true_or, or_false, false_or, not_true_eq_false, not_false_eq_true, ne_eq, reduceCtorEq, List.cons.injEq, Bool.and_false, Bool.false_and, Bool.and_self, Bool.or_self, List.mem_cons, List.not_mem_nil, isSub, ty_tup, ty_lst, ty_int, ty_bl, ty_str, ty_non, nb, Bool.and_eq_true, Bool.or_eq_true, decide_eq_true_eq, beq_iff_eq, Int.cast_ofNat_Int, List.lookup_cons, List.lookup_nil, str_beq, insOf, not_true_eq_false, gok0]
      simp only [e1, e2, f1, f2, e3]
      try simp only [wp_rep, wp_meth, w_lenSo, w_tupT, w_tupL, List.length_map, wp_ok, wp_bad, wp_bind, wS_ok, wS_bad, wS_cons, wS_nil, wS_pass, wS_break, wS_cont, wS_never, wS_set, wS_expr, wS_ret, wS_retN, wS_if, wS_asg, wS_aug, wS_for, wp_lc, wp_m1, wp_m2, wp_mN, wp_aNil, wp_aCons, wp_mC, wp_var, wp_if2, wp_and2, wp_or2, wp_not, wp_chain2, isBl_bl, andK_p, orK_p, andV_p, orV_p, iteK_p, andK_t, andK_f, orK_t, orK_f, andV_t, andV_f, orV_t, orV_f, iteK_t, iteK_f, wp_tTru2, dTru_bl, dTru_lst, dTru_int, dTru_non, wp_mt, wp_get, wp_isi, wp_fld, wp_sl, wp_oNone, wp_oSome, wp_tBool, wp_tNot, wp_tAnd2, wp_tOr2, wp_tAll, wp_gSlot, wp_gsNil, wp_gsCons, wp_gTup, wp_gSub, wp_iAny, wp_iSeq, wp_iTup, wp_iStr, wp_iRange1, wp_iRange2, wp_iZip, wS_fld, wp_make, seqQ, rtQ, turnQ, List.getElem?_cons_zero, List.getElem?_cons_succ, List.set_cons_zero, List.set_cons_succ, wipeD, if_true, if_false, Bool.false_eq_true, Bool.true_eq_false, reduceIte, w_add, w_iadd, w_iaddS, w_addS, w_addL, w_addT, w_sub, w_mul, w_mod, w_fdiv, w_pow, w_neg, w_lt, w_le, w_gt, w_ge, w_eqI, w_neI, w_eqT, w_neT, w_isN, w_isnotN, w_isB, w_isNB, w_len, w_lenT, w_int, w_intB, w_abs, w_min, w_max, w_tup, w_lst, w_new, w_list, w_listN, w_ix, w_ixT, w_ixD, w_inT1, w_notinT1, w_inT2, w_notinT2, w_inT3, w_notinT3, w_inT4, w_notinT4, w_inT5, w_notinT5, w_inT6, w_notinT6, w_inT7, w_notinT7, w_inT8, w_notinT8, w_sl1, at_0, at_1, at_2, at_3, at_4, at_5, hasTy_list, hasTy_str, isNonD, flatD, sEq_T, List.all_cons, List.all_nil, List.any_cons, List.any_nil, Bool.and_true, Bool.true_and, Bool.or_false, Bool.or_true, Bool.true_or, Bool.false_or, Bool.not_true, Bool.not_false, List.length_cons, List.length_nil, Nat.zero_add, Nat.reduceAdd, line_eq, true_and, and_true, String.reduceBEq, Int.reduceBEq, decide_true, decide_false, Int.reduceLT, Int.reduceLE, beq_self_eq_true, Nat.reduceLeDiff, wS_raise, wp_xinit, wp_sets0, wp_sets1, wp_fs, wp_xf, wp_xis, hdQ, setO, List.map_cons, List.map_nil, tabF_cons, tabF_nil, lview, w_inU1, w_inU2, w_inU3, w_inU4, w_notinU1, w_notinU2, w_notinU3, w_notinU4, wp_lcN, and_self, or_true, true_or, or_false, false_or, not_true_eq_false, not_false_eq_true, ne_eq, reduceCtorEq, List.cons.injEq, Bool.and_false, Bool.false_and, Bool.and_self, Bool.or_self, List.mem_cons, List.not_mem_nil, isSub, ty_tup, ty_lst, ty_int, ty_bl, ty_str, ty_non, nb, Bool.and_eq_true, Bool.or_eq_true, decide_eq_true_eq, beq_iff_eq, Int.cast_ofNat_Int, List.lookup_cons, List.lookup_nil, str_beq, insOf, not_true_eq_false, gok0]
      rw [whole_wp]
      try simp only [wp_rep, wp_meth, w_lenSo, w_tupT, w_tupL, List.length_map, wp_ok, wp_bad, wp_bind, wS_ok, wS_bad, wS_cons, wS_nil, wS_pass, wS_break, wS_cont, wS_never, wS_set, wS_expr, wS_ret, wS_retN, wS_if, wS_asg, wS_aug, wS_for, wp_lc, wp_m1, wp_m2, wp_mN, wp_aNil, wp_aCons, wp_mC, wp_var, wp_if2, wp_and2, wp_or2, wp_not, wp_chain2, isBl_bl, andK_p, orK_p, andV_p, orV_p, iteK_p, andK_t, andK_f, orK_t, orK_f, andV_t, andV_f, orV_t, orV_f, iteK_t, iteK_f, wp_tTru2, dTru_bl, dTru_lst, dTru_int, dTru_non, wp_mt, wp_get, wp_isi, wp_fld, wp_sl, wp_oNone, wp_oSome, wp_tBool, wp_tNot, wp_tAnd2, wp_tOr2, wp_tAll, wp_gSlot, wp_gsNil, wp_gsCons, wp_gTup, wp_gSub, wp_iAny, wp_iSeq, wp_iTup, wp_iStr, wp_iRange1, wp_iRange2, wp_iZip, wS_fld, wp_make, seqQ, rtQ, turnQ, List.getElem?_cons_zero, List.getElem?_cons_succ, List.set_cons_zero, List.set_cons_succ, wipeD, if_true, if_false, Bool.false_eq_true, Bool.true_eq_false, reduceIte, w_add, w_iadd, w_iaddS, w_addS, w_addL, w_addT, w_sub, w_mul, w_mod, w_fdiv, w_pow, w_neg, w_lt, w_le, w_gt, w_ge, w_eqI, w_neI, w_eqT, w_neT, w_isN, w_isnotN, w_isB, w_isNB, w_len, w_lenT, w_int, w_intB, w_abs, w_min, w_max, w_tup, w_lst, w_new, w_list, w_listN, w_ix, w_ixT, w_ixD, w_inT1, w_notinT1, w_inT2, w_notinT2, w_inT3, w_notinT3, w_inT4, w_notinT4, w_inT5, w_notinT5, w_inT6, w_notinT6, w_inT7, w_notinT7, w_inT8, w_notinT8, w_sl1, at_0, at_1, at_2, at_3, at_4, at_5, hasTy_list, hasTy_str, isNonD, flatD, sEq_T, List.all_cons, List.all_nil, List.any_cons, List.any_nil, Bool.and_true, Bool.true_and, Bool.or_false, Bool.or_true, Bool.true_or, Bool.false_or, Bool.not_true, Bool.not_false, List.length_cons, List.length_nil, Nat.zero_add, Nat.reduceAdd, line_eq, true_and, and_true, String.reduceBEq, Int.reduceBEq, decide_true, decide_false, Int.reduceLT, Int.reduceLE, beq_self_eq_true, Nat.reduceLeDiff, wS_raise, wp_xinit, wp_sets0, wp_sets1, wp_fs, wp_xf, wp_xis, hdQ, setO, List.map_cons, List.map_nil, tabF_cons, tabF_nil, lview, w_inU1, w_inU2, w_inU3, w_inU4, w_notinU1, w_notinU2, w_notinU3, w_notinU4, wp_lcN, and_self, or_true, true_or, or_false, false_or, not_true_eq_false, not_false_eq_true, ne_eq, reduceCtorEq, List.cons.injEq, Bool.and_false, Bool.false_and, Bool.and_self, Bool.or_self, List.mem_cons, List.not_mem_nil, isSub, ty_tup, ty_lst, ty_int, ty_bl, ty_str, ty_non, nb, Bool.and_eq_true, Bool.or_eq_true, decide_eq_true_eq, beq_iff_eq, Int.cast_ofNat_Int, List.lookup_cons, List.lookup_nil, str_beq, insOf, not_true_eq_false, gok0]
      rw [whole_wp]
      try simp only [wp_rep, wp_meth, w_lenSo, w_tupT, w_tupL, List.length_map, wp_ok, wp_bad, wp_bind, wS_ok, wS_bad, wS_cons, wS_nil, wS_pass, wS_break, wS_cont, wS_never, wS_set, wS_expr, wS_ret, wS_retN, wS_if, wS_asg, wS_aug, wS_for, wp_lc, wp_m1, wp_m2, wp_mN, wp_aNil, wp_aCons, wp_mC, wp_var, wp_if2, wp_and2, wp_or2, wp_not, wp_chain2, isBl_bl, andK_p, orK_p, andV_p, orV_p, iteK_p, andK_t, andK_f, orK_t, orK_f, andV_t, andV_f, orV_t, orV_f, iteK_t, iteK_f, wp_tTru2, dTru_bl, dTru_lst, dTru_int, dTru_non, wp_mt, wp_get, wp_isi, wp_fld, wp_sl, wp_oNone, wp_oSome, wp_tBool, wp_tNot, wp_tAnd2, wp_tOr2, wp_tAll, wp_gSlot, wp_gsNil, wp_gsCons, wp_gTup, wp_gSub, wp_iAny, wp_iSeq, wp_iTup, wp_iStr, wp_iRange1, wp_iRange2, wp_iZip, wS_fld, wp_make, seqQ, rtQ, turnQ, List.getElem?_cons_zero, List.getElem?_cons_succ, List.set_cons_zero, List.set_cons_succ, wipeD, if_true, if_false, Bool.false_eq_true, Bool.true_eq_false, reduceIte, w_add, w_iadd, w_iaddS, w_addS, w_addL, w_addT, w_sub, w_mul, w_mod, w_fdiv, w_pow, w_neg, w_lt, w_le, w_gt, w_ge, w_eqI, w_neI, w_eqT, w_neT, w_isN, w_isnotN, w_isB, w_isNB, w_len, w_lenT, w_int, w_intB, w_abs, w_min, w_max, w_tup, w_lst, w_new, w_list, w_listN, w_ix, w_ixT, w_ixD, w_inT1, w_notinT1, w_inT2, w_notinT2, w_inT3, w_notinT3, w_inT4, w_notinT4, w_inT5, w_notinT5, w_inT6, w_notinT6, w_inT7, w_notinT7, w_inT8, w_notinT8, w_sl1, at_0, at_1, at_2, at_3, at_4, at_5, hasTy_list, hasTy_str, isNonD, flatD, sEq_T, List.all_cons, List.all_nil, List.any_cons, List.any_nil, Bool.and_true, Bool.true_and, Bool.or_false, Bool.or_true, Bool.true_or, Bool.false_or, Bool.not_true, Bool.not_false, List.length_cons, List.length_nil, Nat.zero_add, Nat.reduceAdd, line_eq, true_and, and_true, String.reduceBEq, Int.reduceBEq, decide_true, decide_false, Int.reduceLT, Int.reduceLE, beq_self_eq_true, Nat.reduceLeDiff, wS_raise, wp_xinit, wp_sets0, wp_sets1, wp_fs, wp_xf, wp_xis, hdQ, setO, List.map_cons, List.map_nil, tabF_cons, tabF_nil, lview, w_inU1, w_inU2, w_inU3, w_inU4, w_notinU1, w_notinU2, w_notinU3, w_notinU4, wp_lcN, and_self, or_true, true_or, or_false, false_or, not_true_eq_false, not_false_eq_true, ne_eq, reduceCtorEq, List.cons.injEq, Bool.and_false, Bool.false_and, Bool.and_self, Bool.or_self, List.mem_cons, List.not_mem_nil, isSub, ty_tup, ty_lst, ty_int, ty_bl, ty_str, ty_non, nb, Bool.and_eq_true, Bool.or_eq_true, decide_eq_true_eq, beq_iff_eq, Int.cast_ofNat_Int, List.lookup_cons, List.lookup_nil, str_beq, insOf, not_true_eq_false, gok0]
      simp only [e1, e2, f1, f2, e3, ne_p]
      try simp only [wp_rep, wp_meth, w_lenSo, w_tupT, w_tupL, List.length_map, wp_ok, wp_bad, wp_bind, wS_ok, wS_bad, wS_cons, wS_nil, wS_pass, wS_break, wS_cont, wS_never, wS_set, wS_expr, wS_ret, wS_retN, wS_if, wS_asg, wS_aug, wS_for, wp_lc, wp_m1, wp_m2, wp_mN, wp_aNil, wp_aCons, wp_mC, wp_var, wp_if2, wp_and2, wp_or2, wp_not, wp_chain2, isBl_bl, andK_p, orK_p, andV_p, orV_p, iteK_p, andK_t, andK_f, orK_t, orK_f, andV_t, andV_f, orV_t, orV_f, iteK_t, iteK_f, wp_tTru2, dTru_bl, dTru_lst, dTru_int, dTru_non, wp_mt, wp_get, wp_isi, wp_fld, wp_sl, wp_oNone, wp_oSome, wp_tBool, wp_tNot, wp_tAnd2, wp_tOr2, wp_tAll, wp_gSlot, wp_gsNil, wp_gsCons, wp_gTup, wp_gSub, wp_iAny, wp_iSeq, wp_iTup, wp_iStr, wp_iRange1, wp_iRange2, wp_iZip, wS_fld, wp_make, seqQ, rtQ, turnQ, List.getElem?_cons_zero, List.getElem?_cons_succ, List.set_cons_zero, List.set_cons_succ, wipeD, if_true, if_false, Bool.false_eq_true, Bool.true_eq_false, reduceIte, w_add, w_iadd, w_iaddS, w_addS, w_addL, w_addT, w_sub, w_mul, w_mod, w_fdiv, w_pow, w_neg, w_lt, w_le, w_gt, w_ge, w_eqI, w_neI, w_eqT, w_neT, w_isN, w_isnotN, w_isB, w_isNB, w_len, w_lenT, w_int, w_intB, w_abs, w_min, w_max, w_tup, w_lst, w_new, w_list, w_listN, w_ix, w_ixT, w_ixD, w_inT1, w_notinT1, w_inT2, w_notinT2, w_inT3, w_notinT3, w_inT4, w_notinT4, w_inT5, w_notinT5, w_inT6, w_notinT6, w_inT7, w_notinT7, w_inT8, w_notinT8, w_sl1, at_0, at_1, at_2, at_3, at_4, at_5, hasTy_list, hasTy_str, isNonD, flatD, sEq_T, List.all_cons, List.all_nil, List.any_cons, List.any_nil, Bool.and_true, Bool.true_and, Bool.or_false, Bool.or_true, Bool.true_or, Bool.false_or, Bool.not_true, Bool.not_false, List.length_cons, List.length_nil, Nat.zero_add, Nat.reduceAdd, line_eq, true_and, and_true, String.reduceBEq, Int.reduceBEq, decide_true, decide_false, Int.reduceLT, Int.reduceLE, beq_self_eq_true, Nat.reduceLeDiff, wS_raise, wp_xinit, wp_sets0, wp_sets1, wp_fs, wp_xf, wp_xis, hdQ, setO, List.map_cons, List.map_nil, tabF_cons, tabF_nil, lview, w_inU1, w_inU2, w_inU3, w_inU4, w_notinU1, w_notinU2, w_notinU3, w_notinU4, wp_lcN, and_self, or_true, true_or, or_false, false_or, not_true_eq_false, not_false_eq_true, ne_eq, reduceCtorEq, List.cons.injEq, Bool.and_false, Bool.false_and, Bool.and_self, Bool.or_self, List.mem_cons, List.not_mem_nil, isSub, ty_tup, ty_lst, ty_int, ty_bl, ty_str, ty_non, nb, Bool.and_eq_true, Bool.or_eq_true, decide_eq_true_eq, beq_iff_eq, Int.cast_ofNat_Int, List.lookup_cons, List.lookup_nil, str_beq, insOf, not_true_eq_false, gok0]
      exact h2 _ ⟨_, _, rfl⟩
    · obtain ⟨b, c, rfl⟩ := hr
      exact h1 _ ⟨_, _, _, rfl⟩
  · obtain ⟨a, b, c, rfl⟩ := hr
    try simp only [wp_rep, wp_meth, w_lenSo, w_tupT, w_tupL, List.length_map, wp_ok, wp_bad, wp_bind, wS_ok, wS_bad, wS_cons, wS_nil, wS_pass, wS_break, wS_cont, wS_never, wS_set, wS_expr, wS_ret, wS_retN, wS_if, wS_asg, wS_aug, wS_for, wp_lc, wp_m1, wp_m2, wp_mN, wp_aNil, wp_aCons, wp_mC, wp_var, wp_if2, wp_and2, wp_or2, wp_not, wp_chain2, isBl_bl, andK_p, orK_p, andV_p, orV_p, iteK_p, andK_t, andK_f, orK_t, orK_f, andV_t, andV_f, orV_t, orV_f, iteK_t, iteK_f, wp_tTru2, dTru_bl, dTru_lst, dTru_int, dTru_non, wp_mt, wp_get, wp_isi, wp_fld, wp_sl, wp_oNone, wp_oSome, wp_tBool, wp_tNot, wp_tAnd2, wp_tOr2, wp_tAll, wp_gSlot, wp_gsNil, wp_gsCons, wp_gTup, wp_gSub, wp_iAny, wp_iSeq, wp_iTup, wp_iStr, wp_iRange1, wp_iRange2, wp_iZip, wS_fld, wp_make, seqQ, rtQ, turnQ, List.getElem?_cons_zero, List.getElem?_cons_succ, List.set_cons_zero, List.set_cons_succ, wipeD, if_true, if_false, Bool.false_eq_true, Bool.true_eq_false, reduceIte, w_add, w_iadd, w_iaddS, w_addS, w_addL, w_addT, w_sub, w_mul, w_mod, w_fdiv, w_pow, w_neg, w_lt, w_le, w_gt, w_ge, w_eqI, w_neI, w_eqT, w_neT, w_isN, w_isnotN, w_isB, w_isNB, w_len, w_lenT, w_int, w_intB, w_abs, w_min, w_max, w_tup, w_lst, w_new, w_list, w_listN, w_ix, w_ixT, w_ixD, w_inT1, w_notinT1, w_inT2, w_notinT2, w_inT3, w_notinT3, w_inT4, w_notinT4, w_inT5, w_notinT5, w_inT6, w_notinT6, w_inT7, w_notinT7, w_inT8, w_notinT8, w_sl1, at_0, at_1, at_2, at_3, at_4, at_5, hasTy_list, hasTy_str, isNonD, flatD, sEq_T, List.all_cons, List.all_nil, List.any_cons, List.any_nil, Bool.and_true, Bool.true_and, Bool.or_false, Bool.or_true, Bool.true_or, Bool.false_or, Bool.not_true, Bool.not_false, List.length_cons, List.length_nil, Nat.zero_add, Nat.reduceAdd, line_eq, true_and, and_true, String.reduceBEq, Int.reduceBEq, decide_true, decide_false, Int.reduceLT, Int.reduceLE, beq_self_eq_true, Nat.reduceLeDiff, wS_raise, wp_xinit, wp_sets0, wp_sets1, wp_fs, wp_xf, wp_xis, hdQ, setO, List.map_cons, List.map_nil, tabF_cons, tabF_nil, lview, w_inU1, w_inU2, w_inU3, w_inU4, w_notinU1, w_notinU2, w_notinU3, w_notinU4, wp_lcN, and_self, or_true, true_or, or_false, false_or, not_true_eq_false, not_false_eq_true, ne_eq, reduceCtorEq, List.cons.injEq, Bool.and_false, Bool.false_and, Bool.and_self, Bool.or_self, List.mem_cons, List.not_mem_nil, isSub, ty_tup, ty_lst, ty_int, ty_bl, ty_str, ty_non, nb, Bool.and_eq_true, Bool.or_eq_true, decide_eq_true_eq, beq_iff_eq, Int.cast_ofNat_Int, List.lookup_cons, List.lookup_nil, str_beq, insOf, not_true_eq_false, gok0]
    exact k
theorem fields_wp {p : Prt} (hz : p.rule.length ≤ 900 ∧ ∀ m ∈ p.rule, m.length = 6) (k : Q (.bl true) s) : wp (f_law_fields [rowD p, p.d] s) Q E := by
  refine (wp_fn (n := 2) (tot := 3) (m := m_law_fields) rfl).mpr ?_
  show wS (m_law_fields [some (rowD p), some p.d, none] _) _ _
  unfold m_law_fields rowD rowF Prt.d
  try simp only [wp_rep, wp_meth, w_lenSo, w_tupT, w_tupL, List.length_map, wp_ok, wp_bad, wp_bind, wS_ok, wS_bad, wS_cons, wS_nil, wS_pass, wS_break, wS_cont, wS_never, wS_set, wS_expr, wS_ret, wS_retN, wS_if, wS_asg, wS_aug, wS_for, wp_lc, wp_m1, wp_m2, wp_mN, wp_aNil, wp_aCons, wp_mC, wp_var, wp_if2, wp_and2, wp_or2, wp_not, wp_chain2, isBl_bl, andK_p, orK_p, andV_p, orV_p, iteK_p, andK_t, andK_f, orK_t, orK_f, andV_t, andV_f, orV_t, orV_f, iteK_t, iteK_f, wp_tTru2, dTru_bl, dTru_lst, dTru_int, dTru_non, wp_mt, wp_get, wp_isi, wp_fld, wp_sl, wp_oNone, wp_oSome, wp_tBool, wp_tNot, wp_tAnd2, wp_tOr2, wp_tAll, wp_gSlot, wp_gsNil, wp_gsCons, wp_gTup, wp_gSub, wp_iAny, wp_iSeq, wp_iTup, wp_iStr, wp_iRange1, wp_iRange2, wp_iZip, wS_fld, wp_make, seqQ, rtQ, turnQ, List.getElem?_cons_zero, List.getElem?_cons_succ, List.set_cons_zero, List.set_cons_succ, wipeD, if_true, if_false, Bool.false_eq_true, Bool.true_eq_false, reduceIte, w_add, w_iadd, w_iaddS, w_addS, w_addL, w_addT, w_sub, w_mul, w_mod, w_fdiv, w_pow, w_neg, w_lt, w_le, w_gt, w_ge, w_eqI, w_neI, w_eqT, w_neT, w_isN, w_isnotN, w_isB, w_isNB, w_len, w_lenT, w_int, w_intB, w_abs, w_min, w_max, w_tup, w_lst, w_new, w_list, w_listN, w_ix, w_ixT, w_ixD, w_inT1, w_notinT1, w_inT2, w_notinT2, w_inT3, w_notinT3, w_inT4, w_notinT4, w_inT5, w_notinT5, w_inT6, w_notinT6, w_inT7, w_notinT7, w_inT8, w_notinT8, w_sl1, at_0, at_1, at_2, at_3, at_4, at_5, hasTy_list, hasTy_str, isNonD, flatD, sEq_T, List.all_cons, List.all_nil, List.any_cons, List.any_nil, Bool.and_true, Bool.true_and, Bool.or_false, Bool.or_true, Bool.true_or, Bool.false_or, Bool.not_true, Bool.not_false, List.length_cons, List.length_nil, Nat.zero_add, Nat.reduceAdd, line_eq, true_and, and_true, String.reduceBEq, Int.reduceBEq, decide_true, decide_false, Int.reduceLT, Int.reduceLE, beq_self_eq_true, Nat.reduceLeDiff, wS_raise, wp_xinit, wp_sets0, wp_sets1, wp_fs, wp_xf, wp_xis, hdQ, setO, List.map_cons, List.map_nil, tabF_cons, tabF_nil, lview, w_inU1, w_inU2, w_inU3, w_inU4, w_notinU1, w_notinU2, w_notinU3, w_notinU4, wp_lcN, and_self, or_true, true_or, or_false, false_or, not_true_eq_false, not_false_eq_true, ne_eq, reduceCtorEq, List.cons.injEq, Bool.and_false, Bool.false_and, Bool.and_self, Bool.or_self, List.mem_cons, List.not_mem_nil, isSub, ty_tup, ty_lst, ty_int, ty_bl, ty_str, ty_non, nb, Bool.and_eq_true, Bool.or_eq_true, decide_eq_true_eq, beq_iff_eq, Int.cast_ofNat_Int, List.lookup_cons, List.lookup_nil, str_beq, insOf, not_true_eq_false, gok0]
  try simp only [wS_forL_cons, wS_forL_nil, wp_rep, wp_meth, w_lenSo, w_tupT, w_tupL, List.length_map, wp_ok, wp_bad, wp_bind, wS_ok, wS_bad, wS_cons, wS_nil, wS_pass, wS_break, wS_cont, wS_never, wS_set, wS_expr, wS_ret, wS_retN, wS_if, wS_asg, wS_aug, wS_for, wp_lc, wp_m1, wp_m2, wp_mN, wp_aNil, wp_aCons, wp_mC, wp_var, wp_if2, wp_and2, wp_or2, wp_not, wp_chain2, isBl_bl, andK_p, orK_p, andV_p, orV_p, iteK_p, andK_t, andK_f, orK_t, orK_f, andV_t, andV_f, orV_t, orV_f, iteK_t, iteK_f, wp_tTru2, dTru_bl, dTru_lst, dTru_int, dTru_non, wp_mt, wp_get, wp_isi, wp_fld, wp_sl, wp_oNone, wp_oSome, wp_tBool, wp_tNot, wp_tAnd2, wp_tOr2, wp_tAll, wp_gSlot, wp_gsNil, wp_gsCons, wp_gTup, wp_gSub, wp_iAny, wp_iSeq, wp_iTup, wp_iStr, wp_iRange1, wp_iRange2, wp_iZip, wS_fld, wp_make, seqQ, rtQ, turnQ, List.getElem?_cons_zero, List.getElem?_cons_succ, List.set_cons_zero, List.set_cons_succ, wipeD, if_true, if_false, Bool.false_eq_true, Bool.true_eq_false, reduceIte, w_add, w_iadd, w_iaddS, w_addS, w_addL, w_addT, w_sub, w_mul, w_mod, w_fdiv, w_pow, w_neg, w_lt, w_le, w_gt, w_ge, w_eqI, w_neI, w_eqT, w_neT, w_isN, w_isnotN, w_isB, w_isNB, w_len, w_lenT, w_int, w_intB, w_abs, w_min, w_max, w_tup, w_lst, w_new, w_list, w_listN, w_ix, w_ixT, w_ixD, w_inT1, w_notinT1, w_inT2, w_notinT2, w_inT3, w_notinT3, w_inT4, w_notinT4, w_inT5, w_notinT5, w_inT6, w_notinT6, w_inT7, w_notinT7, w_inT8, w_notinT8, w_sl1, at_0, at_1, at_2, at_3, at_4, at_5, hasTy_list, hasTy_str, isNonD, flatD, sEq_T, List.all_cons, List.all_nil, List.any_cons, List.any_nil, Bool.and_true, Bool.true_and, Bool.or_false, Bool.or_true, Bool.true_or, Bool.false_or, Bool.not_true, Bool.not_false, List.length_cons, List.length_nil, Nat.zero_add, Nat.reduceAdd, line_eq, true_and, and_true, String.reduceBEq, Int.reduceBEq, decide_true, decide_false, Int.reduceLT, Int.reduceLE, beq_self_eq_true, Nat.reduceLeDiff, wS_raise, wp_xinit, wp_sets0, wp_sets1, wp_fs, wp_xf, wp_xis, hdQ, setO, List.map_cons, List.map_nil, tabF_cons, tabF_nil, lview, w_inU1, w_inU2, w_inU3, w_inU4, w_notinU1, w_notinU2, w_notinU3, w_notinU4, wp_lcN, and_self, or_true, true_or, or_false, false_or, not_true_eq_false, not_false_eq_true, ne_eq, reduceCtorEq, List.cons.injEq, Bool.and_false, Bool.false_and, Bool.and_self, Bool.or_self, List.mem_cons, List.not_mem_nil, isSub, ty_tup, ty_lst, ty_int, ty_bl, ty_str, ty_non, nb, Bool.and_eq_true, Bool.or_eq_true, decide_eq_true_eq, beq_iff_eq, Int.cast_ofNat_Int, List.lookup_cons, List.lookup_nil, str_beq, insOf, not_true_eq_false, gok0]
  exact same_wp hz k
end
end
end K46
namespace K46
open PySem PySem.Spec PyProof.Rows L2 Pm
noncomputable section
section
variable {s : S} {Q : D → S → Prop} {E : D → S → Prop} {ρ : Rho}
def Sz (r : List Mark) : Prop := r.length ≤ 900 ∧ ∀ m ∈ r, m.length ≤ 1000
theorem fz_bl {b : Bool} {t : S} (hs : stOk s.length s = true) (k : Q (.bl b) s) : fzQ s.length Q (.bl b) (s ++ t) := ⟨.bl b, rfl, by rw [stOk_app]; exact hs, by rw [take_app]; exact k⟩
theorem fz_bl0 {b : Bool} (hs : stOk s.length s = true) (k : Q (.bl b) s) : fzQ s.length Q (.bl b) s := ⟨.bl b, rfl, hs, by rw [List.take_length]; exact k⟩
theorem rule_l {r : List Mark} : RuleV s (.lst (r.map markL)) r := ⟨r.map markL, by simp, fun i x m h1 h2 => by
  rw [List.getElem?_map, h2] at h1
  cases h1
  exact .inl rfl, .inl rfl⟩
theorem refused_wp {p : Prt} (hz : Sz p.rule) (hne : wrong p ≠ "") (hs : stOk s.length s = true) (k : Q (.bl true) s) : wp (f_law_refused [p.d, .str (Str.ofString (wrong p))] s) Q E := by
  refine wp_mkFz ((wp_fn (n := 2) (tot := 4) (m := m_law_refused) rfl).mpr ?_)
  show wS (m_law_refused [some p.d, some (.str (Str.ofString (wrong p))), none, none] _) _ _
  unfold m_law_refused Prt.d
  try simp only [wp_rep, wp_meth, w_lenSo, w_tupT, w_tupL, List.length_map, wp_ok, wp_bad, wp_bind, wS_ok, wS_bad, wS_cons, wS_nil, wS_pass, wS_break, wS_cont, wS_never, wS_set, wS_expr, wS_ret, wS_retN, wS_if, wS_asg, wS_aug, wS_for, wp_lc, wp_m1, wp_m2, wp_mN, wp_aNil, wp_aCons, wp_mC, wp_var, wp_if2, wp_and2, wp_or2, wp_not, wp_chain2, isBl_bl, andK_p, orK_p, andV_p, orV_p, iteK_p, andK_t, andK_f, orK_t, orK_f, andV_t, andV_f, orV_t, orV_f, iteK_t, iteK_f, wp_tTru2, dTru_bl, dTru_lst, dTru_int, dTru_non, wp_mt, wp_get, wp_isi, wp_fld, wp_sl, wp_oNone, wp_oSome, wp_tBool, wp_tNot, wp_tAnd2, wp_tOr2, wp_tAll, wp_gSlot, wp_gsNil, wp_gsCons, wp_gTup, wp_gSub, wp_iAny, wp_iSeq, wp_iTup, wp_iStr, wp_iRange1, wp_iRange2, wp_iZip, wS_fld, wp_make, seqQ, rtQ, turnQ, List.getElem?_cons_zero, List.getElem?_cons_succ, List.set_cons_zero, List.set_cons_succ, wipeD, if_true, if_false, Bool.false_eq_true, Bool.true_eq_false, reduceIte, w_add, w_iadd, w_iaddS, w_addS, w_addL, w_addT, w_sub, w_mul, w_mod, w_fdiv, w_pow, w_neg, w_lt, w_le, w_gt, w_ge, w_eqI, w_neI, w_eqT, w_neT, w_isN, w_isnotN, w_isB, w_isNB, w_len, w_lenT, w_int, w_intB, w_abs, w_min, w_max, w_tup, w_lst, w_new, w_list, w_listN, w_ix, w_ixT, w_ixD, w_inT1, w_notinT1, w_inT2, w_notinT2, w_inT3, w_notinT3, w_inT4, w_notinT4, w_inT5, w_notinT5, w_inT6, w_notinT6, w_inT7, w_notinT7, w_inT8, w_notinT8, w_sl1, at_0, at_1, at_2, at_3, at_4, at_5, hasTy_list, hasTy_str, isNonD, flatD, sEq_T, List.all_cons, List.all_nil, List.any_cons, List.any_nil, Bool.and_true, Bool.true_and, Bool.or_false, Bool.or_true, Bool.true_or, Bool.false_or, Bool.not_true, Bool.not_false, List.length_cons, List.length_nil, Nat.zero_add, Nat.reduceAdd, line_eq, true_and, and_true, String.reduceBEq, Int.reduceBEq, decide_true, decide_false, Int.reduceLT, Int.reduceLE, beq_self_eq_true, Nat.reduceLeDiff, wS_raise, wp_xinit, wp_sets0, wp_sets1, wp_fs, wp_xf, wp_xis, hdQ, setO, List.map_cons, List.map_nil, tabF_cons, tabF_nil, lview, w_inU1, w_inU2, w_inU3, w_inU4, w_notinU1, w_notinU2, w_notinU3, w_notinU4, wp_lcN, and_self, or_true, true_or, or_false, false_or, not_true_eq_false, not_false_eq_true, ne_eq, reduceCtorEq, List.cons.injEq, Bool.and_false, Bool.false_and, Bool.and_self, Bool.or_self, List.mem_cons, List.not_mem_nil, isSub, ty_tup, ty_lst, ty_int, ty_bl, ty_str, ty_non, nb, Bool.and_eq_true, Bool.or_eq_true, decide_eq_true_eq, beq_iff_eq, Int.cast_ofNat_Int, List.lookup_cons, List.lookup_nil, str_beq, insOf, not_true_eq_false, gok0]
  refine wS_try ?_
  try simp only [wp_rep, wp_meth, w_lenSo, w_tupT, w_tupL, List.length_map, wp_ok, wp_bad, wp_bind, wS_ok, wS_bad, wS_cons, wS_nil, wS_pass, wS_break, wS_cont, wS_never, wS_set, wS_expr, wS_ret, wS_retN, wS_if, wS_asg, wS_aug, wS_for, wp_lc, wp_m1, wp_m2, wp_mN, wp_aNil, wp_aCons, wp_mC, wp_var, wp_if2, wp_and2, wp_or2, wp_not, wp_chain2, isBl_bl, andK_p, orK_p, andV_p, orV_p, iteK_p, andK_t, andK_f, orK_t, orK_f, andV_t, andV_f, orV_t, orV_f, iteK_t, iteK_f, wp_tTru2, dTru_bl, dTru_lst, dTru_int, dTru_non, wp_mt, wp_get, wp_isi, wp_fld, wp_sl, wp_oNone, wp_oSome, wp_tBool, wp_tNot, wp_tAnd2, wp_tOr2, wp_tAll, wp_gSlot, wp_gsNil, wp_gsCons, wp_gTup, wp_gSub, wp_iAny, wp_iSeq, wp_iTup, wp_iStr, wp_iRange1, wp_iRange2, wp_iZip, wS_fld, wp_make, seqQ, rtQ, turnQ, List.getElem?_cons_zero, List.getElem?_cons_succ, List.set_cons_zero, List.set_cons_succ, wipeD, if_true, if_false, Bool.false_eq_true, Bool.true_eq_false, reduceIte, w_add, w_iadd, w_iaddS, w_addS, w_addL, w_addT, w_sub, w_mul, w_mod, w_fdiv, w_pow, w_neg, w_lt, w_le, w_gt, w_ge, w_eqI, w_neI, w_eqT, w_neT, w_isN, w_isnotN, w_isB, w_isNB, w_len, w_lenT, w_int, w_intB, w_abs, w_min, w_max, w_tup, w_lst, w_new, w_list, w_listN, w_ix, w_ixT, w_ixD, w_inT1, w_notinT1, w_inT2, w_notinT2, w_inT3, w_notinT3, w_inT4, w_notinT4, w_inT5, w_notinT5, w_inT6, w_notinT6, w_inT7, w_notinT7, w_inT8, w_notinT8, w_sl1, at_0, at_1, at_2, at_3, at_4, at_5, hasTy_list, hasTy_str, isNonD, flatD, sEq_T, List.all_cons, List.all_nil, List.any_cons, List.any_nil, Bool.and_true, Bool.true_and, Bool.or_false, Bool.or_true, Bool.true_or, Bool.false_or, Bool.not_true, Bool.not_false, List.length_cons, List.length_nil, Nat.zero_add, Nat.reduceAdd, line_eq, true_and, and_true, String.reduceBEq, Int.reduceBEq, decide_true, decide_false, Int.reduceLT, Int.reduceLE, beq_self_eq_true, Nat.reduceLeDiff, wS_raise, wp_xinit, wp_sets0, wp_sets1, wp_fs, wp_xf, wp_xis, hdQ, setO, List.map_cons, List.map_nil, tabF_cons, tabF_nil, lview, w_inU1, w_inU2, w_inU3, w_inU4, w_notinU1, w_notinU2, w_notinU3, w_notinU4, wp_lcN, and_self, or_true, true_or, or_false, false_or, not_true_eq_false, not_false_eq_true, ne_eq, reduceCtorEq, List.cons.injEq, Bool.and_false, Bool.false_and, Bool.and_self, Bool.or_self, List.mem_cons, List.not_mem_nil, isSub, ty_tup, ty_lst, ty_int, ty_bl, ty_str, ty_non, nb, Bool.and_eq_true, Bool.or_eq_true, decide_eq_true_eq, beq_iff_eq, Int.cast_ofNat_Int, List.lookup_cons, List.lookup_nil, str_beq, insOf, not_true_eq_false, gok0]
  refine wp_mFzE ?_
  try simp only [wp_rep, wp_meth, w_lenSo, w_tupT, w_tupL, List.length_map, wp_ok, wp_bad, wp_bind, wS_ok, wS_bad, wS_cons, wS_nil, wS_pass, wS_break, wS_cont, wS_never, wS_set, wS_expr, wS_ret, wS_retN, wS_if, wS_asg, wS_aug, wS_for, wp_lc, wp_m1, wp_m2, wp_mN, wp_aNil, wp_aCons, wp_mC, wp_var, wp_if2, wp_and2, wp_or2, wp_not, wp_chain2, isBl_bl, andK_p, orK_p, andV_p, orV_p, iteK_p, andK_t, andK_f, orK_t, orK_f, andV_t, andV_f, orV_t, orV_f, iteK_t, iteK_f, wp_tTru2, dTru_bl, dTru_lst, dTru_int, dTru_non, wp_mt, wp_get, wp_isi, wp_fld, wp_sl, wp_oNone, wp_oSome, wp_tBool, wp_tNot, wp_tAnd2, wp_tOr2, wp_tAll, wp_gSlot, wp_gsNil, wp_gsCons, wp_gTup, wp_gSub, wp_iAny, wp_iSeq, wp_iTup, wp_iStr, wp_iRange1, wp_iRange2, wp_iZip, wS_fld, wp_make, seqQ, rtQ, turnQ, List.getElem?_cons_zero, List.getElem?_cons_succ, List.set_cons_zero, List.set_cons_succ, wipeD, if_true, if_false, Bool.false_eq_true, Bool.true_eq_false, reduceIte, w_add, w_iadd, w_iaddS, w_addS, w_addL, w_addT, w_sub, w_mul, w_mod, w_fdiv, w_pow, w_neg, w_lt, w_le, w_gt, w_ge, w_eqI, w_neI, w_eqT, w_neT, w_isN, w_isnotN, w_isB, w_isNB, w_len, w_lenT, w_int, w_intB, w_abs, w_min, w_max, w_tup, w_lst, w_new, w_list, w_listN, w_ix, w_ixT, w_ixD, w_inT1, w_notinT1, w_inT2, w_notinT2, w_inT3, w_notinT3, w_inT4, w_notinT4, w_inT5, w_notinT5, w_inT6, w_notinT6, w_inT7, w_notinT7, w_inT8, w_notinT8, w_sl1, at_0, at_1, at_2, at_3, at_4, at_5, hasTy_list, hasTy_str, isNonD, flatD, sEq_T, List.all_cons, List.all_nil, List.any_cons, List.any_nil, Bool.and_true, Bool.true_and, Bool.or_false, Bool.or_true, Bool.true_or, Bool.false_or, Bool.not_true, Bool.not_false, List.length_cons, List.length_nil, Nat.zero_add, Nat.reduceAdd, line_eq, true_and, and_true, String.reduceBEq, Int.reduceBEq, decide_true, decide_false, Int.reduceLT, Int.reduceLE, beq_self_eq_true, Nat.reduceLeDiff, wS_raise, wp_xinit, wp_sets0, wp_sets1, wp_fs, wp_xf, wp_xis, hdQ, setO, List.map_cons, List.map_nil, tabF_cons, tabF_nil, lview, w_inU1, w_inU2, w_inU3, w_inU4, w_notinU1, w_notinU2, w_notinU3, w_notinU4, wp_lcN, and_self, or_true, true_or, or_false, false_or, not_true_eq_false, not_false_eq_true, ne_eq, reduceCtorEq, List.cons.injEq, Bool.and_false, Bool.false_and, Bool.and_self, Bool.or_self, List.mem_cons, List.not_mem_nil, isSub, ty_tup, ty_lst, ty_int, ty_bl, ty_str, ty_non, nb, Bool.and_eq_true, Bool.or_eq_true, decide_eq_true_eq, beq_iff_eq, Int.cast_ofNat_Int, List.lookup_cons, List.lookup_nil, str_beq, insOf, not_true_eq_false, gok0]
  refine wp_mapP (enc := markL) (f := markL) (gd := none) trivial (fun m hm Q2 h => ?_) ⟨by have := hz.1; omega, ?_⟩
  · try simp only [wp_rep, wp_meth, w_lenSo, w_tupT, w_tupL, List.length_map, wp_ok, wp_bad, wp_bind, wS_ok, wS_bad, wS_cons, wS_nil, wS_pass, wS_break, wS_cont, wS_never, wS_set, wS_expr, wS_ret, wS_retN, wS_if, wS_asg, wS_aug, wS_for, wp_lc, wp_m1, wp_m2, wp_mN, wp_aNil, wp_aCons, wp_mC, wp_var, wp_if2, wp_and2, wp_or2, wp_not, wp_chain2, isBl_bl, andK_p, orK_p, andV_p, orV_p, iteK_p, andK_t, andK_f, orK_t, orK_f, andV_t, andV_f, orV_t, orV_f, iteK_t, iteK_f, wp_tTru2, dTru_bl, dTru_lst, dTru_int, dTru_non, wp_mt, wp_get, wp_isi, wp_fld, wp_sl, wp_oNone, wp_oSome, wp_tBool, wp_tNot, wp_tAnd2, wp_tOr2, wp_tAll, wp_gSlot, wp_gsNil, wp_gsCons, wp_gTup, wp_gSub, wp_iAny, wp_iSeq, wp_iTup, wp_iStr, wp_iRange1, wp_iRange2, wp_iZip, wS_fld, wp_make, seqQ, rtQ, turnQ, List.getElem?_cons_zero, List.getElem?_cons_succ, List.set_cons_zero, List.set_cons_succ, wipeD, if_true, if_false, Bool.false_eq_true, Bool.true_eq_false, reduceIte, w_add, w_iadd, w_iaddS, w_addS, w_addL, w_addT, w_sub, w_mul, w_mod, w_fdiv, w_pow, w_neg, w_lt, w_le, w_gt, w_ge, w_eqI, w_neI, w_eqT, w_neT, w_isN, w_isnotN, w_isB, w_isNB, w_len, w_lenT, w_int, w_intB, w_abs, w_min, w_max, w_tup, w_lst, w_new, w_list, w_listN, w_ix, w_ixT, w_ixD, w_inT1, w_notinT1, w_inT2, w_notinT2, w_inT3, w_notinT3, w_inT4, w_notinT4, w_inT5, w_notinT5, w_inT6, w_notinT6, w_inT7, w_notinT7, w_inT8, w_notinT8, w_sl1, at_0, at_1, at_2, at_3, at_4, at_5, hasTy_list, hasTy_str, isNonD, flatD, sEq_T, List.all_cons, List.all_nil, List.any_cons, List.any_nil, Bool.and_true, Bool.true_and, Bool.or_false, Bool.or_true, Bool.true_or, Bool.false_or, Bool.not_true, Bool.not_false, List.length_cons, List.length_nil, Nat.zero_add, Nat.reduceAdd, line_eq, true_and, and_true, String.reduceBEq, Int.reduceBEq, decide_true, decide_false, Int.reduceLT, Int.reduceLE, beq_self_eq_true, Nat.reduceLeDiff, wS_raise, wp_xinit, wp_sets0, wp_sets1, wp_fs, wp_xf, wp_xis, hdQ, setO, List.map_cons, List.map_nil, tabF_cons, tabF_nil, lview, w_inU1, w_inU2, w_inU3, w_inU4, w_notinU1, w_notinU2, w_notinU3, w_notinU4, wp_lcN, and_self, or_true, true_or, or_false, false_or, not_true_eq_false, not_false_eq_true, ne_eq, reduceCtorEq, List.cons.injEq, Bool.and_false, Bool.false_and, Bool.and_self, Bool.or_self, List.mem_cons, List.not_mem_nil, isSub, ty_tup, ty_lst, ty_int, ty_bl, ty_str, ty_non, nb, Bool.and_eq_true, Bool.or_eq_true, decide_eq_true_eq, beq_iff_eq, Int.cast_ofNat_Int, List.lookup_cons, List.lookup_nil, str_beq, insOf, not_true_eq_false, gok0]
    rw [ml]
    try simp only [wp_rep, wp_meth, w_lenSo, w_tupT, w_tupL, List.length_map, wp_ok, wp_bad, wp_bind, wS_ok, wS_bad, wS_cons, wS_nil, wS_pass, wS_break, wS_cont, wS_never, wS_set, wS_expr, wS_ret, wS_retN, wS_if, wS_asg, wS_aug, wS_for, wp_lc, wp_m1, wp_m2, wp_mN, wp_aNil, wp_aCons, wp_mC, wp_var, wp_if2, wp_and2, wp_or2, wp_not, wp_chain2, isBl_bl, andK_p, orK_p, andV_p, orV_p, iteK_p, andK_t, andK_f, orK_t, orK_f, andV_t, andV_f, orV_t, orV_f, iteK_t, iteK_f, wp_tTru2, dTru_bl, dTru_lst, dTru_int, dTru_non, wp_mt, wp_get, wp_isi, wp_fld, wp_sl, wp_oNone, wp_oSome, wp_tBool, wp_tNot, wp_tAnd2, wp_tOr2, wp_tAll, wp_gSlot, wp_gsNil, wp_gsCons, wp_gTup, wp_gSub, wp_iAny, wp_iSeq, wp_iTup, wp_iStr, wp_iRange1, wp_iRange2, wp_iZip, wS_fld, wp_make, seqQ, rtQ, turnQ, List.getElem?_cons_zero, List.getElem?_cons_succ, List.set_cons_zero, List.set_cons_succ, wipeD, if_true, if_false, Bool.false_eq_true, Bool.true_eq_false, reduceIte, w_add, w_iadd, w_iaddS, w_addS, w_addL, w_addT, w_sub, w_mul, w_mod, w_fdiv, w_pow, w_neg, w_lt, w_le, w_gt, w_ge, w_eqI, w_neI, w_eqT, w_neT, w_isN, w_isnotN, w_isB, w_isNB, w_len, w_lenT, w_int, w_intB, w_abs, w_min, w_max, w_tup, w_lst, w_new, w_list, w_listN, w_ix, w_ixT, w_ixD, w_inT1, w_notinT1, w_inT2, w_notinT2, w_inT3, w_notinT3, w_inT4, w_notinT4, w_inT5, w_notinT5, w_inT6, w_notinT6, w_inT7, w_notinT7, w_inT8, w_notinT8, w_sl1, at_0, at_1, at_2, at_3, at_4, at_5, hasTy_list, hasTy_str, isNonD, flatD, sEq_T, List.all_cons, List.all_nil, List.any_cons, List.any_nil, Bool.and_true, Bool.true_and, Bool.or_false, Bool.or_true, Bool.true_or, Bool.false_or, Bool.not_true, Bool.not_false, List.length_cons, List.length_nil, Nat.zero_add, Nat.reduceAdd, line_eq, true_and, and_true, String.reduceBEq, Int.reduceBEq, decide_true, decide_false, Int.reduceLT, Int.reduceLE, beq_self_eq_true, Nat.reduceLeDiff, wS_raise, wp_xinit, wp_sets0, wp_sets1, wp_fs, wp_xf, wp_xis, hdQ, setO, List.map_cons, List.map_nil, tabF_cons, tabF_nil, lview, w_inU1, w_inU2, w_inU3, w_inU4, w_notinU1, w_notinU2, w_notinU3, w_notinU4, wp_lcN, and_self, or_true, true_or, or_false, false_or, not_true_eq_false, not_false_eq_true, ne_eq, reduceCtorEq, List.cons.injEq, Bool.and_false, Bool.false_and, Bool.and_self, Bool.or_self, List.mem_cons, List.not_mem_nil, isSub, ty_tup, ty_lst, ty_int, ty_bl, ty_str, ty_non, nb, Bool.and_eq_true, Bool.or_eq_true, decide_eq_true_eq, beq_iff_eq, Int.cast_ofNat_Int, List.lookup_cons, List.lookup_nil, str_beq, insOf, not_true_eq_false, gok0]
    exact h
  · refine row_wp rule_l hz hs (fun e => absurd e hne) fun _ => ?_
    unfold xD
    simp only [hdW, tabF_cons, tabF_nil]
    try simp only [wp_rep, wp_meth, w_lenSo, w_tupT, w_tupL, List.length_map, wp_ok, wp_bad, wp_bind, wS_ok, wS_bad, wS_cons, wS_nil, wS_pass, wS_break, wS_cont, wS_never, wS_set, wS_expr, wS_ret, wS_retN, wS_if, wS_asg, wS_aug, wS_for, wp_lc, wp_m1, wp_m2, wp_mN, wp_aNil, wp_aCons, wp_mC, wp_var, wp_if2, wp_and2, wp_or2, wp_not, wp_chain2, isBl_bl, andK_p, orK_p, andV_p, orV_p, iteK_p, andK_t, andK_f, orK_t, orK_f, andV_t, andV_f, orV_t, orV_f, iteK_t, iteK_f, wp_tTru2, dTru_bl, dTru_lst, dTru_int, dTru_non, wp_mt, wp_get, wp_isi, wp_fld, wp_sl, wp_oNone, wp_oSome, wp_tBool, wp_tNot, wp_tAnd2, wp_tOr2, wp_tAll, wp_gSlot, wp_gsNil, wp_gsCons, wp_gTup, wp_gSub, wp_iAny, wp_iSeq, wp_iTup, wp_iStr, wp_iRange1, wp_iRange2, wp_iZip, wS_fld, wp_make, seqQ, rtQ, turnQ, List.getElem?_cons_zero, List.getElem?_cons_succ, List.set_cons_zero, List.set_cons_succ, wipeD, if_true, if_false, Bool.false_eq_true, Bool.true_eq_false, reduceIte, w_add, w_iadd, w_iaddS, w_addS, w_addL, w_addT, w_sub, w_mul, w_mod, w_fdiv, w_pow, w_neg, w_lt, w_le, w_gt, w_ge, w_eqI, w_neI, w_eqT, w_neT, w_isN, w_isnotN, w_isB, w_isNB, w_len, w_lenT, w_int, w_intB, w_abs, w_min, w_max, w_tup, w_lst, w_new, w_list, w_listN, w_ix, w_ixT, w_ixD, w_inT1, w_notinT1, w_inT2, w_notinT2, w_inT3, w_notinT3, w_inT4, w_notinT4, w_inT5, w_notinT5, w_inT6, w_notinT6, w_inT7, w_notinT7, w_inT8, w_notinT8, w_sl1, at_0, at_1, at_2, at_3, at_4, at_5, hasTy_list, hasTy_str, isNonD, flatD, sEq_T, List.all_cons, List.all_nil, List.any_cons, List.any_nil, Bool.and_true, Bool.true_and, Bool.or_false, Bool.or_true, Bool.true_or, Bool.false_or, Bool.not_true, Bool.not_false, List.length_cons, List.length_nil, Nat.zero_add, Nat.reduceAdd, line_eq, true_and, and_true, String.reduceBEq, Int.reduceBEq, decide_true, decide_false, Int.reduceLT, Int.reduceLE, beq_self_eq_true, Nat.reduceLeDiff, wS_raise, wp_xinit, wp_sets0, wp_sets1, wp_fs, wp_xf, wp_xis, hdQ, setO, List.map_cons, List.map_nil, tabF_cons, tabF_nil, lview, w_inU1, w_inU2, w_inU3, w_inU4, w_notinU1, w_notinU2, w_notinU3, w_notinU4, wp_lcN, and_self, or_true, true_or, or_false, false_or, not_true_eq_false, not_false_eq_true, ne_eq, reduceCtorEq, List.cons.injEq, Bool.and_false, Bool.false_and, Bool.and_self, Bool.or_self, List.mem_cons, List.not_mem_nil, isSub, ty_tup, ty_lst, ty_int, ty_bl, ty_str, ty_non, nb, Bool.and_eq_true, Bool.or_eq_true, decide_eq_true_eq, beq_iff_eq, Int.cast_ofNat_Int, List.lookup_cons, List.lookup_nil, str_beq, insOf, not_true_eq_false, gok0]
    intro k'
    exact fz_bl0 hs k
/-! ### a row that is built -/
def mkO (m : Mark) : O := .lst (m.map pairD)
def refs (n : Nat) (r : List Mark) : List D := (List.range r.length).map fun i => D.ref (n + i)
theorem copy_wp {all : List D} {Q : List D → S → Prop} {v0 v1 v2 v3 : Option D} {r : List Mark} (k : Q (refs s.length r) (s ++ r.map mkO)) : wp (mapL none all (gSlot 3) tAll (mN (dList true) (aCons (mVar 3) aNil)) (r.map markL) [v0, v1, v2, v3] s) Q := by
  refine wp_mapN (I := fun rest acc s' => ∃ us vs, r = us ++ vs ∧ rest = vs.map markL ∧ acc = refs s.length us ∧ s' = s ++ us.map mkO) ?_ _ [] s ⟨[], r, rfl, rfl, rfl, by simp⟩ ?_
  · rintro x rest a s' ⟨us, vs, e1, e2, rfl, rfl⟩
    cases vs with
    | nil => cases e2
    | cons v vs =>
      cases e2
      try simp only [wp_rep, wp_meth, w_lenSo, w_tupT, w_tupL, List.length_map, wp_ok, wp_bad, wp_bind, wS_ok, wS_bad, wS_cons, wS_nil, wS_pass, wS_break, wS_cont, wS_never, wS_set, wS_expr, wS_ret, wS_retN, wS_if, wS_asg, wS_aug, wS_for, wp_lc, wp_m1, wp_m2, wp_mN, wp_aNil, wp_aCons, wp_mC, wp_var, wp_if2, wp_and2, wp_or2, wp_not, wp_chain2, isBl_bl, andK_p, orK_p, andV_p, orV_p, iteK_p, andK_t, andK_f, orK_t, orK_f, andV_t, andV_f, orV_t, orV_f, iteK_t, iteK_f, wp_tTru2, dTru_bl, dTru_lst, dTru_int, dTru_non, wp_mt, wp_get, wp_isi, wp_fld, wp_sl, wp_oNone, wp_oSome, wp_tBool, wp_tNot, wp_tAnd2, wp_tOr2, wp_tAll, wp_gSlot, wp_gsNil, wp_gsCons, wp_gTup, wp_gSub, wp_iAny, wp_iSeq, wp_iTup, wp_iStr, wp_iRange1, wp_iRange2, wp_iZip, wS_fld, wp_make, seqQ, rtQ, turnQ, List.getElem?_cons_zero, List.getElem?_cons_succ, List.set_cons_zero, List.set_cons_succ, wipeD, if_true, if_false, Bool.false_eq_true, Bool.true_eq_false, reduceIte, w_add, w_iadd, w_iaddS, w_addS, w_addL, w_addT, w_sub, w_mul, w_mod, w_fdiv, w_pow, w_neg, w_lt, w_le, w_gt, w_ge, w_eqI, w_neI, w_eqT, w_neT, w_isN, w_isnotN, w_isB, w_isNB, w_len, w_lenT, w_int, w_intB, w_abs, w_min, w_max, w_tup, w_lst, w_new, w_list, w_listN, w_ix, w_ixT, w_ixD, w_inT1, w_notinT1, w_inT2, w_notinT2, w_inT3, w_notinT3, w_inT4, w_notinT4, w_inT5, w_notinT5, w_inT6, w_notinT6, w_inT7, w_notinT7, w_inT8, w_notinT8, w_sl1, at_0, at_1, at_2, at_3, at_4, at_5, hasTy_list, hasTy_str, isNonD, flatD, sEq_T, List.all_cons, List.all_nil, List.any_cons, List.any_nil, Bool.and_true, Bool.true_and, Bool.or_false, Bool.or_true, Bool.true_or, Bool.false_or, Bool.not_true, Bool.not_false, List.length_cons, List.length_nil, Nat.zero_add, Nat.reduceAdd, line_eq, true_and, and_true, String.reduceBEq, Int.reduceBEq, decide_true, decide_false, Int.reduceLT, Int.reduceLE, beq_self_eq_true, Nat.reduceLeDiff, wS_raise, wp_xinit, wp_sets0, wp_sets1, wp_fs, wp_xf, wp_xis, hdQ, setO, List.map_cons, List.map_nil, tabF_cons, tabF_nil, lview, w_inU1, w_inU2, w_inU3, w_inU4, w_notinU1, w_notinU2, w_notinU3, w_notinU4, wp_lcN, and_self, or_true, true_or, or_false, false_or, not_true_eq_false, not_false_eq_true, ne_eq, reduceCtorEq, List.cons.injEq, Bool.and_false, Bool.false_and, Bool.and_self, Bool.or_self, List.mem_cons, List.not_mem_nil, isSub, ty_tup, ty_lst, ty_int, ty_bl, ty_str, ty_non, nb, Bool.and_eq_true, Bool.or_eq_true, decide_eq_true_eq, beq_iff_eq, Int.cast_ofNat_Int, List.lookup_cons, List.lookup_nil, str_beq, insOf, not_true_eq_false, gok0]
      rw [ml]
      try simp only [wp_rep, wp_meth, w_lenSo, w_tupT, w_tupL, List.length_map, wp_ok, wp_bad, wp_bind, wS_ok, wS_bad, wS_cons, wS_nil, wS_pass, wS_break, wS_cont, wS_never, wS_set, wS_expr, wS_ret, wS_retN, wS_if, wS_asg, wS_aug, wS_for, wp_lc, wp_m1, wp_m2, wp_mN, wp_aNil, wp_aCons, wp_mC, wp_var, wp_if2, wp_and2, wp_or2, wp_not, wp_chain2, isBl_bl, andK_p, orK_p, andV_p, orV_p, iteK_p, andK_t, andK_f, orK_t, orK_f, andV_t, andV_f, orV_t, orV_f, iteK_t, iteK_f, wp_tTru2, dTru_bl, dTru_lst, dTru_int, dTru_non, wp_mt, wp_get, wp_isi, wp_fld, wp_sl, wp_oNone, wp_oSome, wp_tBool, wp_tNot, wp_tAnd2, wp_tOr2, wp_tAll, wp_gSlot, wp_gsNil, wp_gsCons, wp_gTup, wp_gSub, wp_iAny, wp_iSeq, wp_iTup, wp_iStr, wp_iRange1, wp_iRange2, wp_iZip, wS_fld, wp_make, seqQ, rtQ, turnQ, List.getElem?_cons_zero, List.getElem?_cons_succ, List.set_cons_zero, List.set_cons_succ, wipeD, if_true, if_false, Bool.false_eq_true, Bool.true_eq_false, reduceIte, w_add, w_iadd, w_iaddS, w_addS, w_addL, w_addT, w_sub, w_mul, w_mod, w_fdiv, w_pow, w_neg, w_lt, w_le, w_gt, w_ge, w_eqI, w_neI, w_eqT, w_neT, w_isN, w_isnotN, w_isB, w_isNB, w_len, w_lenT, w_int, w_intB, w_abs, w_min, w_max, w_tup, w_lst, w_new, w_list, w_listN, w_ix, w_ixT, w_ixD, w_inT1, w_notinT1, w_inT2, w_notinT2, w_inT3, w_notinT3, w_inT4, w_notinT4, w_inT5, w_notinT5, w_inT6, w_notinT6, w_inT7, w_notinT7, w_inT8, w_notinT8, w_sl1, at_0, at_1, at_2, at_3, at_4, at_5, hasTy_list, hasTy_str, isNonD, flatD, sEq_T, List.all_cons, List.all_nil, List.any_cons, List.any_nil, Bool.and_true, Bool.true_and, Bool.or_false, Bool.or_true, Bool.true_or, Bool.false_or, Bool.not_true, Bool.not_false, List.length_cons, List.length_nil, Nat.zero_add, Nat.reduceAdd, line_eq, true_and, and_true, String.reduceBEq, Int.reduceBEq, decide_true, decide_false, Int.reduceLT, Int.reduceLE, beq_self_eq_true, Nat.reduceLeDiff, wS_raise, wp_xinit, wp_sets0, wp_sets1, wp_fs, wp_xf, wp_xis, hdQ, setO, List.map_cons, List.map_nil, tabF_cons, tabF_nil, lview, w_inU1, w_inU2, w_inU3, w_inU4, w_notinU1, w_notinU2, w_notinU3, w_notinU4, wp_lcN, and_self, or_true, true_or, or_false, false_or, not_true_eq_false, not_false_eq_true, ne_eq, reduceCtorEq, List.cons.injEq, Bool.and_false, Bool.false_and, Bool.and_self, Bool.or_self, List.mem_cons, List.not_mem_nil, isSub, ty_tup, ty_lst, ty_int, ty_bl, ty_str, ty_non, nb, Bool.and_eq_true, Bool.or_eq_true, decide_eq_true_eq, beq_iff_eq, Int.cast_ofNat_Int, List.lookup_cons, List.lookup_nil, str_beq, insOf, not_true_eq_false, gok0]
      refine ⟨us ++ [v], vs, by rw [e1]; simp, rfl, ?_, by simp [mkO]⟩
      unfold refs
      simp [List.range_succ]
  · rintro a' s' ⟨us, vs, e1, e2, e3, rfl⟩
    cases vs with
    | cons v vs => cases e2
    | nil =>
      rw [List.append_nil] at e1
      subst e1
      rw [List.nil_append] at e3
      rw [e3]
      exact k
theorem cp_at {r : List Mark} {t : S} {i : Nat} (hi : i < r.length) : (s ++ (r.map mkO ++ t))[s.length + i]? = some (.lst (r[i].map pairD)) := by
  rw [List.getElem?_append_right (by omega), Nat.add_sub_cancel_left, List.getElem?_append_left (by simp; omega), List.getElem?_map, List.getElem?_eq_getElem hi]
  rfl
theorem cp_last {r : List Mark} {o : O} {t : S} : (s ++ (r.map mkO ++ o :: t))[s.length + r.length]? = some o := by
  rw [List.getElem?_append_right (by omega), Nat.add_sub_cancel_left, List.getElem?_append_right (by simp)]
  simp
theorem refs_at {n : Nat} {r : List Mark} {i : Nat} (hi : i < r.length) : (refs n r)[i]? = some (.ref (n + i)) := by
  unfold refs
  rw [List.getElem?_map, List.getElem?_range hi]
  rfl
theorem refs_py {r : List Mark} {t : S} {k : Nat} : optAll (toPy (s ++ (r.map mkO ++ t)) k) (refs s.length r) = optAll (toPy (s ++ (r.map mkO ++ t)) k) (r.map markL) := by
  have : ∀ (xs ys : List D), xs.length = ys.length → (∀ (i : Nat) (x y : D), xs[i]? = some x → ys[i]? = some y → toPy (s ++ (r.map mkO ++ t)) k x = toPy (s ++ (r.map mkO ++ t)) k y) → optAll (toPy (s ++ (r.map mkO ++ t)) k) xs = optAll (toPy (s ++ (r.map mkO ++ t)) k) ys := by
    intro xs
    induction xs with
    | nil => intro ys h _; cases ys with | nil => rfl | cons y ys => cases h
    | cons x xs ih =>
      intro ys h hh
      cases ys with
      | nil => cases h
      | cons y ys => simp only [optAll, hh 0 x y rfl rfl, ih ys (by simpa using h) (fun i x y h1 h2 => hh (i + 1) x y h1 h2)]
  refine this _ _ (by simp [refs]) fun i x y h1 h2 => ?_
  have hi : i < r.length := by have := (List.getElem?_eq_some_iff.mp h1).1; simpa [refs] using this
  rw [refs_at hi] at h1
  rw [List.getElem?_map, List.getElem?_eq_getElem hi] at h2
  cases h1
  cases h2
  exact toPy_ref (cp_at hi) k
theorem refs_ne {r : List Mark} {t : S} : wp (dNe (.ref (s.length + r.length)) (.lst (r.map markL)) (s ++ (r.map mkO ++ .lst (refs s.length r) :: t))) Q E = Q (.bl false) (s ++ (r.map mkO ++ .lst (refs s.length r) :: t)) := by
  rw [ne_refL cp_last]
  have e : dNe (.lst (refs s.length r)) (.lst (r.map markL)) (s ++ (r.map mkO ++ .lst (refs s.length r) :: t)) = dNe (.lst (r.map markL)) (.lst (r.map markL)) (s ++ (r.map mkO ++ .lst (refs s.length r) :: t)) := by
    unfold dNe
    simp only [toPy, refs_py]
  rw [e]
  exact (w_neE enc_rule (by decide) (x := r) (y := r)).trans (by simp)
theorem refs_v {r : List Mark} {t : S} : RuleV (s ++ (r.map mkO ++ .lst (refs s.length r) :: t)) (.ref (s.length + r.length)) r :=
  ⟨refs s.length r, by simp [refs], fun i x m h1 h2 => by
    have hi : i < r.length := (List.getElem?_eq_some_iff.mp h2).1
    rw [refs_at hi] at h1
    rw [List.getElem?_eq_getElem hi] at h2
    cases h1
    cases h2
    exact .inr (.inr ⟨_, rfl, cp_at hi⟩), .inr ⟨_, rfl, cp_last⟩⟩
theorem stOk_iff {n : Nat} {s : S} : stOk n s = true ↔ ∀ o ∈ s.take n, ltO n o = true := by unfold stOk; rw [List.all_eq_true]
theorem lt_pairs {n : Nat} : ∀ m : Mark, ltDs n (m.map pairD) = true := fin_lts (fin_pair fin_int fin_int)
theorem lt_refs {n k : Nat} {r : List Mark} (h : k + r.length ≤ n) : ltDs n (refs k r) = true := by
  have : ∀ l : List Nat, (∀ i ∈ l, i < r.length) → ltDs n (l.map fun i => D.ref (k + i)) = true := by
    intro l
    induction l with
    | nil => intro _; rfl
    | cons i l ih =>
      intro hl
      have hi := hl i (List.mem_cons_self ..)
      simp only [List.map_cons, ltDs, ltD, ih fun j hj => hl j (List.mem_cons_of_mem _ hj), Bool.and_true, decide_eq_true_eq]
      omega
  exact this _ fun i hi => List.mem_range.mp hi
theorem wrong_ok {p : Prt} (he : wrong p = "") : 1 ≤ p.rule.length ∧ p.rule.length ≤ 4 ∧ ∀ m ∈ p.rule, m.length = 6 := by
  have h : ruleB p.rule = true := by
    unfold wrong at he
    grind
  unfold ruleB at h
  simp only [Bool.and_eq_true, decide_eq_true_eq, List.all_eq_true] at h
  refine ⟨h.1.1, h.1.2, fun m hm => ?_⟩
  have := h.2 m hm
  unfold markB at this
  simp only [Bool.and_eq_true, decide_eq_true_eq] at this
  exact this.1
theorem built_wp {p : Prt} (he : wrong p = "") (hs : stOk s.length s = true) (k : Q (.bl true) s) : wp (f_law_built [p.d] s) Q E := by
  obtain ⟨h1, h4, h6⟩ := wrong_ok he
  refine wp_mkFz ((wp_fn (n := 1) (tot := 4) (m := m_law_built) rfl).mpr ?_)
  show wS (m_law_built [some p.d, none, none, none] _) _ _
  unfold m_law_built Prt.d
  try simp only [wp_rep, wp_meth, w_lenSo, w_tupT, w_tupL, List.length_map, wp_ok, wp_bad, wp_bind, wS_ok, wS_bad, wS_cons, wS_nil, wS_pass, wS_break, wS_cont, wS_never, wS_set, wS_expr, wS_ret, wS_retN, wS_if, wS_asg, wS_aug, wS_for, wp_lc, wp_m1, wp_m2, wp_mN, wp_aNil, wp_aCons, wp_mC, wp_var, wp_if2, wp_and2, wp_or2, wp_not, wp_chain2, isBl_bl, andK_p, orK_p, andV_p, orV_p, iteK_p, andK_t, andK_f, orK_t, orK_f, andV_t, andV_f, orV_t, orV_f, iteK_t, iteK_f, wp_tTru2, dTru_bl, dTru_lst, dTru_int, dTru_non, wp_mt, wp_get, wp_isi, wp_fld, wp_sl, wp_oNone, wp_oSome, wp_tBool, wp_tNot, wp_tAnd2, wp_tOr2, wp_tAll, wp_gSlot, wp_gsNil, wp_gsCons, wp_gTup, wp_gSub, wp_iAny, wp_iSeq, wp_iTup, wp_iStr, wp_iRange1, wp_iRange2, wp_iZip, wS_fld, wp_make, seqQ, rtQ, turnQ, List.getElem?_cons_zero, List.getElem?_cons_succ, List.set_cons_zero, List.set_cons_succ, wipeD, if_true, if_false, Bool.false_eq_true, Bool.true_eq_false, reduceIte, w_add, w_iadd, w_iaddS, w_addS, w_addL, w_addT, w_sub, w_mul, w_mod, w_fdiv, w_pow, w_neg, w_lt, w_le, w_gt, w_ge, w_eqI, w_neI, w_eqT, w_neT, w_isN, w_isnotN, w_isB, w_isNB, w_len, w_lenT, w_int, w_intB, w_abs, w_min, w_max, w_tup, w_lst, w_new, w_list, w_listN, w_ix, w_ixT, w_ixD, w_inT1, w_notinT1, w_inT2, w_notinT2, w_inT3, w_notinT3, w_inT4, w_notinT4, w_inT5, w_notinT5, w_inT6, w_notinT6, w_inT7, w_notinT7, w_inT8, w_notinT8, w_sl1, at_0, at_1, at_2, at_3, at_4, at_5, hasTy_list, hasTy_str, isNonD, flatD, sEq_T, List.all_cons, List.all_nil, List.any_cons, List.any_nil, Bool.and_true, Bool.true_and, Bool.or_false, Bool.or_true, Bool.true_or, Bool.false_or, Bool.not_true, Bool.not_false, List.length_cons, List.length_nil, Nat.zero_add, Nat.reduceAdd, line_eq, true_and, and_true, String.reduceBEq, Int.reduceBEq, decide_true, decide_false, Int.reduceLT, Int.reduceLE, beq_self_eq_true, Nat.reduceLeDiff, wS_raise, wp_xinit, wp_sets0, wp_sets1, wp_fs, wp_xf, wp_xis, hdQ, setO, List.map_cons, List.map_nil, tabF_cons, tabF_nil, lview, w_inU1, w_inU2, w_inU3, w_inU4, w_notinU1, w_notinU2, w_notinU3, w_notinU4, wp_lcN, and_self, or_true, true_or, or_false, false_or, not_true_eq_false, not_false_eq_true, ne_eq, reduceCtorEq, List.cons.injEq, Bool.and_false, Bool.false_and, Bool.and_self, Bool.or_self, List.mem_cons, List.not_mem_nil, isSub, ty_tup, ty_lst, ty_int, ty_bl, ty_str, ty_non, nb, Bool.and_eq_true, Bool.or_eq_true, decide_eq_true_eq, beq_iff_eq, Int.cast_ofNat_Int, List.lookup_cons, List.lookup_nil, str_beq, insOf, not_true_eq_false, gok0]
  refine copy_wp ⟨by omega, ?_⟩
  refine wp_mFzE ?_
  try simp only [wp_rep, wp_meth, w_lenSo, w_tupT, w_tupL, List.length_map, wp_ok, wp_bad, wp_bind, wS_ok, wS_bad, wS_cons, wS_nil, wS_pass, wS_break, wS_cont, wS_never, wS_set, wS_expr, wS_ret, wS_retN, wS_if, wS_asg, wS_aug, wS_for, wp_lc, wp_m1, wp_m2, wp_mN, wp_aNil, wp_aCons, wp_mC, wp_var, wp_if2, wp_and2, wp_or2, wp_not, wp_chain2, isBl_bl, andK_p, orK_p, andV_p, orV_p, iteK_p, andK_t, andK_f, orK_t, orK_f, andV_t, andV_f, orV_t, orV_f, iteK_t, iteK_f, wp_tTru2, dTru_bl, dTru_lst, dTru_int, dTru_non, wp_mt, wp_get, wp_isi, wp_fld, wp_sl, wp_oNone, wp_oSome, wp_tBool, wp_tNot, wp_tAnd2, wp_tOr2, wp_tAll, wp_gSlot, wp_gsNil, wp_gsCons, wp_gTup, wp_gSub, wp_iAny, wp_iSeq, wp_iTup, wp_iStr, wp_iRange1, wp_iRange2, wp_iZip, wS_fld, wp_make, seqQ, rtQ, turnQ, List.getElem?_cons_zero, List.getElem?_cons_succ, List.set_cons_zero, List.set_cons_succ, wipeD, if_true, if_false, Bool.false_eq_true, Bool.true_eq_false, reduceIte, w_add, w_iadd, w_iaddS, w_addS, w_addL, w_addT, w_sub, w_mul, w_mod, w_fdiv, w_pow, w_neg, w_lt, w_le, w_gt, w_ge, w_eqI, w_neI, w_eqT, w_neT, w_isN, w_isnotN, w_isB, w_isNB, w_len, w_lenT, w_int, w_intB, w_abs, w_min, w_max, w_tup, w_lst, w_new, w_list, w_listN, w_ix, w_ixT, w_ixD, w_inT1, w_notinT1, w_inT2, w_notinT2, w_inT3, w_notinT3, w_inT4, w_notinT4, w_inT5, w_notinT5, w_inT6, w_notinT6, w_inT7, w_notinT7, w_inT8, w_notinT8, w_sl1, at_0, at_1, at_2, at_3, at_4, at_5, hasTy_list, hasTy_str, isNonD, flatD, sEq_T, List.all_cons, List.all_nil, List.any_cons, List.any_nil, Bool.and_true, Bool.true_and, Bool.or_false, Bool.or_true, Bool.true_or, Bool.false_or, Bool.not_true, Bool.not_false, List.length_cons, List.length_nil, Nat.zero_add, Nat.reduceAdd, line_eq, true_and, and_true, String.reduceBEq, Int.reduceBEq, decide_true, decide_false, Int.reduceLT, Int.reduceLE, beq_self_eq_true, Nat.reduceLeDiff, wS_raise, wp_xinit, wp_sets0, wp_sets1, wp_fs, wp_xf, wp_xis, hdQ, setO, List.map_cons, List.map_nil, tabF_cons, tabF_nil, lview, w_inU1, w_inU2, w_inU3, w_inU4, w_notinU1, w_notinU2, w_notinU3, w_notinU4, wp_lcN, and_self, or_true, true_or, or_false, false_or, not_true_eq_false, not_false_eq_true, ne_eq, reduceCtorEq, List.cons.injEq, Bool.and_false, Bool.false_and, Bool.and_self, Bool.or_self, List.mem_cons, List.not_mem_nil, isSub, ty_tup, ty_lst, ty_int, ty_bl, ty_str, ty_non, nb, Bool.and_eq_true, Bool.or_eq_true, decide_eq_true_eq, beq_iff_eq, Int.cast_ofNat_Int, List.lookup_cons, List.lookup_nil, str_beq, insOf, not_true_eq_false, gok0]
  try simp only [List.append_assoc, List.cons_append, List.nil_append, List.length_append, List.length_cons, List.length_nil, Nat.zero_add, Nat.add_zero, Nat.add_assoc, Nat.reduceAdd, e_at0, e_at1, e_at2, e_at3, e_set0, e_set1, e_set2, e_set3, putFD, ofS_inj, String.reduceEq, if_true, if_false, reduceIte, true_and, and_true, and_self, Nat.reduceLT, List.map_nil]
  rw [List.length_map]
  generalize hr : p.rule = r at *
  have hS : (s ++ (r.map mkO ++ [O.lst (refs s.length r)])).length = s.length + (r.length + 1) := by simp
  have hok : stOk (s ++ (r.map mkO ++ [O.lst (refs s.length r)])).length (s ++ (r.map mkO ++ [O.lst (refs s.length r)])) = true := by
    rw [stOk_iff, List.take_length]
    intro o ho
    rcases List.mem_append.mp ho with ho | ho
    · have := (stOk_iff.mp hs) o (by rw [List.take_length]; exact ho)
      exact ltO_le (by simp) this
    · rcases List.mem_append.mp ho with ho | ho
      · obtain ⟨m, _, rfl⟩ := List.mem_map.mp ho
        exact lt_pairs m
      · rw [List.mem_singleton.mp ho]
        exact lt_refs (by have := hS; omega)
  have row : ∀ (Q E : D → S → Prop), Q (rowD p) (s ++ (r.map mkO ++ [.lst (refs s.length r)])) → wp (f_Row_init [.ref (s.length + (r.length + 1)), .str (Str.ofString p.mode), .str (Str.ofString p.sh), .str (Str.ofString p.le), .str (Str.ofString p.gr), .ref (s.length + r.length)] (s ++ (r.map mkO ++ [.lst (refs s.length r), .ins "Row" []])))
      (fun d s2 => d = .non ∧ fzQ (s.length + (r.length + 1)) Q (.ref (s.length + (r.length + 1))) s2) (fzQ (s.length + (r.length + 1)) E) := fun Q E k => by
    have := row_wp (s := s ++ (r.map mkO ++ [.lst (refs s.length r)])) (p := p) (d := .ref (s.length + r.length)) (Q := Q) (E := E) (by rw [hr]; simp only [List.append_assoc, List.cons_append, List.nil_append]; exact refs_v) (by rw [hr]; exact ⟨by omega, fun m hm => by rw [h6 m hm]; decide⟩) hok (fun _ => k) fun e => absurd he e
    rw [hS] at this
    simpa only [List.append_assoc, List.cons_append, List.nil_append] using this
  refine row _ _ ?_
  simp only [refs_ne]
  try simp only [wp_rep, wp_meth, w_lenSo, w_tupT, w_tupL, List.length_map, wp_ok, wp_bad, wp_bind, wS_ok, wS_bad, wS_cons, wS_nil, wS_pass, wS_break, wS_cont, wS_never, wS_set, wS_expr, wS_ret, wS_retN, wS_if, wS_asg, wS_aug, wS_for, wp_lc, wp_m1, wp_m2, wp_mN, wp_aNil, wp_aCons, wp_mC, wp_var, wp_if2, wp_and2, wp_or2, wp_not, wp_chain2, isBl_bl, andK_p, orK_p, andV_p, orV_p, iteK_p, andK_t, andK_f, orK_t, orK_f, andV_t, andV_f, orV_t, orV_f, iteK_t, iteK_f, wp_tTru2, dTru_bl, dTru_lst, dTru_int, dTru_non, wp_mt, wp_get, wp_isi, wp_fld, wp_sl, wp_oNone, wp_oSome, wp_tBool, wp_tNot, wp_tAnd2, wp_tOr2, wp_tAll, wp_gSlot, wp_gsNil, wp_gsCons, wp_gTup, wp_gSub, wp_iAny, wp_iSeq, wp_iTup, wp_iStr, wp_iRange1, wp_iRange2, wp_iZip, wS_fld, wp_make, seqQ, rtQ, turnQ, List.getElem?_cons_zero, List.getElem?_cons_succ, List.set_cons_zero, List.set_cons_succ, wipeD, if_true, if_false, Bool.false_eq_true, Bool.true_eq_false, reduceIte, w_add, w_iadd, w_iaddS, w_addS, w_addL, w_addT, w_sub, w_mul, w_mod, w_fdiv, w_pow, w_neg, w_lt, w_le, w_gt, w_ge, w_eqI, w_neI, w_eqT, w_neT, w_isN, w_isnotN, w_isB, w_isNB, w_len, w_lenT, w_int, w_intB, w_abs, w_min, w_max, w_tup, w_lst, w_new, w_list, w_listN, w_ix, w_ixT, w_ixD, w_inT1, w_notinT1, w_inT2, w_notinT2, w_inT3, w_notinT3, w_inT4, w_notinT4, w_inT5, w_notinT5, w_inT6, w_notinT6, w_inT7, w_notinT7, w_inT8, w_notinT8, w_sl1, at_0, at_1, at_2, at_3, at_4, at_5, hasTy_list, hasTy_str, isNonD, flatD, sEq_T, List.all_cons, List.all_nil, List.any_cons, List.any_nil, Bool.and_true, Bool.true_and, Bool.or_false, Bool.or_true, Bool.true_or, Bool.false_or, Bool.not_true, Bool.not_false, List.length_cons, List.length_nil, Nat.zero_add, Nat.reduceAdd, line_eq, true_and, and_true, String.reduceBEq, Int.reduceBEq, decide_true, decide_false, Int.reduceLT, Int.reduceLE, beq_self_eq_true, Nat.reduceLeDiff, wS_raise, wp_xinit, wp_sets0, wp_sets1, wp_fs, wp_xf, wp_xis, hdQ, setO, List.map_cons, List.map_nil, tabF_cons, tabF_nil, lview, w_inU1, w_inU2, w_inU3, w_inU4, w_notinU1, w_notinU2, w_notinU3, w_notinU4, wp_lcN, and_self, or_true, true_or, or_false, false_or, not_true_eq_false, not_false_eq_true, ne_eq, reduceCtorEq, List.cons.injEq, Bool.and_false, Bool.false_and, Bool.and_self, Bool.or_self, List.mem_cons, List.not_mem_nil, isSub, ty_tup, ty_lst, ty_int, ty_bl, ty_str, ty_non, nb, Bool.and_eq_true, Bool.or_eq_true, decide_eq_true_eq, beq_iff_eq, Int.cast_ofNat_Int, List.lookup_cons, List.lookup_nil, str_beq, insOf, not_true_eq_false, gok0]
  have hf : ∀ {s' : S} {Q : D → S → Prop} {E : D → S → Prop}, Q (.bl true) s' → wp (f_law_fields [rowD p, .lst [.str (Str.ofString p.mode), .str (Str.ofString p.sh), .str (Str.ofString p.le), .str (Str.ofString p.gr), .lst (r.map markL)]] s') Q E := fun {s' Q E} k => by
    rw [← hr]
    exact fields_wp (p := p) (by rw [hr]; exact ⟨by omega, h6⟩) k
  refine hf ?_
  try simp only [wp_rep, wp_meth, w_lenSo, w_tupT, w_tupL, List.length_map, wp_ok, wp_bad, wp_bind, wS_ok, wS_bad, wS_cons, wS_nil, wS_pass, wS_break, wS_cont, wS_never, wS_set, wS_expr, wS_ret, wS_retN, wS_if, wS_asg, wS_aug, wS_for, wp_lc, wp_m1, wp_m2, wp_mN, wp_aNil, wp_aCons, wp_mC, wp_var, wp_if2, wp_and2, wp_or2, wp_not, wp_chain2, isBl_bl, andK_p, orK_p, andV_p, orV_p, iteK_p, andK_t, andK_f, orK_t, orK_f, andV_t, andV_f, orV_t, orV_f, iteK_t, iteK_f, wp_tTru2, dTru_bl, dTru_lst, dTru_int, dTru_non, wp_mt, wp_get, wp_isi, wp_fld, wp_sl, wp_oNone, wp_oSome, wp_tBool, wp_tNot, wp_tAnd2, wp_tOr2, wp_tAll, wp_gSlot, wp_gsNil, wp_gsCons, wp_gTup, wp_gSub, wp_iAny, wp_iSeq, wp_iTup, wp_iStr, wp_iRange1, wp_iRange2, wp_iZip, wS_fld, wp_make, seqQ, rtQ, turnQ, List.getElem?_cons_zero, List.getElem?_cons_succ, List.set_cons_zero, List.set_cons_succ, wipeD, if_true, if_false, Bool.false_eq_true, Bool.true_eq_false, reduceIte, w_add, w_iadd, w_iaddS, w_addS, w_addL, w_addT, w_sub, w_mul, w_mod, w_fdiv, w_pow, w_neg, w_lt, w_le, w_gt, w_ge, w_eqI, w_neI, w_eqT, w_neT, w_isN, w_isnotN, w_isB, w_isNB, w_len, w_lenT, w_int, w_intB, w_abs, w_min, w_max, w_tup, w_lst, w_new, w_list, w_listN, w_ix, w_ixT, w_ixD, w_inT1, w_notinT1, w_inT2, w_notinT2, w_inT3, w_notinT3, w_inT4, w_notinT4, w_inT5, w_notinT5, w_inT6, w_notinT6, w_inT7, w_notinT7, w_inT8, w_notinT8, w_sl1, at_0, at_1, at_2, at_3, at_4, at_5, hasTy_list, hasTy_str, isNonD, flatD, sEq_T, List.all_cons, List.all_nil, List.any_cons, List.any_nil, Bool.and_true, Bool.true_and, Bool.or_false, Bool.or_true, Bool.true_or, Bool.false_or, Bool.not_true, Bool.not_false, List.length_cons, List.length_nil, Nat.zero_add, Nat.reduceAdd, line_eq, true_and, and_true, String.reduceBEq, Int.reduceBEq, decide_true, decide_false, Int.reduceLT, Int.reduceLE, beq_self_eq_true, Nat.reduceLeDiff, wS_raise, wp_xinit, wp_sets0, wp_sets1, wp_fs, wp_xf, wp_xis, hdQ, setO, List.map_cons, List.map_nil, tabF_cons, tabF_nil, lview, w_inU1, w_inU2, w_inU3, w_inU4, w_notinU1, w_notinU2, w_notinU3, w_notinU4, wp_lcN, and_self, or_true, true_or, or_false, false_or, not_true_eq_false, not_false_eq_true, ne_eq, reduceCtorEq, List.cons.injEq, Bool.and_false, Bool.false_and, Bool.and_self, Bool.or_self, List.mem_cons, List.not_mem_nil, isSub, ty_tup, ty_lst, ty_int, ty_bl, ty_str, ty_non, nb, Bool.and_eq_true, Bool.or_eq_true, decide_eq_true_eq, beq_iff_eq, Int.cast_ofNat_Int, List.lookup_cons, List.lookup_nil, str_beq, insOf, not_true_eq_false, gok0]
  have a0 : atI (refs s.length r) 0 = some (.ref (s.length + 0)) := (atI_nat (i := 0) (n := 0) rfl).trans (refs_at (by omega))
  rw [w_ixR cp_last, a0]
  simp only
  rw [w_store (cp_at (by omega)) (by omega) (by rw [List.length_map, h6 _ (List.getElem_mem _)]; decide)]
  simp only
  rw [set_ge]
  have e : ∀ o, (s ++ ((r.map mkO ++ [O.lst (refs s.length r)]).set 0 o))[s.length + r.length]? = some (.lst (refs s.length r)) := fun o => by
    rw [at_ge, List.getElem?_set_ne (by omega), List.getElem?_append_right (by simp)]
    simp
  refine ⟨hasTy_ref (e _), ?_⟩
  rw [w_append (e _), set_ge]
  refine ⟨by simp only [refs, List.length_map, List.length_range, line_eq]; omega, ?_⟩
  exact hf (fz_bl hs k)
/-! ### plain rows -/
def plainP (m : String) : Prt := ⟨m, "one", "always", "slot", [still]⟩
theorem wrong_plain {m : String} : wrong (plainP m) = if m = "held" ∨ m = "copied" ∨ m = "refused" then "" else "mode" := by
  have h : ruleB [still] = true := by decide
  unfold wrong plainP
  simp only [h]
  by_cases h1 : m = "held" ∨ m = "copied" ∨ m = "refused" <;> simp [h1]
theorem stillV : RuleV s (.lst [markT still]) [still] := ⟨[markT still], rfl, fun i x m h1 h2 => (by
  cases i with
  | zero => cases h1; cases h2; exact .inr (.inl rfl)
  | succ i => cases h1), .inl rfl⟩
theorem plain_row_wp {m : String} (hs : stOk s.length s = true) (k0 : m = "copied" ∨ m = "refused" → Q (rowD (plainP m)) s) (k1 : ¬ (m = "copied" ∨ m = "refused") → E (xD "mode") s) : wp (f_plain_row [.str (Str.ofString m)] s) Q E := by
  refine (wp_fn (n := 1) (tot := 1) (m := m_plain_row) rfl).mpr ?_
  show wS (m_plain_row [some (.str (Str.ofString m))] _) _ _
  unfold m_plain_row c_STILL d_STILL
  try simp only [wp_rep, wp_meth, w_lenSo, w_tupT, w_tupL, List.length_map, wp_ok, wp_bad, wp_bind, wS_ok, wS_bad, wS_cons, wS_nil, wS_pass, wS_break, wS_cont, wS_never, wS_set, wS_expr, wS_ret, wS_retN, wS_if, wS_asg, wS_aug, wS_for, wp_lc, wp_m1, wp_m2, wp_mN, wp_aNil, wp_aCons, wp_mC, wp_var, wp_if2, wp_and2, wp_or2, wp_not, wp_chain2, isBl_bl, andK_p, orK_p, andV_p, orV_p, iteK_p, andK_t, andK_f, orK_t, orK_f, andV_t, andV_f, orV_t, orV_f, iteK_t, iteK_f, wp_tTru2, dTru_bl, dTru_lst, dTru_int, dTru_non, wp_mt, wp_get, wp_isi, wp_fld, wp_sl, wp_oNone, wp_oSome, wp_tBool, wp_tNot, wp_tAnd2, wp_tOr2, wp_tAll, wp_gSlot, wp_gsNil, wp_gsCons, wp_gTup, wp_gSub, wp_iAny, wp_iSeq, wp_iTup, wp_iStr, wp_iRange1, wp_iRange2, wp_iZip, wS_fld, wp_make, seqQ, rtQ, turnQ, List.getElem?_cons_zero, List.getElem?_cons_succ, List.set_cons_zero, List.set_cons_succ, wipeD, if_true, if_false, Bool.false_eq_true, Bool.true_eq_false, reduceIte, w_add, w_iadd, w_iaddS, w_addS, w_addL, w_addT, w_sub, w_mul, w_mod, w_fdiv, w_pow, w_neg, w_lt, w_le, w_gt, w_ge, w_eqI, w_neI, w_eqT, w_neT, w_isN, w_isnotN, w_isB, w_isNB, w_len, w_lenT, w_int, w_intB, w_abs, w_min, w_max, w_tup, w_lst, w_new, w_list, w_listN, w_ix, w_ixT, w_ixD, w_inT1, w_notinT1, w_inT2, w_notinT2, w_inT3, w_notinT3, w_inT4, w_notinT4, w_inT5, w_notinT5, w_inT6, w_notinT6, w_inT7, w_notinT7, w_inT8, w_notinT8, w_sl1, at_0, at_1, at_2, at_3, at_4, at_5, hasTy_list, hasTy_str, isNonD, flatD, sEq_T, List.all_cons, List.all_nil, List.any_cons, List.any_nil, Bool.and_true, Bool.true_and, Bool.or_false, Bool.or_true, Bool.true_or, Bool.false_or, Bool.not_true, Bool.not_false, List.length_cons, List.length_nil, Nat.zero_add, Nat.reduceAdd, line_eq, true_and, and_true, String.reduceBEq, Int.reduceBEq, decide_true, decide_false, Int.reduceLT, Int.reduceLE, beq_self_eq_true, Nat.reduceLeDiff, wS_raise, wp_xinit, wp_sets0, wp_sets1, wp_fs, wp_xf, wp_xis, hdQ, setO, List.map_cons, List.map_nil, tabF_cons, tabF_nil, lview, w_inU1, w_inU2, w_inU3, w_inU4, w_notinU1, w_notinU2, w_notinU3, w_notinU4, wp_lcN, and_self, or_true, true_or, or_false, false_or, not_true_eq_false, not_false_eq_true, ne_eq, reduceCtorEq, List.cons.injEq, Bool.and_false, Bool.false_and, Bool.and_self, Bool.or_self, List.mem_cons, List.not_mem_nil, isSub, ty_tup, ty_lst, ty_int, ty_bl, ty_str, ty_non, nb, Bool.and_eq_true, Bool.or_eq_true, decide_eq_true_eq, beq_iff_eq, Int.cast_ofNat_Int, List.lookup_cons, List.lookup_nil, str_beq, insOf, not_true_eq_false, gok0]
  split
  · refine x_wp (by decide) ⟨by simp, k1 ?_⟩
    grind
  · refine wp_mFzE ?_
    try simp only [wp_rep, wp_meth, w_lenSo, w_tupT, w_tupL, List.length_map, wp_ok, wp_bad, wp_bind, wS_ok, wS_bad, wS_cons, wS_nil, wS_pass, wS_break, wS_cont, wS_never, wS_set, wS_expr, wS_ret, wS_retN, wS_if, wS_asg, wS_aug, wS_for, wp_lc, wp_m1, wp_m2, wp_mN, wp_aNil, wp_aCons, wp_mC, wp_var, wp_if2, wp_and2, wp_or2, wp_not, wp_chain2, isBl_bl, andK_p, orK_p, andV_p, orV_p, iteK_p, andK_t, andK_f, orK_t, orK_f, andV_t, andV_f, orV_t, orV_f, iteK_t, iteK_f, wp_tTru2, dTru_bl, dTru_lst, dTru_int, dTru_non, wp_mt, wp_get, wp_isi, wp_fld, wp_sl, wp_oNone, wp_oSome, wp_tBool, wp_tNot, wp_tAnd2, wp_tOr2, wp_tAll, wp_gSlot, wp_gsNil, wp_gsCons, wp_gTup, wp_gSub, wp_iAny, wp_iSeq, wp_iTup, wp_iStr, wp_iRange1, wp_iRange2, wp_iZip, wS_fld, wp_make, seqQ, rtQ, turnQ, List.getElem?_cons_zero, List.getElem?_cons_succ, List.set_cons_zero, List.set_cons_succ, wipeD, if_true, if_false, Bool.false_eq_true, Bool.true_eq_false, reduceIte, w_add, w_iadd, w_iaddS, w_addS, w_addL, w_addT, w_sub, w_mul, w_mod, w_fdiv, w_pow, w_neg, w_lt, w_le, w_gt, w_ge, w_eqI, w_neI, w_eqT, w_neT, w_isN, w_isnotN, w_isB, w_isNB, w_len, w_lenT, w_int, w_intB, w_abs, w_min, w_max, w_tup, w_lst, w_new, w_list, w_listN, w_ix, w_ixT, w_ixD, w_inT1, w_notinT1, w_inT2, w_notinT2, w_inT3, w_notinT3, w_inT4, w_notinT4, w_inT5, w_notinT5, w_inT6, w_notinT6, w_inT7, w_notinT7, w_inT8, w_notinT8, w_sl1, at_0, at_1, at_2, at_3, at_4, at_5, hasTy_list, hasTy_str, isNonD, flatD, sEq_T, List.all_cons, List.all_nil, List.any_cons, List.any_nil, Bool.and_true, Bool.true_and, Bool.or_false, Bool.or_true, Bool.true_or, Bool.false_or, Bool.not_true, Bool.not_false, List.length_cons, List.length_nil, Nat.zero_add, Nat.reduceAdd, line_eq, true_and, and_true, String.reduceBEq, Int.reduceBEq, decide_true, decide_false, Int.reduceLT, Int.reduceLE, beq_self_eq_true, Nat.reduceLeDiff, wS_raise, wp_xinit, wp_sets0, wp_sets1, wp_fs, wp_xf, wp_xis, hdQ, setO, List.map_cons, List.map_nil, tabF_cons, tabF_nil, lview, w_inU1, w_inU2, w_inU3, w_inU4, w_notinU1, w_notinU2, w_notinU3, w_notinU4, wp_lcN, and_self, or_true, true_or, or_false, false_or, not_true_eq_false, not_false_eq_true, ne_eq, reduceCtorEq, List.cons.injEq, Bool.and_false, Bool.false_and, Bool.and_self, Bool.or_self, List.mem_cons, List.not_mem_nil, isSub, ty_tup, ty_lst, ty_int, ty_bl, ty_str, ty_non, nb, Bool.and_eq_true, Bool.or_eq_true, decide_eq_true_eq, beq_iff_eq, Int.cast_ofNat_Int, List.lookup_cons, List.lookup_nil, str_beq, insOf, not_true_eq_false, gok0]
    have hw := wrong_plain (m := m)
    refine row_wp (p := plainP m) stillV (show Sz [still] from ⟨by decide, by decide⟩) hs (fun e => k0 ?_) fun e => ?_
    · rw [hw] at e
      grind
    · rw [hw] at e ⊢
      split
      · rename_i h; rw [if_pos h] at e; exact absurd rfl e
      · exact k1 (by grind)
theorem plain_wp {m : String} (hs : stOk s.length s = true) (k : Q (.bl true) s) : wp (f_law_plain [.str (Str.ofString m)] s) Q E := by
  refine wp_mkFz ((wp_fn (n := 1) (tot := 4) (m := m_law_plain) rfl).mpr ?_)
  show wS (m_law_plain [some (.str (Str.ofString m)), none, none, none] _) _ _
  unfold m_law_plain
  try simp only [wp_rep, wp_meth, w_lenSo, w_tupT, w_tupL, List.length_map, wp_ok, wp_bad, wp_bind, wS_ok, wS_bad, wS_cons, wS_nil, wS_pass, wS_break, wS_cont, wS_never, wS_set, wS_expr, wS_ret, wS_retN, wS_if, wS_asg, wS_aug, wS_for, wp_lc, wp_m1, wp_m2, wp_mN, wp_aNil, wp_aCons, wp_mC, wp_var, wp_if2, wp_and2, wp_or2, wp_not, wp_chain2, isBl_bl, andK_p, orK_p, andV_p, orV_p, iteK_p, andK_t, andK_f, orK_t, orK_f, andV_t, andV_f, orV_t, orV_f, iteK_t, iteK_f, wp_tTru2, dTru_bl, dTru_lst, dTru_int, dTru_non, wp_mt, wp_get, wp_isi, wp_fld, wp_sl, wp_oNone, wp_oSome, wp_tBool, wp_tNot, wp_tAnd2, wp_tOr2, wp_tAll, wp_gSlot, wp_gsNil, wp_gsCons, wp_gTup, wp_gSub, wp_iAny, wp_iSeq, wp_iTup, wp_iStr, wp_iRange1, wp_iRange2, wp_iZip, wS_fld, wp_make, seqQ, rtQ, turnQ, List.getElem?_cons_zero, List.getElem?_cons_succ, List.set_cons_zero, List.set_cons_succ, wipeD, if_true, if_false, Bool.false_eq_true, Bool.true_eq_false, reduceIte, w_add, w_iadd, w_iaddS, w_addS, w_addL, w_addT, w_sub, w_mul, w_mod, w_fdiv, w_pow, w_neg, w_lt, w_le, w_gt, w_ge, w_eqI, w_neI, w_eqT, w_neT, w_isN, w_isnotN, w_isB, w_isNB, w_len, w_lenT, w_int, w_intB, w_abs, w_min, w_max, w_tup, w_lst, w_new, w_list, w_listN, w_ix, w_ixT, w_ixD, w_inT1, w_notinT1, w_inT2, w_notinT2, w_inT3, w_notinT3, w_inT4, w_notinT4, w_inT5, w_notinT5, w_inT6, w_notinT6, w_inT7, w_notinT7, w_inT8, w_notinT8, w_sl1, at_0, at_1, at_2, at_3, at_4, at_5, hasTy_list, hasTy_str, isNonD, flatD, sEq_T, List.all_cons, List.all_nil, List.any_cons, List.any_nil, Bool.and_true, Bool.true_and, Bool.or_false, Bool.or_true, Bool.true_or, Bool.false_or, Bool.not_true, Bool.not_false, List.length_cons, List.length_nil, Nat.zero_add, Nat.reduceAdd, line_eq, true_and, and_true, String.reduceBEq, Int.reduceBEq, decide_true, decide_false, Int.reduceLT, Int.reduceLE, beq_self_eq_true, Nat.reduceLeDiff, wS_raise, wp_xinit, wp_sets0, wp_sets1, wp_fs, wp_xf, wp_xis, hdQ, setO, List.map_cons, List.map_nil, tabF_cons, tabF_nil, lview, w_inU1, w_inU2, w_inU3, w_inU4, w_notinU1, w_notinU2, w_notinU3, w_notinU4, wp_lcN, and_self, or_true, true_or, or_false, false_or, not_true_eq_false, not_false_eq_true, ne_eq, reduceCtorEq, List.cons.injEq, Bool.and_false, Bool.false_and, Bool.and_self, Bool.or_self, List.mem_cons, List.not_mem_nil, isSub, ty_tup, ty_lst, ty_int, ty_bl, ty_str, ty_non, nb, Bool.and_eq_true, Bool.or_eq_true, decide_eq_true_eq, beq_iff_eq, Int.cast_ofNat_Int, List.lookup_cons, List.lookup_nil, str_beq, insOf, not_true_eq_false, gok0]
  refine wS_try ?_
  try simp only [wp_rep, wp_meth, w_lenSo, w_tupT, w_tupL, List.length_map, wp_ok, wp_bad, wp_bind, wS_ok, wS_bad, wS_cons, wS_nil, wS_pass, wS_break, wS_cont, wS_never, wS_set, wS_expr, wS_ret, wS_retN, wS_if, wS_asg, wS_aug, wS_for, wp_lc, wp_m1, wp_m2, wp_mN, wp_aNil, wp_aCons, wp_mC, wp_var, wp_if2, wp_and2, wp_or2, wp_not, wp_chain2, isBl_bl, andK_p, orK_p, andV_p, orV_p, iteK_p, andK_t, andK_f, orK_t, orK_f, andV_t, andV_f, orV_t, orV_f, iteK_t, iteK_f, wp_tTru2, dTru_bl, dTru_lst, dTru_int, dTru_non, wp_mt, wp_get, wp_isi, wp_fld, wp_sl, wp_oNone, wp_oSome, wp_tBool, wp_tNot, wp_tAnd2, wp_tOr2, wp_tAll, wp_gSlot, wp_gsNil, wp_gsCons, wp_gTup, wp_gSub, wp_iAny, wp_iSeq, wp_iTup, wp_iStr, wp_iRange1, wp_iRange2, wp_iZip, wS_fld, wp_make, seqQ, rtQ, turnQ, List.getElem?_cons_zero, List.getElem?_cons_succ, List.set_cons_zero, List.set_cons_succ, wipeD, if_true, if_false, Bool.false_eq_true, Bool.true_eq_false, reduceIte, w_add, w_iadd, w_iaddS, w_addS, w_addL, w_addT, w_sub, w_mul, w_mod, w_fdiv, w_pow, w_neg, w_lt, w_le, w_gt, w_ge, w_eqI, w_neI, w_eqT, w_neT, w_isN, w_isnotN, w_isB, w_isNB, w_len, w_lenT, w_int, w_intB, w_abs, w_min, w_max, w_tup, w_lst, w_new, w_list, w_listN, w_ix, w_ixT, w_ixD, w_inT1, w_notinT1, w_inT2, w_notinT2, w_inT3, w_notinT3, w_inT4, w_notinT4, w_inT5, w_notinT5, w_inT6, w_notinT6, w_inT7, w_notinT7, w_inT8, w_notinT8, w_sl1, at_0, at_1, at_2, at_3, at_4, at_5, hasTy_list, hasTy_str, isNonD, flatD, sEq_T, List.all_cons, List.all_nil, List.any_cons, List.any_nil, Bool.and_true, Bool.true_and, Bool.or_false, Bool.or_true, Bool.true_or, Bool.false_or, Bool.not_true, Bool.not_false, List.length_cons, List.length_nil, Nat.zero_add, Nat.reduceAdd, line_eq, true_and, and_true, String.reduceBEq, Int.reduceBEq, decide_true, decide_false, Int.reduceLT, Int.reduceLE, beq_self_eq_true, Nat.reduceLeDiff, wS_raise, wp_xinit, wp_sets0, wp_sets1, wp_fs, wp_xf, wp_xis, hdQ, setO, List.map_cons, List.map_nil, tabF_cons, tabF_nil, lview, w_inU1, w_inU2, w_inU3, w_inU4, w_notinU1, w_notinU2, w_notinU3, w_notinU4, wp_lcN, and_self, or_true, true_or, or_false, false_or, not_true_eq_false, not_false_eq_true, ne_eq, reduceCtorEq, List.cons.injEq, Bool.and_false, Bool.false_and, Bool.and_self, Bool.or_self, List.mem_cons, List.not_mem_nil, isSub, ty_tup, ty_lst, ty_int, ty_bl, ty_str, ty_non, nb, Bool.and_eq_true, Bool.or_eq_true, decide_eq_true_eq, beq_iff_eq, Int.cast_ofNat_Int, List.lookup_cons, List.lookup_nil, str_beq, insOf, not_true_eq_false, gok0]
  refine plain_row_wp hs (fun h => ?_) fun h => ?_
  · have : ("copied" == m || "refused" == m) = true := by grind
    rw [this, andV_t]
    exact fields_wp (p := plainP m) (show [still].length ≤ 900 ∧ ∀ m ∈ [still], m.length = 6 from ⟨by decide, by decide⟩) (fz_bl0 hs k)
  · unfold xD
    simp only [hdW]
    try simp only [wp_rep, wp_meth, w_lenSo, w_tupT, w_tupL, List.length_map, wp_ok, wp_bad, wp_bind, wS_ok, wS_bad, wS_cons, wS_nil, wS_pass, wS_break, wS_cont, wS_never, wS_set, wS_expr, wS_ret, wS_retN, wS_if, wS_asg, wS_aug, wS_for, wp_lc, wp_m1, wp_m2, wp_mN, wp_aNil, wp_aCons, wp_mC, wp_var, wp_if2, wp_and2, wp_or2, wp_not, wp_chain2, isBl_bl, andK_p, orK_p, andV_p, orV_p, iteK_p, andK_t, andK_f, orK_t, orK_f, andV_t, andV_f, orV_t, orV_f, iteK_t, iteK_f, wp_tTru2, dTru_bl, dTru_lst, dTru_int, dTru_non, wp_mt, wp_get, wp_isi, wp_fld, wp_sl, wp_oNone, wp_oSome, wp_tBool, wp_tNot, wp_tAnd2, wp_tOr2, wp_tAll, wp_gSlot, wp_gsNil, wp_gsCons, wp_gTup, wp_gSub, wp_iAny, wp_iSeq, wp_iTup, wp_iStr, wp_iRange1, wp_iRange2, wp_iZip, wS_fld, wp_make, seqQ, rtQ, turnQ, List.getElem?_cons_zero, List.getElem?_cons_succ, List.set_cons_zero, List.set_cons_succ, wipeD, if_true, if_false, Bool.false_eq_true, Bool.true_eq_false, reduceIte, w_add, w_iadd, w_iaddS, w_addS, w_addL, w_addT, w_sub, w_mul, w_mod, w_fdiv, w_pow, w_neg, w_lt, w_le, w_gt, w_ge, w_eqI, w_neI, w_eqT, w_neT, w_isN, w_isnotN, w_isB, w_isNB, w_len, w_lenT, w_int, w_intB, w_abs, w_min, w_max, w_tup, w_lst, w_new, w_list, w_listN, w_ix, w_ixT, w_ixD, w_inT1, w_notinT1, w_inT2, w_notinT2, w_inT3, w_notinT3, w_inT4, w_notinT4, w_inT5, w_notinT5, w_inT6, w_notinT6, w_inT7, w_notinT7, w_inT8, w_notinT8, w_sl1, at_0, at_1, at_2, at_3, at_4, at_5, hasTy_list, hasTy_str, isNonD, flatD, sEq_T, List.all_cons, List.all_nil, List.any_cons, List.any_nil, Bool.and_true, Bool.true_and, Bool.or_false, Bool.or_true, Bool.true_or, Bool.false_or, Bool.not_true, Bool.not_false, List.length_cons, List.length_nil, Nat.zero_add, Nat.reduceAdd, line_eq, true_and, and_true, String.reduceBEq, Int.reduceBEq, decide_true, decide_false, Int.reduceLT, Int.reduceLE, beq_self_eq_true, Nat.reduceLeDiff, wS_raise, wp_xinit, wp_sets0, wp_sets1, wp_fs, wp_xf, wp_xis, hdQ, setO, List.map_cons, List.map_nil, tabF_cons, tabF_nil, lview, w_inU1, w_inU2, w_inU3, w_inU4, w_notinU1, w_notinU2, w_notinU3, w_notinU4, wp_lcN, and_self, or_true, true_or, or_false, false_or, not_true_eq_false, not_false_eq_true, ne_eq, reduceCtorEq, List.cons.injEq, Bool.and_false, Bool.false_and, Bool.and_self, Bool.or_self, List.mem_cons, List.not_mem_nil, isSub, ty_tup, ty_lst, ty_int, ty_bl, ty_str, ty_non, nb, Bool.and_eq_true, Bool.or_eq_true, decide_eq_true_eq, beq_iff_eq, Int.cast_ofNat_Int, List.lookup_cons, List.lookup_nil, str_beq, insOf, not_true_eq_false, gok0]
    intro k'
    have : ("copied" == m || "refused" == m) = false := by grind
    rw [this]
    exact fz_bl0 hs k
end
end
end K46
namespace K46
open PySem PySem.Spec PyProof.Rows L2 Pm
noncomputable section
/-! ### what is drawn -/
section
variable {s t : S} {Q : D → S → Prop} {E : D → S → Prop} {ρ : Rho}
theorem tk {m : Int} (h : Dk s t) (hm : 0 < m) (k : ∀ v s', 0 ≤ v → v < m → Dk s' t → Q (.int v) s') : wp (f_law_take [.ref 0, .int m] s) Q E := take_wp h hm k
theorem word_wp {good bad : List String} (h : Dk s t) (hg : 0 < good.length) (hb : 0 < bad.length) (k : ∀ z s', Dk s' t → Q (.str (Str.ofString z)) s') : wp (f_law_word [.ref 0, .lst (good.map fun z => .str (Str.ofString z)), .lst (bad.map fun z => .str (Str.ofString z))] s) Q E := by
  refine (wp_fn (n := 3) (tot := 3) (m := m_law_word) rfl).mpr ?_
  show wS (m_law_word [some (.ref 0), some (.lst (good.map fun z => .str (Str.ofString z))), some (.lst (bad.map fun z => .str (Str.ofString z)))] _) _ _
  unfold m_law_word
  try simp only [wp_rep, wp_meth, w_lenSo, w_tupT, w_tupL, List.length_map, wp_ok, wp_bad, wp_bind, wS_ok, wS_bad, wS_cons, wS_nil, wS_pass, wS_break, wS_cont, wS_never, wS_set, wS_expr, wS_ret, wS_retN, wS_if, wS_asg, wS_aug, wS_for, wp_lc, wp_m1, wp_m2, wp_mN, wp_aNil, wp_aCons, wp_mC, wp_var, wp_if2, wp_and2, wp_or2, wp_not, wp_chain2, isBl_bl, andK_p, orK_p, andV_p, orV_p, iteK_p, andK_t, andK_f, orK_t, orK_f, andV_t, andV_f, orV_t, orV_f, iteK_t, iteK_f, wp_tTru2, dTru_bl, dTru_lst, dTru_int, dTru_non, wp_mt, wp_get, wp_isi, wp_fld, wp_sl, wp_oNone, wp_oSome, wp_tBool, wp_tNot, wp_tAnd2, wp_tOr2, wp_tAll, wp_gSlot, wp_gsNil, wp_gsCons, wp_gTup, wp_gSub, wp_iAny, wp_iSeq, wp_iTup, wp_iStr, wp_iRange1, wp_iRange2, wp_iZip, wS_fld, wp_make, seqQ, rtQ, turnQ, List.getElem?_cons_zero, List.getElem?_cons_succ, List.set_cons_zero, List.set_cons_succ, wipeD, if_true, if_false, Bool.false_eq_true, Bool.true_eq_false, reduceIte, w_add, w_iadd, w_iaddS, w_addS, w_addL, w_addT, w_sub, w_mul, w_mod, w_fdiv, w_pow, w_neg, w_lt, w_le, w_gt, w_ge, w_eqI, w_neI, w_eqT, w_neT, w_isN, w_isnotN, w_isB, w_isNB, w_len, w_lenT, w_int, w_intB, w_abs, w_min, w_max, w_tup, w_lst, w_new, w_list, w_listN, w_ix, w_ixT, w_ixD, w_inT1, w_notinT1, w_inT2, w_notinT2, w_inT3, w_notinT3, w_inT4, w_notinT4, w_inT5, w_notinT5, w_inT6, w_notinT6, w_inT7, w_notinT7, w_inT8, w_notinT8, w_sl1, at_0, at_1, at_2, at_3, at_4, at_5, hasTy_list, hasTy_str, isNonD, flatD, sEq_T, List.all_cons, List.all_nil, List.any_cons, List.any_nil, Bool.and_true, Bool.true_and, Bool.or_false, Bool.or_true, Bool.true_or, Bool.false_or, Bool.not_true, Bool.not_false, List.length_cons, List.length_nil, Nat.zero_add, Nat.reduceAdd, line_eq, true_and, and_true, String.reduceBEq, Int.reduceBEq, decide_true, decide_false, Int.reduceLT, Int.reduceLE, beq_self_eq_true, Nat.reduceLeDiff, wS_raise, wp_xinit, wp_sets0, wp_sets1, wp_fs, wp_xf, wp_xis, hdQ, setO, List.map_cons, List.map_nil, tabF_cons, tabF_nil, lview, w_inU1, w_inU2, w_inU3, w_inU4, w_notinU1, w_notinU2, w_notinU3, w_notinU4, wp_lcN, and_self, or_true, true_or, or_false, false_or, not_true_eq_false, not_false_eq_true, ne_eq, reduceCtorEq, List.cons.injEq, Bool.and_false, Bool.false_and, Bool.and_self, Bool.or_self, List.mem_cons, List.not_mem_nil, isSub, ty_tup, ty_lst, ty_int, ty_bl, ty_str, ty_non, nb, Bool.and_eq_true, Bool.or_eq_true, decide_eq_true_eq, beq_iff_eq, Int.cast_ofNat_Int, List.lookup_cons, List.lookup_nil, str_beq, insOf, not_true_eq_false, gok0]
  refine tk h (by decide) fun v s1 _ _ h1 => ?_
  try simp only [wp_rep, wp_meth, w_lenSo, w_tupT, w_tupL, List.length_map, wp_ok, wp_bad, wp_bind, wS_ok, wS_bad, wS_cons, wS_nil, wS_pass, wS_break, wS_cont, wS_never, wS_set, wS_expr, wS_ret, wS_retN, wS_if, wS_asg, wS_aug, wS_for, wp_lc, wp_m1, wp_m2, wp_mN, wp_aNil, wp_aCons, wp_mC, wp_var, wp_if2, wp_and2, wp_or2, wp_not, wp_chain2, isBl_bl, andK_p, orK_p, andV_p, orV_p, iteK_p, andK_t, andK_f, orK_t, orK_f, andV_t, andV_f, orV_t, orV_f, iteK_t, iteK_f, wp_tTru2, dTru_bl, dTru_lst, dTru_int, dTru_non, wp_mt, wp_get, wp_isi, wp_fld, wp_sl, wp_oNone, wp_oSome, wp_tBool, wp_tNot, wp_tAnd2, wp_tOr2, wp_tAll, wp_gSlot, wp_gsNil, wp_gsCons, wp_gTup, wp_gSub, wp_iAny, wp_iSeq, wp_iTup, wp_iStr, wp_iRange1, wp_iRange2, wp_iZip, wS_fld, wp_make, seqQ, rtQ, turnQ, List.getElem?_cons_zero, List.getElem?_cons_succ, List.set_cons_zero, List.set_cons_succ, wipeD, if_true, if_false, Bool.false_eq_true, Bool.true_eq_false, reduceIte, w_add, w_iadd, w_iaddS, w_addS, w_addL, w_addT, w_sub, w_mul, w_mod, w_fdiv, w_pow, w_neg, w_lt, w_le, w_gt, w_ge, w_eqI, w_neI, w_eqT, w_neT, w_isN, w_isnotN, w_isB, w_isNB, w_len, w_lenT, w_int, w_intB, w_abs, w_min, w_max, w_tup, w_lst, w_new, w_list, w_listN, w_ix, w_ixT, w_ixD, w_inT1, w_notinT1, w_inT2, w_notinT2, w_inT3, w_notinT3, w_inT4, w_notinT4, w_inT5, w_notinT5, w_inT6, w_notinT6, w_inT7, w_notinT7, w_inT8, w_notinT8, w_sl1, at_0, at_1, at_2, at_3, at_4, at_5, hasTy_list, hasTy_str, isNonD, flatD, sEq_T, List.all_cons, List.all_nil, List.any_cons, List.any_nil, Bool.and_true, Bool.true_and, Bool.or_false, Bool.or_true, Bool.true_or, Bool.false_or, Bool.not_true, Bool.not_false, List.length_cons, List.length_nil, Nat.zero_add, Nat.reduceAdd, line_eq, true_and, and_true, String.reduceBEq, Int.reduceBEq, decide_true, decide_false, Int.reduceLT, Int.reduceLE, beq_self_eq_true, Nat.reduceLeDiff, wS_raise, wp_xinit, wp_sets0, wp_sets1, wp_fs, wp_xf, wp_xis, hdQ, setO, List.map_cons, List.map_nil, tabF_cons, tabF_nil, lview, w_inU1, w_inU2, w_inU3, w_inU4, w_notinU1, w_notinU2, w_notinU3, w_notinU4, wp_lcN, and_self, or_true, true_or, or_false, false_or, not_true_eq_false, not_false_eq_true, ne_eq, reduceCtorEq, List.cons.injEq, Bool.and_false, Bool.false_and, Bool.and_self, Bool.or_self, List.mem_cons, List.not_mem_nil, isSub, ty_tup, ty_lst, ty_int, ty_bl, ty_str, ty_non, nb, Bool.and_eq_true, Bool.or_eq_true, decide_eq_true_eq, beq_iff_eq, Int.cast_ofNat_Int, List.lookup_cons, List.lookup_nil, str_beq, insOf, not_true_eq_false, gok0]
  split
  · refine tk h1 (by omega) fun v s2 h2 h3 h4 => ?_
    refine ix_any h2 (by simp; omega) fun d hd => ?_
    obtain ⟨z, _, rfl⟩ := List.mem_map.mp hd
    exact k z s2 h4
  · refine tk h1 (by omega) fun v s2 h2 h3 h4 => ?_
    refine ix_any h2 (by simp; omega) fun d hd => ?_
    obtain ⟨z, _, rfl⟩ := List.mem_map.mp hd
    exact k z s2 h4
/-! a rule as it is made: t is the store behind the deck -/
def R6 (t : S) (d : D) (n : Nat) : Prop := ∃ p items, d = .ref (p + 1) ∧ t[p]? = some (.lst items) ∧ items.length = n ∧ ∀ x ∈ items, ∃ (q : Nat) (m : Mark), x = .ref (q + 1) ∧ p < q ∧ m.length = 6 ∧ t[q]? = some (.lst (m.map pairD))
theorem mark_wp {n : Int} {v2 v3 v4 : Option D} {Q : List D → S → Prop} {all : List D} (hn : 0 < n) (h : Dk s t) (k : ∀ (m : Mark) s', m.length = 6 → Dk s' t → Q (m.map pairD) s') :
    wp (mapL none all (gSlot 4) tAll (mN dTup (aCons (mN f_law_take (aCons (mVar 0) (aCons (mN dMax2 (aCons (mC (.int 1)) (aCons (mVar 1) aNil))) aNil))) (aCons (m2 dSub (mN f_law_take (aCons (mVar 0) (aCons (mC (.int 7)) aNil))) (mC (.int 3))) aNil))) (rng 0 6) [some (.ref 0), some (.int n), v2, v3, v4] s) Q := by
  unfold rng
  refine wp_mapN (I := fun rest acc s' => Dk s' t ∧ ∃ m : Mark, acc = m.map pairD ∧ m.length + rest.length = 6) ?_ _ [] s ⟨h, [], rfl, by simp⟩ ?_
  · rintro x rest a s1 ⟨h1, m, rfl, hl⟩
    try simp only [wp_rep, wp_meth, w_lenSo, w_tupT, w_tupL, List.length_map, wp_ok, wp_bad, wp_bind, wS_ok, wS_bad, wS_cons, wS_nil, wS_pass, wS_break, wS_cont, wS_never, wS_set, wS_expr, wS_ret, wS_retN, wS_if, wS_asg, wS_aug, wS_for, wp_lc, wp_m1, wp_m2, wp_mN, wp_aNil, wp_aCons, wp_mC, wp_var, wp_if2, wp_and2, wp_or2, wp_not, wp_chain2, isBl_bl, andK_p, orK_p, andV_p, orV_p, iteK_p, andK_t, andK_f, orK_t, orK_f, andV_t, andV_f, orV_t, orV_f, iteK_t, iteK_f, wp_tTru2, dTru_bl, dTru_lst, dTru_int, dTru_non, wp_mt, wp_get, wp_isi, wp_fld, wp_sl, wp_oNone, wp_oSome, wp_tBool, wp_tNot, wp_tAnd2, wp_tOr2, wp_tAll, wp_gSlot, wp_gsNil, wp_gsCons, wp_gTup, wp_gSub, wp_iAny, wp_iSeq, wp_iTup, wp_iStr, wp_iRange1, wp_iRange2, wp_iZip, wS_fld, wp_make, seqQ, rtQ, turnQ, List.getElem?_cons_zero, List.getElem?_cons_succ, List.set_cons_zero, List.set_cons_succ, wipeD, if_true, if_false, Bool.false_eq_true, Bool.true_eq_false, reduceIte, w_add, w_iadd, w_iaddS, w_addS, w_addL, w_addT, w_sub, w_mul, w_mod, w_fdiv, w_pow, w_neg, w_lt, w_le, w_gt, w_ge, w_eqI, w_neI, w_eqT, w_neT, w_isN, w_isnotN, w_isB, w_isNB, w_len, w_lenT, w_int, w_intB, w_abs, w_min, w_max, w_tup, w_lst, w_new, w_list, w_listN, w_ix, w_ixT, w_ixD, w_inT1, w_notinT1, w_inT2, w_notinT2, w_inT3, w_notinT3, w_inT4, w_notinT4, w_inT5, w_notinT5, w_inT6, w_notinT6, w_inT7, w_notinT7, w_inT8, w_notinT8, w_sl1, at_0, at_1, at_2, at_3, at_4, at_5, hasTy_list, hasTy_str, isNonD, flatD, sEq_T, List.all_cons, List.all_nil, List.any_cons, List.any_nil, Bool.and_true, Bool.true_and, Bool.or_false, Bool.or_true, Bool.true_or, Bool.false_or, Bool.not_true, Bool.not_false, List.length_cons, List.length_nil, Nat.zero_add, Nat.reduceAdd, line_eq, true_and, and_true, String.reduceBEq, Int.reduceBEq, decide_true, decide_false, Int.reduceLT, Int.reduceLE, beq_self_eq_true, Nat.reduceLeDiff, wS_raise, wp_xinit, wp_sets0, wp_sets1, wp_fs, wp_xf, wp_xis, hdQ, setO, List.map_cons, List.map_nil, tabF_cons, tabF_nil, lview, w_inU1, w_inU2, w_inU3, w_inU4, w_notinU1, w_notinU2, w_notinU3, w_notinU4, wp_lcN, and_self, or_true, true_or, or_false, false_or, not_true_eq_false, not_false_eq_true, ne_eq, reduceCtorEq, List.cons.injEq, Bool.and_false, Bool.false_and, Bool.and_self, Bool.or_self, List.mem_cons, List.not_mem_nil, isSub, ty_tup, ty_lst, ty_int, ty_bl, ty_str, ty_non, nb, Bool.and_eq_true, Bool.or_eq_true, decide_eq_true_eq, beq_iff_eq, Int.cast_ofNat_Int, List.lookup_cons, List.lookup_nil, str_beq, insOf, not_true_eq_false, gok0]
    refine tk h1 (by split <;> omega) fun v s2 _ _ h2 => ?_
    try simp only [wp_rep, wp_meth, w_lenSo, w_tupT, w_tupL, List.length_map, wp_ok, wp_bad, wp_bind, wS_ok, wS_bad, wS_cons, wS_nil, wS_pass, wS_break, wS_cont, wS_never, wS_set, wS_expr, wS_ret, wS_retN, wS_if, wS_asg, wS_aug, wS_for, wp_lc, wp_m1, wp_m2, wp_mN, wp_aNil, wp_aCons, wp_mC, wp_var, wp_if2, wp_and2, wp_or2, wp_not, wp_chain2, isBl_bl, andK_p, orK_p, andV_p, orV_p, iteK_p, andK_t, andK_f, orK_t, orK_f, andV_t, andV_f, orV_t, orV_f, iteK_t, iteK_f, wp_tTru2, dTru_bl, dTru_lst, dTru_int, dTru_non, wp_mt, wp_get, wp_isi, wp_fld, wp_sl, wp_oNone, wp_oSome, wp_tBool, wp_tNot, wp_tAnd2, wp_tOr2, wp_tAll, wp_gSlot, wp_gsNil, wp_gsCons, wp_gTup, wp_gSub, wp_iAny, wp_iSeq, wp_iTup, wp_iStr, wp_iRange1, wp_iRange2, wp_iZip, wS_fld, wp_make, seqQ, rtQ, turnQ, List.getElem?_cons_zero, List.getElem?_cons_succ, List.set_cons_zero, List.set_cons_succ, wipeD, if_true, if_false, Bool.false_eq_true, Bool.true_eq_false, reduceIte, w_add, w_iadd, w_iaddS, w_addS, w_addL, w_addT, w_sub, w_mul, w_mod, w_fdiv, w_pow, w_neg, w_lt, w_le, w_gt, w_ge, w_eqI, w_neI, w_eqT, w_neT, w_isN, w_isnotN, w_isB, w_isNB, w_len, w_lenT, w_int, w_intB, w_abs, w_min, w_max, w_tup, w_lst, w_new, w_list, w_listN, w_ix, w_ixT, w_ixD, w_inT1, w_notinT1, w_inT2, w_notinT2, w_inT3, w_notinT3, w_inT4, w_notinT4, w_inT5, w_notinT5, w_inT6, w_notinT6, w_inT7, w_notinT7, w_inT8, w_notinT8, w_sl1, at_0, at_1, at_2, at_3, at_4, at_5, hasTy_list, hasTy_str, isNonD, flatD, sEq_T, List.all_cons, List.all_nil, List.any_cons, List.any_nil, Bool.and_true, Bool.true_and, Bool.or_false, Bool.or_true, Bool.true_or, Bool.false_or, Bool.not_true, Bool.not_false, List.length_cons, List.length_nil, Nat.zero_add, Nat.reduceAdd, line_eq, true_and, and_true, String.reduceBEq, Int.reduceBEq, decide_true, decide_false, Int.reduceLT, Int.reduceLE, beq_self_eq_true, Nat.reduceLeDiff, wS_raise, wp_xinit, wp_sets0, wp_sets1, wp_fs, wp_xf, wp_xis, hdQ, setO, List.map_cons, List.map_nil, tabF_cons, tabF_nil, lview, w_inU1, w_inU2, w_inU3, w_inU4, w_notinU1, w_notinU2, w_notinU3, w_notinU4, wp_lcN, and_self, or_true, true_or, or_false, false_or, not_true_eq_false, not_false_eq_true, ne_eq, reduceCtorEq, List.cons.injEq, Bool.and_false, Bool.false_and, Bool.and_self, Bool.or_self, List.mem_cons, List.not_mem_nil, isSub, ty_tup, ty_lst, ty_int, ty_bl, ty_str, ty_non, nb, Bool.and_eq_true, Bool.or_eq_true, decide_eq_true_eq, beq_iff_eq, Int.cast_ofNat_Int, List.lookup_cons, List.lookup_nil, str_beq, insOf, not_true_eq_false, gok0]
    refine tk h2 (by decide) fun v2 s3 _ _ h3 => ?_
    try simp only [wp_rep, wp_meth, w_lenSo, w_tupT, w_tupL, List.length_map, wp_ok, wp_bad, wp_bind, wS_ok, wS_bad, wS_cons, wS_nil, wS_pass, wS_break, wS_cont, wS_never, wS_set, wS_expr, wS_ret, wS_retN, wS_if, wS_asg, wS_aug, wS_for, wp_lc, wp_m1, wp_m2, wp_mN, wp_aNil, wp_aCons, wp_mC, wp_var, wp_if2, wp_and2, wp_or2, wp_not, wp_chain2, isBl_bl, andK_p, orK_p, andV_p, orV_p, iteK_p, andK_t, andK_f, orK_t, orK_f, andV_t, andV_f, orV_t, orV_f, iteK_t, iteK_f, wp_tTru2, dTru_bl, dTru_lst, dTru_int, dTru_non, wp_mt, wp_get, wp_isi, wp_fld, wp_sl, wp_oNone, wp_oSome, wp_tBool, wp_tNot, wp_tAnd2, wp_tOr2, wp_tAll, wp_gSlot, wp_gsNil, wp_gsCons, wp_gTup, wp_gSub, wp_iAny, wp_iSeq, wp_iTup, wp_iStr, wp_iRange1, wp_iRange2, wp_iZip, wS_fld, wp_make, seqQ, rtQ, turnQ, List.getElem?_cons_zero, List.getElem?_cons_succ, List.set_cons_zero, List.set_cons_succ, wipeD, if_true, if_false, Bool.false_eq_true, Bool.true_eq_false, reduceIte, w_add, w_iadd, w_iaddS, w_addS, w_addL, w_addT, w_sub, w_mul, w_mod, w_fdiv, w_pow, w_neg, w_lt, w_le, w_gt, w_ge, w_eqI, w_neI, w_eqT, w_neT, w_isN, w_isnotN, w_isB, w_isNB, w_len, w_lenT, w_int, w_intB, w_abs, w_min, w_max, w_tup, w_lst, w_new, w_list, w_listN, w_ix, w_ixT, w_ixD, w_inT1, w_notinT1, w_inT2, w_notinT2, w_inT3, w_notinT3, w_inT4, w_notinT4, w_inT5, w_notinT5, w_inT6, w_notinT6, w_inT7, w_notinT7, w_inT8, w_notinT8, w_sl1, at_0, at_1, at_2, at_3, at_4, at_5, hasTy_list, hasTy_str, isNonD, flatD, sEq_T, List.all_cons, List.all_nil, List.any_cons, List.any_nil, Bool.and_true, Bool.true_and, Bool.or_false, Bool.or_true, Bool.true_or, Bool.false_or, Bool.not_true, Bool.not_false, List.length_cons, List.length_nil, Nat.zero_add, Nat.reduceAdd, line_eq, true_and, and_true, String.reduceBEq, Int.reduceBEq, decide_true, decide_false, Int.reduceLT, Int.reduceLE, beq_self_eq_true, Nat.reduceLeDiff, wS_raise, wp_xinit, wp_sets0, wp_sets1, wp_fs, wp_xf, wp_xis, hdQ, setO, List.map_cons, List.map_nil, tabF_cons, tabF_nil, lview, w_inU1, w_inU2, w_inU3, w_inU4, w_notinU1, w_notinU2, w_notinU3, w_notinU4, wp_lcN, and_self, or_true, true_or, or_false, false_or, not_true_eq_false, not_false_eq_true, ne_eq, reduceCtorEq, List.cons.injEq, Bool.and_false, Bool.false_and, Bool.and_self, Bool.or_self, List.mem_cons, List.not_mem_nil, isSub, ty_tup, ty_lst, ty_int, ty_bl, ty_str, ty_non, nb, Bool.and_eq_true, Bool.or_eq_true, decide_eq_true_eq, beq_iff_eq, Int.cast_ofNat_Int, List.lookup_cons, List.lookup_nil, str_beq, insOf, not_true_eq_false, gok0]
    refine ⟨h3, m ++ [(v, v2 - 3)], by simp [pairD], by simp at hl ⊢; omega⟩
  · rintro a' s1 ⟨h1, m, e, hl⟩
    rw [List.nil_append] at e
    rw [e]
    exact k m s1 (by simpa using hl) h1
theorem law_rule_wp {n : Nat} (hn : 1 ≤ n ∧ n ≤ 5) (h : Dk s t) (k : ∀ d s' t', Dk s' t' → R6 t' d n → Q d s') : wp (f_law_rule [.ref 0, .int n] s) Q E := by
  refine (wp_fn (n := 2) (tot := 5) (m := m_law_rule) rfl).mpr ?_
  show wS (m_law_rule [some (.ref 0), some (.int n), none, none, none] _) _ _
  unfold m_law_rule
  try simp only [wp_rep, wp_meth, w_lenSo, w_tupT, w_tupL, List.length_map, wp_ok, wp_bad, wp_bind, wS_ok, wS_bad, wS_cons, wS_nil, wS_pass, wS_break, wS_cont, wS_never, wS_set, wS_expr, wS_ret, wS_retN, wS_if, wS_asg, wS_aug, wS_for, wp_lc, wp_m1, wp_m2, wp_mN, wp_aNil, wp_aCons, wp_mC, wp_var, wp_if2, wp_and2, wp_or2, wp_not, wp_chain2, isBl_bl, andK_p, orK_p, andV_p, orV_p, iteK_p, andK_t, andK_f, orK_t, orK_f, andV_t, andV_f, orV_t, orV_f, iteK_t, iteK_f, wp_tTru2, dTru_bl, dTru_lst, dTru_int, dTru_non, wp_mt, wp_get, wp_isi, wp_fld, wp_sl, wp_oNone, wp_oSome, wp_tBool, wp_tNot, wp_tAnd2, wp_tOr2, wp_tAll, wp_gSlot, wp_gsNil, wp_gsCons, wp_gTup, wp_gSub, wp_iAny, wp_iSeq, wp_iTup, wp_iStr, wp_iRange1, wp_iRange2, wp_iZip, wS_fld, wp_make, seqQ, rtQ, turnQ, List.getElem?_cons_zero, List.getElem?_cons_succ, List.set_cons_zero, List.set_cons_succ, wipeD, if_true, if_false, Bool.false_eq_true, Bool.true_eq_false, reduceIte, w_add, w_iadd, w_iaddS, w_addS, w_addL, w_addT, w_sub, w_mul, w_mod, w_fdiv, w_pow, w_neg, w_lt, w_le, w_gt, w_ge, w_eqI, w_neI, w_eqT, w_neT, w_isN, w_isnotN, w_isB, w_isNB, w_len, w_lenT, w_int, w_intB, w_abs, w_min, w_max, w_tup, w_lst, w_new, w_list, w_listN, w_ix, w_ixT, w_ixD, w_inT1, w_notinT1, w_inT2, w_notinT2, w_inT3, w_notinT3, w_inT4, w_notinT4, w_inT5, w_notinT5, w_inT6, w_notinT6, w_inT7, w_notinT7, w_inT8, w_notinT8, w_sl1, at_0, at_1, at_2, at_3, at_4, at_5, hasTy_list, hasTy_str, isNonD, flatD, sEq_T, List.all_cons, List.all_nil, List.any_cons, List.any_nil, Bool.and_true, Bool.true_and, Bool.or_false, Bool.or_true, Bool.true_or, Bool.false_or, Bool.not_true, Bool.not_false, List.length_cons, List.length_nil, Nat.zero_add, Nat.reduceAdd, line_eq, true_and, and_true, String.reduceBEq, Int.reduceBEq, decide_true, decide_false, Int.reduceLT, Int.reduceLE, beq_self_eq_true, Nat.reduceLeDiff, wS_raise, wp_xinit, wp_sets0, wp_sets1, wp_fs, wp_xf, wp_xis, hdQ, setO, List.map_cons, List.map_nil, tabF_cons, tabF_nil, lview, w_inU1, w_inU2, w_inU3, w_inU4, w_notinU1, w_notinU2, w_notinU3, w_notinU4, wp_lcN, and_self, or_true, true_or, or_false, false_or, not_true_eq_false, not_false_eq_true, ne_eq, reduceCtorEq, List.cons.injEq, Bool.and_false, Bool.false_and, Bool.and_self, Bool.or_self, List.mem_cons, List.not_mem_nil, isSub, ty_tup, ty_lst, ty_int, ty_bl, ty_str, ty_non, nb, Bool.and_eq_true, Bool.or_eq_true, decide_eq_true_eq, beq_iff_eq, Int.cast_ofNat_Int, List.lookup_cons, List.lookup_nil, str_beq, insOf, not_true_eq_false, gok0]
  refine ⟨by omega, ?_⟩
  have hl := h.len
  unfold rng
  refine wS_forN (I := fun rest ρ s1 => ∃ t1 items v3 v4, ρ = [some (.ref 0), some (.int n), some (.ref s.length), v3, v4] ∧ Dk s1 t1 ∧ t1[t.length]? = some (.lst items) ∧ items.length + rest.length = n ∧ ∀ x ∈ items, ∃ (q : Nat) (m : Mark), x = .ref (q + 1) ∧ t.length < q ∧ m.length = 6 ∧ t1[q]? = some (.lst (m.map pairD))) ?_ ?_ _ _ _ ⟨t ++ [.lst []], [], none, none, rfl, h.app, by simp, by simp, fun x hx => nomatch hx⟩
  · rintro ρ s1 ⟨t1, items, v3, v4, rfl, h1, h2, h3, h4⟩
    try simp only [wp_rep, wp_meth, w_lenSo, w_tupT, w_tupL, List.length_map, wp_ok, wp_bad, wp_bind, wS_ok, wS_bad, wS_cons, wS_nil, wS_pass, wS_break, wS_cont, wS_never, wS_set, wS_expr, wS_ret, wS_retN, wS_if, wS_asg, wS_aug, wS_for, wp_lc, wp_m1, wp_m2, wp_mN, wp_aNil, wp_aCons, wp_mC, wp_var, wp_if2, wp_and2, wp_or2, wp_not, wp_chain2, isBl_bl, andK_p, orK_p, andV_p, orV_p, iteK_p, andK_t, andK_f, orK_t, orK_f, andV_t, andV_f, orV_t, orV_f, iteK_t, iteK_f, wp_tTru2, dTru_bl, dTru_lst, dTru_int, dTru_non, wp_mt, wp_get, wp_isi, wp_fld, wp_sl, wp_oNone, wp_oSome, wp_tBool, wp_tNot, wp_tAnd2, wp_tOr2, wp_tAll, wp_gSlot, wp_gsNil, wp_gsCons, wp_gTup, wp_gSub, wp_iAny, wp_iSeq, wp_iTup, wp_iStr, wp_iRange1, wp_iRange2, wp_iZip, wS_fld, wp_make, seqQ, rtQ, turnQ, List.getElem?_cons_zero, List.getElem?_cons_succ, List.set_cons_zero, List.set_cons_succ, wipeD, if_true, if_false, Bool.false_eq_true, Bool.true_eq_false, reduceIte, w_add, w_iadd, w_iaddS, w_addS, w_addL, w_addT, w_sub, w_mul, w_mod, w_fdiv, w_pow, w_neg, w_lt, w_le, w_gt, w_ge, w_eqI, w_neI, w_eqT, w_neT, w_isN, w_isnotN, w_isB, w_isNB, w_len, w_lenT, w_int, w_intB, w_abs, w_min, w_max, w_tup, w_lst, w_new, w_list, w_listN, w_ix, w_ixT, w_ixD, w_inT1, w_notinT1, w_inT2, w_notinT2, w_inT3, w_notinT3, w_inT4, w_notinT4, w_inT5, w_notinT5, w_inT6, w_notinT6, w_inT7, w_notinT7, w_inT8, w_notinT8, w_sl1, at_0, at_1, at_2, at_3, at_4, at_5, hasTy_list, hasTy_str, isNonD, flatD, sEq_T, List.all_cons, List.all_nil, List.any_cons, List.any_nil, Bool.and_true, Bool.true_and, Bool.or_false, Bool.or_true, Bool.true_or, Bool.false_or, Bool.not_true, Bool.not_false, List.length_cons, List.length_nil, Nat.zero_add, Nat.reduceAdd, line_eq, true_and, and_true, String.reduceBEq, Int.reduceBEq, decide_true, decide_false, Int.reduceLT, Int.reduceLE, beq_self_eq_true, Nat.reduceLeDiff, wS_raise, wp_xinit, wp_sets0, wp_sets1, wp_fs, wp_xf, wp_xis, hdQ, setO, List.map_cons, List.map_nil, tabF_cons, tabF_nil, lview, w_inU1, w_inU2, w_inU3, w_inU4, w_notinU1, w_notinU2, w_notinU3, w_notinU4, wp_lcN, and_self, or_true, true_or, or_false, false_or, not_true_eq_false, not_false_eq_true, ne_eq, reduceCtorEq, List.cons.injEq, Bool.and_false, Bool.false_and, Bool.and_self, Bool.or_self, List.mem_cons, List.not_mem_nil, isSub, ty_tup, ty_lst, ty_int, ty_bl, ty_str, ty_non, nb, Bool.and_eq_true, Bool.or_eq_true, decide_eq_true_eq, beq_iff_eq, Int.cast_ofNat_Int, List.lookup_cons, List.lookup_nil, str_beq, insOf, not_true_eq_false, gok0]
    rw [hl]
    exact k _ s1 t1 h1 ⟨t.length, items, rfl, h2, by simpa using h3, h4⟩
  · rintro x rest ρ s1 ⟨t1, items, v3, v4, rfl, h1, h2, h3, h4⟩
    have e1 : s1[s.length]? = some (.lst items) := by rw [hl, h1.get]; exact h2
    try simp only [wp_rep, wp_meth, w_lenSo, w_tupT, w_tupL, List.length_map, wp_ok, wp_bad, wp_bind, wS_ok, wS_bad, wS_cons, wS_nil, wS_pass, wS_break, wS_cont, wS_never, wS_set, wS_expr, wS_ret, wS_retN, wS_if, wS_asg, wS_aug, wS_for, wp_lc, wp_m1, wp_m2, wp_mN, wp_aNil, wp_aCons, wp_mC, wp_var, wp_if2, wp_and2, wp_or2, wp_not, wp_chain2, isBl_bl, andK_p, orK_p, andV_p, orV_p, iteK_p, andK_t, andK_f, orK_t, orK_f, andV_t, andV_f, orV_t, orV_f, iteK_t, iteK_f, wp_tTru2, dTru_bl, dTru_lst, dTru_int, dTru_non, wp_mt, wp_get, wp_isi, wp_fld, wp_sl, wp_oNone, wp_oSome, wp_tBool, wp_tNot, wp_tAnd2, wp_tOr2, wp_tAll, wp_gSlot, wp_gsNil, wp_gsCons, wp_gTup, wp_gSub, wp_iAny, wp_iSeq, wp_iTup, wp_iStr, wp_iRange1, wp_iRange2, wp_iZip, wS_fld, wp_make, seqQ, rtQ, turnQ, List.getElem?_cons_zero, List.getElem?_cons_succ, List.set_cons_zero, List.set_cons_succ, wipeD, if_true, if_false, Bool.false_eq_true, Bool.true_eq_false, reduceIte, w_add, w_iadd, w_iaddS, w_addS, w_addL, w_addT, w_sub, w_mul, w_mod, w_fdiv, w_pow, w_neg, w_lt, w_le, w_gt, w_ge, w_eqI, w_neI, w_eqT, w_neT, w_isN, w_isnotN, w_isB, w_isNB, w_len, w_lenT, w_int, w_intB, w_abs, w_min, w_max, w_tup, w_lst, w_new, w_list, w_listN, w_ix, w_ixT, w_ixD, w_inT1, w_notinT1, w_inT2, w_notinT2, w_inT3, w_notinT3, w_inT4, w_notinT4, w_inT5, w_notinT5, w_inT6, w_notinT6, w_inT7, w_notinT7, w_inT8, w_notinT8, w_sl1, at_0, at_1, at_2, at_3, at_4, at_5, hasTy_list, hasTy_str, isNonD, flatD, sEq_T, List.all_cons, List.all_nil, List.any_cons, List.any_nil, Bool.and_true, Bool.true_and, Bool.or_false, Bool.or_true, Bool.true_or, Bool.false_or, Bool.not_true, Bool.not_false, List.length_cons, List.length_nil, Nat.zero_add, Nat.reduceAdd, line_eq, true_and, and_true, String.reduceBEq, Int.reduceBEq, decide_true, decide_false, Int.reduceLT, Int.reduceLE, beq_self_eq_true, Nat.reduceLeDiff, wS_raise, wp_xinit, wp_sets0, wp_sets1, wp_fs, wp_xf, wp_xis, hdQ, setO, List.map_cons, List.map_nil, tabF_cons, tabF_nil, lview, w_inU1, w_inU2, w_inU3, w_inU4, w_notinU1, w_notinU2, w_notinU3, w_notinU4, wp_lcN, and_self, or_true, true_or, or_false, false_or, not_true_eq_false, not_false_eq_true, ne_eq, reduceCtorEq, List.cons.injEq, Bool.and_false, Bool.false_and, Bool.and_self, Bool.or_self, List.mem_cons, List.not_mem_nil, isSub, ty_tup, ty_lst, ty_int, ty_bl, ty_str, ty_non, nb, Bool.and_eq_true, Bool.or_eq_true, decide_eq_true_eq, beq_iff_eq, Int.cast_ofNat_Int, List.lookup_cons, List.lookup_nil, str_beq, insOf, not_true_eq_false, gok0]
    refine ⟨hasTy_ref e1, by decide, ?_⟩
    refine mark_wp (by omega) h1 fun m s2 hm h5 => ?_
    try simp only [wp_rep, wp_meth, w_lenSo, w_tupT, w_tupL, List.length_map, wp_ok, wp_bad, wp_bind, wS_ok, wS_bad, wS_cons, wS_nil, wS_pass, wS_break, wS_cont, wS_never, wS_set, wS_expr, wS_ret, wS_retN, wS_if, wS_asg, wS_aug, wS_for, wp_lc, wp_m1, wp_m2, wp_mN, wp_aNil, wp_aCons, wp_mC, wp_var, wp_if2, wp_and2, wp_or2, wp_not, wp_chain2, isBl_bl, andK_p, orK_p, andV_p, orV_p, iteK_p, andK_t, andK_f, orK_t, orK_f, andV_t, andV_f, orV_t, orV_f, iteK_t, iteK_f, wp_tTru2, dTru_bl, dTru_lst, dTru_int, dTru_non, wp_mt, wp_get, wp_isi, wp_fld, wp_sl, wp_oNone, wp_oSome, wp_tBool, wp_tNot, wp_tAnd2, wp_tOr2, wp_tAll, wp_gSlot, wp_gsNil, wp_gsCons, wp_gTup, wp_gSub, wp_iAny, wp_iSeq, wp_iTup, wp_iStr, wp_iRange1, wp_iRange2, wp_iZip, wS_fld, wp_make, seqQ, rtQ, turnQ, List.getElem?_cons_zero, List.getElem?_cons_succ, List.set_cons_zero, List.set_cons_succ, wipeD, if_true, if_false, Bool.false_eq_true, Bool.true_eq_false, reduceIte, w_add, w_iadd, w_iaddS, w_addS, w_addL, w_addT, w_sub, w_mul, w_mod, w_fdiv, w_pow, w_neg, w_lt, w_le, w_gt, w_ge, w_eqI, w_neI, w_eqT, w_neT, w_isN, w_isnotN, w_isB, w_isNB, w_len, w_lenT, w_int, w_intB, w_abs, w_min, w_max, w_tup, w_lst, w_new, w_list, w_listN, w_ix, w_ixT, w_ixD, w_inT1, w_notinT1, w_inT2, w_notinT2, w_inT3, w_notinT3, w_inT4, w_notinT4, w_inT5, w_notinT5, w_inT6, w_notinT6, w_inT7, w_notinT7, w_inT8, w_notinT8, w_sl1, at_0, at_1, at_2, at_3, at_4, at_5, hasTy_list, hasTy_str, isNonD, flatD, sEq_T, List.all_cons, List.all_nil, List.any_cons, List.any_nil, Bool.and_true, Bool.true_and, Bool.or_false, Bool.or_true, Bool.true_or, Bool.false_or, Bool.not_true, Bool.not_false, List.length_cons, List.length_nil, Nat.zero_add, Nat.reduceAdd, line_eq, true_and, and_true, String.reduceBEq, Int.reduceBEq, decide_true, decide_false, Int.reduceLT, Int.reduceLE, beq_self_eq_true, Nat.reduceLeDiff, wS_raise, wp_xinit, wp_sets0, wp_sets1, wp_fs, wp_xf, wp_xis, hdQ, setO, List.map_cons, List.map_nil, tabF_cons, tabF_nil, lview, w_inU1, w_inU2, w_inU3, w_inU4, w_notinU1, w_notinU2, w_notinU3, w_notinU4, wp_lcN, and_self, or_true, true_or, or_false, false_or, not_true_eq_false, not_false_eq_true, ne_eq, reduceCtorEq, List.cons.injEq, Bool.and_false, Bool.false_and, Bool.and_self, Bool.or_self, List.mem_cons, List.not_mem_nil, isSub, ty_tup, ty_lst, ty_int, ty_bl, ty_str, ty_non, nb, Bool.and_eq_true, Bool.or_eq_true, decide_eq_true_eq, beq_iff_eq, Int.cast_ofNat_Int, List.lookup_cons, List.lookup_nil, str_beq, insOf, not_true_eq_false, gok0]
    refine ⟨by unfold rng; simp, ?_⟩
    have hl2 := h5.len
    have hlt : t.length < t1.length := (List.getElem?_eq_some_iff.mp h2).1
    have e2 : (s2 ++ [O.lst (m.map pairD)])[s.length]? = some (.lst items) := by rw [hl, h5.app.get, List.getElem?_append_left hlt]; exact h2
    rw [w_append e2]
    simp only [List.length_cons] at h3
    refine ⟨by rw [line_eq]; omega, ?_⟩
    try simp only [wp_rep, wp_meth, w_lenSo, w_tupT, w_tupL, List.length_map, wp_ok, wp_bad, wp_bind, wS_ok, wS_bad, wS_cons, wS_nil, wS_pass, wS_break, wS_cont, wS_never, wS_set, wS_expr, wS_ret, wS_retN, wS_if, wS_asg, wS_aug, wS_for, wp_lc, wp_m1, wp_m2, wp_mN, wp_aNil, wp_aCons, wp_mC, wp_var, wp_if2, wp_and2, wp_or2, wp_not, wp_chain2, isBl_bl, andK_p, orK_p, andV_p, orV_p, iteK_p, andK_t, andK_f, orK_t, orK_f, andV_t, andV_f, orV_t, orV_f, iteK_t, iteK_f, wp_tTru2, dTru_bl, dTru_lst, dTru_int, dTru_non, wp_mt, wp_get, wp_isi, wp_fld, wp_sl, wp_oNone, wp_oSome, wp_tBool, wp_tNot, wp_tAnd2, wp_tOr2, wp_tAll, wp_gSlot, wp_gsNil, wp_gsCons, wp_gTup, wp_gSub, wp_iAny, wp_iSeq, wp_iTup, wp_iStr, wp_iRange1, wp_iRange2, wp_iZip, wS_fld, wp_make, seqQ, rtQ, turnQ, List.getElem?_cons_zero, List.getElem?_cons_succ, List.set_cons_zero, List.set_cons_succ, wipeD, if_true, if_false, Bool.false_eq_true, Bool.true_eq_false, reduceIte, w_add, w_iadd, w_iaddS, w_addS, w_addL, w_addT, w_sub, w_mul, w_mod, w_fdiv, w_pow, w_neg, w_lt, w_le, w_gt, w_ge, w_eqI, w_neI, w_eqT, w_neT, w_isN, w_isnotN, w_isB, w_isNB, w_len, w_lenT, w_int, w_intB, w_abs, w_min, w_max, w_tup, w_lst, w_new, w_list, w_listN, w_ix, w_ixT, w_ixD, w_inT1, w_notinT1, w_inT2, w_notinT2, w_inT3, w_notinT3, w_inT4, w_notinT4, w_inT5, w_notinT5, w_inT6, w_notinT6, w_inT7, w_notinT7, w_inT8, w_notinT8, w_sl1, at_0, at_1, at_2, at_3, at_4, at_5, hasTy_list, hasTy_str, isNonD, flatD, sEq_T, List.all_cons, List.all_nil, List.any_cons, List.any_nil, Bool.and_true, Bool.true_and, Bool.or_false, Bool.or_true, Bool.true_or, Bool.false_or, Bool.not_true, Bool.not_false, List.length_cons, List.length_nil, Nat.zero_add, Nat.reduceAdd, line_eq, true_and, and_true, String.reduceBEq, Int.reduceBEq, decide_true, decide_false, Int.reduceLT, Int.reduceLE, beq_self_eq_true, Nat.reduceLeDiff, wS_raise, wp_xinit, wp_sets0, wp_sets1, wp_fs, wp_xf, wp_xis, hdQ, setO, List.map_cons, List.map_nil, tabF_cons, tabF_nil, lview, w_inU1, w_inU2, w_inU3, w_inU4, w_notinU1, w_notinU2, w_notinU3, w_notinU4, wp_lcN, and_self, or_true, true_or, or_false, false_or, not_true_eq_false, not_false_eq_true, ne_eq, reduceCtorEq, List.cons.injEq, Bool.and_false, Bool.false_and, Bool.and_self, Bool.or_self, List.mem_cons, List.not_mem_nil, isSub, ty_tup, ty_lst, ty_int, ty_bl, ty_str, ty_non, nb, Bool.and_eq_true, Bool.or_eq_true, decide_eq_true_eq, beq_iff_eq, Int.cast_ofNat_Int, List.lookup_cons, List.lookup_nil, str_beq, insOf, not_true_eq_false, gok0]
    refine ⟨(t1 ++ [O.lst (m.map pairD)]).set t.length (O.lst (items ++ [D.ref s2.length])), items ++ [D.ref s2.length], _, _, ⟨rfl, rfl⟩, ?_, ?_, by simp; omega, fun x hx => ?_⟩
    · rw [hl]; exact h5.app.set
    · rw [List.getElem?_set_self (by simp; omega)]
    · rcases List.mem_append.mp hx with hx | hx
      · obtain ⟨q, m', rfl, hq, hm', hg⟩ := h4 x hx
        refine ⟨q, m', rfl, hq, hm', ?_⟩
        rw [List.getElem?_set_ne (by omega), List.getElem?_append_left (List.getElem?_eq_some_iff.mp hg).1]
        exact hg
      · rw [List.mem_singleton.mp hx]
        refine ⟨t1.length, m, by rw [hl2], hlt, hm, ?_⟩
        rw [List.getElem?_set_ne (by omega)]
        simp
/-- a rule as it may stand: its marks finished, or things -/
def It (t : S) (p : Nat) (x : D) : Prop := ∃ m : Mark, m.length ≤ 8 ∧ (x = markL m ∨ ∃ q, x = .ref (q + 1) ∧ p ≠ q ∧ t[q]? = some (.lst (m.map pairD)))
def RT (t : S) (d : D) : Prop := d = .lst [] ∨ ∃ p items, d = .ref (p + 1) ∧ t[p]? = some (.lst items) ∧ items.length ≤ 5 ∧ ∀ x ∈ items, It t p x
theorem R6.rt {d : D} {n : Nat} (h : R6 t d n) (hn : n ≤ 5) : RT t d := by
  obtain ⟨p, items, rfl, hp, hl, hi⟩ := h
  refine .inr ⟨p, items, rfl, hp, by omega, fun x hx => ?_⟩
  obtain ⟨q, m, rfl, hq, hm, hg⟩ := hi x hx
  exact ⟨m, by omega, .inr ⟨q, rfl, by omega, hg⟩⟩
theorem It.setq {p q : Nat} {x : D} {m : Mark} (h : It t p x) (hm : m.length ≤ 8) : It (t.set q (.lst (m.map pairD))) p x := by
  obtain ⟨m', hm', h⟩ := h
  rcases h with rfl | ⟨q', rfl, hq, hg⟩
  · exact ⟨m', hm', .inl rfl⟩
  · by_cases hqq : q = q'
    · subst hqq
      exact ⟨m, hm, .inr ⟨q, rfl, hq, by rw [List.getElem?_set_self (List.getElem?_eq_some_iff.mp hg).1]⟩⟩
    · exact ⟨m', hm', .inr ⟨q', rfl, hq, by rw [List.getElem?_set_ne hqq]; exact hg⟩⟩
theorem It.setp {p : Nat} {x : D} {o : O} (h : It t p x) : It (t.set p o) p x := by
  obtain ⟨m', hm', h⟩ := h
  rcases h with rfl | ⟨q', rfl, hq, hg⟩
  · exact ⟨m', hm', .inl rfl⟩
  · exact ⟨m', hm', .inr ⟨q', rfl, hq, by rw [List.getElem?_set_ne hq]; exact hg⟩⟩
theorem spoilt_wp {n : Nat} (hn : 1 ≤ n ∧ n ≤ 4) (h : Dk s t) (k : ∀ d s' t', Dk s' t' → RT t' d → Q d s') : wp (f_law_spoilt_rule [.ref 0, .int n] s) Q E := by
  refine (wp_fn (n := 2) (tot := 7) (m := m_law_spoilt_rule) rfl).mpr ?_
  show wS (m_law_spoilt_rule [some (.ref 0), some (.int n), none, none, none, none, none] _) _ _
  unfold m_law_spoilt_rule
  try simp only [wp_rep, wp_meth, w_lenSo, w_tupT, w_tupL, List.length_map, wp_ok, wp_bad, wp_bind, wS_ok, wS_bad, wS_cons, wS_nil, wS_pass, wS_break, wS_cont, wS_never, wS_set, wS_expr, wS_ret, wS_retN, wS_if, wS_asg, wS_aug, wS_for, wp_lc, wp_m1, wp_m2, wp_mN, wp_aNil, wp_aCons, wp_mC, wp_var, wp_if2, wp_and2, wp_or2, wp_not, wp_chain2, isBl_bl, andK_p, orK_p, andV_p, orV_p, iteK_p, andK_t, andK_f, orK_t, orK_f, andV_t, andV_f, orV_t, orV_f, iteK_t, iteK_f, wp_tTru2, dTru_bl, dTru_lst, dTru_int, dTru_non, wp_mt, wp_get, wp_isi, wp_fld, wp_sl, wp_oNone, wp_oSome, wp_tBool, wp_tNot, wp_tAnd2, wp_tOr2, wp_tAll, wp_gSlot, wp_gsNil, wp_gsCons, wp_gTup, wp_gSub, wp_iAny, wp_iSeq, wp_iTup, wp_iStr, wp_iRange1, wp_iRange2, wp_iZip, wS_fld, wp_make, seqQ, rtQ, turnQ, List.getElem?_cons_zero, List.getElem?_cons_succ, List.set_cons_zero, List.set_cons_succ, wipeD, if_true, if_false, Bool.false_eq_true, Bool.true_eq_false, reduceIte, w_add, w_iadd, w_iaddS, w_addS, w_addL, w_addT, w_sub, w_mul, w_mod, w_fdiv, w_pow, w_neg, w_lt, w_le, w_gt, w_ge, w_eqI, w_neI, w_eqT, w_neT, w_isN, w_isnotN, w_isB, w_isNB, w_len, w_lenT, w_int, w_intB, w_abs, w_min, w_max, w_tup, w_lst, w_new, w_list, w_listN, w_ix, w_ixT, w_ixD, w_inT1, w_notinT1, w_inT2, w_notinT2, w_inT3, w_notinT3, w_inT4, w_notinT4, w_inT5, w_notinT5, w_inT6, w_notinT6, w_inT7, w_notinT7, w_inT8, w_notinT8, w_sl1, at_0, at_1, at_2, at_3, at_4, at_5, hasTy_list, hasTy_str, isNonD, flatD, sEq_T, List.all_cons, List.all_nil, List.any_cons, List.any_nil, Bool.and_true, Bool.true_and, Bool.or_false, Bool.or_true, Bool.true_or, Bool.false_or, Bool.not_true, Bool.not_false, List.length_cons, List.length_nil, Nat.zero_add, Nat.reduceAdd, line_eq, true_and, and_true, String.reduceBEq, Int.reduceBEq, decide_true, decide_false, Int.reduceLT, Int.reduceLE, beq_self_eq_true, Nat.reduceLeDiff, wS_raise, wp_xinit, wp_sets0, wp_sets1, wp_fs, wp_xf, wp_xis, hdQ, setO, List.map_cons, List.map_nil, tabF_cons, tabF_nil, lview, w_inU1, w_inU2, w_inU3, w_inU4, w_notinU1, w_notinU2, w_notinU3, w_notinU4, wp_lcN, and_self, or_true, true_or, or_false, false_or, not_true_eq_false, not_false_eq_true, ne_eq, reduceCtorEq, List.cons.injEq, Bool.and_false, Bool.false_and, Bool.and_self, Bool.or_self, List.mem_cons, List.not_mem_nil, isSub, ty_tup, ty_lst, ty_int, ty_bl, ty_str, ty_non, nb, Bool.and_eq_true, Bool.or_eq_true, decide_eq_true_eq, beq_iff_eq, Int.cast_ofNat_Int, List.lookup_cons, List.lookup_nil, str_beq, insOf, not_true_eq_false, gok0]
  refine tk h (by decide) fun v s1 _ _ h1 => ?_
  try simp only [wp_rep, wp_meth, w_lenSo, w_tupT, w_tupL, List.length_map, wp_ok, wp_bad, wp_bind, wS_ok, wS_bad, wS_cons, wS_nil, wS_pass, wS_break, wS_cont, wS_never, wS_set, wS_expr, wS_ret, wS_retN, wS_if, wS_asg, wS_aug, wS_for, wp_lc, wp_m1, wp_m2, wp_mN, wp_aNil, wp_aCons, wp_mC, wp_var, wp_if2, wp_and2, wp_or2, wp_not, wp_chain2, isBl_bl, andK_p, orK_p, andV_p, orV_p, iteK_p, andK_t, andK_f, orK_t, orK_f, andV_t, andV_f, orV_t, orV_f, iteK_t, iteK_f, wp_tTru2, dTru_bl, dTru_lst, dTru_int, dTru_non, wp_mt, wp_get, wp_isi, wp_fld, wp_sl, wp_oNone, wp_oSome, wp_tBool, wp_tNot, wp_tAnd2, wp_tOr2, wp_tAll, wp_gSlot, wp_gsNil, wp_gsCons, wp_gTup, wp_gSub, wp_iAny, wp_iSeq, wp_iTup, wp_iStr, wp_iRange1, wp_iRange2, wp_iZip, wS_fld, wp_make, seqQ, rtQ, turnQ, List.getElem?_cons_zero, List.getElem?_cons_succ, List.set_cons_zero, List.set_cons_succ, wipeD, if_true, if_false, Bool.false_eq_true, Bool.true_eq_false, reduceIte, w_add, w_iadd, w_iaddS, w_addS, w_addL, w_addT, w_sub, w_mul, w_mod, w_fdiv, w_pow, w_neg, w_lt, w_le, w_gt, w_ge, w_eqI, w_neI, w_eqT, w_neT, w_isN, w_isnotN, w_isB, w_isNB, w_len, w_lenT, w_int, w_intB, w_abs, w_min, w_max, w_tup, w_lst, w_new, w_list, w_listN, w_ix, w_ixT, w_ixD, w_inT1, w_notinT1, w_inT2, w_notinT2, w_inT3, w_notinT3, w_inT4, w_notinT4, w_inT5, w_notinT5, w_inT6, w_notinT6, w_inT7, w_notinT7, w_inT8, w_notinT8, w_sl1, at_0, at_1, at_2, at_3, at_4, at_5, hasTy_list, hasTy_str, isNonD, flatD, sEq_T, List.all_cons, List.all_nil, List.any_cons, List.any_nil, Bool.and_true, Bool.true_and, Bool.or_false, Bool.or_true, Bool.true_or, Bool.false_or, Bool.not_true, Bool.not_false, List.length_cons, List.length_nil, Nat.zero_add, Nat.reduceAdd, line_eq, true_and, and_true, String.reduceBEq, Int.reduceBEq, decide_true, decide_false, Int.reduceLT, Int.reduceLE, beq_self_eq_true, Nat.reduceLeDiff, wS_raise, wp_xinit, wp_sets0, wp_sets1, wp_fs, wp_xf, wp_xis, hdQ, setO, List.map_cons, List.map_nil, tabF_cons, tabF_nil, lview, w_inU1, w_inU2, w_inU3, w_inU4, w_notinU1, w_notinU2, w_notinU3, w_notinU4, wp_lcN, and_self, or_true, true_or, or_false, false_or, not_true_eq_false, not_false_eq_true, ne_eq, reduceCtorEq, List.cons.injEq, Bool.and_false, Bool.false_and, Bool.and_self, Bool.or_self, List.mem_cons, List.not_mem_nil, isSub, ty_tup, ty_lst, ty_int, ty_bl, ty_str, ty_non, nb, Bool.and_eq_true, Bool.or_eq_true, decide_eq_true_eq, beq_iff_eq, Int.cast_ofNat_Int, List.lookup_cons, List.lookup_nil, str_beq, insOf, not_true_eq_false, gok0]
  split
  · exact k _ s1 t h1 (.inl rfl)
  split
  · exact law_rule_wp (n := 5) ⟨by decide, by decide⟩ h1 fun d s2 t2 h2 hr => k d s2 t2 h2 (hr.rt (by decide))
  refine law_rule_wp (by omega) h1 fun d s2 t2 h2 hr => ?_
  try simp only [wp_rep, wp_meth, w_lenSo, w_tupT, w_tupL, List.length_map, wp_ok, wp_bad, wp_bind, wS_ok, wS_bad, wS_cons, wS_nil, wS_pass, wS_break, wS_cont, wS_never, wS_set, wS_expr, wS_ret, wS_retN, wS_if, wS_asg, wS_aug, wS_for, wp_lc, wp_m1, wp_m2, wp_mN, wp_aNil, wp_aCons, wp_mC, wp_var, wp_if2, wp_and2, wp_or2, wp_not, wp_chain2, isBl_bl, andK_p, orK_p, andV_p, orV_p, iteK_p, andK_t, andK_f, orK_t, orK_f, andV_t, andV_f, orV_t, orV_f, iteK_t, iteK_f, wp_tTru2, dTru_bl, dTru_lst, dTru_int, dTru_non, wp_mt, wp_get, wp_isi, wp_fld, wp_sl, wp_oNone, wp_oSome, wp_tBool, wp_tNot, wp_tAnd2, wp_tOr2, wp_tAll, wp_gSlot, wp_gsNil, wp_gsCons, wp_gTup, wp_gSub, wp_iAny, wp_iSeq, wp_iTup, wp_iStr, wp_iRange1, wp_iRange2, wp_iZip, wS_fld, wp_make, seqQ, rtQ, turnQ, List.getElem?_cons_zero, List.getElem?_cons_succ, List.set_cons_zero, List.set_cons_succ, wipeD, if_true, if_false, Bool.false_eq_true, Bool.true_eq_false, reduceIte, w_add, w_iadd, w_iaddS, w_addS, w_addL, w_addT, w_sub, w_mul, w_mod, w_fdiv, w_pow, w_neg, w_lt, w_le, w_gt, w_ge, w_eqI, w_neI, w_eqT, w_neT, w_isN, w_isnotN, w_isB, w_isNB, w_len, w_lenT, w_int, w_intB, w_abs, w_min, w_max, w_tup, w_lst, w_new, w_list, w_listN, w_ix, w_ixT, w_ixD, w_inT1, w_notinT1, w_inT2, w_notinT2, w_inT3, w_notinT3, w_inT4, w_notinT4, w_inT5, w_notinT5, w_inT6, w_notinT6, w_inT7, w_notinT7, w_inT8, w_notinT8, w_sl1, at_0, at_1, at_2, at_3, at_4, at_5, hasTy_list, hasTy_str, isNonD, flatD, sEq_T, List.all_cons, List.all_nil, List.any_cons, List.any_nil, Bool.and_true, Bool.true_and, Bool.or_false, Bool.or_true, Bool.true_or, Bool.false_or, Bool.not_true, Bool.not_false, List.length_cons, List.length_nil, Nat.zero_add, Nat.reduceAdd, line_eq, true_and, and_true, String.reduceBEq, Int.reduceBEq, decide_true, decide_false, Int.reduceLT, Int.reduceLE, beq_self_eq_true, Nat.reduceLeDiff, wS_raise, wp_xinit, wp_sets0, wp_sets1, wp_fs, wp_xf, wp_xis, hdQ, setO, List.map_cons, List.map_nil, tabF_cons, tabF_nil, lview, w_inU1, w_inU2, w_inU3, w_inU4, w_notinU1, w_notinU2, w_notinU3, w_notinU4, wp_lcN, and_self, or_true, true_or, or_false, false_or, not_true_eq_false, not_false_eq_true, ne_eq, reduceCtorEq, List.cons.injEq, Bool.and_false, Bool.false_and, Bool.and_self, Bool.or_self, List.mem_cons, List.not_mem_nil, isSub, ty_tup, ty_lst, ty_int, ty_bl, ty_str, ty_non, nb, Bool.and_eq_true, Bool.or_eq_true, decide_eq_true_eq, beq_iff_eq, Int.cast_ofNat_Int, List.lookup_cons, List.lookup_nil, str_beq, insOf, not_true_eq_false, gok0]
  refine tk h2 (by omega) fun mk s3 hk0 hk1 h3 => ?_
  try simp only [wp_rep, wp_meth, w_lenSo, w_tupT, w_tupL, List.length_map, wp_ok, wp_bad, wp_bind, wS_ok, wS_bad, wS_cons, wS_nil, wS_pass, wS_break, wS_cont, wS_never, wS_set, wS_expr, wS_ret, wS_retN, wS_if, wS_asg, wS_aug, wS_for, wp_lc, wp_m1, wp_m2, wp_mN, wp_aNil, wp_aCons, wp_mC, wp_var, wp_if2, wp_and2, wp_or2, wp_not, wp_chain2, isBl_bl, andK_p, orK_p, andV_p, orV_p, iteK_p, andK_t, andK_f, orK_t, orK_f, andV_t, andV_f, orV_t, orV_f, iteK_t, iteK_f, wp_tTru2, dTru_bl, dTru_lst, dTru_int, dTru_non, wp_mt, wp_get, wp_isi, wp_fld, wp_sl, wp_oNone, wp_oSome, wp_tBool, wp_tNot, wp_tAnd2, wp_tOr2, wp_tAll, wp_gSlot, wp_gsNil, wp_gsCons, wp_gTup, wp_gSub, wp_iAny, wp_iSeq, wp_iTup, wp_iStr, wp_iRange1, wp_iRange2, wp_iZip, wS_fld, wp_make, seqQ, rtQ, turnQ, List.getElem?_cons_zero, List.getElem?_cons_succ, List.set_cons_zero, List.set_cons_succ, wipeD, if_true, if_false, Bool.false_eq_true, Bool.true_eq_false, reduceIte, w_add, w_iadd, w_iaddS, w_addS, w_addL, w_addT, w_sub, w_mul, w_mod, w_fdiv, w_pow, w_neg, w_lt, w_le, w_gt, w_ge, w_eqI, w_neI, w_eqT, w_neT, w_isN, w_isnotN, w_isB, w_isNB, w_len, w_lenT, w_int, w_intB, w_abs, w_min, w_max, w_tup, w_lst, w_new, w_list, w_listN, w_ix, w_ixT, w_ixD, w_inT1, w_notinT1, w_inT2, w_notinT2, w_inT3, w_notinT3, w_inT4, w_notinT4, w_inT5, w_notinT5, w_inT6, w_notinT6, w_inT7, w_notinT7, w_inT8, w_notinT8, w_sl1, at_0, at_1, at_2, at_3, at_4, at_5, hasTy_list, hasTy_str, isNonD, flatD, sEq_T, List.all_cons, List.all_nil, List.any_cons, List.any_nil, Bool.and_true, Bool.true_and, Bool.or_false, Bool.or_true, Bool.true_or, Bool.false_or, Bool.not_true, Bool.not_false, List.length_cons, List.length_nil, Nat.zero_add, Nat.reduceAdd, line_eq, true_and, and_true, String.reduceBEq, Int.reduceBEq, decide_true, decide_false, Int.reduceLT, Int.reduceLE, beq_self_eq_true, Nat.reduceLeDiff, wS_raise, wp_xinit, wp_sets0, wp_sets1, wp_fs, wp_xf, wp_xis, hdQ, setO, List.map_cons, List.map_nil, tabF_cons, tabF_nil, lview, w_inU1, w_inU2, w_inU3, w_inU4, w_notinU1, w_notinU2, w_notinU3, w_notinU4, wp_lcN, and_self, or_true, true_or, or_false, false_or, not_true_eq_false, not_false_eq_true, ne_eq, reduceCtorEq, List.cons.injEq, Bool.and_false, Bool.false_and, Bool.and_self, Bool.or_self, List.mem_cons, List.not_mem_nil, isSub, ty_tup, ty_lst, ty_int, ty_bl, ty_str, ty_non, nb, Bool.and_eq_true, Bool.or_eq_true, decide_eq_true_eq, beq_iff_eq, Int.cast_ofNat_Int, List.lookup_cons, List.lookup_nil, str_beq, insOf, not_true_eq_false, gok0]
  refine tk h3 (by decide) fun ev s4 he0 he1 h4 => ?_
  try simp only [wp_rep, wp_meth, w_lenSo, w_tupT, w_tupL, List.length_map, wp_ok, wp_bad, wp_bind, wS_ok, wS_bad, wS_cons, wS_nil, wS_pass, wS_break, wS_cont, wS_never, wS_set, wS_expr, wS_ret, wS_retN, wS_if, wS_asg, wS_aug, wS_for, wp_lc, wp_m1, wp_m2, wp_mN, wp_aNil, wp_aCons, wp_mC, wp_var, wp_if2, wp_and2, wp_or2, wp_not, wp_chain2, isBl_bl, andK_p, orK_p, andV_p, orV_p, iteK_p, andK_t, andK_f, orK_t, orK_f, andV_t, andV_f, orV_t, orV_f, iteK_t, iteK_f, wp_tTru2, dTru_bl, dTru_lst, dTru_int, dTru_non, wp_mt, wp_get, wp_isi, wp_fld, wp_sl, wp_oNone, wp_oSome, wp_tBool, wp_tNot, wp_tAnd2, wp_tOr2, wp_tAll, wp_gSlot, wp_gsNil, wp_gsCons, wp_gTup, wp_gSub, wp_iAny, wp_iSeq, wp_iTup, wp_iStr, wp_iRange1, wp_iRange2, wp_iZip, wS_fld, wp_make, seqQ, rtQ, turnQ, List.getElem?_cons_zero, List.getElem?_cons_succ, List.set_cons_zero, List.set_cons_succ, wipeD, if_true, if_false, Bool.false_eq_true, Bool.true_eq_false, reduceIte, w_add, w_iadd, w_iaddS, w_addS, w_addL, w_addT, w_sub, w_mul, w_mod, w_fdiv, w_pow, w_neg, w_lt, w_le, w_gt, w_ge, w_eqI, w_neI, w_eqT, w_neT, w_isN, w_isnotN, w_isB, w_isNB, w_len, w_lenT, w_int, w_intB, w_abs, w_min, w_max, w_tup, w_lst, w_new, w_list, w_listN, w_ix, w_ixT, w_ixD, w_inT1, w_notinT1, w_inT2, w_notinT2, w_inT3, w_notinT3, w_inT4, w_notinT4, w_inT5, w_notinT5, w_inT6, w_notinT6, w_inT7, w_notinT7, w_inT8, w_notinT8, w_sl1, at_0, at_1, at_2, at_3, at_4, at_5, hasTy_list, hasTy_str, isNonD, flatD, sEq_T, List.all_cons, List.all_nil, List.any_cons, List.any_nil, Bool.and_true, Bool.true_and, Bool.or_false, Bool.or_true, Bool.true_or, Bool.false_or, Bool.not_true, Bool.not_false, List.length_cons, List.length_nil, Nat.zero_add, Nat.reduceAdd, line_eq, true_and, and_true, String.reduceBEq, Int.reduceBEq, decide_true, decide_false, Int.reduceLT, Int.reduceLE, beq_self_eq_true, Nat.reduceLeDiff, wS_raise, wp_xinit, wp_sets0, wp_sets1, wp_fs, wp_xf, wp_xis, hdQ, setO, List.map_cons, List.map_nil, tabF_cons, tabF_nil, lview, w_inU1, w_inU2, w_inU3, w_inU4, w_notinU1, w_notinU2, w_notinU3, w_notinU4, wp_lcN, and_self, or_true, true_or, or_false, false_or, not_true_eq_false, not_false_eq_true, ne_eq, reduceCtorEq, List.cons.injEq, Bool.and_false, Bool.false_and, Bool.and_self, Bool.or_self, List.mem_cons, List.not_mem_nil, isSub, ty_tup, ty_lst, ty_int, ty_bl, ty_str, ty_non, nb, Bool.and_eq_true, Bool.or_eq_true, decide_eq_true_eq, beq_iff_eq, Int.cast_ofNat_Int, List.lookup_cons, List.lookup_nil, str_beq, insOf, not_true_eq_false, gok0]
  have hrt := hr.rt (by omega : n ≤ 5)
  obtain ⟨p, items, rfl, hp, hl, hi⟩ := hr
  have gp : ∀ {s' : S}, Dk s' t2 → s'[p + 1]? = some (.lst items) := fun h => by rw [h.get]; exact hp
  obtain ⟨x, hx, ex, _⟩ := atI_mem hk0 (by omega : mk < items.length)
  obtain ⟨q, m, rfl, hpq, hm, hq⟩ := hi x hx
  have gq : ∀ {s' : S}, Dk s' t2 → s'[q + 1]? = some (.lst (m.map pairD)) := fun h => by rw [h.get]; exact hq
  obtain ⟨y, hy, ey, _⟩ := atI_mem (xs := m.map pairD) he0 (by rw [List.length_map]; omega)
  obtain ⟨⟨a, b⟩, _, rfl⟩ := List.mem_map.mp hy
  have items5 : ∀ x ∈ items, It t2 p x := fun x hx => by
    obtain ⟨q, m, rfl, hq, hm, hg⟩ := hi x hx
    exact ⟨m, by omega, .inr ⟨q, rfl, by omega, hg⟩⟩
  have finP : ∀ {s' : S}, Dk s' t2 → ∀ m' : Mark, m'.length ≤ 8 → (match dStore (.ref (p + 1)) (.int mk) (markL m') s' with | some s3 => Q (.ref (p + 1)) s3 | none => False) := fun {s'} hs m' hm' => by
    rw [w_store (gp hs) hk0 (by omega)]
    refine k _ _ (t2.set p (.lst (items.set mk.toNat (markL m')))) hs.set (.inr ⟨p, _, rfl, by rw [List.getElem?_set_self (List.getElem?_eq_some_iff.mp hp).1], by rw [List.length_set]; omega, fun x hx => ?_⟩)
    rcases List.mem_or_eq_of_mem_set hx with hx | rfl
    · exact (items5 x hx).setp
    · exact ⟨m', hm', .inl rfl⟩
  have finQ : ∀ {s' : S}, Dk s' t2 → ∀ pr : Int × Int, (match dStore (.ref (q + 1)) (.int ev) (pairD pr) s' with | some s3 => Q (.ref (p + 1)) s3 | none => False) := fun {s'} hs pr => by
    rw [w_store (gq hs) he0 (by rw [List.length_map]; omega), ← List.map_set]
    refine k _ _ (t2.set q (.lst ((m.set ev.toNat pr).map pairD))) hs.set (.inr ⟨p, items, rfl, by rw [List.getElem?_set_ne (by omega)]; exact hp, by omega, fun x hx => (items5 x hx).setq (by rw [List.length_set]; omega)⟩)
  rw [w_ixR (gp h4), ex]
  simp only
  rw [w_ixR (gq h4), ey]
  try simp only [wp_rep, wp_meth, w_lenSo, w_tupT, w_tupL, List.length_map, wp_ok, wp_bad, wp_bind, wS_ok, wS_bad, wS_cons, wS_nil, wS_pass, wS_break, wS_cont, wS_never, wS_set, wS_expr, wS_ret, wS_retN, wS_if, wS_asg, wS_aug, wS_for, wp_lc, wp_m1, wp_m2, wp_mN, wp_aNil, wp_aCons, wp_mC, wp_var, wp_if2, wp_and2, wp_or2, wp_not, wp_chain2, isBl_bl, andK_p, orK_p, andV_p, orV_p, iteK_p, andK_t, andK_f, orK_t, orK_f, andV_t, andV_f, orV_t, orV_f, iteK_t, iteK_f, wp_tTru2, dTru_bl, dTru_lst, dTru_int, dTru_non, wp_mt, wp_get, wp_isi, wp_fld, wp_sl, wp_oNone, wp_oSome, wp_tBool, wp_tNot, wp_tAnd2, wp_tOr2, wp_tAll, wp_gSlot, wp_gsNil, wp_gsCons, wp_gTup, wp_gSub, wp_iAny, wp_iSeq, wp_iTup, wp_iStr, wp_iRange1, wp_iRange2, wp_iZip, wS_fld, wp_make, seqQ, rtQ, turnQ, List.getElem?_cons_zero, List.getElem?_cons_succ, List.set_cons_zero, List.set_cons_succ, wipeD, if_true, if_false, Bool.false_eq_true, Bool.true_eq_false, reduceIte, w_add, w_iadd, w_iaddS, w_addS, w_addL, w_addT, w_sub, w_mul, w_mod, w_fdiv, w_pow, w_neg, w_lt, w_le, w_gt, w_ge, w_eqI, w_neI, w_eqT, w_neT, w_isN, w_isnotN, w_isB, w_isNB, w_len, w_lenT, w_int, w_intB, w_abs, w_min, w_max, w_tup, w_lst, w_new, w_list, w_listN, w_ix, w_ixT, w_ixD, w_inT1, w_notinT1, w_inT2, w_notinT2, w_inT3, w_notinT3, w_inT4, w_notinT4, w_inT5, w_notinT5, w_inT6, w_notinT6, w_inT7, w_notinT7, w_inT8, w_notinT8, w_sl1, at_0, at_1, at_2, at_3, at_4, at_5, hasTy_list, hasTy_str, isNonD, flatD, sEq_T, List.all_cons, List.all_nil, List.any_cons, List.any_nil, Bool.and_true, Bool.true_and, Bool.or_false, Bool.or_true, Bool.true_or, Bool.false_or, Bool.not_true, Bool.not_false, List.length_cons, List.length_nil, Nat.zero_add, Nat.reduceAdd, line_eq, true_and, and_true, String.reduceBEq, Int.reduceBEq, decide_true, decide_false, Int.reduceLT, Int.reduceLE, beq_self_eq_true, Nat.reduceLeDiff, wS_raise, wp_xinit, wp_sets0, wp_sets1, wp_fs, wp_xf, wp_xis, hdQ, setO, List.map_cons, List.map_nil, tabF_cons, tabF_nil, lview, w_inU1, w_inU2, w_inU3, w_inU4, w_notinU1, w_notinU2, w_notinU3, w_notinU4, wp_lcN, and_self, or_true, true_or, or_false, false_or, not_true_eq_false, not_false_eq_true, ne_eq, reduceCtorEq, List.cons.injEq, Bool.and_false, Bool.false_and, Bool.and_self, Bool.or_self, List.mem_cons, List.not_mem_nil, isSub, ty_tup, ty_lst, ty_int, ty_bl, ty_str, ty_non, nb, Bool.and_eq_true, Bool.or_eq_true, decide_eq_true_eq, beq_iff_eq, Int.cast_ofNat_Int, List.lookup_cons, List.lookup_nil, str_beq, insOf, not_true_eq_false, gok0]
  split
  · rw [w_ixR (gp h4), ex]
    simp only
    rw [w_slLv (lview_ref (gq h4)), show dCut (m.map pairD) (some 1) none = (m.drop 1).map pairD from (cut_from (a := 1)).trans (by rw [List.map_drop])]
    exact finP h4 (m.drop 1) (by rw [List.length_drop]; omega)
  split
  · rw [w_ixR (gp h4), ex]
    try simp only [wp_rep, wp_meth, w_lenSo, w_tupT, w_tupL, List.length_map, wp_ok, wp_bad, wp_bind, wS_ok, wS_bad, wS_cons, wS_nil, wS_pass, wS_break, wS_cont, wS_never, wS_set, wS_expr, wS_ret, wS_retN, wS_if, wS_asg, wS_aug, wS_for, wp_lc, wp_m1, wp_m2, wp_mN, wp_aNil, wp_aCons, wp_mC, wp_var, wp_if2, wp_and2, wp_or2, wp_not, wp_chain2, isBl_bl, andK_p, orK_p, andV_p, orV_p, iteK_p, andK_t, andK_f, orK_t, orK_f, andV_t, andV_f, orV_t, orV_f, iteK_t, iteK_f, wp_tTru2, dTru_bl, dTru_lst, dTru_int, dTru_non, wp_mt, wp_get, wp_isi, wp_fld, wp_sl, wp_oNone, wp_oSome, wp_tBool, wp_tNot, wp_tAnd2, wp_tOr2, wp_tAll, wp_gSlot, wp_gsNil, wp_gsCons, wp_gTup, wp_gSub, wp_iAny, wp_iSeq, wp_iTup, wp_iStr, wp_iRange1, wp_iRange2, wp_iZip, wS_fld, wp_make, seqQ, rtQ, turnQ, List.getElem?_cons_zero, List.getElem?_cons_succ, List.set_cons_zero, List.set_cons_succ, wipeD, if_true, if_false, Bool.false_eq_true, Bool.true_eq_false, reduceIte, w_add, w_iadd, w_iaddS, w_addS, w_addL, w_addT, w_sub, w_mul, w_mod, w_fdiv, w_pow, w_neg, w_lt, w_le, w_gt, w_ge, w_eqI, w_neI, w_eqT, w_neT, w_isN, w_isnotN, w_isB, w_isNB, w_len, w_lenT, w_int, w_intB, w_abs, w_min, w_max, w_tup, w_lst, w_new, w_list, w_listN, w_ix, w_ixT, w_ixD, w_inT1, w_notinT1, w_inT2, w_notinT2, w_inT3, w_notinT3, w_inT4, w_notinT4, w_inT5, w_notinT5, w_inT6, w_notinT6, w_inT7, w_notinT7, w_inT8, w_notinT8, w_sl1, at_0, at_1, at_2, at_3, at_4, at_5, hasTy_list, hasTy_str, isNonD, flatD, sEq_T, List.all_cons, List.all_nil, List.any_cons, List.any_nil, Bool.and_true, Bool.true_and, Bool.or_false, Bool.or_true, Bool.true_or, Bool.false_or, Bool.not_true, Bool.not_false, List.length_cons, List.length_nil, Nat.zero_add, Nat.reduceAdd, line_eq, true_and, and_true, String.reduceBEq, Int.reduceBEq, decide_true, decide_false, Int.reduceLT, Int.reduceLE, beq_self_eq_true, Nat.reduceLeDiff, wS_raise, wp_xinit, wp_sets0, wp_sets1, wp_fs, wp_xf, wp_xis, hdQ, setO, List.map_cons, List.map_nil, tabF_cons, tabF_nil, lview, w_inU1, w_inU2, w_inU3, w_inU4, w_notinU1, w_notinU2, w_notinU3, w_notinU4, wp_lcN, and_self, or_true, true_or, or_false, false_or, not_true_eq_false, not_false_eq_true, ne_eq, reduceCtorEq, List.cons.injEq, Bool.and_false, Bool.false_and, Bool.and_self, Bool.or_self, List.mem_cons, List.not_mem_nil, isSub, ty_tup, ty_lst, ty_int, ty_bl, ty_str, ty_non, nb, Bool.and_eq_true, Bool.or_eq_true, decide_eq_true_eq, beq_iff_eq, Int.cast_ofNat_Int, List.lookup_cons, List.lookup_nil, str_beq, insOf, not_true_eq_false, gok0]
    rw [w_addLv (lview_ref (gq h4)) rfl]
    refine ⟨by simp [hm, line_eq], ?_⟩
    rw [show m.map pairD ++ [pairD (a, b)] = (m ++ [(a, b)]).map pairD by simp]
    exact finP h4 _ (by simp; omega)
  split
  · refine tk h4 (by decide) fun v2 s5 _ _ h5 => ?_
    try simp only [wp_rep, wp_meth, w_lenSo, w_tupT, w_tupL, List.length_map, wp_ok, wp_bad, wp_bind, wS_ok, wS_bad, wS_cons, wS_nil, wS_pass, wS_break, wS_cont, wS_never, wS_set, wS_expr, wS_ret, wS_retN, wS_if, wS_asg, wS_aug, wS_for, wp_lc, wp_m1, wp_m2, wp_mN, wp_aNil, wp_aCons, wp_mC, wp_var, wp_if2, wp_and2, wp_or2, wp_not, wp_chain2, isBl_bl, andK_p, orK_p, andV_p, orV_p, iteK_p, andK_t, andK_f, orK_t, orK_f, andV_t, andV_f, orV_t, orV_f, iteK_t, iteK_f, wp_tTru2, dTru_bl, dTru_lst, dTru_int, dTru_non, wp_mt, wp_get, wp_isi, wp_fld, wp_sl, wp_oNone, wp_oSome, wp_tBool, wp_tNot, wp_tAnd2, wp_tOr2, wp_tAll, wp_gSlot, wp_gsNil, wp_gsCons, wp_gTup, wp_gSub, wp_iAny, wp_iSeq, wp_iTup, wp_iStr, wp_iRange1, wp_iRange2, wp_iZip, wS_fld, wp_make, seqQ, rtQ, turnQ, List.getElem?_cons_zero, List.getElem?_cons_succ, List.set_cons_zero, List.set_cons_succ, wipeD, if_true, if_false, Bool.false_eq_true, Bool.true_eq_false, reduceIte, w_add, w_iadd, w_iaddS, w_addS, w_addL, w_addT, w_sub, w_mul, w_mod, w_fdiv, w_pow, w_neg, w_lt, w_le, w_gt, w_ge, w_eqI, w_neI, w_eqT, w_neT, w_isN, w_isnotN, w_isB, w_isNB, w_len, w_lenT, w_int, w_intB, w_abs, w_min, w_max, w_tup, w_lst, w_new, w_list, w_listN, w_ix, w_ixT, w_ixD, w_inT1, w_notinT1, w_inT2, w_notinT2, w_inT3, w_notinT3, w_inT4, w_notinT4, w_inT5, w_notinT5, w_inT6, w_notinT6, w_inT7, w_notinT7, w_inT8, w_notinT8, w_sl1, at_0, at_1, at_2, at_3, at_4, at_5, hasTy_list, hasTy_str, isNonD, flatD, sEq_T, List.all_cons, List.all_nil, List.any_cons, List.any_nil, Bool.and_true, Bool.true_and, Bool.or_false, Bool.or_true, Bool.true_or, Bool.false_or, Bool.not_true, Bool.not_false, List.length_cons, List.length_nil, Nat.zero_add, Nat.reduceAdd, line_eq, true_and, and_true, String.reduceBEq, Int.reduceBEq, decide_true, decide_false, Int.reduceLT, Int.reduceLE, beq_self_eq_true, Nat.reduceLeDiff, wS_raise, wp_xinit, wp_sets0, wp_sets1, wp_fs, wp_xf, wp_xis, hdQ, setO, List.map_cons, List.map_nil, tabF_cons, tabF_nil, lview, w_inU1, w_inU2, w_inU3, w_inU4, w_notinU1, w_notinU2, w_notinU3, w_notinU4, wp_lcN, and_self, or_true, true_or, or_false, false_or, not_true_eq_false, not_false_eq_true, ne_eq, reduceCtorEq, List.cons.injEq, Bool.and_false, Bool.false_and, Bool.and_self, Bool.or_self, List.mem_cons, List.not_mem_nil, isSub, ty_tup, ty_lst, ty_int, ty_bl, ty_str, ty_non, nb, Bool.and_eq_true, Bool.or_eq_true, decide_eq_true_eq, beq_iff_eq, Int.cast_ofNat_Int, List.lookup_cons, List.lookup_nil, str_beq, insOf, not_true_eq_false, gok0]
    refine tk h5 (by decide) fun v3 s6 g0 g1 h6 => ?_
    refine ix_any g0 g1 fun d hd => ?_
    rw [pd]
    try simp only [wp_rep, wp_meth, w_lenSo, w_tupT, w_tupL, List.length_map, wp_ok, wp_bad, wp_bind, wS_ok, wS_bad, wS_cons, wS_nil, wS_pass, wS_break, wS_cont, wS_never, wS_set, wS_expr, wS_ret, wS_retN, wS_if, wS_asg, wS_aug, wS_for, wp_lc, wp_m1, wp_m2, wp_mN, wp_aNil, wp_aCons, wp_mC, wp_var, wp_if2, wp_and2, wp_or2, wp_not, wp_chain2, isBl_bl, andK_p, orK_p, andV_p, orV_p, iteK_p, andK_t, andK_f, orK_t, orK_f, andV_t, andV_f, orV_t, orV_f, iteK_t, iteK_f, wp_tTru2, dTru_bl, dTru_lst, dTru_int, dTru_non, wp_mt, wp_get, wp_isi, wp_fld, wp_sl, wp_oNone, wp_oSome, wp_tBool, wp_tNot, wp_tAnd2, wp_tOr2, wp_tAll, wp_gSlot, wp_gsNil, wp_gsCons, wp_gTup, wp_gSub, wp_iAny, wp_iSeq, wp_iTup, wp_iStr, wp_iRange1, wp_iRange2, wp_iZip, wS_fld, wp_make, seqQ, rtQ, turnQ, List.getElem?_cons_zero, List.getElem?_cons_succ, List.set_cons_zero, List.set_cons_succ, wipeD, if_true, if_false, Bool.false_eq_true, Bool.true_eq_false, reduceIte, w_add, w_iadd, w_iaddS, w_addS, w_addL, w_addT, w_sub, w_mul, w_mod, w_fdiv, w_pow, w_neg, w_lt, w_le, w_gt, w_ge, w_eqI, w_neI, w_eqT, w_neT, w_isN, w_isnotN, w_isB, w_isNB, w_len, w_lenT, w_int, w_intB, w_abs, w_min, w_max, w_tup, w_lst, w_new, w_list, w_listN, w_ix, w_ixT, w_ixD, w_inT1, w_notinT1, w_inT2, w_notinT2, w_inT3, w_notinT3, w_inT4, w_notinT4, w_inT5, w_notinT5, w_inT6, w_notinT6, w_inT7, w_notinT7, w_inT8, w_notinT8, w_sl1, at_0, at_1, at_2, at_3, at_4, at_5, hasTy_list, hasTy_str, isNonD, flatD, sEq_T, List.all_cons, List.all_nil, List.any_cons, List.any_nil, Bool.and_true, Bool.true_and, Bool.or_false, Bool.or_true, Bool.true_or, Bool.false_or, Bool.not_true, Bool.not_false, List.length_cons, List.length_nil, Nat.zero_add, Nat.reduceAdd, line_eq, true_and, and_true, String.reduceBEq, Int.reduceBEq, decide_true, decide_false, Int.reduceLT, Int.reduceLE, beq_self_eq_true, Nat.reduceLeDiff, wS_raise, wp_xinit, wp_sets0, wp_sets1, wp_fs, wp_xf, wp_xis, hdQ, setO, List.map_cons, List.map_nil, tabF_cons, tabF_nil, lview, w_inU1, w_inU2, w_inU3, w_inU4, w_notinU1, w_notinU2, w_notinU3, w_notinU4, wp_lcN, and_self, or_true, true_or, or_false, false_or, not_true_eq_false, not_false_eq_true, ne_eq, reduceCtorEq, List.cons.injEq, Bool.and_false, Bool.false_and, Bool.and_self, Bool.or_self, List.mem_cons, List.not_mem_nil, isSub, ty_tup, ty_lst, ty_int, ty_bl, ty_str, ty_non, nb, Bool.and_eq_true, Bool.or_eq_true, decide_eq_true_eq, beq_iff_eq, Int.cast_ofNat_Int, List.lookup_cons, List.lookup_nil, str_beq, insOf, not_true_eq_false, gok0]
    rw [w_ixR (gp h6), ex]
    try simp only [wp_rep, wp_meth, w_lenSo, w_tupT, w_tupL, List.length_map, wp_ok, wp_bad, wp_bind, wS_ok, wS_bad, wS_cons, wS_nil, wS_pass, wS_break, wS_cont, wS_never, wS_set, wS_expr, wS_ret, wS_retN, wS_if, wS_asg, wS_aug, wS_for, wp_lc, wp_m1, wp_m2, wp_mN, wp_aNil, wp_aCons, wp_mC, wp_var, wp_if2, wp_and2, wp_or2, wp_not, wp_chain2, isBl_bl, andK_p, orK_p, andV_p, orV_p, iteK_p, andK_t, andK_f, orK_t, orK_f, andV_t, andV_f, orV_t, orV_f, iteK_t, iteK_f, wp_tTru2, dTru_bl, dTru_lst, dTru_int, dTru_non, wp_mt, wp_get, wp_isi, wp_fld, wp_sl, wp_oNone, wp_oSome, wp_tBool, wp_tNot, wp_tAnd2, wp_tOr2, wp_tAll, wp_gSlot, wp_gsNil, wp_gsCons, wp_gTup, wp_gSub, wp_iAny, wp_iSeq, wp_iTup, wp_iStr, wp_iRange1, wp_iRange2, wp_iZip, wS_fld, wp_make, seqQ, rtQ, turnQ, List.getElem?_cons_zero, List.getElem?_cons_succ, List.set_cons_zero, List.set_cons_succ, wipeD, if_true, if_false, Bool.false_eq_true, Bool.true_eq_false, reduceIte, w_add, w_iadd, w_iaddS, w_addS, w_addL, w_addT, w_sub, w_mul, w_mod, w_fdiv, w_pow, w_neg, w_lt, w_le, w_gt, w_ge, w_eqI, w_neI, w_eqT, w_neT, w_isN, w_isnotN, w_isB, w_isNB, w_len, w_lenT, w_int, w_intB, w_abs, w_min, w_max, w_tup, w_lst, w_new, w_list, w_listN, w_ix, w_ixT, w_ixD, w_inT1, w_notinT1, w_inT2, w_notinT2, w_inT3, w_notinT3, w_inT4, w_notinT4, w_inT5, w_notinT5, w_inT6, w_notinT6, w_inT7, w_notinT7, w_inT8, w_notinT8, w_sl1, at_0, at_1, at_2, at_3, at_4, at_5, hasTy_list, hasTy_str, isNonD, flatD, sEq_T, List.all_cons, List.all_nil, List.any_cons, List.any_nil, Bool.and_true, Bool.true_and, Bool.or_false, Bool.or_true, Bool.true_or, Bool.false_or, Bool.not_true, Bool.not_false, List.length_cons, List.length_nil, Nat.zero_add, Nat.reduceAdd, line_eq, true_and, and_true, String.reduceBEq, Int.reduceBEq, decide_true, decide_false, Int.reduceLT, Int.reduceLE, beq_self_eq_true, Nat.reduceLeDiff, wS_raise, wp_xinit, wp_sets0, wp_sets1, wp_fs, wp_xf, wp_xis, hdQ, setO, List.map_cons, List.map_nil, tabF_cons, tabF_nil, lview, w_inU1, w_inU2, w_inU3, w_inU4, w_notinU1, w_notinU2, w_notinU3, w_notinU4, wp_lcN, and_self, or_true, true_or, or_false, false_or, not_true_eq_false, not_false_eq_true, ne_eq, reduceCtorEq, List.cons.injEq, Bool.and_false, Bool.false_and, Bool.and_self, Bool.or_self, List.mem_cons, List.not_mem_nil, isSub, ty_tup, ty_lst, ty_int, ty_bl, ty_str, ty_non, nb, Bool.and_eq_true, Bool.or_eq_true, decide_eq_true_eq, beq_iff_eq, Int.cast_ofNat_Int, List.lookup_cons, List.lookup_nil, str_beq, insOf, not_true_eq_false, gok0]
    have := finQ h6
    simp only [List.mem_cons, List.not_mem_nil, or_false] at hd
    rcases hd with rfl | rfl | rfl
    · exact this (_, b)
    · exact this (_, b)
    · exact this (_, b)
  · rw [pd]
    try simp only [wp_rep, wp_meth, w_lenSo, w_tupT, w_tupL, List.length_map, wp_ok, wp_bad, wp_bind, wS_ok, wS_bad, wS_cons, wS_nil, wS_pass, wS_break, wS_cont, wS_never, wS_set, wS_expr, wS_ret, wS_retN, wS_if, wS_asg, wS_aug, wS_for, wp_lc, wp_m1, wp_m2, wp_mN, wp_aNil, wp_aCons, wp_mC, wp_var, wp_if2, wp_and2, wp_or2, wp_not, wp_chain2, isBl_bl, andK_p, orK_p, andV_p, orV_p, iteK_p, andK_t, andK_f, orK_t, orK_f, andV_t, andV_f, orV_t, orV_f, iteK_t, iteK_f, wp_tTru2, dTru_bl, dTru_lst, dTru_int, dTru_non, wp_mt, wp_get, wp_isi, wp_fld, wp_sl, wp_oNone, wp_oSome, wp_tBool, wp_tNot, wp_tAnd2, wp_tOr2, wp_tAll, wp_gSlot, wp_gsNil, wp_gsCons, wp_gTup, wp_gSub, wp_iAny, wp_iSeq, wp_iTup, wp_iStr, wp_iRange1, wp_iRange2, wp_iZip, wS_fld, wp_make, seqQ, rtQ, turnQ, List.getElem?_cons_zero, List.getElem?_cons_succ, List.set_cons_zero, List.set_cons_succ, wipeD, if_true, if_false, Bool.false_eq_true, Bool.true_eq_false, reduceIte, w_add, w_iadd, w_iaddS, w_addS, w_addL, w_addT, w_sub, w_mul, w_mod, w_fdiv, w_pow, w_neg, w_lt, w_le, w_gt, w_ge, w_eqI, w_neI, w_eqT, w_neT, w_isN, w_isnotN, w_isB, w_isNB, w_len, w_lenT, w_int, w_intB, w_abs, w_min, w_max, w_tup, w_lst, w_new, w_list, w_listN, w_ix, w_ixT, w_ixD, w_inT1, w_notinT1, w_inT2, w_notinT2, w_inT3, w_notinT3, w_inT4, w_notinT4, w_inT5, w_notinT5, w_inT6, w_notinT6, w_inT7, w_notinT7, w_inT8, w_notinT8, w_sl1, at_0, at_1, at_2, at_3, at_4, at_5, hasTy_list, hasTy_str, isNonD, flatD, sEq_T, List.all_cons, List.all_nil, List.any_cons, List.any_nil, Bool.and_true, Bool.true_and, Bool.or_false, Bool.or_true, Bool.true_or, Bool.false_or, Bool.not_true, Bool.not_false, List.length_cons, List.length_nil, Nat.zero_add, Nat.reduceAdd, line_eq, true_and, and_true, String.reduceBEq, Int.reduceBEq, decide_true, decide_false, Int.reduceLT, Int.reduceLE, beq_self_eq_true, Nat.reduceLeDiff, wS_raise, wp_xinit, wp_sets0, wp_sets1, wp_fs, wp_xf, wp_xis, hdQ, setO, List.map_cons, List.map_nil, tabF_cons, tabF_nil, lview, w_inU1, w_inU2, w_inU3, w_inU4, w_notinU1, w_notinU2, w_notinU3, w_notinU4, wp_lcN, and_self, or_true, true_or, or_false, false_or, not_true_eq_false, not_false_eq_true, ne_eq, reduceCtorEq, List.cons.injEq, Bool.and_false, Bool.false_and, Bool.and_self, Bool.or_self, List.mem_cons, List.not_mem_nil, isSub, ty_tup, ty_lst, ty_int, ty_bl, ty_str, ty_non, nb, Bool.and_eq_true, Bool.or_eq_true, decide_eq_true_eq, beq_iff_eq, Int.cast_ofNat_Int, List.lookup_cons, List.lookup_nil, str_beq, insOf, not_true_eq_false, gok0]
    refine tk h4 (by decide) fun v2 s5 _ _ h5 => ?_
    try simp only [wp_rep, wp_meth, w_lenSo, w_tupT, w_tupL, List.length_map, wp_ok, wp_bad, wp_bind, wS_ok, wS_bad, wS_cons, wS_nil, wS_pass, wS_break, wS_cont, wS_never, wS_set, wS_expr, wS_ret, wS_retN, wS_if, wS_asg, wS_aug, wS_for, wp_lc, wp_m1, wp_m2, wp_mN, wp_aNil, wp_aCons, wp_mC, wp_var, wp_if2, wp_and2, wp_or2, wp_not, wp_chain2, isBl_bl, andK_p, orK_p, andV_p, orV_p, iteK_p, andK_t, andK_f, orK_t, orK_f, andV_t, andV_f, orV_t, orV_f, iteK_t, iteK_f, wp_tTru2, dTru_bl, dTru_lst, dTru_int, dTru_non, wp_mt, wp_get, wp_isi, wp_fld, wp_sl, wp_oNone, wp_oSome, wp_tBool, wp_tNot, wp_tAnd2, wp_tOr2, wp_tAll, wp_gSlot, wp_gsNil, wp_gsCons, wp_gTup, wp_gSub, wp_iAny, wp_iSeq, wp_iTup, wp_iStr, wp_iRange1, wp_iRange2, wp_iZip, wS_fld, wp_make, seqQ, rtQ, turnQ, List.getElem?_cons_zero, List.getElem?_cons_succ, List.set_cons_zero, List.set_cons_succ, wipeD, if_true, if_false, Bool.false_eq_true, Bool.true_eq_false, reduceIte, w_add, w_iadd, w_iaddS, w_addS, w_addL, w_addT, w_sub, w_mul, w_mod, w_fdiv, w_pow, w_neg, w_lt, w_le, w_gt, w_ge, w_eqI, w_neI, w_eqT, w_neT, w_isN, w_isnotN, w_isB, w_isNB, w_len, w_lenT, w_int, w_intB, w_abs, w_min, w_max, w_tup, w_lst, w_new, w_list, w_listN, w_ix, w_ixT, w_ixD, w_inT1, w_notinT1, w_inT2, w_notinT2, w_inT3, w_notinT3, w_inT4, w_notinT4, w_inT5, w_notinT5, w_inT6, w_notinT6, w_inT7, w_notinT7, w_inT8, w_notinT8, w_sl1, at_0, at_1, at_2, at_3, at_4, at_5, hasTy_list, hasTy_str, isNonD, flatD, sEq_T, List.all_cons, List.all_nil, List.any_cons, List.any_nil, Bool.and_true, Bool.true_and, Bool.or_false, Bool.or_true, Bool.true_or, Bool.false_or, Bool.not_true, Bool.not_false, List.length_cons, List.length_nil, Nat.zero_add, Nat.reduceAdd, line_eq, true_and, and_true, String.reduceBEq, Int.reduceBEq, decide_true, decide_false, Int.reduceLT, Int.reduceLE, beq_self_eq_true, Nat.reduceLeDiff, wS_raise, wp_xinit, wp_sets0, wp_sets1, wp_fs, wp_xf, wp_xis, hdQ, setO, List.map_cons, List.map_nil, tabF_cons, tabF_nil, lview, w_inU1, w_inU2, w_inU3, w_inU4, w_notinU1, w_notinU2, w_notinU3, w_notinU4, wp_lcN, and_self, or_true, true_or, or_false, false_or, not_true_eq_false, not_false_eq_true, ne_eq, reduceCtorEq, List.cons.injEq, Bool.and_false, Bool.false_and, Bool.and_self, Bool.or_self, List.mem_cons, List.not_mem_nil, isSub, ty_tup, ty_lst, ty_int, ty_bl, ty_str, ty_non, nb, Bool.and_eq_true, Bool.or_eq_true, decide_eq_true_eq, beq_iff_eq, Int.cast_ofNat_Int, List.lookup_cons, List.lookup_nil, str_beq, insOf, not_true_eq_false, gok0]
    refine tk h5 (by decide) fun v3 s6 g0 g1 h6 => ?_
    refine ix_any g0 g1 fun d hd => ?_
    try simp only [wp_rep, wp_meth, w_lenSo, w_tupT, w_tupL, List.length_map, wp_ok, wp_bad, wp_bind, wS_ok, wS_bad, wS_cons, wS_nil, wS_pass, wS_break, wS_cont, wS_never, wS_set, wS_expr, wS_ret, wS_retN, wS_if, wS_asg, wS_aug, wS_for, wp_lc, wp_m1, wp_m2, wp_mN, wp_aNil, wp_aCons, wp_mC, wp_var, wp_if2, wp_and2, wp_or2, wp_not, wp_chain2, isBl_bl, andK_p, orK_p, andV_p, orV_p, iteK_p, andK_t, andK_f, orK_t, orK_f, andV_t, andV_f, orV_t, orV_f, iteK_t, iteK_f, wp_tTru2, dTru_bl, dTru_lst, dTru_int, dTru_non, wp_mt, wp_get, wp_isi, wp_fld, wp_sl, wp_oNone, wp_oSome, wp_tBool, wp_tNot, wp_tAnd2, wp_tOr2, wp_tAll, wp_gSlot, wp_gsNil, wp_gsCons, wp_gTup, wp_gSub, wp_iAny, wp_iSeq, wp_iTup, wp_iStr, wp_iRange1, wp_iRange2, wp_iZip, wS_fld, wp_make, seqQ, rtQ, turnQ, List.getElem?_cons_zero, List.getElem?_cons_succ, List.set_cons_zero, List.set_cons_succ, wipeD, if_true, if_false, Bool.false_eq_true, Bool.true_eq_false, reduceIte, w_add, w_iadd, w_iaddS, w_addS, w_addL, w_addT, w_sub, w_mul, w_mod, w_fdiv, w_pow, w_neg, w_lt, w_le, w_gt, w_ge, w_eqI, w_neI, w_eqT, w_neT, w_isN, w_isnotN, w_isB, w_isNB, w_len, w_lenT, w_int, w_intB, w_abs, w_min, w_max, w_tup, w_lst, w_new, w_list, w_listN, w_ix, w_ixT, w_ixD, w_inT1, w_notinT1, w_inT2, w_notinT2, w_inT3, w_notinT3, w_inT4, w_notinT4, w_inT5, w_notinT5, w_inT6, w_notinT6, w_inT7, w_notinT7, w_inT8, w_notinT8, w_sl1, at_0, at_1, at_2, at_3, at_4, at_5, hasTy_list, hasTy_str, isNonD, flatD, sEq_T, List.all_cons, List.all_nil, List.any_cons, List.any_nil, Bool.and_true, Bool.true_and, Bool.or_false, Bool.or_true, Bool.true_or, Bool.false_or, Bool.not_true, Bool.not_false, List.length_cons, List.length_nil, Nat.zero_add, Nat.reduceAdd, line_eq, true_and, and_true, String.reduceBEq, Int.reduceBEq, decide_true, decide_false, Int.reduceLT, Int.reduceLE, beq_self_eq_true, Nat.reduceLeDiff, wS_raise, wp_xinit, wp_sets0, wp_sets1, wp_fs, wp_xf, wp_xis, hdQ, setO, List.map_cons, List.map_nil, tabF_cons, tabF_nil, lview, w_inU1, w_inU2, w_inU3, w_inU4, w_notinU1, w_notinU2, w_notinU3, w_notinU4, wp_lcN, and_self, or_true, true_or, or_false, false_or, not_true_eq_false, not_false_eq_true, ne_eq, reduceCtorEq, List.cons.injEq, Bool.and_false, Bool.false_and, Bool.and_self, Bool.or_self, List.mem_cons, List.not_mem_nil, isSub, ty_tup, ty_lst, ty_int, ty_bl, ty_str, ty_non, nb, Bool.and_eq_true, Bool.or_eq_true, decide_eq_true_eq, beq_iff_eq, Int.cast_ofNat_Int, List.lookup_cons, List.lookup_nil, str_beq, insOf, not_true_eq_false, gok0]
    rw [w_ixR (gp h6), ex]
    try simp only [wp_rep, wp_meth, w_lenSo, w_tupT, w_tupL, List.length_map, wp_ok, wp_bad, wp_bind, wS_ok, wS_bad, wS_cons, wS_nil, wS_pass, wS_break, wS_cont, wS_never, wS_set, wS_expr, wS_ret, wS_retN, wS_if, wS_asg, wS_aug, wS_for, wp_lc, wp_m1, wp_m2, wp_mN, wp_aNil, wp_aCons, wp_mC, wp_var, wp_if2, wp_and2, wp_or2, wp_not, wp_chain2, isBl_bl, andK_p, orK_p, andV_p, orV_p, iteK_p, andK_t, andK_f, orK_t, orK_f, andV_t, andV_f, orV_t, orV_f, iteK_t, iteK_f, wp_tTru2, dTru_bl, dTru_lst, dTru_int, dTru_non, wp_mt, wp_get, wp_isi, wp_fld, wp_sl, wp_oNone, wp_oSome, wp_tBool, wp_tNot, wp_tAnd2, wp_tOr2, wp_tAll, wp_gSlot, wp_gsNil, wp_gsCons, wp_gTup, wp_gSub, wp_iAny, wp_iSeq, wp_iTup, wp_iStr, wp_iRange1, wp_iRange2, wp_iZip, wS_fld, wp_make, seqQ, rtQ, turnQ, List.getElem?_cons_zero, List.getElem?_cons_succ, List.set_cons_zero, List.set_cons_succ, wipeD, if_true, if_false, Bool.false_eq_true, Bool.true_eq_false, reduceIte, w_add, w_iadd, w_iaddS, w_addS, w_addL, w_addT, w_sub, w_mul, w_mod, w_fdiv, w_pow, w_neg, w_lt, w_le, w_gt, w_ge, w_eqI, w_neI, w_eqT, w_neT, w_isN, w_isnotN, w_isB, w_isNB, w_len, w_lenT, w_int, w_intB, w_abs, w_min, w_max, w_tup, w_lst, w_new, w_list, w_listN, w_ix, w_ixT, w_ixD, w_inT1, w_notinT1, w_inT2, w_notinT2, w_inT3, w_notinT3, w_inT4, w_notinT4, w_inT5, w_notinT5, w_inT6, w_notinT6, w_inT7, w_notinT7, w_inT8, w_notinT8, w_sl1, at_0, at_1, at_2, at_3, at_4, at_5, hasTy_list, hasTy_str, isNonD, flatD, sEq_T, List.all_cons, List.all_nil, List.any_cons, List.any_nil, Bool.and_true, Bool.true_and, Bool.or_false, Bool.or_true, Bool.true_or, Bool.false_or, Bool.not_true, Bool.not_false, List.length_cons, List.length_nil, Nat.zero_add, Nat.reduceAdd, line_eq, true_and, and_true, String.reduceBEq, Int.reduceBEq, decide_true, decide_false, Int.reduceLT, Int.reduceLE, beq_self_eq_true, Nat.reduceLeDiff, wS_raise, wp_xinit, wp_sets0, wp_sets1, wp_fs, wp_xf, wp_xis, hdQ, setO, List.map_cons, List.map_nil, tabF_cons, tabF_nil, lview, w_inU1, w_inU2, w_inU3, w_inU4, w_notinU1, w_notinU2, w_notinU3, w_notinU4, wp_lcN, and_self, or_true, true_or, or_false, false_or, not_true_eq_false, not_false_eq_true, ne_eq, reduceCtorEq, List.cons.injEq, Bool.and_false, Bool.false_and, Bool.and_self, Bool.or_self, List.mem_cons, List.not_mem_nil, isSub, ty_tup, ty_lst, ty_int, ty_bl, ty_str, ty_non, nb, Bool.and_eq_true, Bool.or_eq_true, decide_eq_true_eq, beq_iff_eq, Int.cast_ofNat_Int, List.lookup_cons, List.lookup_nil, str_beq, insOf, not_true_eq_false, gok0]
    have := finQ h6
    simp only [List.mem_cons, List.not_mem_nil, or_false] at hd
    rcases hd with rfl | rfl | rfl
    · exact this (a, _)
    · exact this (a, _)
    · exact this (a, _)
theorem frz_item {p : Nat} {x : D} {o : O} (h : It t p x) : ∃ m : Mark, m.length ≤ 8 ∧ frzD (o :: t) 1 18 x = some (markL m) := by
  obtain ⟨m, hm, h⟩ := h
  refine ⟨m, hm, ?_⟩
  rcases h with rfl | ⟨q, rfl, _, hg⟩
  · exact (fin_mark.up (by decide)).fz _ _ m
  · rw [frzD, if_neg (by omega), List.getElem?_cons_succ, hg]
    simp only
    rw [fin_all (enc := pairD) (FinOk.up (j := 17) (fin_pair fin_int fin_int) (by decide)) m]
    rfl
theorem frz_items {p : Nat} {o : O} : ∀ {items : List D}, (∀ x ∈ items, It t p x) → ∃ r : List Mark, r.length = items.length ∧ (∀ m ∈ r, m.length ≤ 8) ∧ allD (frzD (o :: t) 1 18) items = some (r.map markL)
  | [], _ => ⟨[], rfl, (fun _ h => nomatch h), rfl⟩
  | x :: items, h => by
    obtain ⟨m, hm, e⟩ := frz_item (o := o) (h x (List.mem_cons_self ..))
    obtain ⟨r, hr, hz, e2⟩ := frz_items (o := o) fun y hy => h y (List.mem_cons_of_mem _ hy)
    refine ⟨m :: r, by simp [hr], fun m' hm' => ?_, by rw [allD, e, e2]; rfl⟩
    rcases List.mem_cons.mp hm' with rfl | hm'
    · exact hm
    · exact hz m' hm'
theorem frz_rule {d : D} {o : O} (h : RT t d) : ∃ r : List Mark, Sz r ∧ frzD (o :: t) 1 19 d = some (.lst (r.map markL)) := by
  rcases h with rfl | ⟨p, items, rfl, hp, hl, hi⟩
  · exact ⟨[], ⟨by decide, (fun _ h => nomatch h)⟩, rfl⟩
  · obtain ⟨r, hr, hz, e⟩ := frz_items (o := o) hi
    refine ⟨r, ⟨by omega, fun m hm => by have := hz m hm; omega⟩, ?_⟩
    rw [frzD, if_neg (by omega), List.getElem?_cons_succ, hp]
    simp only
    rw [e]
    rfl
theorem lt_deck {L : List Int} {n : Nat} : ltO n (.lst (L.map .int)) = true := fin_lts fin_int L
theorem fz_parts {a b c e : String} {d : D} (h : Dk s t) (hr : RT t d) (k : ∀ (p : Prt) s', Sz p.rule → Dk s' [] → Q p.d s') : fzQ 1 Q (.lst [.str (Str.ofString a), .str (Str.ofString b), .str (Str.ofString c), .str (Str.ofString e), d]) s := by
  obtain ⟨L, rfl, hL⟩ := h
  obtain ⟨r, hz, e1⟩ := frz_rule (o := .lst (L.map .int)) hr
  refine ⟨(Prt.mk a b c e r).d, ?_, ?_, k ⟨a, b, c, e, r⟩ _ hz ⟨L, rfl, hL⟩⟩
  · show (allD (frzD _ 1 19) _).map D.lst = _
    simp only [allD, frz_s, e1]
    rfl
  · unfold stOk
    simp [lt_deck]
theorem parts_wp (h : Dk s []) (k : ∀ (p : Prt) s', Sz p.rule → Dk s' [] → Q p.d s') : wp (f_law_parts [.ref 0] s) Q E := by
  refine wp_mkFz ((wp_fn (n := 1) (tot := 7) (m := m_law_parts) rfl).mpr ?_)
  show wS (m_law_parts [some (.ref 0), none, none, none, none, none, none] _) _ _
  unfold m_law_parts
  have hl : s.length = 1 := h.len
  rw [hl]
  try simp only [wp_rep, wp_meth, w_lenSo, w_tupT, w_tupL, List.length_map, wp_ok, wp_bad, wp_bind, wS_ok, wS_bad, wS_cons, wS_nil, wS_pass, wS_break, wS_cont, wS_never, wS_set, wS_expr, wS_ret, wS_retN, wS_if, wS_asg, wS_aug, wS_for, wp_lc, wp_m1, wp_m2, wp_mN, wp_aNil, wp_aCons, wp_mC, wp_var, wp_if2, wp_and2, wp_or2, wp_not, wp_chain2, isBl_bl, andK_p, orK_p, andV_p, orV_p, iteK_p, andK_t, andK_f, orK_t, orK_f, andV_t, andV_f, orV_t, orV_f, iteK_t, iteK_f, wp_tTru2, dTru_bl, dTru_lst, dTru_int, dTru_non, wp_mt, wp_get, wp_isi, wp_fld, wp_sl, wp_oNone, wp_oSome, wp_tBool, wp_tNot, wp_tAnd2, wp_tOr2, wp_tAll, wp_gSlot, wp_gsNil, wp_gsCons, wp_gTup, wp_gSub, wp_iAny, wp_iSeq, wp_iTup, wp_iStr, wp_iRange1, wp_iRange2, wp_iZip, wS_fld, wp_make, seqQ, rtQ, turnQ, List.getElem?_cons_zero, List.getElem?_cons_succ, List.set_cons_zero, List.set_cons_succ, wipeD, if_true, if_false, Bool.false_eq_true, Bool.true_eq_false, reduceIte, w_add, w_iadd, w_iaddS, w_addS, w_addL, w_addT, w_sub, w_mul, w_mod, w_fdiv, w_pow, w_neg, w_lt, w_le, w_gt, w_ge, w_eqI, w_neI, w_eqT, w_neT, w_isN, w_isnotN, w_isB, w_isNB, w_len, w_lenT, w_int, w_intB, w_abs, w_min, w_max, w_tup, w_lst, w_new, w_list, w_listN, w_ix, w_ixT, w_ixD, w_inT1, w_notinT1, w_inT2, w_notinT2, w_inT3, w_notinT3, w_inT4, w_notinT4, w_inT5, w_notinT5, w_inT6, w_notinT6, w_inT7, w_notinT7, w_inT8, w_notinT8, w_sl1, at_0, at_1, at_2, at_3, at_4, at_5, hasTy_list, hasTy_str, isNonD, flatD, sEq_T, List.all_cons, List.all_nil, List.any_cons, List.any_nil, Bool.and_true, Bool.true_and, Bool.or_false, Bool.or_true, Bool.true_or, Bool.false_or, Bool.not_true, Bool.not_false, List.length_cons, List.length_nil, Nat.zero_add, Nat.reduceAdd, line_eq, true_and, and_true, String.reduceBEq, Int.reduceBEq, decide_true, decide_false, Int.reduceLT, Int.reduceLE, beq_self_eq_true, Nat.reduceLeDiff, wS_raise, wp_xinit, wp_sets0, wp_sets1, wp_fs, wp_xf, wp_xis, hdQ, setO, List.map_cons, List.map_nil, tabF_cons, tabF_nil, lview, w_inU1, w_inU2, w_inU3, w_inU4, w_notinU1, w_notinU2, w_notinU3, w_notinU4, wp_lcN, and_self, or_true, true_or, or_false, false_or, not_true_eq_false, not_false_eq_true, ne_eq, reduceCtorEq, List.cons.injEq, Bool.and_false, Bool.false_and, Bool.and_self, Bool.or_self, List.mem_cons, List.not_mem_nil, isSub, ty_tup, ty_lst, ty_int, ty_bl, ty_str, ty_non, nb, Bool.and_eq_true, Bool.or_eq_true, decide_eq_true_eq, beq_iff_eq, Int.cast_ofNat_Int, List.lookup_cons, List.lookup_nil, str_beq, insOf, not_true_eq_false, gok0]
  refine word_wp (good := ["held", "held", "copied", "refused"]) (bad := ["hold", "", "Held", "refused "]) h (by decide) (by decide) fun a s1 h1 => ?_
  try simp only [wp_rep, wp_meth, w_lenSo, w_tupT, w_tupL, List.length_map, wp_ok, wp_bad, wp_bind, wS_ok, wS_bad, wS_cons, wS_nil, wS_pass, wS_break, wS_cont, wS_never, wS_set, wS_expr, wS_ret, wS_retN, wS_if, wS_asg, wS_aug, wS_for, wp_lc, wp_m1, wp_m2, wp_mN, wp_aNil, wp_aCons, wp_mC, wp_var, wp_if2, wp_and2, wp_or2, wp_not, wp_chain2, isBl_bl, andK_p, orK_p, andV_p, orV_p, iteK_p, andK_t, andK_f, orK_t, orK_f, andV_t, andV_f, orV_t, orV_f, iteK_t, iteK_f, wp_tTru2, dTru_bl, dTru_lst, dTru_int, dTru_non, wp_mt, wp_get, wp_isi, wp_fld, wp_sl, wp_oNone, wp_oSome, wp_tBool, wp_tNot, wp_tAnd2, wp_tOr2, wp_tAll, wp_gSlot, wp_gsNil, wp_gsCons, wp_gTup, wp_gSub, wp_iAny, wp_iSeq, wp_iTup, wp_iStr, wp_iRange1, wp_iRange2, wp_iZip, wS_fld, wp_make, seqQ, rtQ, turnQ, List.getElem?_cons_zero, List.getElem?_cons_succ, List.set_cons_zero, List.set_cons_succ, wipeD, if_true, if_false, Bool.false_eq_true, Bool.true_eq_false, reduceIte, w_add, w_iadd, w_iaddS, w_addS, w_addL, w_addT, w_sub, w_mul, w_mod, w_fdiv, w_pow, w_neg, w_lt, w_le, w_gt, w_ge, w_eqI, w_neI, w_eqT, w_neT, w_isN, w_isnotN, w_isB, w_isNB, w_len, w_lenT, w_int, w_intB, w_abs, w_min, w_max, w_tup, w_lst, w_new, w_list, w_listN, w_ix, w_ixT, w_ixD, w_inT1, w_notinT1, w_inT2, w_notinT2, w_inT3, w_notinT3, w_inT4, w_notinT4, w_inT5, w_notinT5, w_inT6, w_notinT6, w_inT7, w_notinT7, w_inT8, w_notinT8, w_sl1, at_0, at_1, at_2, at_3, at_4, at_5, hasTy_list, hasTy_str, isNonD, flatD, sEq_T, List.all_cons, List.all_nil, List.any_cons, List.any_nil, Bool.and_true, Bool.true_and, Bool.or_false, Bool.or_true, Bool.true_or, Bool.false_or, Bool.not_true, Bool.not_false, List.length_cons, List.length_nil, Nat.zero_add, Nat.reduceAdd, line_eq, true_and, and_true, String.reduceBEq, Int.reduceBEq, decide_true, decide_false, Int.reduceLT, Int.reduceLE, beq_self_eq_true, Nat.reduceLeDiff, wS_raise, wp_xinit, wp_sets0, wp_sets1, wp_fs, wp_xf, wp_xis, hdQ, setO, List.map_cons, List.map_nil, tabF_cons, tabF_nil, lview, w_inU1, w_inU2, w_inU3, w_inU4, w_notinU1, w_notinU2, w_notinU3, w_notinU4, wp_lcN, and_self, or_true, true_or, or_false, false_or, not_true_eq_false, not_false_eq_true, ne_eq, reduceCtorEq, List.cons.injEq, Bool.and_false, Bool.false_and, Bool.and_self, Bool.or_self, List.mem_cons, List.not_mem_nil, isSub, ty_tup, ty_lst, ty_int, ty_bl, ty_str, ty_non, nb, Bool.and_eq_true, Bool.or_eq_true, decide_eq_true_eq, beq_iff_eq, Int.cast_ofNat_Int, List.lookup_cons, List.lookup_nil, str_beq, insOf, not_true_eq_false, gok0]
  refine tk h1 (by decide) fun n0 s2 hn0 hn1 h2 => ?_
  obtain ⟨n, rfl⟩ : ∃ n : Nat, n0 = n := ⟨n0.toNat, by omega⟩
  try simp only [wp_rep, wp_meth, w_lenSo, w_tupT, w_tupL, List.length_map, wp_ok, wp_bad, wp_bind, wS_ok, wS_bad, wS_cons, wS_nil, wS_pass, wS_break, wS_cont, wS_never, wS_set, wS_expr, wS_ret, wS_retN, wS_if, wS_asg, wS_aug, wS_for, wp_lc, wp_m1, wp_m2, wp_mN, wp_aNil, wp_aCons, wp_mC, wp_var, wp_if2, wp_and2, wp_or2, wp_not, wp_chain2, isBl_bl, andK_p, orK_p, andV_p, orV_p, iteK_p, andK_t, andK_f, orK_t, orK_f, andV_t, andV_f, orV_t, orV_f, iteK_t, iteK_f, wp_tTru2, dTru_bl, dTru_lst, dTru_int, dTru_non, wp_mt, wp_get, wp_isi, wp_fld, wp_sl, wp_oNone, wp_oSome, wp_tBool, wp_tNot, wp_tAnd2, wp_tOr2, wp_tAll, wp_gSlot, wp_gsNil, wp_gsCons, wp_gTup, wp_gSub, wp_iAny, wp_iSeq, wp_iTup, wp_iStr, wp_iRange1, wp_iRange2, wp_iZip, wS_fld, wp_make, seqQ, rtQ, turnQ, List.getElem?_cons_zero, List.getElem?_cons_succ, List.set_cons_zero, List.set_cons_succ, wipeD, if_true, if_false, Bool.false_eq_true, Bool.true_eq_false, reduceIte, w_add, w_iadd, w_iaddS, w_addS, w_addL, w_addT, w_sub, w_mul, w_mod, w_fdiv, w_pow, w_neg, w_lt, w_le, w_gt, w_ge, w_eqI, w_neI, w_eqT, w_neT, w_isN, w_isnotN, w_isB, w_isNB, w_len, w_lenT, w_int, w_intB, w_abs, w_min, w_max, w_tup, w_lst, w_new, w_list, w_listN, w_ix, w_ixT, w_ixD, w_inT1, w_notinT1, w_inT2, w_notinT2, w_inT3, w_notinT3, w_inT4, w_notinT4, w_inT5, w_notinT5, w_inT6, w_notinT6, w_inT7, w_notinT7, w_inT8, w_notinT8, w_sl1, at_0, at_1, at_2, at_3, at_4, at_5, hasTy_list, hasTy_str, isNonD, flatD, sEq_T, List.all_cons, List.all_nil, List.any_cons, List.any_nil, Bool.and_true, Bool.true_and, Bool.or_false, Bool.or_true, Bool.true_or, Bool.false_or, Bool.not_true, Bool.not_false, List.length_cons, List.length_nil, Nat.zero_add, Nat.reduceAdd, line_eq, true_and, and_true, String.reduceBEq, Int.reduceBEq, decide_true, decide_false, Int.reduceLT, Int.reduceLE, beq_self_eq_true, Nat.reduceLeDiff, wS_raise, wp_xinit, wp_sets0, wp_sets1, wp_fs, wp_xf, wp_xis, hdQ, setO, List.map_cons, List.map_nil, tabF_cons, tabF_nil, lview, w_inU1, w_inU2, w_inU3, w_inU4, w_notinU1, w_notinU2, w_notinU3, w_notinU4, wp_lcN, and_self, or_true, true_or, or_false, false_or, not_true_eq_false, not_false_eq_true, ne_eq, reduceCtorEq, List.cons.injEq, Bool.and_false, Bool.false_and, Bool.and_self, Bool.or_self, List.mem_cons, List.not_mem_nil, isSub, ty_tup, ty_lst, ty_int, ty_bl, ty_str, ty_non, nb, Bool.and_eq_true, Bool.or_eq_true, decide_eq_true_eq, beq_iff_eq, Int.cast_ofNat_Int, List.lookup_cons, List.lookup_nil, str_beq, insOf, not_true_eq_false, gok0]
  rw [show (1 : Int) + (n : Nat) = ((1 + n : Nat) : Int) by omega]
  refine law_rule_wp (by omega) h2 fun d s3 t3 h3 hr3 => ?_
  try simp only [wp_rep, wp_meth, w_lenSo, w_tupT, w_tupL, List.length_map, wp_ok, wp_bad, wp_bind, wS_ok, wS_bad, wS_cons, wS_nil, wS_pass, wS_break, wS_cont, wS_never, wS_set, wS_expr, wS_ret, wS_retN, wS_if, wS_asg, wS_aug, wS_for, wp_lc, wp_m1, wp_m2, wp_mN, wp_aNil, wp_aCons, wp_mC, wp_var, wp_if2, wp_and2, wp_or2, wp_not, wp_chain2, isBl_bl, andK_p, orK_p, andV_p, orV_p, iteK_p, andK_t, andK_f, orK_t, orK_f, andV_t, andV_f, orV_t, orV_f, iteK_t, iteK_f, wp_tTru2, dTru_bl, dTru_lst, dTru_int, dTru_non, wp_mt, wp_get, wp_isi, wp_fld, wp_sl, wp_oNone, wp_oSome, wp_tBool, wp_tNot, wp_tAnd2, wp_tOr2, wp_tAll, wp_gSlot, wp_gsNil, wp_gsCons, wp_gTup, wp_gSub, wp_iAny, wp_iSeq, wp_iTup, wp_iStr, wp_iRange1, wp_iRange2, wp_iZip, wS_fld, wp_make, seqQ, rtQ, turnQ, List.getElem?_cons_zero, List.getElem?_cons_succ, List.set_cons_zero, List.set_cons_succ, wipeD, if_true, if_false, Bool.false_eq_true, Bool.true_eq_false, reduceIte, w_add, w_iadd, w_iaddS, w_addS, w_addL, w_addT, w_sub, w_mul, w_mod, w_fdiv, w_pow, w_neg, w_lt, w_le, w_gt, w_ge, w_eqI, w_neI, w_eqT, w_neT, w_isN, w_isnotN, w_isB, w_isNB, w_len, w_lenT, w_int, w_intB, w_abs, w_min, w_max, w_tup, w_lst, w_new, w_list, w_listN, w_ix, w_ixT, w_ixD, w_inT1, w_notinT1, w_inT2, w_notinT2, w_inT3, w_notinT3, w_inT4, w_notinT4, w_inT5, w_notinT5, w_inT6, w_notinT6, w_inT7, w_notinT7, w_inT8, w_notinT8, w_sl1, at_0, at_1, at_2, at_3, at_4, at_5, hasTy_list, hasTy_str, isNonD, flatD, sEq_T, List.all_cons, List.all_nil, List.any_cons, List.any_nil, Bool.and_true, Bool.true_and, Bool.or_false, Bool.or_true, Bool.true_or, Bool.false_or, Bool.not_true, Bool.not_false, List.length_cons, List.length_nil, Nat.zero_add, Nat.reduceAdd, line_eq, true_and, and_true, String.reduceBEq, Int.reduceBEq, decide_true, decide_false, Int.reduceLT, Int.reduceLE, beq_self_eq_true, Nat.reduceLeDiff, wS_raise, wp_xinit, wp_sets0, wp_sets1, wp_fs, wp_xf, wp_xis, hdQ, setO, List.map_cons, List.map_nil, tabF_cons, tabF_nil, lview, w_inU1, w_inU2, w_inU3, w_inU4, w_notinU1, w_notinU2, w_notinU3, w_notinU4, wp_lcN, and_self, or_true, true_or, or_false, false_or, not_true_eq_false, not_false_eq_true, ne_eq, reduceCtorEq, List.cons.injEq, Bool.and_false, Bool.false_and, Bool.and_self, Bool.or_self, List.mem_cons, List.not_mem_nil, isSub, ty_tup, ty_lst, ty_int, ty_bl, ty_str, ty_non, nb, Bool.and_eq_true, Bool.or_eq_true, decide_eq_true_eq, beq_iff_eq, Int.cast_ofNat_Int, List.lookup_cons, List.lookup_nil, str_beq, insOf, not_true_eq_false, gok0]
  refine tk h3 (by decide) fun v s4 _ _ h4 => ?_
  try simp only [wp_rep, wp_meth, w_lenSo, w_tupT, w_tupL, List.length_map, wp_ok, wp_bad, wp_bind, wS_ok, wS_bad, wS_cons, wS_nil, wS_pass, wS_break, wS_cont, wS_never, wS_set, wS_expr, wS_ret, wS_retN, wS_if, wS_asg, wS_aug, wS_for, wp_lc, wp_m1, wp_m2, wp_mN, wp_aNil, wp_aCons, wp_mC, wp_var, wp_if2, wp_and2, wp_or2, wp_not, wp_chain2, isBl_bl, andK_p, orK_p, andV_p, orV_p, iteK_p, andK_t, andK_f, orK_t, orK_f, andV_t, andV_f, orV_t, orV_f, iteK_t, iteK_f, wp_tTru2, dTru_bl, dTru_lst, dTru_int, dTru_non, wp_mt, wp_get, wp_isi, wp_fld, wp_sl, wp_oNone, wp_oSome, wp_tBool, wp_tNot, wp_tAnd2, wp_tOr2, wp_tAll, wp_gSlot, wp_gsNil, wp_gsCons, wp_gTup, wp_gSub, wp_iAny, wp_iSeq, wp_iTup, wp_iStr, wp_iRange1, wp_iRange2, wp_iZip, wS_fld, wp_make, seqQ, rtQ, turnQ, List.getElem?_cons_zero, List.getElem?_cons_succ, List.set_cons_zero, List.set_cons_succ, wipeD, if_true, if_false, Bool.false_eq_true, Bool.true_eq_false, reduceIte, w_add, w_iadd, w_iaddS, w_addS, w_addL, w_addT, w_sub, w_mul, w_mod, w_fdiv, w_pow, w_neg, w_lt, w_le, w_gt, w_ge, w_eqI, w_neI, w_eqT, w_neT, w_isN, w_isnotN, w_isB, w_isNB, w_len, w_lenT, w_int, w_intB, w_abs, w_min, w_max, w_tup, w_lst, w_new, w_list, w_listN, w_ix, w_ixT, w_ixD, w_inT1, w_notinT1, w_inT2, w_notinT2, w_inT3, w_notinT3, w_inT4, w_notinT4, w_inT5, w_notinT5, w_inT6, w_notinT6, w_inT7, w_notinT7, w_inT8, w_notinT8, w_sl1, at_0, at_1, at_2, at_3, at_4, at_5, hasTy_list, hasTy_str, isNonD, flatD, sEq_T, List.all_cons, List.all_nil, List.any_cons, List.any_nil, Bool.and_true, Bool.true_and, Bool.or_false, Bool.or_true, Bool.true_or, Bool.false_or, Bool.not_true, Bool.not_false, List.length_cons, List.length_nil, Nat.zero_add, Nat.reduceAdd, line_eq, true_and, and_true, String.reduceBEq, Int.reduceBEq, decide_true, decide_false, Int.reduceLT, Int.reduceLE, beq_self_eq_true, Nat.reduceLeDiff, wS_raise, wp_xinit, wp_sets0, wp_sets1, wp_fs, wp_xf, wp_xis, hdQ, setO, List.map_cons, List.map_nil, tabF_cons, tabF_nil, lview, w_inU1, w_inU2, w_inU3, w_inU4, w_notinU1, w_notinU2, w_notinU3, w_notinU4, wp_lcN, and_self, or_true, true_or, or_false, false_or, not_true_eq_false, not_false_eq_true, ne_eq, reduceCtorEq, List.cons.injEq, Bool.and_false, Bool.false_and, Bool.and_self, Bool.or_self, List.mem_cons, List.not_mem_nil, isSub, ty_tup, ty_lst, ty_int, ty_bl, ty_str, ty_non, nb, Bool.and_eq_true, Bool.or_eq_true, decide_eq_true_eq, beq_iff_eq, Int.cast_ofNat_Int, List.lookup_cons, List.lookup_nil, str_beq, insOf, not_true_eq_false, gok0]
  refine ite_join (P := fun d s => ∃ t, Dk s t ∧ RT t d) (fun _ => ?_) (fun _ => ⟨t3, h4, hr3.rt (by omega)⟩) ?_
  · exact spoilt_wp (by omega) h4 fun d s' t' h hr => ⟨t', h, hr⟩
  rintro d s5 ⟨t5, h5, hr5⟩
  refine andK_i (fun hc => ?_) (fun hc => ?_)
  · refine tk h5 (by decide) fun v s6 _ _ h6 => ?_
    try simp only [wp_rep, wp_meth, w_lenSo, w_tupT, w_tupL, List.length_map, wp_ok, wp_bad, wp_bind, wS_ok, wS_bad, wS_cons, wS_nil, wS_pass, wS_break, wS_cont, wS_never, wS_set, wS_expr, wS_ret, wS_retN, wS_if, wS_asg, wS_aug, wS_for, wp_lc, wp_m1, wp_m2, wp_mN, wp_aNil, wp_aCons, wp_mC, wp_var, wp_if2, wp_and2, wp_or2, wp_not, wp_chain2, isBl_bl, andK_p, orK_p, andV_p, orV_p, iteK_p, andK_t, andK_f, orK_t, orK_f, andV_t, andV_f, orV_t, orV_f, iteK_t, iteK_f, wp_tTru2, dTru_bl, dTru_lst, dTru_int, dTru_non, wp_mt, wp_get, wp_isi, wp_fld, wp_sl, wp_oNone, wp_oSome, wp_tBool, wp_tNot, wp_tAnd2, wp_tOr2, wp_tAll, wp_gSlot, wp_gsNil, wp_gsCons, wp_gTup, wp_gSub, wp_iAny, wp_iSeq, wp_iTup, wp_iStr, wp_iRange1, wp_iRange2, wp_iZip, wS_fld, wp_make, seqQ, rtQ, turnQ, List.getElem?_cons_zero, List.getElem?_cons_succ, List.set_cons_zero, List.set_cons_succ, wipeD, if_true, if_false, Bool.false_eq_true, Bool.true_eq_false, reduceIte, w_add, w_iadd, w_iaddS, w_addS, w_addL, w_addT, w_sub, w_mul, w_mod, w_fdiv, w_pow, w_neg, w_lt, w_le, w_gt, w_ge, w_eqI, w_neI, w_eqT, w_neT, w_isN, w_isnotN, w_isB, w_isNB, w_len, w_lenT, w_int, w_intB, w_abs, w_min, w_max, w_tup, w_lst, w_new, w_list, w_listN, w_ix, w_ixT, w_ixD, w_inT1, w_notinT1, w_inT2, w_notinT2, w_inT3, w_notinT3, w_inT4, w_notinT4, w_inT5, w_notinT5, w_inT6, w_notinT6, w_inT7, w_notinT7, w_inT8, w_notinT8, w_sl1, at_0, at_1, at_2, at_3, at_4, at_5, hasTy_list, hasTy_str, isNonD, flatD, sEq_T, List.all_cons, List.all_nil, List.any_cons, List.any_nil, Bool.and_true, Bool.true_and, Bool.or_false, Bool.or_true, Bool.true_or, Bool.false_or, Bool.not_true, Bool.not_false, List.length_cons, List.length_nil, Nat.zero_add, Nat.reduceAdd, line_eq, true_and, and_true, String.reduceBEq, Int.reduceBEq, decide_true, decide_false, Int.reduceLT, Int.reduceLE, beq_self_eq_true, Nat.reduceLeDiff, wS_raise, wp_xinit, wp_sets0, wp_sets1, wp_fs, wp_xf, wp_xis, hdQ, setO, List.map_cons, List.map_nil, tabF_cons, tabF_nil, lview, w_inU1, w_inU2, w_inU3, w_inU4, w_notinU1, w_notinU2, w_notinU3, w_notinU4, wp_lcN, and_self, or_true, true_or, or_false, false_or, not_true_eq_false, not_false_eq_true, ne_eq, reduceCtorEq, List.cons.injEq, Bool.and_false, Bool.false_and, Bool.and_self, Bool.or_self, List.mem_cons, List.not_mem_nil, isSub, ty_tup, ty_lst, ty_int, ty_bl, ty_str, ty_non, nb, Bool.and_eq_true, Bool.or_eq_true, decide_eq_true_eq, beq_iff_eq, Int.cast_ofNat_Int, List.lookup_cons, List.lookup_nil, str_beq, insOf, not_true_eq_false, gok0]
    split
    · have e6 := h6.len
      have h7 : Dk (s6 ++ [O.lst (still.map pairD)] ++ [O.lst [D.ref s6.length]]) (t5 ++ [O.lst (still.map pairD)] ++ [O.lst [D.ref s6.length]]) := h6.app.app
      have hq0 : (t5 ++ [O.lst (still.map pairD)] ++ [O.lst [D.ref s6.length]])[t5.length]? = some (.lst (still.map pairD)) := by simp
      have hp0 : (t5 ++ [O.lst (still.map pairD)] ++ [O.lst [D.ref s6.length]])[t5.length + 1]? = some (.lst [D.ref s6.length]) := by simp
      have hr7 : ∀ m : Mark, m.length ≤ 8 → RT ((t5 ++ [O.lst (still.map pairD)] ++ [O.lst [D.ref s6.length]]).set t5.length (.lst (m.map pairD))) (.ref (t5.length + 2)) := fun m hm => by
        refine .inr ⟨t5.length + 1, [D.ref s6.length], rfl, by rw [List.getElem?_set_ne (by omega)]; exact hp0, by simp, fun x hx => ?_⟩
        rw [List.mem_singleton.mp hx, e6]
        exact ⟨m, hm, .inr ⟨t5.length, rfl, by omega, by rw [List.getElem?_set_self (by simp)]⟩⟩
      have hr8 : RT (t5 ++ [O.lst (still.map pairD)] ++ [O.lst [D.ref s6.length]]) (.ref (t5.length + 2)) := by
        refine .inr ⟨t5.length + 1, [D.ref s6.length], rfl, hp0, by simp, fun x hx => ?_⟩
        rw [List.mem_singleton.mp hx, e6]
        exact ⟨still, by decide, .inr ⟨t5.length, rfl, by omega, by simp⟩⟩
      rw [show (s6 ++ [O.lst [D.tup [D.int 0, D.int 0], D.tup [D.int 0, D.int 0], D.tup [D.int 0, D.int 0], D.tup [D.int 0, D.int 0], D.tup [D.int 0, D.int 0], D.tup [D.int 0, D.int 0]]]) = s6 ++ [O.lst (still.map pairD)] from rfl]
      have el : (s6 ++ [O.lst (still.map pairD)]).length = t5.length + 2 := by simp [e6]
      rw [el]
      refine tk h7 (by decide) fun v2 s8 _ _ h8 => ?_
      try simp only [wp_rep, wp_meth, w_lenSo, w_tupT, w_tupL, List.length_map, wp_ok, wp_bad, wp_bind, wS_ok, wS_bad, wS_cons, wS_nil, wS_pass, wS_break, wS_cont, wS_never, wS_set, wS_expr, wS_ret, wS_retN, wS_if, wS_asg, wS_aug, wS_for, wp_lc, wp_m1, wp_m2, wp_mN, wp_aNil, wp_aCons, wp_mC, wp_var, wp_if2, wp_and2, wp_or2, wp_not, wp_chain2, isBl_bl, andK_p, orK_p, andV_p, orV_p, iteK_p, andK_t, andK_f, orK_t, orK_f, andV_t, andV_f, orV_t, orV_f, iteK_t, iteK_f, wp_tTru2, dTru_bl, dTru_lst, dTru_int, dTru_non, wp_mt, wp_get, wp_isi, wp_fld, wp_sl, wp_oNone, wp_oSome, wp_tBool, wp_tNot, wp_tAnd2, wp_tOr2, wp_tAll, wp_gSlot, wp_gsNil, wp_gsCons, wp_gTup, wp_gSub, wp_iAny, wp_iSeq, wp_iTup, wp_iStr, wp_iRange1, wp_iRange2, wp_iZip, wS_fld, wp_make, seqQ, rtQ, turnQ, List.getElem?_cons_zero, List.getElem?_cons_succ, List.set_cons_zero, List.set_cons_succ, wipeD, if_true, if_false, Bool.false_eq_true, Bool.true_eq_false, reduceIte, w_add, w_iadd, w_iaddS, w_addS, w_addL, w_addT, w_sub, w_mul, w_mod, w_fdiv, w_pow, w_neg, w_lt, w_le, w_gt, w_ge, w_eqI, w_neI, w_eqT, w_neT, w_isN, w_isnotN, w_isB, w_isNB, w_len, w_lenT, w_int, w_intB, w_abs, w_min, w_max, w_tup, w_lst, w_new, w_list, w_listN, w_ix, w_ixT, w_ixD, w_inT1, w_notinT1, w_inT2, w_notinT2, w_inT3, w_notinT3, w_inT4, w_notinT4, w_inT5, w_notinT5, w_inT6, w_notinT6, w_inT7, w_notinT7, w_inT8, w_notinT8, w_sl1, at_0, at_1, at_2, at_3, at_4, at_5, hasTy_list, hasTy_str, isNonD, flatD, sEq_T, List.all_cons, List.all_nil, List.any_cons, List.any_nil, Bool.and_true, Bool.true_and, Bool.or_false, Bool.or_true, Bool.true_or, Bool.false_or, Bool.not_true, Bool.not_false, List.length_cons, List.length_nil, Nat.zero_add, Nat.reduceAdd, line_eq, true_and, and_true, String.reduceBEq, Int.reduceBEq, decide_true, decide_false, Int.reduceLT, Int.reduceLE, beq_self_eq_true, Nat.reduceLeDiff, wS_raise, wp_xinit, wp_sets0, wp_sets1, wp_fs, wp_xf, wp_xis, hdQ, setO, List.map_cons, List.map_nil, tabF_cons, tabF_nil, lview, w_inU1, w_inU2, w_inU3, w_inU4, w_notinU1, w_notinU2, w_notinU3, w_notinU4, wp_lcN, and_self, or_true, true_or, or_false, false_or, not_true_eq_false, not_false_eq_true, ne_eq, reduceCtorEq, List.cons.injEq, Bool.and_false, Bool.false_and, Bool.and_self, Bool.or_self, List.mem_cons, List.not_mem_nil, isSub, ty_tup, ty_lst, ty_int, ty_bl, ty_str, ty_non, nb, Bool.and_eq_true, Bool.or_eq_true, decide_eq_true_eq, beq_iff_eq, Int.cast_ofNat_Int, List.lookup_cons, List.lookup_nil, str_beq, insOf, not_true_eq_false, gok0]
      split
      · refine tk h8 (by decide) fun v3 s9 w0 w1 h9 => ?_
        try simp only [wp_rep, wp_meth, w_lenSo, w_tupT, w_tupL, List.length_map, wp_ok, wp_bad, wp_bind, wS_ok, wS_bad, wS_cons, wS_nil, wS_pass, wS_break, wS_cont, wS_never, wS_set, wS_expr, wS_ret, wS_retN, wS_if, wS_asg, wS_aug, wS_for, wp_lc, wp_m1, wp_m2, wp_mN, wp_aNil, wp_aCons, wp_mC, wp_var, wp_if2, wp_and2, wp_or2, wp_not, wp_chain2, isBl_bl, andK_p, orK_p, andV_p, orV_p, iteK_p, andK_t, andK_f, orK_t, orK_f, andV_t, andV_f, orV_t, orV_f, iteK_t, iteK_f, wp_tTru2, dTru_bl, dTru_lst, dTru_int, dTru_non, wp_mt, wp_get, wp_isi, wp_fld, wp_sl, wp_oNone, wp_oSome, wp_tBool, wp_tNot, wp_tAnd2, wp_tOr2, wp_tAll, wp_gSlot, wp_gsNil, wp_gsCons, wp_gTup, wp_gSub, wp_iAny, wp_iSeq, wp_iTup, wp_iStr, wp_iRange1, wp_iRange2, wp_iZip, wS_fld, wp_make, seqQ, rtQ, turnQ, List.getElem?_cons_zero, List.getElem?_cons_succ, List.set_cons_zero, List.set_cons_succ, wipeD, if_true, if_false, Bool.false_eq_true, Bool.true_eq_false, reduceIte, w_add, w_iadd, w_iaddS, w_addS, w_addL, w_addT, w_sub, w_mul, w_mod, w_fdiv, w_pow, w_neg, w_lt, w_le, w_gt, w_ge, w_eqI, w_neI, w_eqT, w_neT, w_isN, w_isnotN, w_isB, w_isNB, w_len, w_lenT, w_int, w_intB, w_abs, w_min, w_max, w_tup, w_lst, w_new, w_list, w_listN, w_ix, w_ixT, w_ixD, w_inT1, w_notinT1, w_inT2, w_notinT2, w_inT3, w_notinT3, w_inT4, w_notinT4, w_inT5, w_notinT5, w_inT6, w_notinT6, w_inT7, w_notinT7, w_inT8, w_notinT8, w_sl1, at_0, at_1, at_2, at_3, at_4, at_5, hasTy_list, hasTy_str, isNonD, flatD, sEq_T, List.all_cons, List.all_nil, List.any_cons, List.any_nil, Bool.and_true, Bool.true_and, Bool.or_false, Bool.or_true, Bool.true_or, Bool.false_or, Bool.not_true, Bool.not_false, List.length_cons, List.length_nil, Nat.zero_add, Nat.reduceAdd, line_eq, true_and, and_true, String.reduceBEq, Int.reduceBEq, decide_true, decide_false, Int.reduceLT, Int.reduceLE, beq_self_eq_true, Nat.reduceLeDiff, wS_raise, wp_xinit, wp_sets0, wp_sets1, wp_fs, wp_xf, wp_xis, hdQ, setO, List.map_cons, List.map_nil, tabF_cons, tabF_nil, lview, w_inU1, w_inU2, w_inU3, w_inU4, w_notinU1, w_notinU2, w_notinU3, w_notinU4, wp_lcN, and_self, or_true, true_or, or_false, false_or, not_true_eq_false, not_false_eq_true, ne_eq, reduceCtorEq, List.cons.injEq, Bool.and_false, Bool.false_and, Bool.and_self, Bool.or_self, List.mem_cons, List.not_mem_nil, isSub, ty_tup, ty_lst, ty_int, ty_bl, ty_str, ty_non, nb, Bool.and_eq_true, Bool.or_eq_true, decide_eq_true_eq, beq_iff_eq, Int.cast_ofNat_Int, List.lookup_cons, List.lookup_nil, str_beq, insOf, not_true_eq_false, gok0]
        have b1 := small_bits (a := 2) (k := 20) (by decide)
        have b2 := small_bits (a := v3) (k := 20) (by simp only [Nat.reducePow]; omega)
        refine ⟨by omega, ?_⟩
        rw [w_ixR (by rw [h9.get]; exact hp0), at_0]
        try simp only [wp_rep, wp_meth, w_lenSo, w_tupT, w_tupL, List.length_map, wp_ok, wp_bad, wp_bind, wS_ok, wS_bad, wS_cons, wS_nil, wS_pass, wS_break, wS_cont, wS_never, wS_set, wS_expr, wS_ret, wS_retN, wS_if, wS_asg, wS_aug, wS_for, wp_lc, wp_m1, wp_m2, wp_mN, wp_aNil, wp_aCons, wp_mC, wp_var, wp_if2, wp_and2, wp_or2, wp_not, wp_chain2, isBl_bl, andK_p, orK_p, andV_p, orV_p, iteK_p, andK_t, andK_f, orK_t, orK_f, andV_t, andV_f, orV_t, orV_f, iteK_t, iteK_f, wp_tTru2, dTru_bl, dTru_lst, dTru_int, dTru_non, wp_mt, wp_get, wp_isi, wp_fld, wp_sl, wp_oNone, wp_oSome, wp_tBool, wp_tNot, wp_tAnd2, wp_tOr2, wp_tAll, wp_gSlot, wp_gsNil, wp_gsCons, wp_gTup, wp_gSub, wp_iAny, wp_iSeq, wp_iTup, wp_iStr, wp_iRange1, wp_iRange2, wp_iZip, wS_fld, wp_make, seqQ, rtQ, turnQ, List.getElem?_cons_zero, List.getElem?_cons_succ, List.set_cons_zero, List.set_cons_succ, wipeD, if_true, if_false, Bool.false_eq_true, Bool.true_eq_false, reduceIte, w_add, w_iadd, w_iaddS, w_addS, w_addL, w_addT, w_sub, w_mul, w_mod, w_fdiv, w_pow, w_neg, w_lt, w_le, w_gt, w_ge, w_eqI, w_neI, w_eqT, w_neT, w_isN, w_isnotN, w_isB, w_isNB, w_len, w_lenT, w_int, w_intB, w_abs, w_min, w_max, w_tup, w_lst, w_new, w_list, w_listN, w_ix, w_ixT, w_ixD, w_inT1, w_notinT1, w_inT2, w_notinT2, w_inT3, w_notinT3, w_inT4, w_notinT4, w_inT5, w_notinT5, w_inT6, w_notinT6, w_inT7, w_notinT7, w_inT8, w_notinT8, w_sl1, at_0, at_1, at_2, at_3, at_4, at_5, hasTy_list, hasTy_str, isNonD, flatD, sEq_T, List.all_cons, List.all_nil, List.any_cons, List.any_nil, Bool.and_true, Bool.true_and, Bool.or_false, Bool.or_true, Bool.true_or, Bool.false_or, Bool.not_true, Bool.not_false, List.length_cons, List.length_nil, Nat.zero_add, Nat.reduceAdd, line_eq, true_and, and_true, String.reduceBEq, Int.reduceBEq, decide_true, decide_false, Int.reduceLT, Int.reduceLE, beq_self_eq_true, Nat.reduceLeDiff, wS_raise, wp_xinit, wp_sets0, wp_sets1, wp_fs, wp_xf, wp_xis, hdQ, setO, List.map_cons, List.map_nil, tabF_cons, tabF_nil, lview, w_inU1, w_inU2, w_inU3, w_inU4, w_notinU1, w_notinU2, w_notinU3, w_notinU4, wp_lcN, and_self, or_true, true_or, or_false, false_or, not_true_eq_false, not_false_eq_true, ne_eq, reduceCtorEq, List.cons.injEq, Bool.and_false, Bool.false_and, Bool.and_self, Bool.or_self, List.mem_cons, List.not_mem_nil, isSub, ty_tup, ty_lst, ty_int, ty_bl, ty_str, ty_non, nb, Bool.and_eq_true, Bool.or_eq_true, decide_eq_true_eq, beq_iff_eq, Int.cast_ofNat_Int, List.lookup_cons, List.lookup_nil, str_beq, insOf, not_true_eq_false, gok0]
        refine tk h9 (by decide) fun ev s10 he0 he1 h10 => ?_
        have e10 : s10[s6.length]? = some (.lst (still.map pairD)) := by rw [e6, h10.get]; exact hq0
        have e11 : dStore (.ref s6.length) (.int ev) (.tup [.int 0, .int (1 - 2 * v3)]) s10 = some (s10.set s6.length (.lst ((still.set ev.toNat (0, 1 - 2 * v3)).map pairD))) := by
          rw [w_store e10 he0 (by rw [List.length_map]; exact he1), List.map_set]
          rfl
        have hr8 := hr7 (still.set ev.toNat (0, 1 - 2 * v3)) (by rw [List.length_set]; decide)
        simp only [e11]
        have h8 := h10.set (q := t5.length) (o := .lst ((still.set ev.toNat (0, 1 - 2 * v3)).map pairD))
        rw [← e6] at h8
        try simp only [wp_rep, wp_meth, w_lenSo, w_tupT, w_tupL, List.length_map, wp_ok, wp_bad, wp_bind, wS_ok, wS_bad, wS_cons, wS_nil, wS_pass, wS_break, wS_cont, wS_never, wS_set, wS_expr, wS_ret, wS_retN, wS_if, wS_asg, wS_aug, wS_for, wp_lc, wp_m1, wp_m2, wp_mN, wp_aNil, wp_aCons, wp_mC, wp_var, wp_if2, wp_and2, wp_or2, wp_not, wp_chain2, isBl_bl, andK_p, orK_p, andV_p, orV_p, iteK_p, andK_t, andK_f, orK_t, orK_f, andV_t, andV_f, orV_t, orV_f, iteK_t, iteK_f, wp_tTru2, dTru_bl, dTru_lst, dTru_int, dTru_non, wp_mt, wp_get, wp_isi, wp_fld, wp_sl, wp_oNone, wp_oSome, wp_tBool, wp_tNot, wp_tAnd2, wp_tOr2, wp_tAll, wp_gSlot, wp_gsNil, wp_gsCons, wp_gTup, wp_gSub, wp_iAny, wp_iSeq, wp_iTup, wp_iStr, wp_iRange1, wp_iRange2, wp_iZip, wS_fld, wp_make, seqQ, rtQ, turnQ, List.getElem?_cons_zero, List.getElem?_cons_succ, List.set_cons_zero, List.set_cons_succ, wipeD, if_true, if_false, Bool.false_eq_true, Bool.true_eq_false, reduceIte, w_add, w_iadd, w_iaddS, w_addS, w_addL, w_addT, w_sub, w_mul, w_mod, w_fdiv, w_pow, w_neg, w_lt, w_le, w_gt, w_ge, w_eqI, w_neI, w_eqT, w_neT, w_isN, w_isnotN, w_isB, w_isNB, w_len, w_lenT, w_int, w_intB, w_abs, w_min, w_max, w_tup, w_lst, w_new, w_list, w_listN, w_ix, w_ixT, w_ixD, w_inT1, w_notinT1, w_inT2, w_notinT2, w_inT3, w_notinT3, w_inT4, w_notinT4, w_inT5, w_notinT5, w_inT6, w_notinT6, w_inT7, w_notinT7, w_inT8, w_notinT8, w_sl1, at_0, at_1, at_2, at_3, at_4, at_5, hasTy_list, hasTy_str, isNonD, flatD, sEq_T, List.all_cons, List.all_nil, List.any_cons, List.any_nil, Bool.and_true, Bool.true_and, Bool.or_false, Bool.or_true, Bool.true_or, Bool.false_or, Bool.not_true, Bool.not_false, List.length_cons, List.length_nil, Nat.zero_add, Nat.reduceAdd, line_eq, true_and, and_true, String.reduceBEq, Int.reduceBEq, decide_true, decide_false, Int.reduceLT, Int.reduceLE, beq_self_eq_true, Nat.reduceLeDiff, wS_raise, wp_xinit, wp_sets0, wp_sets1, wp_fs, wp_xf, wp_xis, hdQ, setO, List.map_cons, List.map_nil, tabF_cons, tabF_nil, lview, w_inU1, w_inU2, w_inU3, w_inU4, w_notinU1, w_notinU2, w_notinU3, w_notinU4, wp_lcN, and_self, or_true, true_or, or_false, false_or, not_true_eq_false, not_false_eq_true, ne_eq, reduceCtorEq, List.cons.injEq, Bool.and_false, Bool.false_and, Bool.and_self, Bool.or_self, List.mem_cons, List.not_mem_nil, isSub, ty_tup, ty_lst, ty_int, ty_bl, ty_str, ty_non, nb, Bool.and_eq_true, Bool.or_eq_true, decide_eq_true_eq, beq_iff_eq, Int.cast_ofNat_Int, List.lookup_cons, List.lookup_nil, str_beq, insOf, not_true_eq_false, gok0]
        refine word_wp (good := ["one"]) (bad := ["each", "all"]) h8 (by decide) (by decide) fun b s9 h9 => ?_
        try simp only [wp_rep, wp_meth, w_lenSo, w_tupT, w_tupL, List.length_map, wp_ok, wp_bad, wp_bind, wS_ok, wS_bad, wS_cons, wS_nil, wS_pass, wS_break, wS_cont, wS_never, wS_set, wS_expr, wS_ret, wS_retN, wS_if, wS_asg, wS_aug, wS_for, wp_lc, wp_m1, wp_m2, wp_mN, wp_aNil, wp_aCons, wp_mC, wp_var, wp_if2, wp_and2, wp_or2, wp_not, wp_chain2, isBl_bl, andK_p, orK_p, andV_p, orV_p, iteK_p, andK_t, andK_f, orK_t, orK_f, andV_t, andV_f, orV_t, orV_f, iteK_t, iteK_f, wp_tTru2, dTru_bl, dTru_lst, dTru_int, dTru_non, wp_mt, wp_get, wp_isi, wp_fld, wp_sl, wp_oNone, wp_oSome, wp_tBool, wp_tNot, wp_tAnd2, wp_tOr2, wp_tAll, wp_gSlot, wp_gsNil, wp_gsCons, wp_gTup, wp_gSub, wp_iAny, wp_iSeq, wp_iTup, wp_iStr, wp_iRange1, wp_iRange2, wp_iZip, wS_fld, wp_make, seqQ, rtQ, turnQ, List.getElem?_cons_zero, List.getElem?_cons_succ, List.set_cons_zero, List.set_cons_succ, wipeD, if_true, if_false, Bool.false_eq_true, Bool.true_eq_false, reduceIte, w_add, w_iadd, w_iaddS, w_addS, w_addL, w_addT, w_sub, w_mul, w_mod, w_fdiv, w_pow, w_neg, w_lt, w_le, w_gt, w_ge, w_eqI, w_neI, w_eqT, w_neT, w_isN, w_isnotN, w_isB, w_isNB, w_len, w_lenT, w_int, w_intB, w_abs, w_min, w_max, w_tup, w_lst, w_new, w_list, w_listN, w_ix, w_ixT, w_ixD, w_inT1, w_notinT1, w_inT2, w_notinT2, w_inT3, w_notinT3, w_inT4, w_notinT4, w_inT5, w_notinT5, w_inT6, w_notinT6, w_inT7, w_notinT7, w_inT8, w_notinT8, w_sl1, at_0, at_1, at_2, at_3, at_4, at_5, hasTy_list, hasTy_str, isNonD, flatD, sEq_T, List.all_cons, List.all_nil, List.any_cons, List.any_nil, Bool.and_true, Bool.true_and, Bool.or_false, Bool.or_true, Bool.true_or, Bool.false_or, Bool.not_true, Bool.not_false, List.length_cons, List.length_nil, Nat.zero_add, Nat.reduceAdd, line_eq, true_and, and_true, String.reduceBEq, Int.reduceBEq, decide_true, decide_false, Int.reduceLT, Int.reduceLE, beq_self_eq_true, Nat.reduceLeDiff, wS_raise, wp_xinit, wp_sets0, wp_sets1, wp_fs, wp_xf, wp_xis, hdQ, setO, List.map_cons, List.map_nil, tabF_cons, tabF_nil, lview, w_inU1, w_inU2, w_inU3, w_inU4, w_notinU1, w_notinU2, w_notinU3, w_notinU4, wp_lcN, and_self, or_true, true_or, or_false, false_or, not_true_eq_false, not_false_eq_true, ne_eq, reduceCtorEq, List.cons.injEq, Bool.and_false, Bool.false_and, Bool.and_self, Bool.or_self, List.mem_cons, List.not_mem_nil, isSub, ty_tup, ty_lst, ty_int, ty_bl, ty_str, ty_non, nb, Bool.and_eq_true, Bool.or_eq_true, decide_eq_true_eq, beq_iff_eq, Int.cast_ofNat_Int, List.lookup_cons, List.lookup_nil, str_beq, insOf, not_true_eq_false, gok0]
        refine word_wp (good := ["always"]) (bad := ["call", "calls"]) h9 (by decide) (by decide) fun c s10 h10 => ?_
        try simp only [wp_rep, wp_meth, w_lenSo, w_tupT, w_tupL, List.length_map, wp_ok, wp_bad, wp_bind, wS_ok, wS_bad, wS_cons, wS_nil, wS_pass, wS_break, wS_cont, wS_never, wS_set, wS_expr, wS_ret, wS_retN, wS_if, wS_asg, wS_aug, wS_for, wp_lc, wp_m1, wp_m2, wp_mN, wp_aNil, wp_aCons, wp_mC, wp_var, wp_if2, wp_and2, wp_or2, wp_not, wp_chain2, isBl_bl, andK_p, orK_p, andV_p, orV_p, iteK_p, andK_t, andK_f, orK_t, orK_f, andV_t, andV_f, orV_t, orV_f, iteK_t, iteK_f, wp_tTru2, dTru_bl, dTru_lst, dTru_int, dTru_non, wp_mt, wp_get, wp_isi, wp_fld, wp_sl, wp_oNone, wp_oSome, wp_tBool, wp_tNot, wp_tAnd2, wp_tOr2, wp_tAll, wp_gSlot, wp_gsNil, wp_gsCons, wp_gTup, wp_gSub, wp_iAny, wp_iSeq, wp_iTup, wp_iStr, wp_iRange1, wp_iRange2, wp_iZip, wS_fld, wp_make, seqQ, rtQ, turnQ, List.getElem?_cons_zero, List.getElem?_cons_succ, List.set_cons_zero, List.set_cons_succ, wipeD, if_true, if_false, Bool.false_eq_true, Bool.true_eq_false, reduceIte, w_add, w_iadd, w_iaddS, w_addS, w_addL, w_addT, w_sub, w_mul, w_mod, w_fdiv, w_pow, w_neg, w_lt, w_le, w_gt, w_ge, w_eqI, w_neI, w_eqT, w_neT, w_isN, w_isnotN, w_isB, w_isNB, w_len, w_lenT, w_int, w_intB, w_abs, w_min, w_max, w_tup, w_lst, w_new, w_list, w_listN, w_ix, w_ixT, w_ixD, w_inT1, w_notinT1, w_inT2, w_notinT2, w_inT3, w_notinT3, w_inT4, w_notinT4, w_inT5, w_notinT5, w_inT6, w_notinT6, w_inT7, w_notinT7, w_inT8, w_notinT8, w_sl1, at_0, at_1, at_2, at_3, at_4, at_5, hasTy_list, hasTy_str, isNonD, flatD, sEq_T, List.all_cons, List.all_nil, List.any_cons, List.any_nil, Bool.and_true, Bool.true_and, Bool.or_false, Bool.or_true, Bool.true_or, Bool.false_or, Bool.not_true, Bool.not_false, List.length_cons, List.length_nil, Nat.zero_add, Nat.reduceAdd, line_eq, true_and, and_true, String.reduceBEq, Int.reduceBEq, decide_true, decide_false, Int.reduceLT, Int.reduceLE, beq_self_eq_true, Nat.reduceLeDiff, wS_raise, wp_xinit, wp_sets0, wp_sets1, wp_fs, wp_xf, wp_xis, hdQ, setO, List.map_cons, List.map_nil, tabF_cons, tabF_nil, lview, w_inU1, w_inU2, w_inU3, w_inU4, w_notinU1, w_notinU2, w_notinU3, w_notinU4, wp_lcN, and_self, or_true, true_or, or_false, false_or, not_true_eq_false, not_false_eq_true, ne_eq, reduceCtorEq, List.cons.injEq, Bool.and_false, Bool.false_and, Bool.and_self, Bool.or_self, List.mem_cons, List.not_mem_nil, isSub, ty_tup, ty_lst, ty_int, ty_bl, ty_str, ty_non, nb, Bool.and_eq_true, Bool.or_eq_true, decide_eq_true_eq, beq_iff_eq, Int.cast_ofNat_Int, List.lookup_cons, List.lookup_nil, str_beq, insOf, not_true_eq_false, gok0]
        refine word_wp (good := ["slot"]) (bad := ["place", "pin", "slots"]) h10 (by decide) (by decide) fun e s11 h11 => ?_
        try simp only [wp_rep, wp_meth, w_lenSo, w_tupT, w_tupL, List.length_map, wp_ok, wp_bad, wp_bind, wS_ok, wS_bad, wS_cons, wS_nil, wS_pass, wS_break, wS_cont, wS_never, wS_set, wS_expr, wS_ret, wS_retN, wS_if, wS_asg, wS_aug, wS_for, wp_lc, wp_m1, wp_m2, wp_mN, wp_aNil, wp_aCons, wp_mC, wp_var, wp_if2, wp_and2, wp_or2, wp_not, wp_chain2, isBl_bl, andK_p, orK_p, andV_p, orV_p, iteK_p, andK_t, andK_f, orK_t, orK_f, andV_t, andV_f, orV_t, orV_f, iteK_t, iteK_f, wp_tTru2, dTru_bl, dTru_lst, dTru_int, dTru_non, wp_mt, wp_get, wp_isi, wp_fld, wp_sl, wp_oNone, wp_oSome, wp_tBool, wp_tNot, wp_tAnd2, wp_tOr2, wp_tAll, wp_gSlot, wp_gsNil, wp_gsCons, wp_gTup, wp_gSub, wp_iAny, wp_iSeq, wp_iTup, wp_iStr, wp_iRange1, wp_iRange2, wp_iZip, wS_fld, wp_make, seqQ, rtQ, turnQ, List.getElem?_cons_zero, List.getElem?_cons_succ, List.set_cons_zero, List.set_cons_succ, wipeD, if_true, if_false, Bool.false_eq_true, Bool.true_eq_false, reduceIte, w_add, w_iadd, w_iaddS, w_addS, w_addL, w_addT, w_sub, w_mul, w_mod, w_fdiv, w_pow, w_neg, w_lt, w_le, w_gt, w_ge, w_eqI, w_neI, w_eqT, w_neT, w_isN, w_isnotN, w_isB, w_isNB, w_len, w_lenT, w_int, w_intB, w_abs, w_min, w_max, w_tup, w_lst, w_new, w_list, w_listN, w_ix, w_ixT, w_ixD, w_inT1, w_notinT1, w_inT2, w_notinT2, w_inT3, w_notinT3, w_inT4, w_notinT4, w_inT5, w_notinT5, w_inT6, w_notinT6, w_inT7, w_notinT7, w_inT8, w_notinT8, w_sl1, at_0, at_1, at_2, at_3, at_4, at_5, hasTy_list, hasTy_str, isNonD, flatD, sEq_T, List.all_cons, List.all_nil, List.any_cons, List.any_nil, Bool.and_true, Bool.true_and, Bool.or_false, Bool.or_true, Bool.true_or, Bool.false_or, Bool.not_true, Bool.not_false, List.length_cons, List.length_nil, Nat.zero_add, Nat.reduceAdd, line_eq, true_and, and_true, String.reduceBEq, Int.reduceBEq, decide_true, decide_false, Int.reduceLT, Int.reduceLE, beq_self_eq_true, Nat.reduceLeDiff, wS_raise, wp_xinit, wp_sets0, wp_sets1, wp_fs, wp_xf, wp_xis, hdQ, setO, List.map_cons, List.map_nil, tabF_cons, tabF_nil, lview, w_inU1, w_inU2, w_inU3, w_inU4, w_notinU1, w_notinU2, w_notinU3, w_notinU4, wp_lcN, and_self, or_true, true_or, or_false, false_or, not_true_eq_false, not_false_eq_true, ne_eq, reduceCtorEq, List.cons.injEq, Bool.and_false, Bool.false_and, Bool.and_self, Bool.or_self, List.mem_cons, List.not_mem_nil, isSub, ty_tup, ty_lst, ty_int, ty_bl, ty_str, ty_non, nb, Bool.and_eq_true, Bool.or_eq_true, decide_eq_true_eq, beq_iff_eq, Int.cast_ofNat_Int, List.lookup_cons, List.lookup_nil, str_beq, insOf, not_true_eq_false, gok0]
        exact fz_parts h11 hr8 k
      · refine word_wp (good := ["one"]) (bad := ["each", "all"]) h8 (by decide) (by decide) fun b s9 h9 => ?_
        try simp only [wp_rep, wp_meth, w_lenSo, w_tupT, w_tupL, List.length_map, wp_ok, wp_bad, wp_bind, wS_ok, wS_bad, wS_cons, wS_nil, wS_pass, wS_break, wS_cont, wS_never, wS_set, wS_expr, wS_ret, wS_retN, wS_if, wS_asg, wS_aug, wS_for, wp_lc, wp_m1, wp_m2, wp_mN, wp_aNil, wp_aCons, wp_mC, wp_var, wp_if2, wp_and2, wp_or2, wp_not, wp_chain2, isBl_bl, andK_p, orK_p, andV_p, orV_p, iteK_p, andK_t, andK_f, orK_t, orK_f, andV_t, andV_f, orV_t, orV_f, iteK_t, iteK_f, wp_tTru2, dTru_bl, dTru_lst, dTru_int, dTru_non, wp_mt, wp_get, wp_isi, wp_fld, wp_sl, wp_oNone, wp_oSome, wp_tBool, wp_tNot, wp_tAnd2, wp_tOr2, wp_tAll, wp_gSlot, wp_gsNil, wp_gsCons, wp_gTup, wp_gSub, wp_iAny, wp_iSeq, wp_iTup, wp_iStr, wp_iRange1, wp_iRange2, wp_iZip, wS_fld, wp_make, seqQ, rtQ, turnQ, List.getElem?_cons_zero, List.getElem?_cons_succ, List.set_cons_zero, List.set_cons_succ, wipeD, if_true, if_false, Bool.false_eq_true, Bool.true_eq_false, reduceIte, w_add, w_iadd, w_iaddS, w_addS, w_addL, w_addT, w_sub, w_mul, w_mod, w_fdiv, w_pow, w_neg, w_lt, w_le, w_gt, w_ge, w_eqI, w_neI, w_eqT, w_neT, w_isN, w_isnotN, w_isB, w_isNB, w_len, w_lenT, w_int, w_intB, w_abs, w_min, w_max, w_tup, w_lst, w_new, w_list, w_listN, w_ix, w_ixT, w_ixD, w_inT1, w_notinT1, w_inT2, w_notinT2, w_inT3, w_notinT3, w_inT4, w_notinT4, w_inT5, w_notinT5, w_inT6, w_notinT6, w_inT7, w_notinT7, w_inT8, w_notinT8, w_sl1, at_0, at_1, at_2, at_3, at_4, at_5, hasTy_list, hasTy_str, isNonD, flatD, sEq_T, List.all_cons, List.all_nil, List.any_cons, List.any_nil, Bool.and_true, Bool.true_and, Bool.or_false, Bool.or_true, Bool.true_or, Bool.false_or, Bool.not_true, Bool.not_false, List.length_cons, List.length_nil, Nat.zero_add, Nat.reduceAdd, line_eq, true_and, and_true, String.reduceBEq, Int.reduceBEq, decide_true, decide_false, Int.reduceLT, Int.reduceLE, beq_self_eq_true, Nat.reduceLeDiff, wS_raise, wp_xinit, wp_sets0, wp_sets1, wp_fs, wp_xf, wp_xis, hdQ, setO, List.map_cons, List.map_nil, tabF_cons, tabF_nil, lview, w_inU1, w_inU2, w_inU3, w_inU4, w_notinU1, w_notinU2, w_notinU3, w_notinU4, wp_lcN, and_self, or_true, true_or, or_false, false_or, not_true_eq_false, not_false_eq_true, ne_eq, reduceCtorEq, List.cons.injEq, Bool.and_false, Bool.false_and, Bool.and_self, Bool.or_self, List.mem_cons, List.not_mem_nil, isSub, ty_tup, ty_lst, ty_int, ty_bl, ty_str, ty_non, nb, Bool.and_eq_true, Bool.or_eq_true, decide_eq_true_eq, beq_iff_eq, Int.cast_ofNat_Int, List.lookup_cons, List.lookup_nil, str_beq, insOf, not_true_eq_false, gok0]
        refine word_wp (good := ["always"]) (bad := ["call", "calls"]) h9 (by decide) (by decide) fun c s10 h10 => ?_
        try simp only [wp_rep, wp_meth, w_lenSo, w_tupT, w_tupL, List.length_map, wp_ok, wp_bad, wp_bind, wS_ok, wS_bad, wS_cons, wS_nil, wS_pass, wS_break, wS_cont, wS_never, wS_set, wS_expr, wS_ret, wS_retN, wS_if, wS_asg, wS_aug, wS_for, wp_lc, wp_m1, wp_m2, wp_mN, wp_aNil, wp_aCons, wp_mC, wp_var, wp_if2, wp_and2, wp_or2, wp_not, wp_chain2, isBl_bl, andK_p, orK_p, andV_p, orV_p, iteK_p, andK_t, andK_f, orK_t, orK_f, andV_t, andV_f, orV_t, orV_f, iteK_t, iteK_f, wp_tTru2, dTru_bl, dTru_lst, dTru_int, dTru_non, wp_mt, wp_get, wp_isi, wp_fld, wp_sl, wp_oNone, wp_oSome, wp_tBool, wp_tNot, wp_tAnd2, wp_tOr2, wp_tAll, wp_gSlot, wp_gsNil, wp_gsCons, wp_gTup, wp_gSub, wp_iAny, wp_iSeq, wp_iTup, wp_iStr, wp_iRange1, wp_iRange2, wp_iZip, wS_fld, wp_make, seqQ, rtQ, turnQ, List.getElem?_cons_zero, List.getElem?_cons_succ, List.set_cons_zero, List.set_cons_succ, wipeD, if_true, if_false, Bool.false_eq_true, Bool.true_eq_false, reduceIte, w_add, w_iadd, w_iaddS, w_addS, w_addL, w_addT, w_sub, w_mul, w_mod, w_fdiv, w_pow, w_neg, w_lt, w_le, w_gt, w_ge, w_eqI, w_neI, w_eqT, w_neT, w_isN, w_isnotN, w_isB, w_isNB, w_len, w_lenT, w_int, w_intB, w_abs, w_min, w_max, w_tup, w_lst, w_new, w_list, w_listN, w_ix, w_ixT, w_ixD, w_inT1, w_notinT1, w_inT2, w_notinT2, w_inT3, w_notinT3, w_inT4, w_notinT4, w_inT5, w_notinT5, w_inT6, w_notinT6, w_inT7, w_notinT7, w_inT8, w_notinT8, w_sl1, at_0, at_1, at_2, at_3, at_4, at_5, hasTy_list, hasTy_str, isNonD, flatD, sEq_T, List.all_cons, List.all_nil, List.any_cons, List.any_nil, Bool.and_true, Bool.true_and, Bool.or_false, Bool.or_true, Bool.true_or, Bool.false_or, Bool.not_true, Bool.not_false, List.length_cons, List.length_nil, Nat.zero_add, Nat.reduceAdd, line_eq, true_and, and_true, String.reduceBEq, Int.reduceBEq, decide_true, decide_false, Int.reduceLT, Int.reduceLE, beq_self_eq_true, Nat.reduceLeDiff, wS_raise, wp_xinit, wp_sets0, wp_sets1, wp_fs, wp_xf, wp_xis, hdQ, setO, List.map_cons, List.map_nil, tabF_cons, tabF_nil, lview, w_inU1, w_inU2, w_inU3, w_inU4, w_notinU1, w_notinU2, w_notinU3, w_notinU4, wp_lcN, and_self, or_true, true_or, or_false, false_or, not_true_eq_false, not_false_eq_true, ne_eq, reduceCtorEq, List.cons.injEq, Bool.and_false, Bool.false_and, Bool.and_self, Bool.or_self, List.mem_cons, List.not_mem_nil, isSub, ty_tup, ty_lst, ty_int, ty_bl, ty_str, ty_non, nb, Bool.and_eq_true, Bool.or_eq_true, decide_eq_true_eq, beq_iff_eq, Int.cast_ofNat_Int, List.lookup_cons, List.lookup_nil, str_beq, insOf, not_true_eq_false, gok0]
        refine word_wp (good := ["slot"]) (bad := ["place", "pin", "slots"]) h10 (by decide) (by decide) fun e s11 h11 => ?_
        try simp only [wp_rep, wp_meth, w_lenSo, w_tupT, w_tupL, List.length_map, wp_ok, wp_bad, wp_bind, wS_ok, wS_bad, wS_cons, wS_nil, wS_pass, wS_break, wS_cont, wS_never, wS_set, wS_expr, wS_ret, wS_retN, wS_if, wS_asg, wS_aug, wS_for, wp_lc, wp_m1, wp_m2, wp_mN, wp_aNil, wp_aCons, wp_mC, wp_var, wp_if2, wp_and2, wp_or2, wp_not, wp_chain2, isBl_bl, andK_p, orK_p, andV_p, orV_p, iteK_p, andK_t, andK_f, orK_t, orK_f, andV_t, andV_f, orV_t, orV_f, iteK_t, iteK_f, wp_tTru2, dTru_bl, dTru_lst, dTru_int, dTru_non, wp_mt, wp_get, wp_isi, wp_fld, wp_sl, wp_oNone, wp_oSome, wp_tBool, wp_tNot, wp_tAnd2, wp_tOr2, wp_tAll, wp_gSlot, wp_gsNil, wp_gsCons, wp_gTup, wp_gSub, wp_iAny, wp_iSeq, wp_iTup, wp_iStr, wp_iRange1, wp_iRange2, wp_iZip, wS_fld, wp_make, seqQ, rtQ, turnQ, List.getElem?_cons_zero, List.getElem?_cons_succ, List.set_cons_zero, List.set_cons_succ, wipeD, if_true, if_false, Bool.false_eq_true, Bool.true_eq_false, reduceIte, w_add, w_iadd, w_iaddS, w_addS, w_addL, w_addT, w_sub, w_mul, w_mod, w_fdiv, w_pow, w_neg, w_lt, w_le, w_gt, w_ge, w_eqI, w_neI, w_eqT, w_neT, w_isN, w_isnotN, w_isB, w_isNB, w_len, w_lenT, w_int, w_intB, w_abs, w_min, w_max, w_tup, w_lst, w_new, w_list, w_listN, w_ix, w_ixT, w_ixD, w_inT1, w_notinT1, w_inT2, w_notinT2, w_inT3, w_notinT3, w_inT4, w_notinT4, w_inT5, w_notinT5, w_inT6, w_notinT6, w_inT7, w_notinT7, w_inT8, w_notinT8, w_sl1, at_0, at_1, at_2, at_3, at_4, at_5, hasTy_list, hasTy_str, isNonD, flatD, sEq_T, List.all_cons, List.all_nil, List.any_cons, List.any_nil, Bool.and_true, Bool.true_and, Bool.or_false, Bool.or_true, Bool.true_or, Bool.false_or, Bool.not_true, Bool.not_false, List.length_cons, List.length_nil, Nat.zero_add, Nat.reduceAdd, line_eq, true_and, and_true, String.reduceBEq, Int.reduceBEq, decide_true, decide_false, Int.reduceLT, Int.reduceLE, beq_self_eq_true, Nat.reduceLeDiff, wS_raise, wp_xinit, wp_sets0, wp_sets1, wp_fs, wp_xf, wp_xis, hdQ, setO, List.map_cons, List.map_nil, tabF_cons, tabF_nil, lview, w_inU1, w_inU2, w_inU3, w_inU4, w_notinU1, w_notinU2, w_notinU3, w_notinU4, wp_lcN, and_self, or_true, true_or, or_false, false_or, not_true_eq_false, not_false_eq_true, ne_eq, reduceCtorEq, List.cons.injEq, Bool.and_false, Bool.false_and, Bool.and_self, Bool.or_self, List.mem_cons, List.not_mem_nil, isSub, ty_tup, ty_lst, ty_int, ty_bl, ty_str, ty_non, nb, Bool.and_eq_true, Bool.or_eq_true, decide_eq_true_eq, beq_iff_eq, Int.cast_ofNat_Int, List.lookup_cons, List.lookup_nil, str_beq, insOf, not_true_eq_false, gok0]
        exact fz_parts h11 hr8 k
    · refine word_wp (good := ["one", "each"]) (bad := ["both", "", "One"]) h6 (by decide) (by decide) fun b s7 h7 => ?_
      try simp only [wp_rep, wp_meth, w_lenSo, w_tupT, w_tupL, List.length_map, wp_ok, wp_bad, wp_bind, wS_ok, wS_bad, wS_cons, wS_nil, wS_pass, wS_break, wS_cont, wS_never, wS_set, wS_expr, wS_ret, wS_retN, wS_if, wS_asg, wS_aug, wS_for, wp_lc, wp_m1, wp_m2, wp_mN, wp_aNil, wp_aCons, wp_mC, wp_var, wp_if2, wp_and2, wp_or2, wp_not, wp_chain2, isBl_bl, andK_p, orK_p, andV_p, orV_p, iteK_p, andK_t, andK_f, orK_t, orK_f, andV_t, andV_f, orV_t, orV_f, iteK_t, iteK_f, wp_tTru2, dTru_bl, dTru_lst, dTru_int, dTru_non, wp_mt, wp_get, wp_isi, wp_fld, wp_sl, wp_oNone, wp_oSome, wp_tBool, wp_tNot, wp_tAnd2, wp_tOr2, wp_tAll, wp_gSlot, wp_gsNil, wp_gsCons, wp_gTup, wp_gSub, wp_iAny, wp_iSeq, wp_iTup, wp_iStr, wp_iRange1, wp_iRange2, wp_iZip, wS_fld, wp_make, seqQ, rtQ, turnQ, List.getElem?_cons_zero, List.getElem?_cons_succ, List.set_cons_zero, List.set_cons_succ, wipeD, if_true, if_false, Bool.false_eq_true, Bool.true_eq_false, reduceIte, w_add, w_iadd, w_iaddS, w_addS, w_addL, w_addT, w_sub, w_mul, w_mod, w_fdiv, w_pow, w_neg, w_lt, w_le, w_gt, w_ge, w_eqI, w_neI, w_eqT, w_neT, w_isN, w_isnotN, w_isB, w_isNB, w_len, w_lenT, w_int, w_intB, w_abs, w_min, w_max, w_tup, w_lst, w_new, w_list, w_listN, w_ix, w_ixT, w_ixD, w_inT1, w_notinT1, w_inT2, w_notinT2, w_inT3, w_notinT3, w_inT4, w_notinT4, w_inT5, w_notinT5, w_inT6, w_notinT6, w_inT7, w_notinT7, w_inT8, w_notinT8, w_sl1, at_0, at_1, at_2, at_3, at_4, at_5, hasTy_list, hasTy_str, isNonD, flatD, sEq_T, List.all_cons, List.all_nil, List.any_cons, List.any_nil, Bool.and_true, Bool.true_and, Bool.or_false, Bool.or_true, Bool.true_or, Bool.false_or, Bool.not_true, Bool.not_false, List.length_cons, List.length_nil, Nat.zero_add, Nat.reduceAdd, line_eq, true_and, and_true, String.reduceBEq, Int.reduceBEq, decide_true, decide_false, Int.reduceLT, Int.reduceLE, beq_self_eq_true, Nat.reduceLeDiff, wS_raise, wp_xinit, wp_sets0, wp_sets1, wp_fs, wp_xf, wp_xis, hdQ, setO, List.map_cons, List.map_nil, tabF_cons, tabF_nil, lview, w_inU1, w_inU2, w_inU3, w_inU4, w_notinU1, w_notinU2, w_notinU3, w_notinU4, wp_lcN, and_self, or_true, true_or, or_false, false_or, not_true_eq_false, not_false_eq_true, ne_eq, reduceCtorEq, List.cons.injEq, Bool.and_false, Bool.false_and, Bool.and_self, Bool.or_self, List.mem_cons, List.not_mem_nil, isSub, ty_tup, ty_lst, ty_int, ty_bl, ty_str, ty_non, nb, Bool.and_eq_true, Bool.or_eq_true, decide_eq_true_eq, beq_iff_eq, Int.cast_ofNat_Int, List.lookup_cons, List.lookup_nil, str_beq, insOf, not_true_eq_false, gok0]
      refine word_wp (good := ["always", "call"]) (bad := ["never", "", "calls"]) h7 (by decide) (by decide) fun c s8 h8 => ?_
      try simp only [wp_rep, wp_meth, w_lenSo, w_tupT, w_tupL, List.length_map, wp_ok, wp_bad, wp_bind, wS_ok, wS_bad, wS_cons, wS_nil, wS_pass, wS_break, wS_cont, wS_never, wS_set, wS_expr, wS_ret, wS_retN, wS_if, wS_asg, wS_aug, wS_for, wp_lc, wp_m1, wp_m2, wp_mN, wp_aNil, wp_aCons, wp_mC, wp_var, wp_if2, wp_and2, wp_or2, wp_not, wp_chain2, isBl_bl, andK_p, orK_p, andV_p, orV_p, iteK_p, andK_t, andK_f, orK_t, orK_f, andV_t, andV_f, orV_t, orV_f, iteK_t, iteK_f, wp_tTru2, dTru_bl, dTru_lst, dTru_int, dTru_non, wp_mt, wp_get, wp_isi, wp_fld, wp_sl, wp_oNone, wp_oSome, wp_tBool, wp_tNot, wp_tAnd2, wp_tOr2, wp_tAll, wp_gSlot, wp_gsNil, wp_gsCons, wp_gTup, wp_gSub, wp_iAny, wp_iSeq, wp_iTup, wp_iStr, wp_iRange1, wp_iRange2, wp_iZip, wS_fld, wp_make, seqQ, rtQ, turnQ, List.getElem?_cons_zero, List.getElem?_cons_succ, List.set_cons_zero, List.set_cons_succ, wipeD, if_true, if_false, Bool.false_eq_true, Bool.true_eq_false, reduceIte, w_add, w_iadd, w_iaddS, w_addS, w_addL, w_addT, w_sub, w_mul, w_mod, w_fdiv, w_pow, w_neg, w_lt, w_le, w_gt, w_ge, w_eqI, w_neI, w_eqT, w_neT, w_isN, w_isnotN, w_isB, w_isNB, w_len, w_lenT, w_int, w_intB, w_abs, w_min, w_max, w_tup, w_lst, w_new, w_list, w_listN, w_ix, w_ixT, w_ixD, w_inT1, w_notinT1, w_inT2, w_notinT2, w_inT3, w_notinT3, w_inT4, w_notinT4, w_inT5, w_notinT5, w_inT6, w_notinT6, w_inT7, w_notinT7, w_inT8, w_notinT8, w_sl1, at_0, at_1, at_2, at_3, at_4, at_5, hasTy_list, hasTy_str, isNonD, flatD, sEq_T, List.all_cons, List.all_nil, List.any_cons, List.any_nil, Bool.and_true, Bool.true_and, Bool.or_false, Bool.or_true, Bool.true_or, Bool.false_or, Bool.not_true, Bool.not_false, List.length_cons, List.length_nil, Nat.zero_add, Nat.reduceAdd, line_eq, true_and, and_true, String.reduceBEq, Int.reduceBEq, decide_true, decide_false, Int.reduceLT, Int.reduceLE, beq_self_eq_true, Nat.reduceLeDiff, wS_raise, wp_xinit, wp_sets0, wp_sets1, wp_fs, wp_xf, wp_xis, hdQ, setO, List.map_cons, List.map_nil, tabF_cons, tabF_nil, lview, w_inU1, w_inU2, w_inU3, w_inU4, w_notinU1, w_notinU2, w_notinU3, w_notinU4, wp_lcN, and_self, or_true, true_or, or_false, false_or, not_true_eq_false, not_false_eq_true, ne_eq, reduceCtorEq, List.cons.injEq, Bool.and_false, Bool.false_and, Bool.and_self, Bool.or_self, List.mem_cons, List.not_mem_nil, isSub, ty_tup, ty_lst, ty_int, ty_bl, ty_str, ty_non, nb, Bool.and_eq_true, Bool.or_eq_true, decide_eq_true_eq, beq_iff_eq, Int.cast_ofNat_Int, List.lookup_cons, List.lookup_nil, str_beq, insOf, not_true_eq_false, gok0]
      refine word_wp (good := ["slot", "place", "pin"]) (bad := ["pins", "", "slot,"]) h8 (by decide) (by decide) fun e s9 h9 => ?_
      try simp only [wp_rep, wp_meth, w_lenSo, w_tupT, w_tupL, List.length_map, wp_ok, wp_bad, wp_bind, wS_ok, wS_bad, wS_cons, wS_nil, wS_pass, wS_break, wS_cont, wS_never, wS_set, wS_expr, wS_ret, wS_retN, wS_if, wS_asg, wS_aug, wS_for, wp_lc, wp_m1, wp_m2, wp_mN, wp_aNil, wp_aCons, wp_mC, wp_var, wp_if2, wp_and2, wp_or2, wp_not, wp_chain2, isBl_bl, andK_p, orK_p, andV_p, orV_p, iteK_p, andK_t, andK_f, orK_t, orK_f, andV_t, andV_f, orV_t, orV_f, iteK_t, iteK_f, wp_tTru2, dTru_bl, dTru_lst, dTru_int, dTru_non, wp_mt, wp_get, wp_isi, wp_fld, wp_sl, wp_oNone, wp_oSome, wp_tBool, wp_tNot, wp_tAnd2, wp_tOr2, wp_tAll, wp_gSlot, wp_gsNil, wp_gsCons, wp_gTup, wp_gSub, wp_iAny, wp_iSeq, wp_iTup, wp_iStr, wp_iRange1, wp_iRange2, wp_iZip, wS_fld, wp_make, seqQ, rtQ, turnQ, List.getElem?_cons_zero, List.getElem?_cons_succ, List.set_cons_zero, List.set_cons_succ, wipeD, if_true, if_false, Bool.false_eq_true, Bool.true_eq_false, reduceIte, w_add, w_iadd, w_iaddS, w_addS, w_addL, w_addT, w_sub, w_mul, w_mod, w_fdiv, w_pow, w_neg, w_lt, w_le, w_gt, w_ge, w_eqI, w_neI, w_eqT, w_neT, w_isN, w_isnotN, w_isB, w_isNB, w_len, w_lenT, w_int, w_intB, w_abs, w_min, w_max, w_tup, w_lst, w_new, w_list, w_listN, w_ix, w_ixT, w_ixD, w_inT1, w_notinT1, w_inT2, w_notinT2, w_inT3, w_notinT3, w_inT4, w_notinT4, w_inT5, w_notinT5, w_inT6, w_notinT6, w_inT7, w_notinT7, w_inT8, w_notinT8, w_sl1, at_0, at_1, at_2, at_3, at_4, at_5, hasTy_list, hasTy_str, isNonD, flatD, sEq_T, List.all_cons, List.all_nil, List.any_cons, List.any_nil, Bool.and_true, Bool.true_and, Bool.or_false, Bool.or_true, Bool.true_or, Bool.false_or, Bool.not_true, Bool.not_false, List.length_cons, List.length_nil, Nat.zero_add, Nat.reduceAdd, line_eq, true_and, and_true, String.reduceBEq, Int.reduceBEq, decide_true, decide_false, Int.reduceLT, Int.reduceLE, beq_self_eq_true, Nat.reduceLeDiff, wS_raise, wp_xinit, wp_sets0, wp_sets1, wp_fs, wp_xf, wp_xis, hdQ, setO, List.map_cons, List.map_nil, tabF_cons, tabF_nil, lview, w_inU1, w_inU2, w_inU3, w_inU4, w_notinU1, w_notinU2, w_notinU3, w_notinU4, wp_lcN, and_self, or_true, true_or, or_false, false_or, not_true_eq_false, not_false_eq_true, ne_eq, reduceCtorEq, List.cons.injEq, Bool.and_false, Bool.false_and, Bool.and_self, Bool.or_self, List.mem_cons, List.not_mem_nil, isSub, ty_tup, ty_lst, ty_int, ty_bl, ty_str, ty_non, nb, Bool.and_eq_true, Bool.or_eq_true, decide_eq_true_eq, beq_iff_eq, Int.cast_ofNat_Int, List.lookup_cons, List.lookup_nil, str_beq, insOf, not_true_eq_false, gok0]
      exact fz_parts h9 hr5 k
  · have h6 := h5
    refine word_wp (good := ["one", "each"]) (bad := ["both", "", "One"]) h6 (by decide) (by decide) fun b s7 h7 => ?_
    try simp only [wp_rep, wp_meth, w_lenSo, w_tupT, w_tupL, List.length_map, wp_ok, wp_bad, wp_bind, wS_ok, wS_bad, wS_cons, wS_nil, wS_pass, wS_break, wS_cont, wS_never, wS_set, wS_expr, wS_ret, wS_retN, wS_if, wS_asg, wS_aug, wS_for, wp_lc, wp_m1, wp_m2, wp_mN, wp_aNil, wp_aCons, wp_mC, wp_var, wp_if2, wp_and2, wp_or2, wp_not, wp_chain2, isBl_bl, andK_p, orK_p, andV_p, orV_p, iteK_p, andK_t, andK_f, orK_t, orK_f, andV_t, andV_f, orV_t, orV_f, iteK_t, iteK_f, wp_tTru2, dTru_bl, dTru_lst, dTru_int, dTru_non, wp_mt, wp_get, wp_isi, wp_fld, wp_sl, wp_oNone, wp_oSome, wp_tBool, wp_tNot, wp_tAnd2, wp_tOr2, wp_tAll, wp_gSlot, wp_gsNil, wp_gsCons, wp_gTup, wp_gSub, wp_iAny, wp_iSeq, wp_iTup, wp_iStr, wp_iRange1, wp_iRange2, wp_iZip, wS_fld, wp_make, seqQ, rtQ, turnQ, List.getElem?_cons_zero, List.getElem?_cons_succ, List.set_cons_zero, List.set_cons_succ, wipeD, if_true, if_false, Bool.false_eq_true, Bool.true_eq_false, reduceIte, w_add, w_iadd, w_iaddS, w_addS, w_addL, w_addT, w_sub, w_mul, w_mod, w_fdiv, w_pow, w_neg, w_lt, w_le, w_gt, w_ge, w_eqI, w_neI, w_eqT, w_neT, w_isN, w_isnotN, w_isB, w_isNB, w_len, w_lenT, w_int, w_intB, w_abs, w_min, w_max, w_tup, w_lst, w_new, w_list, w_listN, w_ix, w_ixT, w_ixD, w_inT1, w_notinT1, w_inT2, w_notinT2, w_inT3, w_notinT3, w_inT4, w_notinT4, w_inT5, w_notinT5, w_inT6, w_notinT6, w_inT7, w_notinT7, w_inT8, w_notinT8, w_sl1, at_0, at_1, at_2, at_3, at_4, at_5, hasTy_list, hasTy_str, isNonD, flatD, sEq_T, List.all_cons, List.all_nil, List.any_cons, List.any_nil, Bool.and_true, Bool.true_and, Bool.or_false, Bool.or_true, Bool.true_or, Bool.false_or, Bool.not_true, Bool.not_false, List.length_cons, List.length_nil, Nat.zero_add, Nat.reduceAdd, line_eq, true_and, and_true, String.reduceBEq, Int.reduceBEq, decide_true, decide_false, Int.reduceLT, Int.reduceLE, beq_self_eq_true, Nat.reduceLeDiff, wS_raise, wp_xinit, wp_sets0, wp_sets1, wp_fs, wp_xf, wp_xis, hdQ, setO, List.map_cons, List.map_nil, tabF_cons, tabF_nil, lview, w_inU1, w_inU2, w_inU3, w_inU4, w_notinU1, w_notinU2, w_notinU3, w_notinU4, wp_lcN, and_self, or_true, true_or, or_false, false_or, not_true_eq_false, not_false_eq_true, ne_eq, reduceCtorEq, List.cons.injEq, Bool.and_false, Bool.false_and, Bool.and_self, Bool.or_self, List.mem_cons, List.not_mem_nil, isSub, ty_tup, ty_lst, ty_int, ty_bl, ty_str, ty_non, nb, Bool.and_eq_true, Bool.or_eq_true, decide_eq_true_eq, beq_iff_eq, Int.cast_ofNat_Int, List.lookup_cons, List.lookup_nil, str_beq, insOf, not_true_eq_false, gok0]
    refine word_wp (good := ["always", "call"]) (bad := ["never", "", "calls"]) h7 (by decide) (by decide) fun c s8 h8 => ?_
    try simp only [wp_rep, wp_meth, w_lenSo, w_tupT, w_tupL, List.length_map, wp_ok, wp_bad, wp_bind, wS_ok, wS_bad, wS_cons, wS_nil, wS_pass, wS_break, wS_cont, wS_never, wS_set, wS_expr, wS_ret, wS_retN, wS_if, wS_asg, wS_aug, wS_for, wp_lc, wp_m1, wp_m2, wp_mN, wp_aNil, wp_aCons, wp_mC, wp_var, wp_if2, wp_and2, wp_or2, wp_not, wp_chain2, isBl_bl, andK_p, orK_p, andV_p, orV_p, iteK_p, andK_t, andK_f, orK_t, orK_f, andV_t, andV_f, orV_t, orV_f, iteK_t, iteK_f, wp_tTru2, dTru_bl, dTru_lst, dTru_int, dTru_non, wp_mt, wp_get, wp_isi, wp_fld, wp_sl, wp_oNone, wp_oSome, wp_tBool, wp_tNot, wp_tAnd2, wp_tOr2, wp_tAll, wp_gSlot, wp_gsNil, wp_gsCons, wp_gTup, wp_gSub, wp_iAny, wp_iSeq, wp_iTup, wp_iStr, wp_iRange1, wp_iRange2, wp_iZip, wS_fld, wp_make, seqQ, rtQ, turnQ, List.getElem?_cons_zero, List.getElem?_cons_succ, List.set_cons_zero, List.set_cons_succ, wipeD, if_true, if_false, Bool.false_eq_true, Bool.true_eq_false, reduceIte, w_add, w_iadd, w_iaddS, w_addS, w_addL, w_addT, w_sub, w_mul, w_mod, w_fdiv, w_pow, w_neg, w_lt, w_le, w_gt, w_ge, w_eqI, w_neI, w_eqT, w_neT, w_isN, w_isnotN, w_isB, w_isNB, w_len, w_lenT, w_int, w_intB, w_abs, w_min, w_max, w_tup, w_lst, w_new, w_list, w_listN, w_ix, w_ixT, w_ixD, w_inT1, w_notinT1, w_inT2, w_notinT2, w_inT3, w_notinT3, w_inT4, w_notinT4, w_inT5, w_notinT5, w_inT6, w_notinT6, w_inT7, w_notinT7, w_inT8, w_notinT8, w_sl1, at_0, at_1, at_2, at_3, at_4, at_5, hasTy_list, hasTy_str, isNonD, flatD, sEq_T, List.all_cons, List.all_nil, List.any_cons, List.any_nil, Bool.and_true, Bool.true_and, Bool.or_false, Bool.or_true, Bool.true_or, Bool.false_or, Bool.not_true, Bool.not_false, List.length_cons, List.length_nil, Nat.zero_add, Nat.reduceAdd, line_eq, true_and, and_true, String.reduceBEq, Int.reduceBEq, decide_true, decide_false, Int.reduceLT, Int.reduceLE, beq_self_eq_true, Nat.reduceLeDiff, wS_raise, wp_xinit, wp_sets0, wp_sets1, wp_fs, wp_xf, wp_xis, hdQ, setO, List.map_cons, List.map_nil, tabF_cons, tabF_nil, lview, w_inU1, w_inU2, w_inU3, w_inU4, w_notinU1, w_notinU2, w_notinU3, w_notinU4, wp_lcN, and_self, or_true, true_or, or_false, false_or, not_true_eq_false, not_false_eq_true, ne_eq, reduceCtorEq, List.cons.injEq, Bool.and_false, Bool.false_and, Bool.and_self, Bool.or_self, List.mem_cons, List.not_mem_nil, isSub, ty_tup, ty_lst, ty_int, ty_bl, ty_str, ty_non, nb, Bool.and_eq_true, Bool.or_eq_true, decide_eq_true_eq, beq_iff_eq, Int.cast_ofNat_Int, List.lookup_cons, List.lookup_nil, str_beq, insOf, not_true_eq_false, gok0]
    refine word_wp (good := ["slot", "place", "pin"]) (bad := ["pins", "", "slot,"]) h8 (by decide) (by decide) fun e s9 h9 => ?_
    try simp only [wp_rep, wp_meth, w_lenSo, w_tupT, w_tupL, List.length_map, wp_ok, wp_bad, wp_bind, wS_ok, wS_bad, wS_cons, wS_nil, wS_pass, wS_break, wS_cont, wS_never, wS_set, wS_expr, wS_ret, wS_retN, wS_if, wS_asg, wS_aug, wS_for, wp_lc, wp_m1, wp_m2, wp_mN, wp_aNil, wp_aCons, wp_mC, wp_var, wp_if2, wp_and2, wp_or2, wp_not, wp_chain2, isBl_bl, andK_p, orK_p, andV_p, orV_p, iteK_p, andK_t, andK_f, orK_t, orK_f, andV_t, andV_f, orV_t, orV_f, iteK_t, iteK_f, wp_tTru2, dTru_bl, dTru_lst, dTru_int, dTru_non, wp_mt, wp_get, wp_isi, wp_fld, wp_sl, wp_oNone, wp_oSome, wp_tBool, wp_tNot, wp_tAnd2, wp_tOr2, wp_tAll, wp_gSlot, wp_gsNil, wp_gsCons, wp_gTup, wp_gSub, wp_iAny, wp_iSeq, wp_iTup, wp_iStr, wp_iRange1, wp_iRange2, wp_iZip, wS_fld, wp_make, seqQ, rtQ, turnQ, List.getElem?_cons_zero, List.getElem?_cons_succ, List.set_cons_zero, List.set_cons_succ, wipeD, if_true, if_false, Bool.false_eq_true, Bool.true_eq_false, reduceIte, w_add, w_iadd, w_iaddS, w_addS, w_addL, w_addT, w_sub, w_mul, w_mod, w_fdiv, w_pow, w_neg, w_lt, w_le, w_gt, w_ge, w_eqI, w_neI, w_eqT, w_neT, w_isN, w_isnotN, w_isB, w_isNB, w_len, w_lenT, w_int, w_intB, w_abs, w_min, w_max, w_tup, w_lst, w_new, w_list, w_listN, w_ix, w_ixT, w_ixD, w_inT1, w_notinT1, w_inT2, w_notinT2, w_inT3, w_notinT3, w_inT4, w_notinT4, w_inT5, w_notinT5, w_inT6, w_notinT6, w_inT7, w_notinT7, w_inT8, w_notinT8, w_sl1, at_0, at_1, at_2, at_3, at_4, at_5, hasTy_list, hasTy_str, isNonD, flatD, sEq_T, List.all_cons, List.all_nil, List.any_cons, List.any_nil, Bool.and_true, Bool.true_and, Bool.or_false, Bool.or_true, Bool.true_or, Bool.false_or, Bool.not_true, Bool.not_false, List.length_cons, List.length_nil, Nat.zero_add, Nat.reduceAdd, line_eq, true_and, and_true, String.reduceBEq, Int.reduceBEq, decide_true, decide_false, Int.reduceLT, Int.reduceLE, beq_self_eq_true, Nat.reduceLeDiff, wS_raise, wp_xinit, wp_sets0, wp_sets1, wp_fs, wp_xf, wp_xis, hdQ, setO, List.map_cons, List.map_nil, tabF_cons, tabF_nil, lview, w_inU1, w_inU2, w_inU3, w_inU4, w_notinU1, w_notinU2, w_notinU3, w_notinU4, wp_lcN, and_self, or_true, true_or, or_false, false_or, not_true_eq_false, not_false_eq_true, ne_eq, reduceCtorEq, List.cons.injEq, Bool.and_false, Bool.false_and, Bool.and_self, Bool.or_self, List.mem_cons, List.not_mem_nil, isSub, ty_tup, ty_lst, ty_int, ty_bl, ty_str, ty_non, nb, Bool.and_eq_true, Bool.or_eq_true, decide_eq_true_eq, beq_iff_eq, Int.cast_ofNat_Int, List.lookup_cons, List.lookup_nil, str_beq, insOf, not_true_eq_false, gok0]
    exact fz_parts h9 hr5 k
theorem dk_ok (h : Dk s []) : stOk s.length s = true := by
  obtain ⟨L, rfl, _⟩ := h
  unfold stOk
  simp [lt_deck]
theorem law_plain (ns : List Int) (hl : ns.length ≤ 63) (hb : ∀ z ∈ ns, Builtin.Int.intBits z ≤ 1048576) : ∃ s, f_law [.lst (ns.map .int)] [] = .ok (.bl true) s := by
  have main : wp (f_law [.lst (ns.map .int)] []) (fun d _ => d = .bl true) := by
    refine (wp_fn (n := 1) (tot := 6) (m := m_law) rfl).mpr ?_
    show wS (m_law [some (.lst (ns.map .int)), none, none, none, none, none] _) _ _
    unfold m_law c_EVENTS d_EVENTS
    try simp only [wp_rep, wp_meth, w_lenSo, w_tupT, w_tupL, List.length_map, wp_ok, wp_bad, wp_bind, wS_ok, wS_bad, wS_cons, wS_nil, wS_pass, wS_break, wS_cont, wS_never, wS_set, wS_expr, wS_ret, wS_retN, wS_if, wS_asg, wS_aug, wS_for, wp_lc, wp_m1, wp_m2, wp_mN, wp_aNil, wp_aCons, wp_mC, wp_var, wp_if2, wp_and2, wp_or2, wp_not, wp_chain2, isBl_bl, andK_p, orK_p, andV_p, orV_p, iteK_p, andK_t, andK_f, orK_t, orK_f, andV_t, andV_f, orV_t, orV_f, iteK_t, iteK_f, wp_tTru2, dTru_bl, dTru_lst, dTru_int, dTru_non, wp_mt, wp_get, wp_isi, wp_fld, wp_sl, wp_oNone, wp_oSome, wp_tBool, wp_tNot, wp_tAnd2, wp_tOr2, wp_tAll, wp_gSlot, wp_gsNil, wp_gsCons, wp_gTup, wp_gSub, wp_iAny, wp_iSeq, wp_iTup, wp_iStr, wp_iRange1, wp_iRange2, wp_iZip, wS_fld, wp_make, seqQ, rtQ, turnQ, List.getElem?_cons_zero, List.getElem?_cons_succ, List.set_cons_zero, List.set_cons_succ, wipeD, if_true, if_false, Bool.false_eq_true, Bool.true_eq_false, reduceIte, w_add, w_iadd, w_iaddS, w_addS, w_addL, w_addT, w_sub, w_mul, w_mod, w_fdiv, w_pow, w_neg, w_lt, w_le, w_gt, w_ge, w_eqI, w_neI, w_eqT, w_neT, w_isN, w_isnotN, w_isB, w_isNB, w_len, w_lenT, w_int, w_intB, w_abs, w_min, w_max, w_tup, w_lst, w_new, w_list, w_listN, w_ix, w_ixT, w_ixD, w_inT1, w_notinT1, w_inT2, w_notinT2, w_inT3, w_notinT3, w_inT4, w_notinT4, w_inT5, w_notinT5, w_inT6, w_notinT6, w_inT7, w_notinT7, w_inT8, w_notinT8, w_sl1, at_0, at_1, at_2, at_3, at_4, at_5, hasTy_list, hasTy_str, isNonD, flatD, sEq_T, List.all_cons, List.all_nil, List.any_cons, List.any_nil, Bool.and_true, Bool.true_and, Bool.or_false, Bool.or_true, Bool.true_or, Bool.false_or, Bool.not_true, Bool.not_false, List.length_cons, List.length_nil, Nat.zero_add, Nat.reduceAdd, line_eq, true_and, and_true, String.reduceBEq, Int.reduceBEq, decide_true, decide_false, Int.reduceLT, Int.reduceLE, beq_self_eq_true, Nat.reduceLeDiff, wS_raise, wp_xinit, wp_sets0, wp_sets1, wp_fs, wp_xf, wp_xis, hdQ, setO, List.map_cons, List.map_nil, tabF_cons, tabF_nil, lview, w_inU1, w_inU2, w_inU3, w_inU4, w_notinU1, w_notinU2, w_notinU3, w_notinU4, wp_lcN, and_self, or_true, true_or, or_false, false_or, not_true_eq_false, not_false_eq_true, ne_eq, reduceCtorEq, List.cons.injEq, Bool.and_false, Bool.false_and, Bool.and_self, Bool.or_self, List.mem_cons, List.not_mem_nil, isSub, ty_tup, ty_lst, ty_int, ty_bl, ty_str, ty_non, nb, Bool.and_eq_true, Bool.or_eq_true, decide_eq_true_eq, beq_iff_eq, Int.cast_ofNat_Int, List.lookup_cons, List.lookup_nil, str_beq, insOf, not_true_eq_false, gok0]
    refine deck_wp (by decide) (by decide) hl fun s0 h0 => ?_
    try simp only [wp_rep, wp_meth, w_lenSo, w_tupT, w_tupL, List.length_map, wp_ok, wp_bad, wp_bind, wS_ok, wS_bad, wS_cons, wS_nil, wS_pass, wS_break, wS_cont, wS_never, wS_set, wS_expr, wS_ret, wS_retN, wS_if, wS_asg, wS_aug, wS_for, wp_lc, wp_m1, wp_m2, wp_mN, wp_aNil, wp_aCons, wp_mC, wp_var, wp_if2, wp_and2, wp_or2, wp_not, wp_chain2, isBl_bl, andK_p, orK_p, andV_p, orV_p, iteK_p, andK_t, andK_f, orK_t, orK_f, andV_t, andV_f, orV_t, orV_f, iteK_t, iteK_f, wp_tTru2, dTru_bl, dTru_lst, dTru_int, dTru_non, wp_mt, wp_get, wp_isi, wp_fld, wp_sl, wp_oNone, wp_oSome, wp_tBool, wp_tNot, wp_tAnd2, wp_tOr2, wp_tAll, wp_gSlot, wp_gsNil, wp_gsCons, wp_gTup, wp_gSub, wp_iAny, wp_iSeq, wp_iTup, wp_iStr, wp_iRange1, wp_iRange2, wp_iZip, wS_fld, wp_make, seqQ, rtQ, turnQ, List.getElem?_cons_zero, List.getElem?_cons_succ, List.set_cons_zero, List.set_cons_succ, wipeD, if_true, if_false, Bool.false_eq_true, Bool.true_eq_false, reduceIte, w_add, w_iadd, w_iaddS, w_addS, w_addL, w_addT, w_sub, w_mul, w_mod, w_fdiv, w_pow, w_neg, w_lt, w_le, w_gt, w_ge, w_eqI, w_neI, w_eqT, w_neT, w_isN, w_isnotN, w_isB, w_isNB, w_len, w_lenT, w_int, w_intB, w_abs, w_min, w_max, w_tup, w_lst, w_new, w_list, w_listN, w_ix, w_ixT, w_ixD, w_inT1, w_notinT1, w_inT2, w_notinT2, w_inT3, w_notinT3, w_inT4, w_notinT4, w_inT5, w_notinT5, w_inT6, w_notinT6, w_inT7, w_notinT7, w_inT8, w_notinT8, w_sl1, at_0, at_1, at_2, at_3, at_4, at_5, hasTy_list, hasTy_str, isNonD, flatD, sEq_T, List.all_cons, List.all_nil, List.any_cons, List.any_nil, Bool.and_true, Bool.true_and, Bool.or_false, Bool.or_true, Bool.true_or, Bool.false_or, Bool.not_true, Bool.not_false, List.length_cons, List.length_nil, Nat.zero_add, Nat.reduceAdd, line_eq, true_and, and_true, String.reduceBEq, Int.reduceBEq, decide_true, decide_false, Int.reduceLT, Int.reduceLE, beq_self_eq_true, Nat.reduceLeDiff, wS_raise, wp_xinit, wp_sets0, wp_sets1, wp_fs, wp_xf, wp_xis, hdQ, setO, List.map_cons, List.map_nil, tabF_cons, tabF_nil, lview, w_inU1, w_inU2, w_inU3, w_inU4, w_notinU1, w_notinU2, w_notinU3, w_notinU4, wp_lcN, and_self, or_true, true_or, or_false, false_or, not_true_eq_false, not_false_eq_true, ne_eq, reduceCtorEq, List.cons.injEq, Bool.and_false, Bool.false_and, Bool.and_self, Bool.or_self, List.mem_cons, List.not_mem_nil, isSub, ty_tup, ty_lst, ty_int, ty_bl, ty_str, ty_non, nb, Bool.and_eq_true, Bool.or_eq_true, decide_eq_true_eq, beq_iff_eq, Int.cast_ofNat_Int, List.lookup_cons, List.lookup_nil, str_beq, insOf, not_true_eq_false, gok0]
    refine ⟨by decide, ?_⟩
    unfold rng
    refine wS_forN (I := fun rest ρ s => Dk s [] ∧ ∃ v2 v3 v4 v5, ρ = [some (.lst (ns.map .int)), some (.ref 0), v2, v3, v4, v5]) ?_ ?_ _ _ _ ⟨h0, _, _, _, _, rfl⟩
    · rintro ρ s ⟨h, v2, v3, v4, v5, rfl⟩
      try simp only [wp_rep, wp_meth, w_lenSo, w_tupT, w_tupL, List.length_map, wp_ok, wp_bad, wp_bind, wS_ok, wS_bad, wS_cons, wS_nil, wS_pass, wS_break, wS_cont, wS_never, wS_set, wS_expr, wS_ret, wS_retN, wS_if, wS_asg, wS_aug, wS_for, wp_lc, wp_m1, wp_m2, wp_mN, wp_aNil, wp_aCons, wp_mC, wp_var, wp_if2, wp_and2, wp_or2, wp_not, wp_chain2, isBl_bl, andK_p, orK_p, andV_p, orV_p, iteK_p, andK_t, andK_f, orK_t, orK_f, andV_t, andV_f, orV_t, orV_f, iteK_t, iteK_f, wp_tTru2, dTru_bl, dTru_lst, dTru_int, dTru_non, wp_mt, wp_get, wp_isi, wp_fld, wp_sl, wp_oNone, wp_oSome, wp_tBool, wp_tNot, wp_tAnd2, wp_tOr2, wp_tAll, wp_gSlot, wp_gsNil, wp_gsCons, wp_gTup, wp_gSub, wp_iAny, wp_iSeq, wp_iTup, wp_iStr, wp_iRange1, wp_iRange2, wp_iZip, wS_fld, wp_make, seqQ, rtQ, turnQ, List.getElem?_cons_zero, List.getElem?_cons_succ, List.set_cons_zero, List.set_cons_succ, wipeD, if_true, if_false, Bool.false_eq_true, Bool.true_eq_false, reduceIte, w_add, w_iadd, w_iaddS, w_addS, w_addL, w_addT, w_sub, w_mul, w_mod, w_fdiv, w_pow, w_neg, w_lt, w_le, w_gt, w_ge, w_eqI, w_neI, w_eqT, w_neT, w_isN, w_isnotN, w_isB, w_isNB, w_len, w_lenT, w_int, w_intB, w_abs, w_min, w_max, w_tup, w_lst, w_new, w_list, w_listN, w_ix, w_ixT, w_ixD, w_inT1, w_notinT1, w_inT2, w_notinT2, w_inT3, w_notinT3, w_inT4, w_notinT4, w_inT5, w_notinT5, w_inT6, w_notinT6, w_inT7, w_notinT7, w_inT8, w_notinT8, w_sl1, at_0, at_1, at_2, at_3, at_4, at_5, hasTy_list, hasTy_str, isNonD, flatD, sEq_T, List.all_cons, List.all_nil, List.any_cons, List.any_nil, Bool.and_true, Bool.true_and, Bool.or_false, Bool.or_true, Bool.true_or, Bool.false_or, Bool.not_true, Bool.not_false, List.length_cons, List.length_nil, Nat.zero_add, Nat.reduceAdd, line_eq, true_and, and_true, String.reduceBEq, Int.reduceBEq, decide_true, decide_false, Int.reduceLT, Int.reduceLE, beq_self_eq_true, Nat.reduceLeDiff, wS_raise, wp_xinit, wp_sets0, wp_sets1, wp_fs, wp_xf, wp_xis, hdQ, setO, List.map_cons, List.map_nil, tabF_cons, tabF_nil, lview, w_inU1, w_inU2, w_inU3, w_inU4, w_notinU1, w_notinU2, w_notinU3, w_notinU4, wp_lcN, and_self, or_true, true_or, or_false, false_or, not_true_eq_false, not_false_eq_true, ne_eq, reduceCtorEq, List.cons.injEq, Bool.and_false, Bool.false_and, Bool.and_self, Bool.or_self, List.mem_cons, List.not_mem_nil, isSub, ty_tup, ty_lst, ty_int, ty_bl, ty_str, ty_non, nb, Bool.and_eq_true, Bool.or_eq_true, decide_eq_true_eq, beq_iff_eq, Int.cast_ofNat_Int, List.lookup_cons, List.lookup_nil, str_beq, insOf, not_true_eq_false, gok0]
      have hs := dk_ok h
      have go : ∀ (ms : List String) (v5 : Option D) (all : List D), wS (forL none all (gSlot 5) (sIf (tNot1 (tTru dTru (mN f_law_plain (aCons (mVar 5) aNil)))) (sRet (mC (D.bl false))) ssNil) (ms.map fun m => D.str (Str.ofString m)) [some (.lst (ns.map .int)), some (.ref 0), v2, v3, v4, v5] s) (seqQ (sRet (mC (D.bl true))) (rtQ fun d x => d = D.bl true)) := by
        intro ms
        induction ms with
        | nil =>
          intro v5 all
          try simp only [wS_forL_cons, wS_forL_nil, wp_rep, wp_meth, w_lenSo, w_tupT, w_tupL, List.length_map, wp_ok, wp_bad, wp_bind, wS_ok, wS_bad, wS_cons, wS_nil, wS_pass, wS_break, wS_cont, wS_never, wS_set, wS_expr, wS_ret, wS_retN, wS_if, wS_asg, wS_aug, wS_for, wp_lc, wp_m1, wp_m2, wp_mN, wp_aNil, wp_aCons, wp_mC, wp_var, wp_if2, wp_and2, wp_or2, wp_not, wp_chain2, isBl_bl, andK_p, orK_p, andV_p, orV_p, iteK_p, andK_t, andK_f, orK_t, orK_f, andV_t, andV_f, orV_t, orV_f, iteK_t, iteK_f, wp_tTru2, dTru_bl, dTru_lst, dTru_int, dTru_non, wp_mt, wp_get, wp_isi, wp_fld, wp_sl, wp_oNone, wp_oSome, wp_tBool, wp_tNot, wp_tAnd2, wp_tOr2, wp_tAll, wp_gSlot, wp_gsNil, wp_gsCons, wp_gTup, wp_gSub, wp_iAny, wp_iSeq, wp_iTup, wp_iStr, wp_iRange1, wp_iRange2, wp_iZip, wS_fld, wp_make, seqQ, rtQ, turnQ, List.getElem?_cons_zero, List.getElem?_cons_succ, List.set_cons_zero, List.set_cons_succ, wipeD, if_true, if_false, Bool.false_eq_true, Bool.true_eq_false, reduceIte, w_add, w_iadd, w_iaddS, w_addS, w_addL, w_addT, w_sub, w_mul, w_mod, w_fdiv, w_pow, w_neg, w_lt, w_le, w_gt, w_ge, w_eqI, w_neI, w_eqT, w_neT, w_isN, w_isnotN, w_isB, w_isNB, w_len, w_lenT, w_int, w_intB, w_abs, w_min, w_max, w_tup, w_lst, w_new, w_list, w_listN, w_ix, w_ixT, w_ixD, w_inT1, w_notinT1, w_inT2, w_notinT2, w_inT3, w_notinT3, w_inT4, w_notinT4, w_inT5, w_notinT5, w_inT6, w_notinT6, w_inT7, w_notinT7, w_inT8, w_notinT8, w_sl1, at_0, at_1, at_2, at_3, at_4, at_5, hasTy_list, hasTy_str, isNonD, flatD, sEq_T, List.all_cons, List.all_nil, List.any_cons, List.any_nil, Bool.and_true, Bool.true_and, Bool.or_false, Bool.or_true, Bool.true_or, Bool.false_or, Bool.not_true, Bool.not_false, List.length_cons, List.length_nil, Nat.zero_add, Nat.reduceAdd, line_eq, true_and, and_true, String.reduceBEq, Int.reduceBEq, decide_true, decide_false, Int.reduceLT, Int.reduceLE, beq_self_eq_true, Nat.reduceLeDiff, wS_raise, wp_xinit, wp_sets0, wp_sets1, wp_fs, wp_xf, wp_xis, hdQ, setO, List.map_cons, List.map_nil, tabF_cons, tabF_nil, lview, w_inU1, w_inU2, w_inU3, w_inU4, w_notinU1, w_notinU2, w_notinU3, w_notinU4, wp_lcN, and_self, or_true, true_or, or_false, false_or, not_true_eq_false, not_false_eq_true, ne_eq, reduceCtorEq, List.cons.injEq, Bool.and_false, Bool.false_and, Bool.and_self, Bool.or_self, List.mem_cons, List.not_mem_nil, isSub, ty_tup, ty_lst, ty_int, ty_bl, ty_str, ty_non, nb, Bool.and_eq_true, Bool.or_eq_true, decide_eq_true_eq, beq_iff_eq, Int.cast_ofNat_Int, List.lookup_cons, List.lookup_nil, str_beq, insOf, not_true_eq_false, gok0]
        | cons m ms ih =>
          intro v5 all
          try simp only [wS_forL_cons, wS_forL_nil, wp_rep, wp_meth, w_lenSo, w_tupT, w_tupL, List.length_map, wp_ok, wp_bad, wp_bind, wS_ok, wS_bad, wS_cons, wS_nil, wS_pass, wS_break, wS_cont, wS_never, wS_set, wS_expr, wS_ret, wS_retN, wS_if, wS_asg, wS_aug, wS_for, wp_lc, wp_m1, wp_m2, wp_mN, wp_aNil, wp_aCons, wp_mC, wp_var, wp_if2, wp_and2, wp_or2, wp_not, wp_chain2, isBl_bl, andK_p, orK_p, andV_p, orV_p, iteK_p, andK_t, andK_f, orK_t, orK_f, andV_t, andV_f, orV_t, orV_f, iteK_t, iteK_f, wp_tTru2, dTru_bl, dTru_lst, dTru_int, dTru_non, wp_mt, wp_get, wp_isi, wp_fld, wp_sl, wp_oNone, wp_oSome, wp_tBool, wp_tNot, wp_tAnd2, wp_tOr2, wp_tAll, wp_gSlot, wp_gsNil, wp_gsCons, wp_gTup, wp_gSub, wp_iAny, wp_iSeq, wp_iTup, wp_iStr, wp_iRange1, wp_iRange2, wp_iZip, wS_fld, wp_make, seqQ, rtQ, turnQ, List.getElem?_cons_zero, List.getElem?_cons_succ, List.set_cons_zero, List.set_cons_succ, wipeD, if_true, if_false, Bool.false_eq_true, Bool.true_eq_false, reduceIte, w_add, w_iadd, w_iaddS, w_addS, w_addL, w_addT, w_sub, w_mul, w_mod, w_fdiv, w_pow, w_neg, w_lt, w_le, w_gt, w_ge, w_eqI, w_neI, w_eqT, w_neT, w_isN, w_isnotN, w_isB, w_isNB, w_len, w_lenT, w_int, w_intB, w_abs, w_min, w_max, w_tup, w_lst, w_new, w_list, w_listN, w_ix, w_ixT, w_ixD, w_inT1, w_notinT1, w_inT2, w_notinT2, w_inT3, w_notinT3, w_inT4, w_notinT4, w_inT5, w_notinT5, w_inT6, w_notinT6, w_inT7, w_notinT7, w_inT8, w_notinT8, w_sl1, at_0, at_1, at_2, at_3, at_4, at_5, hasTy_list, hasTy_str, isNonD, flatD, sEq_T, List.all_cons, List.all_nil, List.any_cons, List.any_nil, Bool.and_true, Bool.true_and, Bool.or_false, Bool.or_true, Bool.true_or, Bool.false_or, Bool.not_true, Bool.not_false, List.length_cons, List.length_nil, Nat.zero_add, Nat.reduceAdd, line_eq, true_and, and_true, String.reduceBEq, Int.reduceBEq, decide_true, decide_false, Int.reduceLT, Int.reduceLE, beq_self_eq_true, Nat.reduceLeDiff, wS_raise, wp_xinit, wp_sets0, wp_sets1, wp_fs, wp_xf, wp_xis, hdQ, setO, List.map_cons, List.map_nil, tabF_cons, tabF_nil, lview, w_inU1, w_inU2, w_inU3, w_inU4, w_notinU1, w_notinU2, w_notinU3, w_notinU4, wp_lcN, and_self, or_true, true_or, or_false, false_or, not_true_eq_false, not_false_eq_true, ne_eq, reduceCtorEq, List.cons.injEq, Bool.and_false, Bool.false_and, Bool.and_self, Bool.or_self, List.mem_cons, List.not_mem_nil, isSub, ty_tup, ty_lst, ty_int, ty_bl, ty_str, ty_non, nb, Bool.and_eq_true, Bool.or_eq_true, decide_eq_true_eq, beq_iff_eq, Int.cast_ofNat_Int, List.lookup_cons, List.lookup_nil, str_beq, insOf, not_true_eq_false, gok0]
          refine plain_wp hs ?_
          try simp only [wp_rep, wp_meth, w_lenSo, w_tupT, w_tupL, List.length_map, wp_ok, wp_bad, wp_bind, wS_ok, wS_bad, wS_cons, wS_nil, wS_pass, wS_break, wS_cont, wS_never, wS_set, wS_expr, wS_ret, wS_retN, wS_if, wS_asg, wS_aug, wS_for, wp_lc, wp_m1, wp_m2, wp_mN, wp_aNil, wp_aCons, wp_mC, wp_var, wp_if2, wp_and2, wp_or2, wp_not, wp_chain2, isBl_bl, andK_p, orK_p, andV_p, orV_p, iteK_p, andK_t, andK_f, orK_t, orK_f, andV_t, andV_f, orV_t, orV_f, iteK_t, iteK_f, wp_tTru2, dTru_bl, dTru_lst, dTru_int, dTru_non, wp_mt, wp_get, wp_isi, wp_fld, wp_sl, wp_oNone, wp_oSome, wp_tBool, wp_tNot, wp_tAnd2, wp_tOr2, wp_tAll, wp_gSlot, wp_gsNil, wp_gsCons, wp_gTup, wp_gSub, wp_iAny, wp_iSeq, wp_iTup, wp_iStr, wp_iRange1, wp_iRange2, wp_iZip, wS_fld, wp_make, seqQ, rtQ, turnQ, List.getElem?_cons_zero, List.getElem?_cons_succ, List.set_cons_zero, List.set_cons_succ, wipeD, if_true, if_false, Bool.false_eq_true, Bool.true_eq_false, reduceIte, w_add, w_iadd, w_iaddS, w_addS, w_addL, w_addT, w_sub, w_mul, w_mod, w_fdiv, w_pow, w_neg, w_lt, w_le, w_gt, w_ge, w_eqI, w_neI, w_eqT, w_neT, w_isN, w_isnotN, w_isB, w_isNB, w_len, w_lenT, w_int, w_intB, w_abs, w_min, w_max, w_tup, w_lst, w_new, w_list, w_listN, w_ix, w_ixT, w_ixD, w_inT1, w_notinT1, w_inT2, w_notinT2, w_inT3, w_notinT3, w_inT4, w_notinT4, w_inT5, w_notinT5, w_inT6, w_notinT6, w_inT7, w_notinT7, w_inT8, w_notinT8, w_sl1, at_0, at_1, at_2, at_3, at_4, at_5, hasTy_list, hasTy_str, isNonD, flatD, sEq_T, List.all_cons, List.all_nil, List.any_cons, List.any_nil, Bool.and_true, Bool.true_and, Bool.or_false, Bool.or_true, Bool.true_or, Bool.false_or, Bool.not_true, Bool.not_false, List.length_cons, List.length_nil, Nat.zero_add, Nat.reduceAdd, line_eq, true_and, and_true, String.reduceBEq, Int.reduceBEq, decide_true, decide_false, Int.reduceLT, Int.reduceLE, beq_self_eq_true, Nat.reduceLeDiff, wS_raise, wp_xinit, wp_sets0, wp_sets1, wp_fs, wp_xf, wp_xis, hdQ, setO, List.map_cons, List.map_nil, tabF_cons, tabF_nil, lview, w_inU1, w_inU2, w_inU3, w_inU4, w_notinU1, w_notinU2, w_notinU3, w_notinU4, wp_lcN, and_self, or_true, true_or, or_false, false_or, not_true_eq_false, not_false_eq_true, ne_eq, reduceCtorEq, List.cons.injEq, Bool.and_false, Bool.false_and, Bool.and_self, Bool.or_self, List.mem_cons, List.not_mem_nil, isSub, ty_tup, ty_lst, ty_int, ty_bl, ty_str, ty_non, nb, Bool.and_eq_true, Bool.or_eq_true, decide_eq_true_eq, beq_iff_eq, Int.cast_ofNat_Int, List.lookup_cons, List.lookup_nil, str_beq, insOf, not_true_eq_false, gok0]
          exact ih _ all
      exact go ["copied", "refused", "held", "hold", "Copied", ""] v5 _
    · rintro x rest ρ s ⟨h, v2, v3, v4, v5, rfl⟩
      try simp only [wp_rep, wp_meth, w_lenSo, w_tupT, w_tupL, List.length_map, wp_ok, wp_bad, wp_bind, wS_ok, wS_bad, wS_cons, wS_nil, wS_pass, wS_break, wS_cont, wS_never, wS_set, wS_expr, wS_ret, wS_retN, wS_if, wS_asg, wS_aug, wS_for, wp_lc, wp_m1, wp_m2, wp_mN, wp_aNil, wp_aCons, wp_mC, wp_var, wp_if2, wp_and2, wp_or2, wp_not, wp_chain2, isBl_bl, andK_p, orK_p, andV_p, orV_p, iteK_p, andK_t, andK_f, orK_t, orK_f, andV_t, andV_f, orV_t, orV_f, iteK_t, iteK_f, wp_tTru2, dTru_bl, dTru_lst, dTru_int, dTru_non, wp_mt, wp_get, wp_isi, wp_fld, wp_sl, wp_oNone, wp_oSome, wp_tBool, wp_tNot, wp_tAnd2, wp_tOr2, wp_tAll, wp_gSlot, wp_gsNil, wp_gsCons, wp_gTup, wp_gSub, wp_iAny, wp_iSeq, wp_iTup, wp_iStr, wp_iRange1, wp_iRange2, wp_iZip, wS_fld, wp_make, seqQ, rtQ, turnQ, List.getElem?_cons_zero, List.getElem?_cons_succ, List.set_cons_zero, List.set_cons_succ, wipeD, if_true, if_false, Bool.false_eq_true, Bool.true_eq_false, reduceIte, w_add, w_iadd, w_iaddS, w_addS, w_addL, w_addT, w_sub, w_mul, w_mod, w_fdiv, w_pow, w_neg, w_lt, w_le, w_gt, w_ge, w_eqI, w_neI, w_eqT, w_neT, w_isN, w_isnotN, w_isB, w_isNB, w_len, w_lenT, w_int, w_intB, w_abs, w_min, w_max, w_tup, w_lst, w_new, w_list, w_listN, w_ix, w_ixT, w_ixD, w_inT1, w_notinT1, w_inT2, w_notinT2, w_inT3, w_notinT3, w_inT4, w_notinT4, w_inT5, w_notinT5, w_inT6, w_notinT6, w_inT7, w_notinT7, w_inT8, w_notinT8, w_sl1, at_0, at_1, at_2, at_3, at_4, at_5, hasTy_list, hasTy_str, isNonD, flatD, sEq_T, List.all_cons, List.all_nil, List.any_cons, List.any_nil, Bool.and_true, Bool.true_and, Bool.or_false, Bool.or_true, Bool.true_or, Bool.false_or, Bool.not_true, Bool.not_false, List.length_cons, List.length_nil, Nat.zero_add, Nat.reduceAdd, line_eq, true_and, and_true, String.reduceBEq, Int.reduceBEq, decide_true, decide_false, Int.reduceLT, Int.reduceLE, beq_self_eq_true, Nat.reduceLeDiff, wS_raise, wp_xinit, wp_sets0, wp_sets1, wp_fs, wp_xf, wp_xis, hdQ, setO, List.map_cons, List.map_nil, tabF_cons, tabF_nil, lview, w_inU1, w_inU2, w_inU3, w_inU4, w_notinU1, w_notinU2, w_notinU3, w_notinU4, wp_lcN, and_self, or_true, true_or, or_false, false_or, not_true_eq_false, not_false_eq_true, ne_eq, reduceCtorEq, List.cons.injEq, Bool.and_false, Bool.false_and, Bool.and_self, Bool.or_self, List.mem_cons, List.not_mem_nil, isSub, ty_tup, ty_lst, ty_int, ty_bl, ty_str, ty_non, nb, Bool.and_eq_true, Bool.or_eq_true, decide_eq_true_eq, beq_iff_eq, Int.cast_ofNat_Int, List.lookup_cons, List.lookup_nil, str_beq, insOf, not_true_eq_false, gok0]
      refine parts_wp h fun p s1 hz h1 => ?_
      try simp only [wp_rep, wp_meth, w_lenSo, w_tupT, w_tupL, List.length_map, wp_ok, wp_bad, wp_bind, wS_ok, wS_bad, wS_cons, wS_nil, wS_pass, wS_break, wS_cont, wS_never, wS_set, wS_expr, wS_ret, wS_retN, wS_if, wS_asg, wS_aug, wS_for, wp_lc, wp_m1, wp_m2, wp_mN, wp_aNil, wp_aCons, wp_mC, wp_var, wp_if2, wp_and2, wp_or2, wp_not, wp_chain2, isBl_bl, andK_p, orK_p, andV_p, orV_p, iteK_p, andK_t, andK_f, orK_t, orK_f, andV_t, andV_f, orV_t, orV_f, iteK_t, iteK_f, wp_tTru2, dTru_bl, dTru_lst, dTru_int, dTru_non, wp_mt, wp_get, wp_isi, wp_fld, wp_sl, wp_oNone, wp_oSome, wp_tBool, wp_tNot, wp_tAnd2, wp_tOr2, wp_tAll, wp_gSlot, wp_gsNil, wp_gsCons, wp_gTup, wp_gSub, wp_iAny, wp_iSeq, wp_iTup, wp_iStr, wp_iRange1, wp_iRange2, wp_iZip, wS_fld, wp_make, seqQ, rtQ, turnQ, List.getElem?_cons_zero, List.getElem?_cons_succ, List.set_cons_zero, List.set_cons_succ, wipeD, if_true, if_false, Bool.false_eq_true, Bool.true_eq_false, reduceIte, w_add, w_iadd, w_iaddS, w_addS, w_addL, w_addT, w_sub, w_mul, w_mod, w_fdiv, w_pow, w_neg, w_lt, w_le, w_gt, w_ge, w_eqI, w_neI, w_eqT, w_neT, w_isN, w_isnotN, w_isB, w_isNB, w_len, w_lenT, w_int, w_intB, w_abs, w_min, w_max, w_tup, w_lst, w_new, w_list, w_listN, w_ix, w_ixT, w_ixD, w_inT1, w_notinT1, w_inT2, w_notinT2, w_inT3, w_notinT3, w_inT4, w_notinT4, w_inT5, w_notinT5, w_inT6, w_notinT6, w_inT7, w_notinT7, w_inT8, w_notinT8, w_sl1, at_0, at_1, at_2, at_3, at_4, at_5, hasTy_list, hasTy_str, isNonD, flatD, sEq_T, List.all_cons, List.all_nil, List.any_cons, List.any_nil, Bool.and_true, Bool.true_and, Bool.or_false, Bool.or_true, Bool.true_or, Bool.false_or, Bool.not_true, Bool.not_false, List.length_cons, List.length_nil, Nat.zero_add, Nat.reduceAdd, line_eq, true_and, and_true, String.reduceBEq, Int.reduceBEq, decide_true, decide_false, Int.reduceLT, Int.reduceLE, beq_self_eq_true, Nat.reduceLeDiff, wS_raise, wp_xinit, wp_sets0, wp_sets1, wp_fs, wp_xf, wp_xis, hdQ, setO, List.map_cons, List.map_nil, tabF_cons, tabF_nil, lview, w_inU1, w_inU2, w_inU3, w_inU4, w_notinU1, w_notinU2, w_notinU3, w_notinU4, wp_lcN, and_self, or_true, true_or, or_false, false_or, not_true_eq_false, not_false_eq_true, ne_eq, reduceCtorEq, List.cons.injEq, Bool.and_false, Bool.false_and, Bool.and_self, Bool.or_self, List.mem_cons, List.not_mem_nil, isSub, ty_tup, ty_lst, ty_int, ty_bl, ty_str, ty_non, nb, Bool.and_eq_true, Bool.or_eq_true, decide_eq_true_eq, beq_iff_eq, Int.cast_ofNat_Int, List.lookup_cons, List.lookup_nil, str_beq, insOf, not_true_eq_false, gok0]
      refine first_wrong_wp ?_
      try simp only [wp_rep, wp_meth, w_lenSo, w_tupT, w_tupL, List.length_map, wp_ok, wp_bad, wp_bind, wS_ok, wS_bad, wS_cons, wS_nil, wS_pass, wS_break, wS_cont, wS_never, wS_set, wS_expr, wS_ret, wS_retN, wS_if, wS_asg, wS_aug, wS_for, wp_lc, wp_m1, wp_m2, wp_mN, wp_aNil, wp_aCons, wp_mC, wp_var, wp_if2, wp_and2, wp_or2, wp_not, wp_chain2, isBl_bl, andK_p, orK_p, andV_p, orV_p, iteK_p, andK_t, andK_f, orK_t, orK_f, andV_t, andV_f, orV_t, orV_f, iteK_t, iteK_f, wp_tTru2, dTru_bl, dTru_lst, dTru_int, dTru_non, wp_mt, wp_get, wp_isi, wp_fld, wp_sl, wp_oNone, wp_oSome, wp_tBool, wp_tNot, wp_tAnd2, wp_tOr2, wp_tAll, wp_gSlot, wp_gsNil, wp_gsCons, wp_gTup, wp_gSub, wp_iAny, wp_iSeq, wp_iTup, wp_iStr, wp_iRange1, wp_iRange2, wp_iZip, wS_fld, wp_make, seqQ, rtQ, turnQ, List.getElem?_cons_zero, List.getElem?_cons_succ, List.set_cons_zero, List.set_cons_succ, wipeD, if_true, if_false, Bool.false_eq_true, Bool.true_eq_false, reduceIte, w_add, w_iadd, w_iaddS, w_addS, w_addL, w_addT, w_sub, w_mul, w_mod, w_fdiv, w_pow, w_neg, w_lt, w_le, w_gt, w_ge, w_eqI, w_neI, w_eqT, w_neT, w_isN, w_isnotN, w_isB, w_isNB, w_len, w_lenT, w_int, w_intB, w_abs, w_min, w_max, w_tup, w_lst, w_new, w_list, w_listN, w_ix, w_ixT, w_ixD, w_inT1, w_notinT1, w_inT2, w_notinT2, w_inT3, w_notinT3, w_inT4, w_notinT4, w_inT5, w_notinT5, w_inT6, w_notinT6, w_inT7, w_notinT7, w_inT8, w_notinT8, w_sl1, at_0, at_1, at_2, at_3, at_4, at_5, hasTy_list, hasTy_str, isNonD, flatD, sEq_T, List.all_cons, List.all_nil, List.any_cons, List.any_nil, Bool.and_true, Bool.true_and, Bool.or_false, Bool.or_true, Bool.true_or, Bool.false_or, Bool.not_true, Bool.not_false, List.length_cons, List.length_nil, Nat.zero_add, Nat.reduceAdd, line_eq, true_and, and_true, String.reduceBEq, Int.reduceBEq, decide_true, decide_false, Int.reduceLT, Int.reduceLE, beq_self_eq_true, Nat.reduceLeDiff, wS_raise, wp_xinit, wp_sets0, wp_sets1, wp_fs, wp_xf, wp_xis, hdQ, setO, List.map_cons, List.map_nil, tabF_cons, tabF_nil, lview, w_inU1, w_inU2, w_inU3, w_inU4, w_notinU1, w_notinU2, w_notinU3, w_notinU4, wp_lcN, and_self, or_true, true_or, or_false, false_or, not_true_eq_false, not_false_eq_true, ne_eq, reduceCtorEq, List.cons.injEq, Bool.and_false, Bool.false_and, Bool.and_self, Bool.or_self, List.mem_cons, List.not_mem_nil, isSub, ty_tup, ty_lst, ty_int, ty_bl, ty_str, ty_non, nb, Bool.and_eq_true, Bool.or_eq_true, decide_eq_true_eq, beq_iff_eq, Int.cast_ofNat_Int, List.lookup_cons, List.lookup_nil, str_beq, insOf, not_true_eq_false, gok0]
      have hs := dk_ok h1
      by_cases hw : wrong p = ""
      · rw [hw]
        try simp only [wp_rep, wp_meth, w_lenSo, w_tupT, w_tupL, List.length_map, wp_ok, wp_bad, wp_bind, wS_ok, wS_bad, wS_cons, wS_nil, wS_pass, wS_break, wS_cont, wS_never, wS_set, wS_expr, wS_ret, wS_retN, wS_if, wS_asg, wS_aug, wS_for, wp_lc, wp_m1, wp_m2, wp_mN, wp_aNil, wp_aCons, wp_mC, wp_var, wp_if2, wp_and2, wp_or2, wp_not, wp_chain2, isBl_bl, andK_p, orK_p, andV_p, orV_p, iteK_p, andK_t, andK_f, orK_t, orK_f, andV_t, andV_f, orV_t, orV_f, iteK_t, iteK_f, wp_tTru2, dTru_bl, dTru_lst, dTru_int, dTru_non, wp_mt, wp_get, wp_isi, wp_fld, wp_sl, wp_oNone, wp_oSome, wp_tBool, wp_tNot, wp_tAnd2, wp_tOr2, wp_tAll, wp_gSlot, wp_gsNil, wp_gsCons, wp_gTup, wp_gSub, wp_iAny, wp_iSeq, wp_iTup, wp_iStr, wp_iRange1, wp_iRange2, wp_iZip, wS_fld, wp_make, seqQ, rtQ, turnQ, List.getElem?_cons_zero, List.getElem?_cons_succ, List.set_cons_zero, List.set_cons_succ, wipeD, if_true, if_false, Bool.false_eq_true, Bool.true_eq_false, reduceIte, w_add, w_iadd, w_iaddS, w_addS, w_addL, w_addT, w_sub, w_mul, w_mod, w_fdiv, w_pow, w_neg, w_lt, w_le, w_gt, w_ge, w_eqI, w_neI, w_eqT, w_neT, w_isN, w_isnotN, w_isB, w_isNB, w_len, w_lenT, w_int, w_intB, w_abs, w_min, w_max, w_tup, w_lst, w_new, w_list, w_listN, w_ix, w_ixT, w_ixD, w_inT1, w_notinT1, w_inT2, w_notinT2, w_inT3, w_notinT3, w_inT4, w_notinT4, w_inT5, w_notinT5, w_inT6, w_notinT6, w_inT7, w_notinT7, w_inT8, w_notinT8, w_sl1, at_0, at_1, at_2, at_3, at_4, at_5, hasTy_list, hasTy_str, isNonD, flatD, sEq_T, List.all_cons, List.all_nil, List.any_cons, List.any_nil, Bool.and_true, Bool.true_and, Bool.or_false, Bool.or_true, Bool.true_or, Bool.false_or, Bool.not_true, Bool.not_false, List.length_cons, List.length_nil, Nat.zero_add, Nat.reduceAdd, line_eq, true_and, and_true, String.reduceBEq, Int.reduceBEq, decide_true, decide_false, Int.reduceLT, Int.reduceLE, beq_self_eq_true, Nat.reduceLeDiff, wS_raise, wp_xinit, wp_sets0, wp_sets1, wp_fs, wp_xf, wp_xis, hdQ, setO, List.map_cons, List.map_nil, tabF_cons, tabF_nil, lview, w_inU1, w_inU2, w_inU3, w_inU4, w_notinU1, w_notinU2, w_notinU3, w_notinU4, wp_lcN, and_self, or_true, true_or, or_false, false_or, not_true_eq_false, not_false_eq_true, ne_eq, reduceCtorEq, List.cons.injEq, Bool.and_false, Bool.false_and, Bool.and_self, Bool.or_self, List.mem_cons, List.not_mem_nil, isSub, ty_tup, ty_lst, ty_int, ty_bl, ty_str, ty_non, nb, Bool.and_eq_true, Bool.or_eq_true, decide_eq_true_eq, beq_iff_eq, Int.cast_ofNat_Int, List.lookup_cons, List.lookup_nil, str_beq, insOf, not_true_eq_false, gok0]
        refine built_wp hw hs ?_
        try simp only [wp_rep, wp_meth, w_lenSo, w_tupT, w_tupL, List.length_map, wp_ok, wp_bad, wp_bind, wS_ok, wS_bad, wS_cons, wS_nil, wS_pass, wS_break, wS_cont, wS_never, wS_set, wS_expr, wS_ret, wS_retN, wS_if, wS_asg, wS_aug, wS_for, wp_lc, wp_m1, wp_m2, wp_mN, wp_aNil, wp_aCons, wp_mC, wp_var, wp_if2, wp_and2, wp_or2, wp_not, wp_chain2, isBl_bl, andK_p, orK_p, andV_p, orV_p, iteK_p, andK_t, andK_f, orK_t, orK_f, andV_t, andV_f, orV_t, orV_f, iteK_t, iteK_f, wp_tTru2, dTru_bl, dTru_lst, dTru_int, dTru_non, wp_mt, wp_get, wp_isi, wp_fld, wp_sl, wp_oNone, wp_oSome, wp_tBool, wp_tNot, wp_tAnd2, wp_tOr2, wp_tAll, wp_gSlot, wp_gsNil, wp_gsCons, wp_gTup, wp_gSub, wp_iAny, wp_iSeq, wp_iTup, wp_iStr, wp_iRange1, wp_iRange2, wp_iZip, wS_fld, wp_make, seqQ, rtQ, turnQ, List.getElem?_cons_zero, List.getElem?_cons_succ, List.set_cons_zero, List.set_cons_succ, wipeD, if_true, if_false, Bool.false_eq_true, Bool.true_eq_false, reduceIte, w_add, w_iadd, w_iaddS, w_addS, w_addL, w_addT, w_sub, w_mul, w_mod, w_fdiv, w_pow, w_neg, w_lt, w_le, w_gt, w_ge, w_eqI, w_neI, w_eqT, w_neT, w_isN, w_isnotN, w_isB, w_isNB, w_len, w_lenT, w_int, w_intB, w_abs, w_min, w_max, w_tup, w_lst, w_new, w_list, w_listN, w_ix, w_ixT, w_ixD, w_inT1, w_notinT1, w_inT2, w_notinT2, w_inT3, w_notinT3, w_inT4, w_notinT4, w_inT5, w_notinT5, w_inT6, w_notinT6, w_inT7, w_notinT7, w_inT8, w_notinT8, w_sl1, at_0, at_1, at_2, at_3, at_4, at_5, hasTy_list, hasTy_str, isNonD, flatD, sEq_T, List.all_cons, List.all_nil, List.any_cons, List.any_nil, Bool.and_true, Bool.true_and, Bool.or_false, Bool.or_true, Bool.true_or, Bool.false_or, Bool.not_true, Bool.not_false, List.length_cons, List.length_nil, Nat.zero_add, Nat.reduceAdd, line_eq, true_and, and_true, String.reduceBEq, Int.reduceBEq, decide_true, decide_false, Int.reduceLT, Int.reduceLE, beq_self_eq_true, Nat.reduceLeDiff, wS_raise, wp_xinit, wp_sets0, wp_sets1, wp_fs, wp_xf, wp_xis, hdQ, setO, List.map_cons, List.map_nil, tabF_cons, tabF_nil, lview, w_inU1, w_inU2, w_inU3, w_inU4, w_notinU1, w_notinU2, w_notinU3, w_notinU4, wp_lcN, and_self, or_true, true_or, or_false, false_or, not_true_eq_false, not_false_eq_true, ne_eq, reduceCtorEq, List.cons.injEq, Bool.and_false, Bool.false_and, Bool.and_self, Bool.or_self, List.mem_cons, List.not_mem_nil, isSub, ty_tup, ty_lst, ty_int, ty_bl, ty_str, ty_non, nb, Bool.and_eq_true, Bool.or_eq_true, decide_eq_true_eq, beq_iff_eq, Int.cast_ofNat_Int, List.lookup_cons, List.lookup_nil, str_beq, insOf, not_true_eq_false, gok0]
        exact ⟨h1, _, _, _, _, rfl, rfl, rfl, rfl⟩
      · have e1 : (wrong p == "") = false := by simpa using hw
        rw [e1]
        try simp only [wp_rep, wp_meth, w_lenSo, w_tupT, w_tupL, List.length_map, wp_ok, wp_bad, wp_bind, wS_ok, wS_bad, wS_cons, wS_nil, wS_pass, wS_break, wS_cont, wS_never, wS_set, wS_expr, wS_ret, wS_retN, wS_if, wS_asg, wS_aug, wS_for, wp_lc, wp_m1, wp_m2, wp_mN, wp_aNil, wp_aCons, wp_mC, wp_var, wp_if2, wp_and2, wp_or2, wp_not, wp_chain2, isBl_bl, andK_p, orK_p, andV_p, orV_p, iteK_p, andK_t, andK_f, orK_t, orK_f, andV_t, andV_f, orV_t, orV_f, iteK_t, iteK_f, wp_tTru2, dTru_bl, dTru_lst, dTru_int, dTru_non, wp_mt, wp_get, wp_isi, wp_fld, wp_sl, wp_oNone, wp_oSome, wp_tBool, wp_tNot, wp_tAnd2, wp_tOr2, wp_tAll, wp_gSlot, wp_gsNil, wp_gsCons, wp_gTup, wp_gSub, wp_iAny, wp_iSeq, wp_iTup, wp_iStr, wp_iRange1, wp_iRange2, wp_iZip, wS_fld, wp_make, seqQ, rtQ, turnQ, List.getElem?_cons_zero, List.getElem?_cons_succ, List.set_cons_zero, List.set_cons_succ, wipeD, if_true, if_false, Bool.false_eq_true, Bool.true_eq_false, reduceIte, w_add, w_iadd, w_iaddS, w_addS, w_addL, w_addT, w_sub, w_mul, w_mod, w_fdiv, w_pow, w_neg, w_lt, w_le, w_gt, w_ge, w_eqI, w_neI, w_eqT, w_neT, w_isN, w_isnotN, w_isB, w_isNB, w_len, w_lenT, w_int, w_intB, w_abs, w_min, w_max, w_tup, w_lst, w_new, w_list, w_listN, w_ix, w_ixT, w_ixD, w_inT1, w_notinT1, w_inT2, w_notinT2, w_inT3, w_notinT3, w_inT4, w_notinT4, w_inT5, w_notinT5, w_inT6, w_notinT6, w_inT7, w_notinT7, w_inT8, w_notinT8, w_sl1, at_0, at_1, at_2, at_3, at_4, at_5, hasTy_list, hasTy_str, isNonD, flatD, sEq_T, List.all_cons, List.all_nil, List.any_cons, List.any_nil, Bool.and_true, Bool.true_and, Bool.or_false, Bool.or_true, Bool.true_or, Bool.false_or, Bool.not_true, Bool.not_false, List.length_cons, List.length_nil, Nat.zero_add, Nat.reduceAdd, line_eq, true_and, and_true, String.reduceBEq, Int.reduceBEq, decide_true, decide_false, Int.reduceLT, Int.reduceLE, beq_self_eq_true, Nat.reduceLeDiff, wS_raise, wp_xinit, wp_sets0, wp_sets1, wp_fs, wp_xf, wp_xis, hdQ, setO, List.map_cons, List.map_nil, tabF_cons, tabF_nil, lview, w_inU1, w_inU2, w_inU3, w_inU4, w_notinU1, w_notinU2, w_notinU3, w_notinU4, wp_lcN, and_self, or_true, true_or, or_false, false_or, not_true_eq_false, not_false_eq_true, ne_eq, reduceCtorEq, List.cons.injEq, Bool.and_false, Bool.false_and, Bool.and_self, Bool.or_self, List.mem_cons, List.not_mem_nil, isSub, ty_tup, ty_lst, ty_int, ty_bl, ty_str, ty_non, nb, Bool.and_eq_true, Bool.or_eq_true, decide_eq_true_eq, beq_iff_eq, Int.cast_ofNat_Int, List.lookup_cons, List.lookup_nil, str_beq, insOf, not_true_eq_false, gok0]
        refine refused_wp hz hw hs ?_
        try simp only [wp_rep, wp_meth, w_lenSo, w_tupT, w_tupL, List.length_map, wp_ok, wp_bad, wp_bind, wS_ok, wS_bad, wS_cons, wS_nil, wS_pass, wS_break, wS_cont, wS_never, wS_set, wS_expr, wS_ret, wS_retN, wS_if, wS_asg, wS_aug, wS_for, wp_lc, wp_m1, wp_m2, wp_mN, wp_aNil, wp_aCons, wp_mC, wp_var, wp_if2, wp_and2, wp_or2, wp_not, wp_chain2, isBl_bl, andK_p, orK_p, andV_p, orV_p, iteK_p, andK_t, andK_f, orK_t, orK_f, andV_t, andV_f, orV_t, orV_f, iteK_t, iteK_f, wp_tTru2, dTru_bl, dTru_lst, dTru_int, dTru_non, wp_mt, wp_get, wp_isi, wp_fld, wp_sl, wp_oNone, wp_oSome, wp_tBool, wp_tNot, wp_tAnd2, wp_tOr2, wp_tAll, wp_gSlot, wp_gsNil, wp_gsCons, wp_gTup, wp_gSub, wp_iAny, wp_iSeq, wp_iTup, wp_iStr, wp_iRange1, wp_iRange2, wp_iZip, wS_fld, wp_make, seqQ, rtQ, turnQ, List.getElem?_cons_zero, List.getElem?_cons_succ, List.set_cons_zero, List.set_cons_succ, wipeD, if_true, if_false, Bool.false_eq_true, Bool.true_eq_false, reduceIte, w_add, w_iadd, w_iaddS, w_addS, w_addL, w_addT, w_sub, w_mul, w_mod, w_fdiv, w_pow, w_neg, w_lt, w_le, w_gt, w_ge, w_eqI, w_neI, w_eqT, w_neT, w_isN, w_isnotN, w_isB, w_isNB, w_len, w_lenT, w_int, w_intB, w_abs, w_min, w_max, w_tup, w_lst, w_new, w_list, w_listN, w_ix, w_ixT, w_ixD, w_inT1, w_notinT1, w_inT2, w_notinT2, w_inT3, w_notinT3, w_inT4, w_notinT4, w_inT5, w_notinT5, w_inT6, w_notinT6, w_inT7, w_notinT7, w_inT8, w_notinT8, w_sl1, at_0, at_1, at_2, at_3, at_4, at_5, hasTy_list, hasTy_str, isNonD, flatD, sEq_T, List.all_cons, List.all_nil, List.any_cons, List.any_nil, Bool.and_true, Bool.true_and, Bool.or_false, Bool.or_true, Bool.true_or, Bool.false_or, Bool.not_true, Bool.not_false, List.length_cons, List.length_nil, Nat.zero_add, Nat.reduceAdd, line_eq, true_and, and_true, String.reduceBEq, Int.reduceBEq, decide_true, decide_false, Int.reduceLT, Int.reduceLE, beq_self_eq_true, Nat.reduceLeDiff, wS_raise, wp_xinit, wp_sets0, wp_sets1, wp_fs, wp_xf, wp_xis, hdQ, setO, List.map_cons, List.map_nil, tabF_cons, tabF_nil, lview, w_inU1, w_inU2, w_inU3, w_inU4, w_notinU1, w_notinU2, w_notinU3, w_notinU4, wp_lcN, and_self, or_true, true_or, or_false, false_or, not_true_eq_false, not_false_eq_true, ne_eq, reduceCtorEq, List.cons.injEq, Bool.and_false, Bool.false_and, Bool.and_self, Bool.or_self, List.mem_cons, List.not_mem_nil, isSub, ty_tup, ty_lst, ty_int, ty_bl, ty_str, ty_non, nb, Bool.and_eq_true, Bool.or_eq_true, decide_eq_true_eq, beq_iff_eq, Int.cast_ofNat_Int, List.lookup_cons, List.lookup_nil, str_beq, insOf, not_true_eq_false, gok0]
        exact ⟨h1, _, _, _, _, rfl, rfl, rfl, rfl⟩
  obtain ⟨d, s, e, rfl⟩ := wp_ex main
  exact ⟨s, e⟩
end
end
end K46
section
open PySem PySem.W PyProof.Rows
set_option maxHeartbeats 0
open_top hd for PySem.Challenge.rw_gluebridge_k46_rows_in_order
theorem PySem.Challenge.cw_gluebridge_k46_rows_in_order_holds : PySem.Challenge.rw_gluebridge_k46_rows_in_order.Holds := by
  refine hd ?_
  k_fill
  refine Pm.walk_pm (n := 63) (k := 7) (f := K46.f_law) rfl (by decide) rfl ⟨rfl, by decide, by decide⟩ (fun w h Y => PySem.W.kIn_of Y) ?F K46.law_plain
  case F =>
    intro w mg fa h KX G hmg
    refine' K46.all_mk KX G hmg ?n_law_deck ?n_law_take ?n_law_word ?n_law_rule ?n_law_spoilt_rule ?n_law_parts ?n_law_rule_in_order ?n_law_first_wrong ?n_is_mark ?n_is_rule ?n_law_refused ?n_law_whole ?n_law_same_rule ?n_law_fields ?n_law_built ?n_plain_row ?n_law_plain ?n_law ?nc_Row ?nc_InvalidRow ?nc_InvalidMap ?nc_ImpossibleLife ?nc_BridgeError ?l_law_deck ?c_law_deck ?k_law_deck ?l_law_take ?c_law_take ?k_law_take ?l_law_word ?c_law_word ?k_law_word ?l_law_rule ?c_law_rule ?k_law_rule ?l_law_spoilt_rule ?c_law_spoilt_rule ?k_law_spoilt_rule ?l_law_parts ?c_law_parts ?k_law_parts ?l_law_rule_in_order ?c_law_rule_in_order ?k_law_rule_in_order ?l_law_first_wrong ?c_law_first_wrong ?k_law_first_wrong ?l_is_mark ?c_is_mark ?k_is_mark ?l_is_rule ?c_is_rule ?k_is_rule ?at_Row_init ?if_Row_init ?l_Row_init ?c_Row_init ?k_Row_init ?l_law_refused ?c_law_refused ?k_law_refused ?l_law_whole ?c_law_whole ?k_law_whole ?l_law_same_rule ?c_law_same_rule ?k_law_same_rule ?l_law_fields ?c_law_fields ?k_law_fields ?l_law_built ?c_law_built ?k_law_built ?l_plain_row ?c_plain_row ?k_plain_row ?l_law_plain ?c_law_plain ?k_law_plain ?l_law ?c_law ?k_law ?at_InvalidRow_init ?l_InvalidRow_init ?c_InvalidRow_init ?k_InvalidRow_init ?tf_InvalidRow_init ?xl_InvalidRow ?sa_InvalidRow ?ga_InvalidRow ?gg_InvalidRow ?ca_InvalidRow ?mr_InvalidRow ?su_InvalidRow ?ty_InvalidRow ?hd_InvalidRow ?kc_InvalidRow ?ty_InvalidMap ?hd_InvalidMap ?su_InvalidMap ?ty_ImpossibleLife ?hd_ImpossibleLife ?su_ImpossibleLife ?ty_BridgeError ?hd_BridgeError ?su_BridgeError ?br_BridgeError ?bg_BridgeError ?bf_BridgeError ?xna_InvalidRow_what ?ne_InvalidRow_ImpossibleLife ?ne_InvalidRow_InvalidMap ?sb_InvalidRow_BridgeError ?sb_InvalidRow_ImpossibleLife ?sb_InvalidRow_InvalidMap ?sb_InvalidRow_InvalidRow ?sb_InvalidRow_ValueError ?xsg ?xst ?pg_Row ?hd_Row ?po_Row ?sa_Row ?mk_Row ?kc_Row ?na_Row_grip ?na_Row_lease ?na_Row_mode ?na_Row_rule ?na_Row_sharing ?bn_ValueError ?bn_abs ?bn_bool ?bn_int ?bn_isinstance ?bn_len ?bn_list ?bn_max ?bn_range ?bn_str ?bn_tuple ?g_EVENTS ?g_GRIPS ?L_GRIPS ?g_LEASES ?L_LEASES ?g_MODES ?L_MODES ?g_MOST_CHANGE ?g_MOST_MARKS ?g_SHARINGS ?L_SHARINGS ?g_STILL ?L_STILL ?L_STILL_0 ?L_STILL_1 ?L_STILL_2 ?L_STILL_3 ?L_STILL_4 ?L_STILL_5
    (case n_law_deck => k_is)
    (case n_law_take => k_is)
    (case n_law_word => k_is)
    (case n_law_rule => k_is)
    (case n_law_spoilt_rule => k_is)
    (case n_law_parts => k_is)
    (case n_law_rule_in_order => k_is)
    (case n_law_first_wrong => k_is)
    (case n_is_mark => k_is)
    (case n_is_rule => k_is)
    (case n_law_refused => k_is)
    (case n_law_whole => k_is)
    (case n_law_same_rule => k_is)
    (case n_law_fields => k_is)
    (case n_law_built => k_is)
    (case n_plain_row => k_is)
    (case n_law_plain => k_is)
    (case n_law => k_is)
    (case nc_Row => k_is)
    (case nc_InvalidRow => k_is)
    (case nc_InvalidMap => k_is)
    (case nc_ImpossibleLife => k_is)
    (case nc_BridgeError => k_is)
    (case l_law_deck => k_is)
    (case c_law_deck => k_is)
    (case k_law_deck => k_is)
    (case l_law_take => k_is)
    (case c_law_take => k_is)
    (case k_law_take => k_is)
    (case l_law_word => k_is)
    (case c_law_word => k_is)
    (case k_law_word => k_is)
    (case l_law_rule => k_is)
    (case c_law_rule => k_is)
    (case k_law_rule => k_is)
    (case l_law_spoilt_rule => k_is)
    (case c_law_spoilt_rule => k_is)
    (case k_law_spoilt_rule => k_is)
    (case l_law_parts => k_is)
    (case c_law_parts => k_is)
    (case k_law_parts => k_is)
    (case l_law_rule_in_order => k_is)
    (case c_law_rule_in_order => k_is)
    (case k_law_rule_in_order => k_is)
    (case l_law_first_wrong => k_is)
    (case c_law_first_wrong => k_is)
    (case k_law_first_wrong => k_is)
    (case l_is_mark => k_is)
    (case c_is_mark => k_is)
    (case k_is_mark => k_is)
    (case l_is_rule => k_is)
    (case c_is_rule => k_is)
    (case k_is_rule => k_is)
    (case at_Row_init => k_is)
    (case if_Row_init => k_is)
    (case l_Row_init => k_is)
    (case c_Row_init => k_is)
    (case k_Row_init => k_is)
    (case l_law_refused => k_is)
    (case c_law_refused => k_is)
    (case k_law_refused => k_is)
    (case l_law_whole => k_is)
    (case c_law_whole => k_is)
    (case k_law_whole => k_is)
    (case l_law_same_rule => k_is)
    (case c_law_same_rule => k_is)
    (case k_law_same_rule => k_is)
    (case l_law_fields => k_is)
    (case c_law_fields => k_is)
    (case k_law_fields => k_is)
    (case l_law_built => k_is)
    (case c_law_built => k_is)
    (case k_law_built => k_is)
    (case l_plain_row => k_is)
    (case c_plain_row => k_is)
    (case k_plain_row => k_is)
    (case l_law_plain => k_is)
    (case c_law_plain => k_is)
    (case k_law_plain => k_is)
    (case l_law => k_is)
    (case c_law => k_is)
    (case k_law => k_is)
    (case at_InvalidRow_init => k_is)
    (case l_InvalidRow_init => k_is)
    (case c_InvalidRow_init => k_is)
    (case k_InvalidRow_init => k_is)
    (case tf_InvalidRow_init => k_is)
    (case xl_InvalidRow => k_is)
    (case sa_InvalidRow => k_is)
    (case ga_InvalidRow => k_is)
    (case gg_InvalidRow => k_is)
    (case ca_InvalidRow => k_is)
    (case mr_InvalidRow => k_is)
    (case su_InvalidRow => k_is)
    (case ty_InvalidRow => k_is)
    (case hd_InvalidRow => k_is)
    (case kc_InvalidRow => k_is)
    (case ty_InvalidMap => k_is)
    (case hd_InvalidMap => k_is)
    (case su_InvalidMap => k_is)
    (case ty_ImpossibleLife => k_is)
    (case hd_ImpossibleLife => k_is)
    (case su_ImpossibleLife => k_is)
    (case ty_BridgeError => k_is)
    (case hd_BridgeError => k_is)
    (case su_BridgeError => k_is)
    (case br_BridgeError => k_is)
    (case bg_BridgeError => k_is)
    (case bf_BridgeError => k_is)
    (case xna_InvalidRow_what => k_is)
    (case ne_InvalidRow_ImpossibleLife => rfl)
    (case ne_InvalidRow_InvalidMap => rfl)
    (case sb_InvalidRow_BridgeError => k_is)
    (case sb_InvalidRow_ImpossibleLife => k_is)
    (case sb_InvalidRow_InvalidMap => k_is)
    (case sb_InvalidRow_InvalidRow => k_is)
    (case sb_InvalidRow_ValueError => k_is)
    (case xsg => k_is)
    (case xst => k_is)
    (case pg_Row => k_is)
    (case hd_Row => k_is)
    (case po_Row => k_is)
    (case sa_Row => k_is)
    (case mk_Row => k_is)
    (case kc_Row => k_is)
    (case na_Row_grip => k_is)
    (case na_Row_lease => k_is)
    (case na_Row_mode => k_is)
    (case na_Row_rule => k_is)
    (case na_Row_sharing => k_is)
    (case bn_ValueError => k_is)
    (case bn_abs => k_is)
    (case bn_bool => k_is)
    (case bn_int => k_is)
    (case bn_isinstance => k_is)
    (case bn_len => k_is)
    (case bn_list => k_is)
    (case bn_max => k_is)
    (case bn_range => k_is)
    (case bn_str => k_is)
    (case bn_tuple => k_is)
    (case g_EVENTS => k_is)
    (case g_GRIPS => k_is)
    (case L_GRIPS => k_is)
    (case g_LEASES => k_is)
    (case L_LEASES => k_is)
    (case g_MODES => k_is)
    (case L_MODES => k_is)
    (case g_MOST_CHANGE => k_is)
    (case g_MOST_MARKS => k_is)
    (case g_SHARINGS => k_is)
    (case L_SHARINGS => k_is)
    (case g_STILL => k_is)
    (case L_STILL => k_is)
    (case L_STILL_0 => k_is)
    (case L_STILL_1 => k_is)
    (case L_STILL_2 => k_is)
    (case L_STILL_3 => k_is)
    (case L_STILL_4 => k_is)
    (case L_STILL_5 => k_is)
end
