import PyProof.Rows.All
import Wide.All
import OpenK.AllK
import Wide.FinOn
import HandS.ForMost
import HandS.Exc
import HandS.Zip
import HandS.TupAny
import HandS.Dict
import HandS.TupMul
import HandS.IsInst
import HandS.Conv
import HandS.Flow
import HandS.RaiseMore
import KE.DataEq
import KE.GoesMore
import KE.GoesEnum
import HandS.Codes
import HandS.Defaults
import OpenK.KMore
import HandS.Ends
import HandS.HeadEnd
import HandS.HeadHook2
import HandS.Head2
import HandS.Style
import HandS.NoneIn
import HandS.Strs
import HandS.Deep
import HandS.Iter
import HandS.More
import HandS.HeadHook4
import PySem.Challenge.RW_ownback_k81_whole_normal_histories_of_tw
set_option Elab.async false
set_option linter.all false
set_option maxRecDepth 100000
set_option maxHeartbeats 4000000
/-! DL1: plain data over the hand layer: tuples by value, lists by number. -/
namespace Dl
open PySem PySem.Spec PyProof.Rows L2

/-! ### data -/
inductive D where
  | non
  | bl (b : Bool)
  | int (i : Int)
  | str (x : Str)
  | tup (ds : List D)
  | rol (ds : List D)
  | fix (ds : List D)
  | ref (n : Nat)
  | ty (n : String)
deriving Inhabited

mutual
def D.beq : D → D → Bool
  | .non, .non => true
  | .bl a, .bl b => a == b
  | .int a, .int b => decide (a = b)
  | .str a, .str b => decide (a = b)
  | .tup a, .tup b => D.beqs a b
  | .rol a, .rol b => D.beqs a b
  | .fix a, .fix b => D.beqs a b
  | .ref a, .ref b => decide (a = b)
  | .ty a, .ty b => decide (a = b)
  | _, _ => false
def D.beqs : List D → List D → Bool
  | [], [] => true
  | a :: r, b :: s => D.beq a b && D.beqs r s
  | _, _ => false
end
mutual
theorem D.beq_eq : ∀ {a b : D}, D.beq a b = true → a = b
  | .non, .non, _ => rfl
  | .bl a, .bl b, h => by simp [D.beq] at h; rw [h]
  | .int a, .int b, h => by simp [D.beq] at h; rw [h]
  | .str a, .str b, h => by simp [D.beq] at h; rw [h]
  | .tup a, .tup b, h => by rw [D.beqs_eq (a := a) (b := b) (by simpa [D.beq] using h)]
  | .rol a, .rol b, h => by rw [D.beqs_eq (a := a) (b := b) (by simpa [D.beq] using h)]
  | .fix a, .fix b, h => by rw [D.beqs_eq (a := a) (b := b) (by simpa [D.beq] using h)]
  | .ref a, .ref b, h => by simp [D.beq] at h; rw [h]
  | .ty a, .ty b, h => by simp [D.beq] at h; rw [h]
  | .non, .fix _, h => by simp [D.beq] at h
  | .fix _, .non, h => by simp [D.beq] at h
  | .bl _, .fix _, h => by simp [D.beq] at h
  | .fix _, .bl _, h => by simp [D.beq] at h
  | .int _, .fix _, h => by simp [D.beq] at h
  | .fix _, .int _, h => by simp [D.beq] at h
  | .str _, .fix _, h => by simp [D.beq] at h
  | .fix _, .str _, h => by simp [D.beq] at h
  | .tup _, .fix _, h => by simp [D.beq] at h
  | .fix _, .tup _, h => by simp [D.beq] at h
  | .rol _, .fix _, h => by simp [D.beq] at h
  | .fix _, .rol _, h => by simp [D.beq] at h
  | .ref _, .fix _, h => by simp [D.beq] at h
  | .fix _, .ref _, h => by simp [D.beq] at h
  | .ty _, .fix _, h => by simp [D.beq] at h
  | .fix _, .ty _, h => by simp [D.beq] at h
  | .non, .bl _, h => by simp [D.beq] at h
  | .non, .int _, h => by simp [D.beq] at h
  | .non, .str _, h => by simp [D.beq] at h
  | .non, .tup _, h => by simp [D.beq] at h
  | .non, .rol _, h => by simp [D.beq] at h
  | .non, .ref _, h => by simp [D.beq] at h
  | .bl _, .non, h => by simp [D.beq] at h
  | .bl _, .int _, h => by simp [D.beq] at h
  | .bl _, .str _, h => by simp [D.beq] at h
  | .bl _, .tup _, h => by simp [D.beq] at h
  | .bl _, .rol _, h => by simp [D.beq] at h
  | .bl _, .ref _, h => by simp [D.beq] at h
  | .int _, .non, h => by simp [D.beq] at h
  | .int _, .bl _, h => by simp [D.beq] at h
  | .int _, .str _, h => by simp [D.beq] at h
  | .int _, .tup _, h => by simp [D.beq] at h
  | .int _, .rol _, h => by simp [D.beq] at h
  | .int _, .ref _, h => by simp [D.beq] at h
  | .str _, .non, h => by simp [D.beq] at h
  | .str _, .bl _, h => by simp [D.beq] at h
  | .str _, .int _, h => by simp [D.beq] at h
  | .str _, .tup _, h => by simp [D.beq] at h
  | .str _, .rol _, h => by simp [D.beq] at h
  | .str _, .ref _, h => by simp [D.beq] at h
  | .tup _, .non, h => by simp [D.beq] at h
  | .tup _, .bl _, h => by simp [D.beq] at h
  | .tup _, .int _, h => by simp [D.beq] at h
  | .tup _, .str _, h => by simp [D.beq] at h
  | .tup _, .rol _, h => by simp [D.beq] at h
  | .tup _, .ref _, h => by simp [D.beq] at h
  | .rol _, .non, h => by simp [D.beq] at h
  | .rol _, .bl _, h => by simp [D.beq] at h
  | .rol _, .int _, h => by simp [D.beq] at h
  | .rol _, .str _, h => by simp [D.beq] at h
  | .rol _, .tup _, h => by simp [D.beq] at h
  | .rol _, .ref _, h => by simp [D.beq] at h
  | .ref _, .non, h => by simp [D.beq] at h
  | .ref _, .bl _, h => by simp [D.beq] at h
  | .ref _, .int _, h => by simp [D.beq] at h
  | .ref _, .str _, h => by simp [D.beq] at h
  | .ref _, .tup _, h => by simp [D.beq] at h
  | .ref _, .rol _, h => by simp [D.beq] at h
  | .non, .ty _, h => by simp [D.beq] at h
  | .ty _, .non, h => by simp [D.beq] at h
  | .bl _, .ty _, h => by simp [D.beq] at h
  | .ty _, .bl _, h => by simp [D.beq] at h
  | .int _, .ty _, h => by simp [D.beq] at h
  | .ty _, .int _, h => by simp [D.beq] at h
  | .str _, .ty _, h => by simp [D.beq] at h
  | .ty _, .str _, h => by simp [D.beq] at h
  | .tup _, .ty _, h => by simp [D.beq] at h
  | .ty _, .tup _, h => by simp [D.beq] at h
  | .rol _, .ty _, h => by simp [D.beq] at h
  | .ty _, .rol _, h => by simp [D.beq] at h
  | .ref _, .ty _, h => by simp [D.beq] at h
  | .ty _, .ref _, h => by simp [D.beq] at h
theorem D.beqs_eq : ∀ {a b : List D}, D.beqs a b = true → a = b
  | [], [], _ => rfl
  | a :: r, b :: s, h => by
    simp only [D.beqs, Bool.and_eq_true] at h
    rw [D.beq_eq h.1, D.beqs_eq h.2]
  | [], _ :: _, h => by simp [D.beqs] at h
  | _ :: _, [], h => by simp [D.beqs] at h
end
mutual
theorem D.beq_refl : ∀ a : D, D.beq a a = true
  | .non => rfl
  | .bl a => by simp [D.beq]
  | .int a => by simp [D.beq]
  | .str a => by simp [D.beq]
  | .tup a => by simp only [D.beq]; exact D.beqs_refl a
  | .rol a => by simp only [D.beq]; exact D.beqs_refl a
  | .fix a => by simp only [D.beq]; exact D.beqs_refl a
  | .ref a => by simp [D.beq]
  | .ty a => by simp [D.beq]
theorem D.beqs_refl : ∀ a : List D, D.beqs a a = true
  | [] => rfl
  | a :: r => by simp only [D.beqs, Bool.and_eq_true]; exact ⟨D.beq_refl a, D.beqs_refl r⟩
end
mutual
/-- all lists that are named lie below -/
def D.blw (L : Nat) : D → Bool
  | .tup ds => D.blws L ds
  | .rol ds => D.blws L ds
  | .fix ds => D.blws L ds
  | .ref n => decide (n < L)
  | _ => true
def D.blws (L : Nat) : List D → Bool
  | [] => true
  | d :: r => D.blw L d && D.blws L r
end
mutual
/-- no list is named -/
def D.pure : D → Bool
  | .tup ds => D.pures ds
  | .rol ds => D.pures ds
  | .fix ds => D.pures ds
  | .ref _ => false
  | _ => true
def D.pures : List D → Bool
  | [] => true
  | d :: r => D.pure d && D.pures r
end
mutual
theorem D.blw_of_pure {L : Nat} : ∀ {d : D}, d.pure = true → d.blw L = true
  | .non, _ => rfl
  | .bl _, _ => rfl
  | .int _, _ => rfl
  | .str _, _ => rfl
  | .tup ds, h => by
    simp only [D.blw]
    exact D.blws_of_pures (ds := ds) (by simpa [D.pure] using h)
  | .rol ds, h => by
    simp only [D.blw]
    exact D.blws_of_pures (ds := ds) (by simpa [D.pure] using h)
  | .fix ds, h => by
    simp only [D.blw]
    exact D.blws_of_pures (ds := ds) (by simpa [D.pure] using h)
  | .ref n, h => by simp [D.pure] at h
  | .ty _, _ => rfl
theorem D.blws_of_pures {L : Nat} : ∀ {ds : List D}, D.pures ds = true → D.blws L ds = true
  | [], _ => rfl
  | d :: r, h => by
    simp only [D.pures, Bool.and_eq_true] at h
    simp only [D.blws, Bool.and_eq_true]
    exact ⟨D.blw_of_pure h.1, D.blws_of_pures h.2⟩
end

/-- what stands under a number: a list, a dict (t: its keys are tuples) -/
inductive O where
  | lst (ds : List D)
  | dct (t : Bool) (kvs : List (D × D))
  | fz (t : Bool) (kvs : List (D × D))
deriving Inhabited
def O.blw (L : Nat) : O → Bool
  | .lst ds => D.blws L ds
  | .dct _ kvs => D.blws L (kvs.map (·.2))
  | .fz _ kvs => D.blws L (kvs.map (·.2))
abbrev M := List O

structure Exn where
  cls : Addr
  fs : List (Str × D)
inductive Res (α : Type) where
  | ok (a : α) (m : M)
  | exc (e : Exn) (m : M)
  | bad
def Res.bind {α γ : Type} (r : Res α) (k : α → M → Res γ) : Res γ := match r with
  | .ok a m => k a m
  | .exc e m => .exc e m
  | .bad => .bad
/-- not by unfolding, for the kernel's sake -/
theorem nrfl {α : Sort _} {a b : α} (h : a = b) : a = b := h
/-- a great number, not unfolded -/
noncomputable def BIG (k : Nat) : Nat := Classical.choose (⟨2 ^ k, rfl⟩ : ∃ n, n = 2 ^ k)
theorem BIG_eq (k : Nat) : BIG k = 2 ^ k := Classical.choose_spec (⟨2 ^ k, rfl⟩ : ∃ n, n = 2 ^ k)
@[simp] theorem bind_ok {α γ : Type} (a : α) (m : M) (k : α → M → Res γ) : (Res.ok a m).bind k = k a m := nrfl rfl
@[simp] theorem bind_exc {α γ : Type} (e : Exn) (m : M) (k : α → M → Res γ) : (Res.exc e m : Res α).bind k = .exc e m := nrfl rfl
@[simp] theorem bind_bad {α γ : Type} (k : α → M → Res γ) : (Res.bad : Res α).bind k = .bad := nrfl rfl

/-- greatest length that is looked at -/
def LIM : Nat := 100000
theorem lim_le {n : Nat} (h : n ≤ LIM) : n ≤ sizeLine := Nat.le_trans h (by decide)
theorem lim_lt {n : Nat} (h : n < LIM) : n < sizeLine := Nat.lt_of_lt_of_le h (by decide)

/-! ### what stands for what -/
/-- a list that nobody changes: the script -/
def SqF (K : PySem.W.Frag) (H : Hp) (a : Addr) (xs : List V) : Prop :=
  (∃ o, H a = some (.frz o (.lst xs))) ∨
    ∃ (o : Obj) (its : Array Value) (n : Nat), K.lookup a = some o ∧ o.cls = .type "list" ∧ o.dict = none ∧ o.data = .seq its n ∧ its.size ≤ sizeLine ∧ Vals xs its.toList
theorem SqF.sql {K : PySem.W.Frag} {H : Hp} {a : Addr} {xs : List V} (h : SqF K H a xs) : SqL K H a xs := by
  rcases h with ⟨o, h⟩ | h
  · exact .inl (.inr ⟨o, h⟩)
  · exact .inr h
/-- a tuple of the heap whose object is known to have no dict -/
def FixT (H : Hp) (a : Addr) (xs : List V) : Prop := ∃ o, H a = some (.frz o (.tup xs)) ∧ o.dict = none
theorem FixT.sqt {K : PySem.W.Frag} {H : Hp} {a : Addr} {xs : List V} (h : FixT H a xs) : SqT K H a xs := by
  obtain ⟨o, h, _⟩ := h
  exact .inl (.inr ⟨o, h⟩)
mutual
inductive Rp (K : PySem.W.Frag) (β : List Addr) (H : Hp) : V → D → Prop
  | non : Rp K β H .non .non
  | bl (b : Bool) : Rp K β H (.bl b) (.bl b)
  | int (i : Int) : Rp K β H (.int i) (.int i)
  | str (x : Str) : Rp K β H (.str x) (.str x)
  | tup {a : Addr} {xs : List V} {ds : List D} : H a = some (.tup xs) → RpA K β H xs ds → Rp K β H (.ref a) (.tup ds)
  | rol {a : Addr} {xs : List V} {ds : List D} : SqF K H a xs → RpA K β H xs ds → Rp K β H (.ref a) (.rol ds)
  | fix {a : Addr} {xs : List V} {ds : List D} : FixT H a xs → RpA K β H xs ds → Rp K β H (.ref a) (.fix ds)
  | ref {n : Nat} {a : Addr} : β[n]? = some a → Rp K β H (.ref a) (.ref n)
  | ty (n : String) : Rp K β H (.ty n) (.ty n)
inductive RpA (K : PySem.W.Frag) (β : List Addr) (H : Hp) : List V → List D → Prop
  | nil : RpA K β H [] []
  | cons {v : V} {vs : List V} {d : D} {ds : List D} : Rp K β H v d → RpA K β H vs ds → RpA K β H (v :: vs) (d :: ds)
end

structure Ext (β β' : List Addr) (H H' : Hp) : Prop where
  pre : ∃ γ, β' = β ++ γ
  tup : ∀ a xs, H a = some (.tup xs) → H' a = some (.tup xs)
  frz : ∀ a o u, H a = some (.frz o u) → H' a = some (.frz o u)
  keep : ∀ a o, H a = some o → a ∉ β → H' a = some o
  new : ∀ a, a ∈ β' → a ∉ β → H a = none

/-- a key of a dict -/
def keyD : D → Option Key
  | .int i => some (.inl i)
  | .str x => some (.inr x)
  | _ => none
def keysD : List D → Option (List Key)
  | [] => some []
  | d :: r => match keyD d, keysD r with
    | some k, some ks => some (k :: ks)
    | _, _ => none
def keyT : D → Option (List Key)
  | .tup ds => keysD ds
  | _ => none
inductive KvR (K : PySem.W.Frag) (β : List Addr) (H : Hp) {κ : Type} (f : D → Option κ) : List (κ × V) → List (D × D) → Prop
  | nil : KvR K β H f [] []
  | cons {k : κ} {v : V} {d e : D} {r : List (κ × V)} {s : List (D × D)} : f d = some k → Rp K β H v e → KvR K β H f r s → KvR K β H f ((k, v) :: r) ((d, e) :: s)
def OOk (K : PySem.W.Frag) (β : List Addr) (H : Hp) (a : Addr) : O → Prop
  | .lst ds => ∃ xs, H a = some (.lst xs) ∧ RpA K β H xs ds
  | .dct false kvs => ∃ xs, H a = some (.dK xs) ∧ KvR K β H keyD xs kvs
  | .dct true kvs => ∃ xs, H a = some (.dT xs) ∧ KvR K β H keyT xs kvs
  | .fz false kvs => ∃ o xs, H a = some (.frz o (.dK xs)) ∧ KvR K β H keyD xs kvs
  | .fz true kvs => ∃ o xs, H a = some (.frz o (.dT xs)) ∧ KvR K β H keyT xs kvs
structure MOk (K : PySem.W.Frag) (β : List Addr) (H : Hp) (m : M) : Prop where
  len : β.length = m.length
  nd : β.Nodup
  at' : ∀ (n : Nat) (o : O) (a : Addr), m[n]? = some o → β[n]? = some a → OOk K β H a o

section
variable {K : PySem.W.Frag} {β β' β'' : List Addr} {H H' H'' : Hp} {m m' : M}
theorem Ext.refl : Ext β β H H := ⟨⟨[], by simp⟩, fun _ _ h => h, fun _ _ _ h => h, fun _ _ h _ => h, fun a h n => absurd h n⟩
theorem Ext.trans (a : Ext β β' H H') (b : Ext β' β'' H' H'') : Ext β β'' H H'' := by
  obtain ⟨γ, rfl⟩ := a.pre
  obtain ⟨δ, rfl⟩ := b.pre
  refine ⟨⟨γ ++ δ, by rw [List.append_assoc]⟩, fun c xs h => b.tup c xs (a.tup c xs h), fun c o u h => b.frz c o u (a.frz c o u h), fun c o h hn => b.keep c o (a.keep c o h hn) fun hc => ?_, fun c hc hn => ?_⟩
  · rw [a.new c hc hn] at h
    cases h
  · by_cases h1 : c ∈ β ++ γ
    · exact a.new c h1 hn
    · have h2 := b.new c hc h1
      cases q : H c with
      | none => rfl
      | some o =>
        rw [a.keep c o q hn] at h2
        cases h2
/-- what data leans on -/
structure Ext0 (β β' : List Addr) (H H' : Hp) : Prop where
  ix : ∀ (n : Nat) (a : Addr), β[n]? = some a → β'[n]? = some a
  tup : ∀ a xs, H a = some (.tup xs) → H' a = some (.tup xs)
  frz : ∀ a o u, H a = some (.frz o u) → H' a = some (.frz o u)
theorem Ext.weak (e : Ext β β' H H') : Ext0 β β' H H' := ⟨fun n a h => by
  obtain ⟨γ, rfl⟩ := e.pre
  obtain ⟨h1, _⟩ := List.getElem?_eq_some_iff.mp h
  rw [List.getElem?_append_left h1]
  exact h, e.tup, e.frz⟩
theorem Ext0.sqt (e : Ext0 β β' H H') {a : Addr} {xs : List V} (h : SqT K H a xs) : SqT K H' a xs := by
  rcases h with (h | ⟨o, h⟩) | h
  · exact .inl (.inl (e.tup a xs h))
  · exact .inl (.inr ⟨o, e.frz a o _ h⟩)
  · exact .inr h
theorem Ext0.sqf (e : Ext0 β β' H H') {a : Addr} {xs : List V} (h : SqF K H a xs) : SqF K H' a xs := by
  rcases h with ⟨o, h⟩ | h
  · exact .inl ⟨o, e.frz a o _ h⟩
  · exact .inr h
theorem Ext0.fixt (e : Ext0 β β' H H') {a : Addr} {xs : List V} (h : FixT H a xs) : FixT H' a xs := by
  obtain ⟨o, h, hd⟩ := h
  exact ⟨o, e.frz a o _ h, hd⟩
mutual
theorem Rp.mono (e : Ext0 β β' H H') : ∀ {v : V} {d : D}, Rp K β H v d → Rp K β' H' v d
  | _, _, .non => .non
  | _, _, .bl b => .bl b
  | _, _, .int i => .int i
  | _, _, .str x => .str x
  | _, _, .tup h r => .tup (e.tup _ _ h) (RpA.mono e r)
  | _, _, .rol h r => .rol (e.sqf h) (RpA.mono e r)
  | _, _, .fix h r => .fix (e.fixt h) (RpA.mono e r)
  | _, _, .ref h => .ref (e.ix _ _ h)
  | _, _, .ty n => .ty n
theorem RpA.mono (e : Ext0 β β' H H') : ∀ {vs : List V} {ds : List D}, RpA K β H vs ds → RpA K β' H' vs ds
  | _, _, .nil => .nil
  | _, _, .cons h r => .cons (Rp.mono e h) (RpA.mono e r)
end
theorem Rp.ext (e : Ext β β' H H') {v : V} {d : D} (h : Rp K β H v d) : Rp K β' H' v d := h.mono e.weak
theorem RpA.ext (e : Ext β β' H H') {vs : List V} {ds : List D} (h : RpA K β H vs ds) : RpA K β' H' vs ds := h.mono e.weak
theorem Ext.ix (e : Ext β β' H H') {n : Nat} {a : Addr} (h : β[n]? = some a) : β'[n]? = some a := e.weak.ix n a h
theorem RpA.length : ∀ {vs : List V} {ds : List D}, RpA K β H vs ds → vs.length = ds.length
  | _, _, .nil => rfl
  | _, _, .cons _ r => by rw [List.length_cons, List.length_cons, RpA.length r]
theorem RpA.get : ∀ {vs : List V} {ds : List D} {i : Nat} {d : D}, RpA K β H vs ds → ds[i]? = some d → ∃ v, vs[i]? = some v ∧ Rp K β H v d
  | _, _, _, _, .nil, h => by simp at h
  | _, _, 0, _, .cons r _, h => by simp at h; subst h; exact ⟨_, rfl, r⟩
  | _, _, i + 1, d, .cons _ t, h => by
    obtain ⟨v, h1, h2⟩ := RpA.get (i := i) (d := d) t (by simpa using h)
    exact ⟨v, by simpa using h1, h2⟩
theorem RpA.get' : ∀ {vs : List V} {ds : List D} {i : Nat} {v : V}, RpA K β H vs ds → vs[i]? = some v → ∃ d, ds[i]? = some d ∧ Rp K β H v d
  | _, _, _, _, .nil, h => by simp at h
  | _, _, 0, _, .cons r _, h => by simp at h; subst h; exact ⟨_, rfl, r⟩
  | _, _, i + 1, d, .cons _ t, h => by
    obtain ⟨v, h1, h2⟩ := RpA.get' (i := i) (v := d) t (by simpa using h)
    exact ⟨v, by simpa using h1, h2⟩
theorem RpA.append : ∀ {vs ws : List V} {ds es : List D}, RpA K β H vs ds → RpA K β H ws es → RpA K β H (vs ++ ws) (ds ++ es)
  | _, _, _, _, .nil, s => s
  | _, _, _, _, .cons r t, s => .cons r (RpA.append t s)
theorem RpA.take : ∀ {vs : List V} {ds : List D} (n : Nat), RpA K β H vs ds → RpA K β H (vs.take n) (ds.take n)
  | _, _, 0, _ => .nil
  | _, _, _ + 1, .nil => .nil
  | _, _, n + 1, .cons r t => .cons r (RpA.take n t)
theorem RpA.drop : ∀ {vs : List V} {ds : List D} (n : Nat), RpA K β H vs ds → RpA K β H (vs.drop n) (ds.drop n)
  | _, _, 0, r => r
  | _, _, _ + 1, .nil => .nil
  | _, _, n + 1, .cons _ t => RpA.drop n t
theorem RpA.set {v : V} {d : D} (r : Rp K β H v d) : ∀ {vs : List V} {ds : List D} (i : Nat), RpA K β H vs ds → RpA K β H (vs.set i v) (ds.set i d)
  | _, _, _, .nil => .nil
  | _, _, 0, .cons _ t => .cons r t
  | _, _, i + 1, .cons q t => .cons q (RpA.set r i t)
theorem RpA.erase : ∀ {vs : List V} {ds : List D} (i : Nat), RpA K β H vs ds → RpA K β H (vs.eraseIdx i) (ds.eraseIdx i)
  | _, _, _, .nil => .nil
  | _, _, 0, .cons _ t => t
  | _, _, i + 1, .cons q t => .cons q (RpA.erase i t)

theorem MOk.addr (ok : MOk K β H m) {n : Nat} {o : O} (h : m[n]? = some o) : ∃ a, β[n]? = some a ∧ OOk K β H a o := by
  obtain ⟨h1, _⟩ := List.getElem?_eq_some_iff.mp h
  have h2 : n < β.length := by rw [ok.len]; exact h1
  exact ⟨β[n], List.getElem?_eq_getElem h2, ok.at' n o _ h (List.getElem?_eq_getElem h2)⟩
theorem MOk.obj (ok : MOk K β H m) {n : Nat} {a : Addr} (h : β[n]? = some a) : ∃ o, m[n]? = some o ∧ OOk K β H a o := by
  obtain ⟨h1, _⟩ := List.getElem?_eq_some_iff.mp h
  have h2 : n < m.length := by rw [← ok.len]; exact h1
  exact ⟨m[n], List.getElem?_eq_getElem h2, ok.at' n _ a (List.getElem?_eq_getElem h2) h⟩
theorem KvR.mono {κ : Type} {f : D → Option κ} (e : Ext0 β β' H H') {r : List (κ × V)} {s : List (D × D)} (h : KvR K β H f r s) : KvR K β' H' f r s := by
  induction h with
  | nil => exact .nil
  | cons h1 h2 _ ih => exact .cons h1 (h2.mono e) ih
/-- what may be changed -/
def Mutb (u : HO) : Prop := (∀ xs, u ≠ .tup xs) ∧ ∀ o v, u ≠ .frz o v
theorem mutb_lst {xs : List V} : Mutb (.lst xs) := ⟨fun _ => nofun, fun _ _ => nofun⟩
theorem mutb_dK {xs : List (Key × V)} : Mutb (.dK xs) := ⟨fun _ => nofun, fun _ _ => nofun⟩
theorem mutb_dT {xs : List (List Key × V)} : Mutb (.dT xs) := ⟨fun _ => nofun, fun _ _ => nofun⟩
theorem OOk.there {a : Addr} {o : O} (h : OOk K β H a o) : ∃ u, H a = some u := by
  cases o with
  | lst ds =>
    obtain ⟨xs, h3, _⟩ := h
    exact ⟨_, h3⟩
  | dct t kvs =>
    cases t with
    | false =>
      obtain ⟨xs, h3, _⟩ := h
      exact ⟨_, h3⟩
    | true =>
      obtain ⟨xs, h3, _⟩ := h
      exact ⟨_, h3⟩
  | fz t kvs =>
    cases t with
    | false =>
      obtain ⟨o, xs, h3, _⟩ := h
      exact ⟨_, h3⟩
    | true =>
      obtain ⟨o, xs, h3, _⟩ := h
      exact ⟨_, h3⟩
theorem MOk.there (ok : MOk K β H m) {a : Addr} (h : a ∈ β) : ∃ u, H a = some u := by
  obtain ⟨n, hn⟩ := List.mem_iff_getElem?.mp h
  obtain ⟨o, _, h2⟩ := ok.obj hn
  exact h2.there
theorem MOk.fresh (ok : MOk K β H m) {p : Addr} (h : H p = none) : p ∉ β := fun hp => by
  obtain ⟨u, h2⟩ := ok.there hp
  rw [h] at h2
  cases h2
theorem Ext.upd_new {p : Addr} {o : HO} (hp : H p = none) : Ext β β H (upd H p o) :=
  ⟨⟨[], by simp⟩, fun a xs h => by rw [upd_ne (ne_of_none h hp)]; exact h, fun a u x h => by rw [upd_ne (ne_of_none h hp)]; exact h,
    fun a u h _ => by rw [upd_ne (ne_of_none h hp)]; exact h, fun a h n => absurd h n⟩
theorem OOk.mono {a : Addr} {u : O} (e : Ext0 β β' H H') (hl : ∀ u, H a = some u → H' a = some u) (h : OOk K β H a u) : OOk K β' H' a u := by
  cases u with
  | lst ds =>
    obtain ⟨xs, h1, h2⟩ := h
    exact ⟨xs, hl _ h1, h2.mono e⟩
  | dct t kvs =>
    cases t with
    | false =>
      obtain ⟨xs, h1, h2⟩ := h
      exact ⟨xs, hl _ h1, h2.mono e⟩
    | true =>
      obtain ⟨xs, h1, h2⟩ := h
      exact ⟨xs, hl _ h1, h2.mono e⟩
  | fz t kvs =>
    cases t with
    | false =>
      obtain ⟨o, xs, h1, h2⟩ := h
      exact ⟨o, xs, hl _ h1, h2.mono e⟩
    | true =>
      obtain ⟨o, xs, h1, h2⟩ := h
      exact ⟨o, xs, hl _ h1, h2.mono e⟩
theorem OOk.upd_new {p a : Addr} {o : HO} {u : O} (hp : H p = none) (h : OOk K β H a u) : OOk K β (upd H p o) a u :=
  h.mono (Ext.upd_new hp).weak fun v hv => by rw [upd_ne (ne_of_none hv hp)]; exact hv
theorem MOk.upd_new {p : Addr} {o : HO} (ok : MOk K β H m) (hp : H p = none) : MOk K β (upd H p o) m :=
  ⟨ok.len, ok.nd, fun n u a h1 h2 => (ok.at' n u a h1 h2).upd_new hp⟩
/-- a list that is there is named -/
theorem Ext.adopt {p : Addr} (hp : H p = none) : Ext β (β ++ [p]) H H :=
  ⟨⟨[p], rfl⟩, fun _ _ h => h, fun _ _ _ h => h, fun _ _ h _ => h, fun a h n => by
    rcases List.mem_append.mp h with h | h
    · exact absurd h n
    · rw [List.mem_singleton.mp h]; exact hp⟩
theorem Ext.adopt' {p : Addr} (hp : H p = none) (e : Ext β β' H H') : Ext β (β' ++ [p]) H H' := by
  obtain ⟨γ, rfl⟩ := e.pre
  refine ⟨⟨γ ++ [p], by rw [List.append_assoc]⟩, e.tup, e.frz, e.keep, fun a h n => ?_⟩
  rcases List.mem_append.mp h with h | h
  · exact e.new a h n
  · rw [List.mem_singleton.mp h]; exact hp
theorem Ext0.more (γ : List Addr) : Ext0 β (β ++ γ) H H := ⟨fun n a h => by
  obtain ⟨h1, _⟩ := List.getElem?_eq_some_iff.mp h
  rw [List.getElem?_append_left h1]
  exact h, fun _ _ h => h, fun _ _ _ h => h⟩
theorem MOk.adoptO {p : Addr} {o : O} (ok : MOk K β H m) (hn : p ∉ β) (r : OOk K (β ++ [p]) H p o) : MOk K (β ++ [p]) H (m ++ [o]) := by
  refine ⟨by rw [List.length_append, List.length_append, ok.len]; rfl, ?_, fun n o a h1 h2 => ?_⟩
  · rw [List.nodup_append]
    refine ⟨ok.nd, by simp, fun a ha b hb => ?_⟩
    rw [List.mem_singleton.mp hb]
    rintro rfl
    exact hn ha
  · by_cases hl : n < m.length
    · rw [List.getElem?_append_left hl] at h1
      rw [List.getElem?_append_left (by rw [ok.len]; exact hl)] at h2
      exact (ok.at' n o a h1 h2).mono (Ext0.more _) fun _ h => h
    · rw [List.getElem?_append_right (by omega)] at h1
      rw [List.getElem?_append_right (by rw [ok.len]; omega)] at h2
      rw [ok.len] at h2
      cases hk : n - m.length with
      | zero =>
        rw [hk] at h1 h2
        simp at h1 h2
        subst h1 h2
        exact r
      | succ j =>
        rw [hk] at h1
        simp at h1
theorem MOk.adopt {p : Addr} {xs : List V} {ds : List D} (ok : MOk K β H m) (hn : p ∉ β) (hp : H p = some (.lst xs)) (r : RpA K β H xs ds) : MOk K (β ++ [p]) H (m ++ [.lst ds]) :=
  ok.adoptO hn ⟨xs, hp, r.mono (Ext0.more _)⟩
/-- the new list of a rule -/
theorem MOk.lay {p : Addr} {xs : List V} {ds : List D} (ok : MOk K β H m) (hp : H p = none) (r : RpA K β H xs ds) : MOk K (β ++ [p]) (upd H p (.lst xs)) (m ++ [.lst ds]) :=
  (ok.upd_new hp).adopt (ok.fresh hp) upd_same (r.ext (Ext.upd_new hp))
theorem Ext.lay {p : Addr} {o : HO} (hp : H p = none) : Ext β (β ++ [p]) H (upd H p o) := Ext.adopt' hp (Ext.upd_new hp)
theorem Rp.last {p : Addr} (ok : MOk K β H m) : Rp K (β ++ [p]) H' (.ref p) (.ref m.length) := .ref (by rw [← ok.len]; simp)
/-- an object written -/
theorem Ext.writeO {n : Nat} {p : Addr} {u v : HO} (hp : H p = some u) (hm : Mutb u) (hb : β[n]? = some p) : Ext β β H (upd H p v) :=
  ⟨⟨[], by simp⟩, fun a zs h => by rw [upd_ne (ne_of h hp (Ne.symm (hm.1 zs)))]; exact h, fun a o w h => by rw [upd_ne (ne_of h hp (Ne.symm (hm.2 o w)))]; exact h,
    fun a o h hn => by rw [upd_ne (fun q => hn (by rw [q]; exact List.mem_of_getElem? hb))]; exact h, fun a h n => absurd h n⟩
theorem MOk.writeO {n : Nat} {p : Addr} {u v : HO} {o : O} (ok : MOk K β H m) (hp : H p = some u) (hm : Mutb u) (hb : β[n]? = some p) (r : OOk K β (upd H p v) p o) : MOk K β (upd H p v) (m.set n o) := by
  have e : Ext β β H (upd H p v) := Ext.writeO hp hm hb
  refine ⟨by rw [List.length_set]; exact ok.len, ok.nd, fun k o' a h1 h2 => ?_⟩
  by_cases hk : n = k
  · subst hk
    rw [hb] at h2
    cases h2
    have hl : n < m.length := by
      obtain ⟨h, _⟩ := List.getElem?_eq_some_iff.mp hb
      rw [← ok.len]; exact h
    rw [List.getElem?_set_self hl] at h1
    cases h1
    exact r
  · rw [List.getElem?_set_ne hk] at h1
    refine (ok.at' k o' a h1 h2).mono e.weak fun zs h => ?_
    rw [upd_ne (fun q => hk ?_)]
    · exact h
    · subst q
      obtain ⟨l1, e1⟩ := List.getElem?_eq_some_iff.mp hb
      obtain ⟨l2, e2⟩ := List.getElem?_eq_some_iff.mp h2
      exact (List.getElem_inj ok.nd).mp (e1.trans e2.symm)
/-- a list written -/
theorem Ext.write {n : Nat} {p : Addr} {xs ys : List V} (hp : H p = some (.lst xs)) (hb : β[n]? = some p) : Ext β β H (upd H p (.lst ys)) := Ext.writeO hp mutb_lst hb
theorem MOk.write {n : Nat} {p : Addr} {xs ys : List V} {ds : List D} (ok : MOk K β H m) (hp : H p = some (.lst xs)) (hb : β[n]? = some p) (r : RpA K β H ys ds) : MOk K β (upd H p (.lst ys)) (m.set n (.lst ds)) :=
  ok.writeO hp mutb_lst hb ⟨ys, upd_same, r.ext (Ext.write hp hb)⟩
end
/-! ### tables -/
instance : DecidableEq D := fun a b => if h : D.beq a b = true then .isTrue (D.beq_eq h) else .isFalse fun e => h (by rw [e]; exact D.beq_refl b)
def valD (kvs : List (D × D)) (k : D) : Option D := (kvs.find? fun kv => decide (kv.1 = k)).map (·.2)
def putD (kvs : List (D × D)) (k v : D) : List (D × D) :=
  if (kvs.any fun kv => decide (kv.1 = k)) = true then kvs.map (fun kv => if kv.1 = k then (kv.1, v) else kv) else kvs ++ [(k, v)]
theorem keyD_inj {a b : D} {k : Key} (ha : keyD a = some k) (hb : keyD b = some k) : a = b := by
  cases a <;> simp only [keyD] at ha <;> first | (cases ha; done) | skip
  all_goals
    cases b <;> simp only [keyD] at hb <;> first | (cases hb; done) | skip
    all_goals
      rw [← hb] at ha
      first
        | (injection ha with ha; injection ha with ha; rw [ha])
        | (injection ha with ha; cases ha; done)
theorem keysD_inj : ∀ {a b : List D} {k : List Key}, keysD a = some k → keysD b = some k → a = b
  | [], [], _, _, _ => rfl
  | [], d :: r, k, ha, hb => by
    simp only [keysD] at ha hb
    cases ha
    split at hb <;> exact nomatch hb
  | d :: r, [], k, ha, hb => by
    simp only [keysD] at ha hb
    cases hb
    split at ha <;> exact nomatch ha
  | d :: r, e :: s, k, ha, hb => by
    simp only [keysD] at ha hb
    split at ha
    · rename_i k1 ks1 h1 h2
      cases ha
      split at hb
      · rename_i k2 ks2 h3 h4
        injection hb with hb
        injection hb with e1 e2
        rw [e1] at h3
        rw [e2] at h4
        rw [keyD_inj h1 h3, keysD_inj h2 h4]
      · exact nomatch hb
    · exact nomatch ha
theorem keyT_inj {a b : D} {k : List Key} (ha : keyT a = some k) (hb : keyT b = some k) : a = b := by
  cases a <;> simp only [keyT] at ha <;> first | (cases ha; done) | skip
  cases b <;> simp only [keyT] at hb <;> first | (cases hb; done) | skip
  rw [keysD_inj ha hb]
section
variable {K : PySem.W.Frag} {β : List Addr} {H : Hp} {κ : Type} [DecidableEq κ] {f : D → Option κ}
theorem KvR.val (inj : ∀ {a b : D} {k : κ}, f a = some k → f b = some k → a = b) {xs : List (κ × V)} {kvs : List (D × D)} (r : KvR K β H f xs kvs) {d : D} {k : κ} (hk : f d = some k) :
    (valV xs k = none ∧ valD kvs d = none) ∨ ∃ v e, valV xs k = some v ∧ valD kvs d = some e ∧ Rp K β H v e := by
  induction r with
  | nil => exact .inl ⟨rfl, rfl⟩
  | @cons k' v d' e r s hf hr _ ih =>
    by_cases h : k' = k
    · have hd : d' = d := inj hf (by rw [h]; exact hk)
      exact .inr ⟨v, e, valV_pos (p := (k', v)) h, by simp [valD, List.find?_cons, hd], hr⟩
    · have hd : ¬ d' = d := fun z => h (by rw [z, hk] at hf; exact (Option.some.inj hf).symm)
      rw [valV_neg (p := (k', v)) h]
      have : valD ((d', e) :: s) d = valD s d := by simp [valD, List.find?_cons, hd]
      rw [this]
      exact ih
theorem KvR.any (inj : ∀ {a b : D} {k : κ}, f a = some k → f b = some k → a = b) {xs : List (κ × V)} {kvs : List (D × D)} (r : KvR K β H f xs kvs) {d : D} {k : κ} (hk : f d = some k) :
    (xs.any fun kv => decide (kv.1 = k)) = kvs.any fun kv => decide (kv.1 = d) := by
  induction r with
  | nil => rfl
  | @cons k' v d' e r s hf hr _ ih =>
    rw [List.any_cons, List.any_cons, ih]
    congr 1
    refine decide_eq_decide.mpr ⟨fun h => inj hf (by rw [show k' = k from h]; exact hk), fun h => ?_⟩
    change d' = d at h
    rw [h, hk] at hf
    exact (Option.some.inj hf).symm
theorem KvR.snoc {xs : List (κ × V)} {kvs : List (D × D)} (r : KvR K β H f xs kvs) {d e : D} {k : κ} {v : V} (hk : f d = some k) (rv : Rp K β H v e) : KvR K β H f (xs ++ [(k, v)]) (kvs ++ [(d, e)]) := by
  induction r with
  | nil => exact .cons hk rv .nil
  | cons hf hr _ ih => exact .cons hf hr ih
theorem KvR.put (inj : ∀ {a b : D} {k : κ}, f a = some k → f b = some k → a = b) {xs : List (κ × V)} {kvs : List (D × D)} (r : KvR K β H f xs kvs) {d e : D} {k : κ} {v : V} (hk : f d = some k) (rv : Rp K β H v e) :
    KvR K β H f (putK xs k v) (putD kvs d e) := by
  unfold putK putD
  rw [r.any inj hk]
  split
  · induction r with
    | nil => exact .nil
    | @cons k' v' d' e' r' s' hf hr r0 ih =>
      rename_i hany
      rw [List.map_cons, List.map_cons]
      have ih' : KvR K β H f (r'.map fun kv => if kv.1 = k then (kv.1, v) else kv) (s'.map fun kv => if kv.1 = d then (kv.1, e) else kv) := by
        clear ih hany
        induction r0 with
        | nil => exact .nil
        | @cons k2 v2 d2 e2 r2 s2 hf2 hr2 _ ih2 =>
          rw [List.map_cons, List.map_cons]
          by_cases h : k2 = k
          · have hd : d2 = d := inj hf2 (by rw [h]; exact hk)
            rw [if_pos h, if_pos hd]
            exact .cons hf2 rv ih2
          · have hd : ¬ d2 = d := fun z => h (by rw [z, hk] at hf2; exact (Option.some.inj hf2).symm)
            rw [if_neg h, if_neg hd]
            exact .cons hf2 hr2 ih2
      by_cases h : k' = k
      · have hd : d' = d := inj hf (by rw [h]; exact hk)
        rw [if_pos h, if_pos hd]
        exact .cons hf rv ih'
      · have hd : ¬ d' = d := fun z => h (by rw [z, hk] at hf; exact (Option.some.inj hf).symm)
        rw [if_neg h, if_neg hd]
        exact .cons hf hr ih'
  · exact r.snoc hk rv
theorem KvR.length {xs : List (κ × V)} {kvs : List (D × D)} (r : KvR K β H f xs kvs) : xs.length = kvs.length := by
  induction r with
  | nil => rfl
  | cons _ _ _ ih => rw [List.length_cons, List.length_cons, ih]
end
theorem key_rp {K : PySem.W.Frag} {β : List Addr} {H : Hp} {v : V} {d : D} {k : Key} (r : Rp K β H v d) (h : keyD d = some k) : v = kV k := by
  cases r <;> simp only [keyD] at h <;> first | (cases h; done) | (cases h; rfl)
theorem keys_rp {K : PySem.W.Frag} {β : List Addr} {H : Hp} : ∀ {vs : List V} {ds : List D} {ks : List Key}, RpA K β H vs ds → keysD ds = some ks → vs = ks.map kV
  | _, _, _, .nil, h => by simp only [keysD] at h; cases h; rfl
  | _, _, _, .cons r rs, h => by
    simp only [keysD] at h
    split at h
    · rename_i k ks h1 h2
      cases h
      rw [List.map_cons, key_rp r h1, keys_rp rs h2]
    · exact nomatch h
theorem keyT_rp {K : PySem.W.Frag} {β : List Addr} {H : Hp} {v : V} {d : D} {ks : List Key} (r : Rp K β H v d) (h : keyT d = some ks) : ∃ b, v = .ref b ∧ H b = some (.tup (ks.map kV)) := by
  cases r <;> simp only [keyT] at h <;> first | (cases h; done) | skip
  rename_i hx rx
  exact ⟨_, rfl, by rw [hx, keys_rp rx h]⟩
end Dl

/-! DL2: expressions by what they give of plain data. -/
namespace Dl
open PySem PySem.Spec PyProof.Rows L2

/-! ### slots -/
abbrev Sg := L2.St
abbrev Sl := List (Option D)
structure RpS (K : PySem.W.Frag) (β : List Addr) (H : Hp) (σ : Sg) (ρ : Sl) : Prop where
  len : σ.length = ρ.length
  at' : ∀ (i : Nat) (d : D), ρ[i]? = some (some d) → ∃ v, σ[i]? = some (some v) ∧ Rp K β H v d
section
variable {K : PySem.W.Frag} {β β' : List Addr} {H H' : Hp} {σ : Sg} {ρ : Sl}
theorem RpS.ext (e : Ext β β' H H') (r : RpS K β H σ ρ) : RpS K β' H' σ ρ :=
  ⟨r.len, fun i d h => let ⟨v, h1, h2⟩ := r.at' i d h; ⟨v, h1, h2.ext e⟩⟩
theorem RpS.set {i : Nat} {v : V} {d : D} (r : RpS K β H σ ρ) (h : Rp K β H v d) : RpS K β H (σ.set i (some v)) (ρ.set i (some d)) := by
  refine ⟨by rw [List.length_set, List.length_set]; exact r.len, fun j e hj => ?_⟩
  by_cases hij : i = j
  · subst hij
    by_cases hl : i < ρ.length
    · rw [List.getElem?_set_self hl] at hj
      cases hj
      exact ⟨v, List.getElem?_set_self (by rw [r.len]; exact hl), h⟩
    · rw [List.getElem?_eq_none (by simpa using hl)] at hj
      cases hj
  · rw [List.getElem?_set_ne hij] at hj
    obtain ⟨w, h1, h2⟩ := r.at' j e hj
    exact ⟨w, by rw [List.getElem?_set_ne hij]; exact h1, h2⟩
theorem RpS.forget {i : Nat} (r : RpS K β H σ ρ) (x : Option V) : RpS K β H (σ.set i x) (ρ.set i none) := by
  refine ⟨by rw [List.length_set, List.length_set]; exact r.len, fun j e hj => ?_⟩
  by_cases hij : i = j
  · subst hij
    by_cases hl : i < ρ.length
    · rw [List.getElem?_set_self hl] at hj
      cases hj
    · rw [List.getElem?_eq_none (by simpa using hl)] at hj
      cases hj
  · rw [List.getElem?_set_ne hij] at hj
    obtain ⟨w, h1, h2⟩ := r.at' j e hj
    exact ⟨w, by rw [List.getElem?_set_ne hij]; exact h1, h2⟩
def wipeD (ρ : Sl) : List Nat → Sl
  | [] => ρ
  | v :: vs => (wipeD ρ vs).set v none
theorem RpS.wipe (r : RpS K β H σ ρ) : ∀ vs : List Nat, RpS K β H (L2.wipe σ vs) (wipeD ρ vs)
  | [] => r
  | v :: vs => by
    unfold L2.wipe wipeD
    exact (RpS.wipe r vs).forget none
end

/-! ### results -/
/-- what is wanted of an exception, by the slots where it came up -/
abbrev WXD := Sg → Exn → List Addr → Hp → Prop
def okD {α : Type} (K : PySem.W.Frag) (Wx : Exn → List Addr → Hp → Prop) (β : List Addr) (H : Hp) (r : Res α) (Q : α → M → List Addr → Hp → Prop) : Prop :=
  match r with
  | .ok d m => ∀ β' H', Ext β β' H H' → MOk K β' H' m → Q d m β' H'
  | .exc e m => ∀ β' H', Ext β β' H H' → MOk K β' H' m → Wx e β' H'
  | .bad => False
section
variable {α γ : Type} {K : PySem.W.Frag} {Wx : Exn → List Addr → Hp → Prop} {β β' : List Addr} {H H' : Hp} {r : Res α} {Q Q' : α → M → List Addr → Hp → Prop}
theorem okD.imp (h : okD K Wx β H r Q) (q : ∀ d m β' H', r = .ok d m → Ext β β' H H' → MOk K β' H' m → Q d m β' H' → Q' d m β' H') : okD K Wx β H r Q' := by
  cases r with
  | ok d m => exact fun β' H' e ok => q d m β' H' rfl e ok (h β' H' e ok)
  | exc e m => exact h
  | bad => exact h
theorem okD.ext (e : Ext β β' H H') (h : okD K Wx β H r Q) : okD K Wx β' H' r Q := by
  cases r with
  | ok d m => exact fun β2 H2 e2 ok => h β2 H2 (e.trans e2) ok
  | exc e3 m => exact fun β2 H2 e2 ok => h β2 H2 (e.trans e2) ok
  | bad => exact h
theorem okD.bind {k : α → M → Res γ} {Q : γ → M → List Addr → Hp → Prop} (h : okD K Wx β H (r.bind k) Q) : okD K Wx β H r fun d m β' H' => okD K Wx β' H' (k d m) Q := by
  cases r with
  | ok d m => exact fun β' H' e ok => okD.ext e h
  | exc e m => exact h
  | bad => exact h
theorem okD.here {d : α} {m : M} (h : okD K Wx β H (.ok d m) Q) (ok : MOk K β H m) : Q d m β H := h β H Ext.refl ok
end

/-! ### the readings -/
abbrev FE := Sl → M → Res D
abbrev FT := Sl → M → Res Bool
abbrev FA := Sl → M → Res (List D)
/-- the state as plain data -/
structure Stt (K : PySem.W.Frag) (β : List Addr) (H : Hp) (σ : Sg) (ρ : Sl) (m : M) : Prop where
  sl : RpS K β H σ ρ
  me : MOk K β H m
theorem Stt.ext {K : PySem.W.Frag} {β β' : List Addr} {H H' : Hp} {σ : Sg} {ρ : Sl} {m m' : M} (s : Stt K β H σ ρ m) (e : Ext β β' H H') (ok : MOk K β' H' m') : Stt K β' H' σ ρ m' := ⟨s.sl.ext e, ok⟩
def tD (K : PySem.W.Frag) (W : WXD) (f : FE) : TE := fun σ H Q => ∃ β m ρ, Stt K β H σ ρ m ∧ okD K (W σ) β H (f ρ m) fun d _ β' H' => ∀ v, Rp K β' H' v d → Q v H'
def tTD (K : PySem.W.Frag) (W : WXD) (f : FT) : TT := fun σ H Q => ∃ β m ρ, Stt K β H σ ρ m ∧ okD K (W σ) β H (f ρ m) fun b _ _ H' => Q b H'
def tAD (K : PySem.W.Frag) (W : WXD) (f : FA) : TA := fun σ H Q => ∃ β m ρ, Stt K β H σ ρ m ∧ okD K (W σ) β H (f ρ m) fun ds _ β' H' => ∀ vs, RpA K β' H' vs ds → Q vs H'
/-- a new list, not named yet -/
def tLD (K : PySem.W.Frag) (W : WXD) (f : FA) : TE := fun σ H Q => ∃ β m ρ, Stt K β H σ ρ m ∧ okD K (W σ) β H (f ρ m) fun ds _ β' H' => ∀ p xs, H p = none → p ∉ β' → H' p = some (.lst xs) → RpA K β' H' xs ds → Q (.ref p) H'

abbrev PD (X : Cx) (W : WXD) (e : Expr) (f : FE) : Prop := PE X e (tD X.K W f)
abbrev PTD (X : Cx) (W : WXD) (e : Expr) (f : FT) : Prop := PT X e (tTD X.K W f)
abbrev PAD (X : Cx) (W : WXD) (es : List Expr) (f : FA) : Prop := PA X es (tAD X.K W f)
abbrev PLD (X : Cx) (W : WXD) (e : Expr) (f : FA) : Prop := PE X e (tLD X.K W f)

theorem PE.imp {X : Cx} {e : Expr} {t t' : TE} (h : PE X e t) (i : ∀ σ H Q, t' σ H Q → t σ H Q) : PE X e t' := ⟨fun pins s σ H Q I q => h.run pins s σ H Q I (i σ H Q q)⟩
theorem PT.imp {X : Cx} {e : Expr} {t t' : TT} (h : PT X e t) (i : ∀ σ H Q, t' σ H Q → t σ H Q) : PT X e t' := ⟨fun pins s σ H Q I q => h.run pins s σ H Q I (i σ H Q q)⟩
theorem PW.imp {X : Cx} {e : Expr} {t t' : TT} (h : PW X e t) (i : ∀ σ H Q, t' σ H Q → t σ H Q) : PW X e t' := ⟨fun wh pins s σ H Q I q => h.run wh pins s σ H Q I (i σ H Q q)⟩
theorem PA.imp {X : Cx} {es : List Expr} {t t' : TA} (h : PA X es t) (i : ∀ σ H Q, t' σ H Q → t σ H Q) : PA X es t' := ⟨fun pos pins s σ H Q I q => h.run pos pins s σ H Q I (i σ H Q q)⟩
theorem PS.imp {X : Cx} {st : Stmt} {t t' : TS} (h : PS X st t) (i : ∀ D σ H, t' D σ H → t D σ H) : PS X st t' := ⟨fun pins s σ H D I q => h.run pins s σ H D I (i D σ H q)⟩
theorem PSs.imp {X : Cx} {st : List Stmt} {t t' : TS} (h : PSs X st t) (i : ∀ D σ H, t' D σ H → t D σ H) : PSs X st t' := ⟨fun pins s σ H D I q => h.run pins s σ H D I (i D σ H q)⟩
theorem PG.imp {X : Cx} {e : Expr} {t t' : TG} (h : PG X e t) (i : ∀ v σ H Q, t' v σ H Q → t v σ H Q) : PG X e t' := ⟨fun pins s σ H v u Q I r q => h.run pins s σ H v u Q I r (i v σ H Q q)⟩
theorem PI.imp {X : Cx} {tg e : Expr} {t t' : TI} (h : PI X tg e t) (i : ∀ σ H R, t' σ H R → t σ H R) : PI X tg e t' := ⟨fun pins s σ H R I q => h.run pins s σ H R I (i σ H R q)⟩

/-! ### names and constants -/
def fVar (i : Nat) : FE := fun ρ m => match ρ[i]? with
  | some (some d) => .ok d m
  | _ => .bad
def fC (d : D) : FE := fun _ m => .ok d m
section
variable {X : Cx} {W : WXD} {pos : Pos}
theorem td_var (i : Nat) {K : PySem.W.Frag} {σ : Sg} {H : Hp} {Q : VK} (h : tD K W (fVar i) σ H Q) : tVar i σ H Q := by
  obtain ⟨β, m, ρ, s, h⟩ := h
  unfold fVar at h
  cases hr : ρ[i]? with
  | none => simp only [hr] at h; exact h.elim
  | some o =>
    cases o with
    | none => simp only [hr] at h; exact h.elim
    | some d =>
      simp only [hr] at h
      obtain ⟨v, h1, h2⟩ := s.sl.at' i d hr
      exact ⟨v, h1, h.here s.me v h2⟩
theorem pd_var (i : Nat) {x : Str} (hN : X.N[i]? = some x := by rfl) (hv : Vis X.env.scope x := by first | exact Or.inl rfl | exact Or.inr (Or.inl rfl) | exact Or.inr (Or.inr rfl)) (hd : (x == ("__debug__" : Str)) = false := by decide)
    (hcd : (x == ("__classdict__" : Str)) = false := by decide) : PD X W (.Name x pos) (fVar i) := PE.imp (pe_var hN hv hd hcd) fun _ _ _ h => td_var i h
theorem td_c {K : PySem.W.Frag} {σ : Sg} {H : Hp} {Q : VK} {d : D} {v : V} (hv : ∀ β H, Rp K β H v d) (h : tD K W (fC d) σ H Q) : tC v σ H Q := by
  obtain ⟨β, m, ρ, s, h⟩ := h
  exact h.here s.me v (hv _ _)
theorem pd_int {i j} : PD X W (.Constant (.int i) j pos) (fC (.int i)) := PE.imp pe_int fun _ _ _ h => td_c (fun _ _ => .int i) h
theorem pd_bl {b j} : PD X W (.Constant (.bool b) j pos) (fC (.bl b)) := PE.imp pe_bl fun _ _ _ h => td_c (fun _ _ => .bl b) h
theorem pd_non {j} : PD X W (.Constant .none j pos) (fC .non) := PE.imp pe_non fun _ _ _ h => td_c (fun _ _ => .non) h
theorem pd_str {x j} : PD X W (.Constant (.str x) j pos) (fC (.str x)) := PE.imp pe_str fun _ _ _ h => td_c (fun _ _ => .str x) h
/-- a number of the module -/
theorem pd_glob {x : Str} {i : Int} (hg : Gl X x) (hm : ∃ t, X.mg x = some (.int i t)) (hd : (x == ("__debug__" : Str)) = false := by decide) : PD X W (.Name x pos) (fC (.int i)) := by
  obtain ⟨t, hm⟩ := hm
  exact PE.imp (pe_glob (v := .int i) hg hm ⟨t, rfl⟩ hd) fun _ _ _ h => td_c (fun _ _ => .int i) h
end

/-! ### two parts, one after another -/
section
variable {K : PySem.W.Frag} {W : WXD} {σ : Sg} {H : Hp}
theorem td_bind {f : FE} {α : Type} {k : D → M → Res α} {R : V → Hp → Prop} {β : List Addr} {m : M} {ρ : Sl} {Q : α → M → List Addr → Hp → Prop} (s : Stt K β H σ ρ m) (h : okD K (W σ) β H ((f ρ m).bind k) Q)
    (q : ∀ d m1 v β1 H1, Ext β β1 H H1 → Stt K β1 H1 σ ρ m1 → Rp K β1 H1 v d → okD K (W σ) β1 H1 (k d m1) Q → R v H1) : tD K W f σ H R :=
  ⟨β, m, ρ, s, h.bind.imp fun d m1 β1 H1 _ e ok hh v hv => q d m1 v β1 H1 e (s.ext e ok) hv hh⟩
theorem ttd_bind {f : FT} {α : Type} {k : Bool → M → Res α} {R : Bool → Hp → Prop} {β : List Addr} {m : M} {ρ : Sl} {Q : α → M → List Addr → Hp → Prop} (s : Stt K β H σ ρ m) (h : okD K (W σ) β H ((f ρ m).bind k) Q)
    (q : ∀ b m1 β1 H1, Ext β β1 H H1 → Stt K β1 H1 σ ρ m1 → okD K (W σ) β1 H1 (k b m1) Q → R b H1) : tTD K W f σ H R :=
  ⟨β, m, ρ, s, h.bind.imp fun d m1 β1 H1 _ e ok hh => q d m1 β1 H1 e (s.ext e ok) hh⟩
theorem tad_bind {f : FA} {α : Type} {k : List D → M → Res α} {R : List V → Hp → Prop} {β : List Addr} {m : M} {ρ : Sl} {Q : α → M → List Addr → Hp → Prop} (s : Stt K β H σ ρ m) (h : okD K (W σ) β H ((f ρ m).bind k) Q)
    (q : ∀ ds m1 vs β1 H1, Ext β β1 H H1 → Stt K β1 H1 σ ρ m1 → RpA K β1 H1 vs ds → okD K (W σ) β1 H1 (k ds m1) Q → R vs H1) : tAD K W f σ H R :=
  ⟨β, m, ρ, s, h.bind.imp fun d m1 β1 H1 _ e ok hh v hv => q d m1 v β1 H1 e (s.ext e ok) hv hh⟩
theorem tld_bind {f : FA} {α : Type} {k : List D → M → Res α} {R : V → Hp → Prop} {β : List Addr} {m : M} {ρ : Sl} {Q : α → M → List Addr → Hp → Prop} (s : Stt K β H σ ρ m) (h : okD K (W σ) β H ((f ρ m).bind k) Q)
    (q : ∀ ds m1 p xs β1 H1, Ext β β1 H H1 → Stt K β1 H1 σ ρ m1 → H p = none → p ∉ β1 → H1 p = some (.lst xs) → RpA K β1 H1 xs ds → okD K (W σ) β H (k ds m1) Q → R (.ref p) H1) : tLD K W f σ H R := by
  refine ⟨β, m, ρ, s, ?_⟩
  cases hf : f ρ m with
  | ok ds m1 =>
    rw [hf] at h
    exact fun β1 H1 e ok p xs h1 h2 h3 h4 => q ds m1 p xs β1 H1 e (s.ext e ok) h1 h2 h3 h4 h
  | exc e m1 => rw [hf] at h; exact h
  | bad => rw [hf] at h; exact h
end

/-! ### operators by values -/
/-- the plain function g says what the hand layer's rule r gives -/
def OpD (K : PySem.W.Frag) (r : R2) (g : D → D → M → Res D) : Prop :=
  ∀ (Wx : Exn → List Addr → Hp → Prop) (β : List Addr) (H : Hp) (m : M) (x y : V) (a b : D) (Q : VK), MOk K β H m → Rp K β H x a → Rp K β H y b →
    okD K Wx β H (g a b m) (fun d _ β' H' => ∀ v, Rp K β' H' v d → Q v H') → r x y H Q
def fOp (g : D → D → M → Res D) (fa fb : FE) : FE := fun ρ m => (fa ρ m).bind fun a m1 => (fb ρ m1).bind fun b m2 => g a b m2
theorem td_op {K : PySem.W.Frag} {W : WXD} {r : R2} {g : D → D → M → Res D} (ho : OpD K r g) {fa fb : FE} {σ : Sg} {H : Hp} {Q : VK} (h : tD K W (fOp g fa fb) σ H Q) : tOp r (tD K W fa) (tD K W fb) σ H Q := by
  obtain ⟨β, m, ρ, s, h⟩ := h
  refine td_bind s h fun a m1 v β1 H1 e1 s1 ra h1 => ?_
  refine td_bind s1 h1 fun b m2 u β2 H2 e2 s2 rb h2 => ?_
  exact ho _ β2 H2 m2 v u a b Q s2.me (ra.ext e2) rb h2
theorem pd_op {X : Cx} {W : WXD} {a b : Expr} {pos : Pos} {op : Operator} {r : R2} {g : D → D → M → Res D} {fa fb : FE} (ho : OpR X (binaryOp op) r) (hg : OpD X.K r g) (ha : PD X W a fa) (hb : PD X W b fb) :
    PD X W (.BinOp a op b pos) (fOp g fa fb) := PE.imp (pe_op ho ha hb) fun _ _ _ h => td_op hg h
theorem pd_cmp {X : Cx} {W : WXD} {a b : Expr} {pos : Pos} {op : CmpOp} {r : R2} {g : D → D → M → Res D} {fa fb : FE} (ho : OpR X (compareOp op) r) (hg : OpD X.K r g) (ha : PD X W a fa) (hb : PD X W b fb)
    (hm : behindInMarks op b = false) : PD X W (.Compare a [op] [b] pos) (fOp g fa fb) := PE.imp (pe_cmpR ho ha hb hm) fun _ _ _ h => td_op hg h
/-- a value that is True or False -/
def asB (r : Res D) : Res Bool := r.bind fun d m => match d with
  | .bl b => .ok b m
  | _ => .bad
def fTest (f : FE) : FT := fun ρ m => asB (f ρ m)
theorem td_test {K : PySem.W.Frag} {W : WXD} {f : FE} {σ : Sg} {H : Hp} {Q : Bool → Hp → Prop} (h : tTD K W (fTest f) σ H Q) : tTest (tD K W f) σ H Q := by
  obtain ⟨β, m, ρ, s, h⟩ := h
  refine td_bind s h fun d m1 v β1 H1 e1 s1 rv h1 => ?_
  cases d with
  | bl b =>
    cases rv
    exact ⟨b, rfl, h1.here s1.me⟩
  | non => exact h1.elim
  | int _ => exact h1.elim
  | str _ => exact h1.elim
  | tup _ => exact h1.elim
  | rol _ => exact h1.elim
  | fix _ => exact h1.elim
  | ref _ => exact h1.elim
  | ty _ => exact h1.elim
theorem ptd_cmp {X : Cx} {W : WXD} {a b : Expr} {pos : Pos} {op : CmpOp} {r : R2} {g : D → D → M → Res D} {fa fb : FE} (ho : OpR X (compareOp op) r) (hg : OpD X.K r g) (ha : PD X W a fa) (hb : PD X W b fb)
    (hm : behindInMarks op b = false) : PTD X W (.Compare a [op] [b] pos) (fTest (fOp g fa fb)) :=
  PT.imp (pt_cmpR ho ha hb hm) fun σ H Q h => by
    have q := td_test h
    unfold tTest at q ⊢
    exact td_op hg q
theorem ptd_val {X : Cx} {W : WXD} {e : Expr} {f : FE} (h : PD X W e f) (he : ∀ whole, isTrue e X.env whole = (do let v ← whole; standAt e.pos; holding [v] (truthy v)) := by intro _; rfl) : PTD X W e (fTest f) :=
  PT.imp (pt_val h he) fun _ _ _ q => td_test q

/-- two whole numbers -/
def gI (g : Int → Int → D) : D → D → M → Res D := fun a b m => match a, b with
  | .int i, .int j => .ok (g i j) m
  | _, _ => .bad
def gIC (C : Int → Int → Bool) (g : Int → Int → D) : D → D → M → Res D := fun a b m => match a, b with
  | .int i, .int j => if C i j then .ok (g i j) m else .bad
  | _, _ => .bad
theorem opd_I0 {K : PySem.W.Frag} {g : Int → Int → V} {g' : Int → Int → D} (hg : ∀ β H i j, Rp K β H (g i j) (g' i j)) : OpD K (rI0 g) (gI g') := by
  intro Wx β H m x y a b Q ok ra rb h
  unfold gI at h
  split at h
  · cases ra
    cases rb
    exact ⟨_, _, rfl, rfl, h.here ok _ (hg _ _ _ _)⟩
  · exact h.elim
theorem opd_IC {K : PySem.W.Frag} {C : Int → Int → Prop} {C' : Int → Int → Bool} {g : Int → Int → V} {g' : Int → Int → D} (hc : ∀ i j, C' i j = true → C i j) (hg : ∀ β H i j, Rp K β H (g i j) (g' i j)) : OpD K (rI C g) (gIC C' g') := by
  intro Wx β H m x y a b Q ok ra rb h
  unfold gIC at h
  split at h
  · cases ra
    cases rb
    split at h
    · rename_i hcc
      exact ⟨_, _, rfl, rfl, hc _ _ hcc, h.here ok _ (hg _ _ _ _)⟩
    · exact h.elim
  · exact h.elim
def gSub : D → D → M → Res D := gI fun i j => .int (i - j)
noncomputable def cMul (i j : Int) : Bool := decide ((-(BIG 64 : Int) < i ∧ i < BIG 64) ∨ (-(BIG 64 : Int) < j ∧ j < BIG 64))
theorem big64 : (BIG 64 : Int) = 2 ^ 64 := by
  rw [BIG_eq]
  decide
theorem cMul_iff {i j : Int} : cMul i j = true ↔ (-(2 ^ 64) < i ∧ i < 2 ^ 64) ∨ (-(2 ^ 64) < j ∧ j < 2 ^ 64) := by
  unfold cMul
  rw [decide_eq_true_iff, big64]
theorem cMul_ok {i j : Int} (h : cMul i j = true) : (-(2 ^ 64) < i ∧ i < 2 ^ 64) ∨ (-(2 ^ 64) < j ∧ j < 2 ^ 64) := cMul_iff.mp h
noncomputable def cDiv (i j : Int) : Bool := decide (0 < j ∧ j < BIG 30)
theorem cDiv_iff {i j : Int} : cDiv i j = true ↔ 0 < j ∧ j < 1073741824 := by
  unfold cDiv
  rw [decide_eq_true_iff, BIG_eq]
  exact Iff.rfl
def cMod (i j : Int) : Bool := decide (0 < j)
noncomputable def cPow (i j : Int) : Bool := decide (0 ≤ j ∧ j ≤ BIG 19 ∧ i.natAbs < BIG 64)
theorem cPow_ok {i j : Int} (h : cPow i j = true) : 0 ≤ j ∧ j ≤ 1000000 ∧ i.natAbs < 2 ^ 64 := by
  unfold cPow at h
  rw [decide_eq_true_iff, BIG_eq, BIG_eq] at h
  have e : ((2 ^ 19 : Nat) : Int) = 524288 := by decide
  rw [e] at h
  exact ⟨h.1, by omega, h.2.2⟩
noncomputable def gFdiv : D → D → M → Res D := gIC cDiv fun i j => .int (i / j)
def gMod : D → D → M → Res D := gIC cMod fun i j => .int (i % j)
noncomputable def gPow : D → D → M → Res D := gIC cPow fun i j => .int (i ^ j.toNat)
def gLt : D → D → M → Res D := gI fun i j => .bl (decide (i < j))
def gLe : D → D → M → Res D := gI fun i j => .bl (decide (i ≤ j))
def gGt : D → D → M → Res D := gI fun i j => .bl (decide (j < i))
def gGe : D → D → M → Res D := gI fun i j => .bl (decide (j ≤ i))
section
variable {K : PySem.W.Frag}
theorem opd_sub : OpD K (rI0 fun i j => .int (i - j)) gSub := opd_I0 fun _ _ _ _ => .int _
theorem opd_fdiv : OpD K (rI CDiv fun i j => .int (i / j)) gFdiv := opd_IC (fun i j h => cDiv_iff.mp h) fun _ _ _ _ => .int _
theorem opd_mod : OpD K (rI (fun _ j => 0 < j) fun i j => .int (i % j)) gMod := opd_IC (C' := cMod) (fun i j h => of_decide_eq_true (p := 0 < j) h) fun _ _ _ _ => .int _
theorem opd_pow : OpD K (rI CPow fun i j => .int (i ^ j.toNat)) gPow := opd_IC (fun i j h => cPow_ok h) fun _ _ _ _ => .int _
theorem opd_lt : OpD K (rI0 fun i j => .bl (decide (i < j))) gLt := opd_I0 fun _ _ _ _ => .bl _
theorem opd_le : OpD K (rI0 fun i j => .bl (decide (i ≤ j))) gLe := opd_I0 fun _ _ _ _ => .bl _
theorem opd_gt : OpD K (rI0 fun i j => .bl (decide (j < i))) gGt := opd_I0 fun _ _ _ _ => .bl _
theorem opd_ge : OpD K (rI0 fun i j => .bl (decide (j ≤ i))) gGe := opd_I0 fun _ _ _ _ => .bl _
end
section
variable {X : Cx} {W : WXD} {a b : Expr} {pos : Pos} {fa fb : FE}
theorem pd_sub (ha : PD X W a fa) (hb : PD X W b fb) : PD X W (.BinOp a .Sub b pos) (fOp gSub fa fb) := pd_op op_sub opd_sub ha hb
theorem pd_fdiv (ha : PD X W a fa) (hb : PD X W b fb) : PD X W (.BinOp a .FloorDiv b pos) (fOp gFdiv fa fb) := pd_op op_fdiv opd_fdiv ha hb
theorem pd_mod (ha : PD X W a fa) (hb : PD X W b fb) : PD X W (.BinOp a .Mod b pos) (fOp gMod fa fb) := pd_op op_mod opd_mod ha hb
theorem pd_pow (ha : PD X W a fa) (hb : PD X W b fb) : PD X W (.BinOp a .Pow b pos) (fOp gPow fa fb) := pd_op op_pow opd_pow ha hb
theorem pd_lt (ha : PD X W a fa) (hb : PD X W b fb) : PD X W (.Compare a [.Lt] [b] pos) (fOp gLt fa fb) := pd_cmp op_lt opd_lt ha hb (nomark _)
theorem pd_le (ha : PD X W a fa) (hb : PD X W b fb) : PD X W (.Compare a [.LtE] [b] pos) (fOp gLe fa fb) := pd_cmp op_le opd_le ha hb (nomark _)
theorem pd_gt (ha : PD X W a fa) (hb : PD X W b fb) : PD X W (.Compare a [.Gt] [b] pos) (fOp gGt fa fb) := pd_cmp op_gt opd_gt ha hb (nomark _)
theorem pd_ge (ha : PD X W a fa) (hb : PD X W b fb) : PD X W (.Compare a [.GtE] [b] pos) (fOp gGe fa fb) := pd_cmp op_ge opd_ge ha hb (nomark _)
theorem ptd_lt (ha : PD X W a fa) (hb : PD X W b fb) : PTD X W (.Compare a [.Lt] [b] pos) (fTest (fOp gLt fa fb)) := ptd_cmp op_lt opd_lt ha hb (nomark _)
theorem ptd_le (ha : PD X W a fa) (hb : PD X W b fb) : PTD X W (.Compare a [.LtE] [b] pos) (fTest (fOp gLe fa fb)) := ptd_cmp op_le opd_le ha hb (nomark _)
theorem ptd_gt (ha : PD X W a fa) (hb : PD X W b fb) : PTD X W (.Compare a [.Gt] [b] pos) (fTest (fOp gGt fa fb)) := ptd_cmp op_gt opd_gt ha hb (nomark _)
theorem ptd_ge (ha : PD X W a fa) (hb : PD X W b fb) : PTD X W (.Compare a [.GtE] [b] pos) (fTest (fOp gGe fa fb)) := ptd_cmp op_ge opd_ge ha hb (nomark _)
end
end Dl

/-! DL3: operators on tuples, lists; parts; tests; displays; calls of built-ins. -/
namespace Dl
open PySem PySem.Spec PyProof.Rows L2

section
variable {K : PySem.W.Frag}
/-! ### + -/
def gAdd : D → D → M → Res D := fun a b m => match a, b with
  | .int i, .int j => .ok (.int (i + j)) m
  | .tup xs, .tup ys => if xs.length + ys.length ≤ LIM then .ok (.tup (xs ++ ys)) m else .bad
  | .str x, .str y => if x.length + y.length ≤ LIM then .ok (.str (x ++ y)) m else .bad
  | .ref i, .ref j => match m[i]?, m[j]? with
    | some (.lst xs), some (.lst ys) => if xs.length + ys.length ≤ LIM then .ok (.ref m.length) (m ++ [.lst (xs ++ ys)]) else .bad
    | _, _ => .bad
  | _, _ => .bad
def rAddD (K : PySem.W.Frag) : R2 := fun x y H Q => (rI0 (fun i j => .int (i + j)) x y H Q) ∨ (rCatA K x y H Q) ∨ ((fun x y H Q => ∃ i j, x = .str i ∧ y = .str j ∧ i.length + j.length ≤ sizeLine ∧ Q (.str (i ++ j)) H) x y H Q) ∨ rCat x y H Q
theorem RpA.nil_iff {β : List Addr} {H : Hp} {xs : List V} {ds : List D} (r : RpA K β H xs ds) : xs = [] ↔ ds = [] := by
  cases r with
  | nil => simp
  | cons _ _ => simp
theorem opd_add : OpD K (rAddD K) gAdd := by
  intro Wx β H m x y a b Q ok ra rb h
  unfold gAdd at h
  split at h
  · cases ra
    cases rb
    exact .inl ⟨_, _, rfl, rfl, h.here ok _ (.int _)⟩
  · rename_i xs ys
    split at h
    · rename_i hl
      cases ra with
      | tup hx rx =>
        cases rb with
        | tup hy ry =>
          refine .inr (.inl ⟨_, _, _, _, rfl, rfl, SqT.of hx, SqT.of hy, lim_le (by rw [rx.length, ry.length]; exact hl), fun e => ?_, fun _ e => ?_, fun _ _ p hp => ?_⟩)
          · have e' := rx.nil_iff.mp e
            subst e'
            exact h.here ok _ (.tup hy ry)
          · have e' := ry.nil_iff.mp e
            subst e'
            rw [List.append_nil] at h
            exact h.here ok _ (.tup hx rx)
          · exact h β _ (Ext.upd_new hp) (ok.upd_new hp) _ (.tup upd_same ((rx.ext (Ext.upd_new hp)).append (ry.ext (Ext.upd_new hp))))
    · exact h.elim
  · split at h
    · rename_i hl
      cases ra
      cases rb
      exact .inr (.inr (.inl ⟨_, _, rfl, rfl, lim_le hl, h.here ok _ (.str _)⟩))
    · exact h.elim
  · split at h
    · rename_i i j ds es hi hj
      split at h
      · rename_i hl
        cases ra with
        | ref ha =>
          cases rb with
          | ref hb =>
            obtain ⟨xs, h1, r1⟩ := ok.at' _ _ _ hi ha
            obtain ⟨ys, h2, r2⟩ := ok.at' _ _ _ hj hb
            refine .inr (.inr (.inr ⟨_, _, _, _, rfl, rfl, h1, h2, lim_le (by rw [r1.length, r2.length]; exact hl), fun p hp => ?_⟩))
            exact h (β ++ [p]) _ (Ext.lay hp) (ok.lay hp (r1.append r2)) _ (Rp.last ok)
      · exact h.elim
    · exact h.elim
  · exact h.elim
theorem op_addD {X : Cx} : OpR X (binaryOp .Add) (rAddD X.K) := op_add.or (op_catA.or (op_add_str.or op_cat))
theorem pd_add {X : Cx} {W : WXD} {a b : Expr} {pos : Pos} {fa fb : FE} (ha : PD X W a fa) (hb : PD X W b fb) : PD X W (.BinOp a .Add b pos) (fOp gAdd fa fb) := pd_op op_addD opd_add ha hb

/-! ### x[i] -/
/-- whether this may be a key of such a dict -/
def keyOk (t : Bool) (d : D) : Bool := if t then (keyT d).isSome else (keyD d).isSome
def gIxS : D → D → M → Res D := fun a b m => match b with
  | .int i => match a with
    | .tup xs => match atI xs i with
      | some d => .ok d m
      | none => .bad
    | .rol xs => match atI xs i with
      | some d => .ok d m
      | none => .bad
    | .fix xs => match atI xs i with
      | some d => .ok d m
      | none => .bad
    | .ref n => match m[n]? with
      | some (.lst xs) => match atI xs i with
        | some d => .ok d m
        | none => .bad
      | _ => .bad
    | .str z => if z.length ≤ LIM then match atI z.cps.toList i with
        | some c => .ok (.str ⟨#[c]⟩) m
        | none => .bad
      else .bad
    | _ => .bad
  | _ => .bad
theorem RpA.at_ {β : List Addr} {H : Hp} {xs : List V} {ds : List D} {i : Int} {d : D} (r : RpA K β H xs ds) (h : atI ds i = some d) : ∃ v, atI xs i = some v ∧ Rp K β H v d := by
  unfold atI at h ⊢
  rw [r.length]
  cases hi : ixN ds.length i with
  | none => rw [hi] at h; cases h
  | some j =>
    rw [hi] at h
    exact r.get h
theorem opd_ixS : OpD K (rIx K) gIxS := by
  intro Wx β H m x y a b Q ok ra rb h
  unfold gIxS at h
  cases b with
  | int i =>
    cases rb
    cases a with
    | tup ds =>
      simp only at h
      split at h
      · rename_i d hd
        cases ra with
        | tup hx rx =>
          obtain ⟨v, hv, rv⟩ := rx.at_ hd
          exact .inr (.inl ⟨_, _, i, v, rfl, rfl, SqT.of hx, hv, h.here ok v rv⟩)
      · exact h.elim
    | rol ds =>
      simp only at h
      split at h
      · rename_i d hd
        cases ra with
        | rol hx rx =>
          obtain ⟨v, hv, rv⟩ := rx.at_ hd
          exact .inl ⟨_, _, i, v, rfl, rfl, hx.sql, hv, h.here ok v rv⟩
      · exact h.elim
    | fix ds =>
      simp only at h
      split at h
      · rename_i d hd
        cases ra with
        | fix hx rx =>
          obtain ⟨v, hv, rv⟩ := rx.at_ hd
          exact .inr (.inl ⟨_, _, i, v, rfl, rfl, hx.sqt, hv, h.here ok v rv⟩)
      · exact h.elim
    | ref n =>
      simp only at h
      split at h
      · rename_i ds hds
        split at h
        · rename_i d hd
          cases ra with
          | ref hb =>
            obtain ⟨xs, h1, r1⟩ := ok.at' n _ _ hds hb
            obtain ⟨v, hv, rv⟩ := r1.at_ hd
            exact .inl ⟨_, _, i, v, rfl, rfl, SqL.of h1, hv, h.here ok v rv⟩
        · exact h.elim
      · exact h.elim
    | str z =>
      simp only at h
      split at h
      · rename_i hl
        split at h
        · rename_i c hc
          cases ra
          exact .inr (.inr ⟨z, i, c, rfl, rfl, lim_le hl, hc, h.here ok _ (.str _)⟩)
        · exact h.elim
      · exact h.elim
    | non => exact h.elim
    | bl _ => exact h.elim
    | int _ => exact h.elim
    | ty _ => exact h.elim
  | non => exact h.elim
  | bl _ => exact h.elim
  | str _ => exact h.elim
  | tup _ => exact h.elim
  | rol _ => exact h.elim
  | fix _ => exact h.elim
  | ref _ => exact h.elim
  | ty _ => exact h.elim
def gIx : D → D → M → Res D := fun a b m => match a with
  | .ref n => match m[n]? with
    | some (.dct t kvs) => if keyOk t b then (match valD kvs b with
      | some d => .ok d m
      | none => .bad) else .bad
    | some (.fz t kvs) => if keyOk t b then (match valD kvs b with
      | some d => .ok d m
      | none => .bad) else .bad
    | _ => gIxS (.ref n) b m
  | a => gIxS a b m
theorem dget_of {β : List Addr} {H : Hp} {m : M} (ok : MOk K β H m) {n : Nat} {a : Addr} {t : Bool} {kvs : List (D × D)} {y : V} {b : D} (hn : m[n]? = some (.dct t kvs)) (ha : β[n]? = some a) (rb : Rp K β H y b) (hk : keyOk t b = true) :
    ∃ o, DGet H a y o ∧ ((o = none ∧ valD kvs b = none) ∨ ∃ v e, o = some v ∧ valD kvs b = some e ∧ Rp K β H v e) := by
  have h := ok.at' n _ a hn ha
  cases t with
  | false =>
    obtain ⟨xs, h1, r1⟩ := h
    obtain ⟨k, hk'⟩ := Option.isSome_iff_exists.mp (show (keyD b).isSome = true from hk)
    rw [key_rp rb hk']
    exact ⟨_, DGet.k h1, r1.val (fun a b => keyD_inj a b) hk'⟩
  | true =>
    obtain ⟨xs, h1, r1⟩ := h
    obtain ⟨k, hk'⟩ := Option.isSome_iff_exists.mp (show (keyT b).isSome = true from hk)
    obtain ⟨p, rfl, hp⟩ := keyT_rp rb hk'
    exact ⟨_, DGet.t h1 hp, r1.val (fun a b => keyT_inj a b) hk'⟩
theorem fget_of {β : List Addr} {H : Hp} {m : M} (ok : MOk K β H m) {n : Nat} {a : Addr} {t : Bool} {kvs : List (D × D)} {y : V} {b : D} (hn : m[n]? = some (.fz t kvs)) (ha : β[n]? = some a) (rb : Rp K β H y b) (hk : keyOk t b = true) :
    ∃ o, DGet H a y o ∧ ((o = none ∧ valD kvs b = none) ∨ ∃ v e, o = some v ∧ valD kvs b = some e ∧ Rp K β H v e) := by
  have h := ok.at' n _ a hn ha
  cases t with
  | false =>
    obtain ⟨od, xs, h1, r1⟩ := h
    obtain ⟨k, hk'⟩ := Option.isSome_iff_exists.mp (show (keyD b).isSome = true from hk)
    rw [key_rp rb hk']
    exact ⟨_, .inl ⟨_, k, .inr ⟨od, h1⟩, rfl, rfl⟩, r1.val (fun a b => keyD_inj a b) hk'⟩
  | true =>
    obtain ⟨od, xs, h1, r1⟩ := h
    obtain ⟨k, hk'⟩ := Option.isSome_iff_exists.mp (show (keyT b).isSome = true from hk)
    obtain ⟨p, rfl, hp⟩ := keyT_rp rb hk'
    exact ⟨_, .inr ⟨_, k, p, .inr ⟨od, h1⟩, rfl, hp, rfl⟩, r1.val (fun a b => keyT_inj a b) hk'⟩
def rIxDct : R2 := fun x y H Q => ∃ a v, x = .ref a ∧ DGet H a y (some v) ∧ Q v H
theorem ix_dict {X : Cx} (hu : X.A.units + 64 < cLine) : IxR X rIxDct := by
  intro value slice pins s σ H x y v u Q I rx ry h hs
  obtain ⟨a, z, rfl, g, q⟩ := h
  obtain rfl : v = Value.ref a := rx
  exact tail_any (dict_typeIs I g) PySem.F.slot_dict_getitem.lookup (d_getItem (by omega) I g ry fun w' s3 I3 rw' => ⟨z, H, I3, rw', q⟩) hs
theorem opd_ix : OpD K (fun x y H Q => rIx K x y H Q ∨ rIxDct x y H Q) gIx := by
  intro Wx β H m x y a b Q ok ra rb h
  unfold gIx at h
  split at h
  · rename_i n
    split at h
    · rename_i t kvs hn
      split at h
      · rename_i hk
        split at h
        · rename_i d hd
          cases ra with
          | ref ha =>
            obtain ⟨o, g, e⟩ := dget_of ok hn ha rb hk
            rcases e with ⟨_, e⟩ | ⟨v, e', rfl, e, r⟩
            · rw [hd] at e; exact nomatch e
            · rw [hd] at e
              cases e
              exact .inr ⟨_, v, rfl, g, h.here ok v r⟩
        · exact h.elim
      · exact h.elim
    · rename_i t kvs hn
      split at h
      · rename_i hk
        split at h
        · rename_i d hd
          cases ra with
          | ref ha =>
            obtain ⟨o, g, e⟩ := fget_of ok hn ha rb hk
            rcases e with ⟨_, e⟩ | ⟨v, e', rfl, e, r⟩
            · rw [hd] at e; exact nomatch e
            · rw [hd] at e
              cases e
              exact .inr ⟨_, v, rfl, g, h.here ok v r⟩
        · exact h.elim
      · exact h.elim
    · exact .inl (opd_ixS Wx β H m x y _ b Q ok ra rb h)
  · exact .inl (opd_ixS Wx β H m x y _ b Q ok ra rb h)
theorem pd_ix {X : Cx} {W : WXD} {a b : Expr} {pos : Pos} {fa fb : FE} (hu : X.A.units + 64 < cLine) (ha : PD X W a fa) (hb : PD X W b fb) (hs : PlainIx b := by exact fun _ _ => rfl) : PD X W (.Subscript a b pos) (fOp gIx fa fb) :=
  PE.imp (pe_ix (ix_seq.or (ix_dict hu)) ha hb hs) fun _ _ _ h => td_op opd_ix h

/-! ### t[a:b] of a tuple -/
def cutD (xs : List D) (lo hi : Option Int) : List D := (xs.drop (HT.sIx xs.length 0 lo)).take (HT.sIx xs.length xs.length hi - HT.sIx xs.length 0 lo)
abbrev FO := Sl → M → Res (Option Int)
def fNoPart : FO := fun _ m => .ok none m
def fPart (f : FE) : FO := fun ρ m => (f ρ m).bind fun d m => match d with
  | .int i => .ok (some i) m
  | _ => .bad
def gCut (lo hi : Option Int) : D → M → Res D := fun a m => match a with
  | .tup xs => .ok (.tup (cutD xs lo hi)) m
  | .ref n => match m[n]? with
    | some (.lst xs) => .ok (.ref m.length) (m ++ [.lst (cutD xs lo hi)])
    | _ => .bad
  | _ => .bad
def fCut (f : FE) (l h : FO) : FE := fun ρ m => (f ρ m).bind fun a m => (l ρ m).bind fun lo m => (h ρ m).bind fun hi m => gCut lo hi a m
def tOD (K : PySem.W.Frag) (W : WXD) (f : FO) : TO := fun σ H Q => ∃ β m ρ, Stt K β H σ ρ m ∧ okD K (W σ) β H (f ρ m) fun o _ _ H' => Q o H'
theorem PO.imp {X : Cx} {e : Option Expr} {t t' : TO} (h : PO X e t) (i : ∀ σ H Q, t' σ H Q → t σ H Q) : PO X e t' := ⟨fun pins s σ H Q I q => h.run pins s σ H Q I (i σ H Q q)⟩
abbrev POD (X : Cx) (W : WXD) (e : Option Expr) (f : FO) : Prop := PO X e (tOD X.K W f)
theorem pod_none {X : Cx} {W : WXD} : POD X W none fNoPart := PO.imp po_none fun σ H Q h => by
  obtain ⟨β, m, ρ, s, h⟩ := h
  exact h.here s.me
theorem pod_some {X : Cx} {W : WXD} {e : Expr} {f : FE} (h : PD X W e f) : POD X W (some e) (fPart f) := PO.imp (po_some h) fun σ H Q h => by
  obtain ⟨β, m, ρ, s, h⟩ := h
  refine td_bind s h fun d m1 v β1 H1 e1 s1 rv h1 => ?_
  cases d with
  | int i =>
    cases rv
    exact ⟨i, rfl, h1.here s1.me⟩
  | non => exact h1.elim
  | bl _ => exact h1.elim
  | str _ => exact h1.elim
  | tup _ => exact h1.elim
  | rol _ => exact h1.elim
  | fix _ => exact h1.elim
  | ref _ => exact h1.elim
  | ty _ => exact h1.elim
theorem cutD_whole {xs : List D} {lo hi : Option Int} (h : HT.sIx xs.length 0 lo = 0 ∧ HT.sIx xs.length xs.length hi = xs.length) : cutD xs lo hi = xs := by
  unfold cutD
  rw [h.1, h.2]
  simp
theorem RpA.cut {β : List Addr} {H : Hp} {xs : List V} {ds : List D} (r : RpA K β H xs ds) (lo hi : Option Int) : RpA K β H (cutV xs lo hi) (cutD ds lo hi) := by
  unfold cutV cutD
  rw [r.length]
  exact (r.drop _).take _
theorem pd_cut {X : Cx} {W : WXD} {e : Expr} {lo hi : Option Expr} {p2 pos : Pos} {f : FE} {l h : FO} (he : PD X W e f) (hl : POD X W lo l) (hh : POD X W hi h) : PD X W (.Subscript e (.Slice lo hi none p2) pos) (fCut f l h) :=
  PE.imp (pe_slice (sl_tupA.or sl_list) he hl hh) fun σ H Q q => by
    obtain ⟨β, m, ρ, s, q⟩ := q
    refine td_bind s q fun a m1 v β1 H1 e1 s1 rv q1 => ?_
    refine ⟨β1, m1, ρ, s1, q1.bind.imp fun o1 m2 β2 H2 _ e2 ok2 q2 => ?_⟩
    refine ⟨β2, m2, ρ, s1.ext e2 ok2, q2.bind.imp fun o2 m3 β3 H3 _ e3 ok3 q3 => ?_⟩
    unfold gCut at q3
    cases a with
    | tup ds =>
      have rv3 := (rv.ext e2).ext e3
      cases rv3 with
      | tup hx rx =>
        refine .inl ⟨_, _, rfl, SqT.of hx, fun hw => ?_, fun _ p hp => ?_⟩
        · rw [rx.length] at hw
          simp only [cutD_whole hw] at q3
          exact q3.here ok3 _ (.tup hx rx)
        · exact q3 β3 _ (Ext.upd_new hp) (ok3.upd_new hp) _ (.tup upd_same ((rx.cut o1 o2).ext (Ext.upd_new hp)))
    | non => exact q3.elim
    | bl _ => exact q3.elim
    | str _ => exact q3.elim
    | int _ => exact q3.elim
    | rol _ => exact q3.elim
    | fix _ => exact q3.elim
    | ref n =>
      simp only at q3
      split at q3
      · rename_i ds hn
        have rv3 := (rv.ext e2).ext e3
        cases rv3 with
        | ref hb =>
          obtain ⟨xs, g1, g2⟩ := ok3.at' _ _ _ hn hb
          refine .inr ⟨_, _, rfl, SqL.of g1, fun p hp => ?_⟩
          exact q3 (β3 ++ [p]) _ (Ext.lay hp) (ok3.lay hp (g2.cut o1 o2)) _ (Rp.last ok3)
      · exact q3.elim
    | ty _ => exact q3.elim

/-! ### displays -/
def fNil : FA := fun _ m => .ok [] m
def fCons (f : FE) (g : FA) : FA := fun ρ m => (f ρ m).bind fun d m => (g ρ m).bind fun ds m => .ok (d :: ds) m
theorem pad_nil {X : Cx} {W : WXD} : PAD X W [] fNil := PA.imp pa_nil fun σ H Q h => by
  obtain ⟨β, m, ρ, s, h⟩ := h
  exact h.here s.me [] .nil
theorem pad_cons {X : Cx} {W : WXD} {e : Expr} {es : List Expr} {f : FE} {g : FA} (he : PD X W e f) (hr : PAD X W es g) (hs : starEach (e :: es) X.env = (false, eval e X.env) :: starEach es X.env := by rfl) : PAD X W (e :: es) (fCons f g) :=
  PA.imp (pa_cons he hr hs) fun σ H Q h => by
    obtain ⟨β, m, ρ, s, h⟩ := h
    refine td_bind s h fun d m1 v β1 H1 e1 s1 rv h1 => ?_
    refine tad_bind s1 h1 fun ds m2 vs β2 H2 e2 s2 rs h2 => ?_
    exact h2.here s2.me _ (.cons (rv.ext e2) rs)
def fTup (f : FA) : FE := fun ρ m => (f ρ m).bind fun ds m => if ds.length ≤ LIM then .ok (.tup ds) m else .bad
theorem pd_tup {X : Cx} {W : WXD} {es : List Expr} {k : Nat} {pos : Pos} {f : FA} (h : PAD X W es f) : PD X W (.Tuple es k pos) (fTup f) := PE.imp (pe_tup h) fun σ H Q q => by
  obtain ⟨β, m, ρ, s, q⟩ := q
  refine tad_bind s q fun ds m1 vs β1 H1 e1 s1 rs q1 => ?_
  split at q1
  · rename_i hl
    exact ⟨lim_le (by rw [rs.length]; exact hl), fun p hp => q1 β1 _ (Ext.upd_new hp) (s1.me.upd_new hp) _ (.tup upd_same (rs.ext (Ext.upd_new hp)))⟩
  · exact q1.elim
/-- a new list, not named -/
def fLst (f : FA) : FA := fun ρ m => (f ρ m).bind fun ds m => if ds.length ≤ LIM then .ok ds m else .bad
theorem pld_lst {X : Cx} {W : WXD} {es : List Expr} {pos : Pos} {f : FA} (h : PAD X W es f) : PLD X W (.List es pos) (fLst f) := PE.imp (pe_lst h) fun σ H Q q => by
  obtain ⟨β, m, ρ, s, q⟩ := q
  refine tad_bind s q fun ds m1 vs β1 H1 e1 s1 rs q1 => ?_
  split at q1
  · rename_i hl
    refine ⟨lim_le (by rw [rs.length]; exact hl), fun p hp => ?_⟩
    have hp0 : H p = none := by
      cases hq : H p with
      | none => rfl
      | some o =>
        by_cases hb : p ∈ β
        · obtain ⟨xs, hx⟩ := s1.me.there (by obtain ⟨γ, rfl⟩ := e1.pre; exact List.mem_append_left _ hb)
          rw [hp] at hx; cases hx
        · rw [e1.keep p o hq hb] at hp; cases hp
    exact q1 β1 _ (Ext.upd_new hp) (s1.me.upd_new hp) p vs hp0 (s1.me.fresh hp) upd_same (rs.ext (Ext.upd_new hp))
  · exact q1.elim
/-- .. and named -/
def fName (f : FA) : FE := fun ρ m => (f ρ m).bind fun ds m => .ok (.ref m.length) (m ++ [.lst ds])
theorem pd_name {X : Cx} {W : WXD} {e : Expr} {f : FA} (h : PLD X W e f) : PD X W e (fName f) := PE.imp h fun σ H Q q => by
  obtain ⟨β, m, ρ, s, q⟩ := q
  refine tld_bind s q fun ds m1 p xs β1 H1 e1 s1 hp0 hb hp rs q1 => ?_
  exact q1 (β1 ++ [p]) H1 (Ext.adopt' hp0 e1) (s1.me.adopt hb hp rs) _ (Rp.last s1.me)
end
end Dl

/-! DL4: tests, and/or/not, ==, repr, isinstance. -/
namespace Dl
open PySem PySem.Spec PyProof.Rows L2

/-! ### tests -/
abbrev PWD (X : Cx) (W : WXD) (e : Expr) (f : FT) : Prop := PW X e (tTD X.K W f)
def fAndT (t u : FT) : FT := fun ρ m => (t ρ m).bind fun b m => if b then u ρ m else .ok false m
def fOrT (t u : FT) : FT := fun ρ m => (t ρ m).bind fun b m => if b then .ok true m else u ρ m
def fNotT (t : FT) : FT := fun ρ m => (t ρ m).bind fun b m => .ok (!b) m
section
variable {X : Cx} {W : WXD} {a b c : Expr} {rest : List Expr} {pos : Pos} {t u : FT} {fa fb fc : FE}
theorem pwd_and1 (ha : PTD X W a t) : PWD X W (.BoolOp .And [a] pos) t := pw_and1 ha
theorem pwd_or1 (ha : PTD X W a t) : PWD X W (.BoolOp .Or [a] pos) t := pw_or1 ha
theorem pwd_and (ha : PTD X W a t) (hb : PWD X W (.BoolOp .And (b :: rest) pos) u) : PWD X W (.BoolOp .And (a :: b :: rest) pos) (fAndT t u) :=
  PW.imp (pw_and ha hb) fun σ H Q q => by
    obtain ⟨β, m, ρ, s, q⟩ := q
    refine ttd_bind s q fun b m1 β1 H1 e1 s1 q1 => ?_
    cases b with
    | true => exact ⟨β1, m1, ρ, s1, q1⟩
    | false => exact q1.here s1.me
theorem pwd_or (ha : PTD X W a t) (hb : PWD X W (.BoolOp .Or (b :: rest) pos) u) : PWD X W (.BoolOp .Or (a :: b :: rest) pos) (fOrT t u) :=
  PW.imp (pw_or ha hb) fun σ H Q q => by
    obtain ⟨β, m, ρ, s, q⟩ := q
    refine ttd_bind s q fun b m1 β1 H1 e1 s1 q1 => ?_
    cases b with
    | true => exact q1.here s1.me
    | false => exact ⟨β1, m1, ρ, s1, q1⟩
theorem ptd_w (h : PWD X W a t) : PTD X W a t := PW.pt h
theorem ptd_not (ha : PTD X W a t) : PTD X W (.UnaryOp .Not a pos) (fNotT t) := PT.imp (pt_not ha) fun σ H Q q => by
  obtain ⟨β, m, ρ, s, q⟩ := q
  exact ttd_bind s q fun b m1 β1 H1 e1 s1 q1 => q1.here s1.me
/-- and, or, not as values: all but the last are True or False -/
def fAndV (f g : FE) : FE := fun ρ m => (f ρ m).bind fun d m => match d with
  | .bl true => g ρ m
  | .bl false => .ok (.bl false) m
  | _ => .bad
def fOrV (f g : FE) : FE := fun ρ m => (f ρ m).bind fun d m => match d with
  | .bl true => .ok (.bl true) m
  | .bl false => g ρ m
  | _ => .bad
def fNotV (f : FE) : FE := fun ρ m => (f ρ m).bind fun d m => match d with
  | .bl b => .ok (.bl (!b)) m
  | _ => .bad
theorem pd_one {op} (h : PD X W a fa) : PD X W (.BoolOp op [a] pos) fa := pe_one h
theorem pd_and (ha : PD X W a fa) (hb : PD X W (.BoolOp .And (b :: rest) pos) fb) : PD X W (.BoolOp .And (a :: b :: rest) pos) (fAndV fa fb) :=
  PE.imp (pe_and ha hb) fun σ H Q q => by
    obtain ⟨β, m, ρ, s, q⟩ := q
    refine td_bind s q fun d m1 v β1 H1 e1 s1 rv q1 => ?_
    split at q1
    · cases rv
      exact ⟨true, rfl, β1, m1, ρ, s1, q1⟩
    · cases rv
      exact ⟨false, rfl, q1.here s1.me _ (.bl false)⟩
    · exact q1.elim
theorem pd_or (ha : PD X W a fa) (hb : PD X W (.BoolOp .Or (b :: rest) pos) fb) : PD X W (.BoolOp .Or (a :: b :: rest) pos) (fOrV fa fb) :=
  PE.imp (pe_or ha hb) fun σ H Q q => by
    obtain ⟨β, m, ρ, s, q⟩ := q
    refine td_bind s q fun d m1 v β1 H1 e1 s1 rv q1 => ?_
    split at q1
    · cases rv
      exact ⟨true, rfl, q1.here s1.me _ (.bl true)⟩
    · cases rv
      exact ⟨false, rfl, β1, m1, ρ, s1, q1⟩
    · exact q1.elim
theorem pd_not (ha : PD X W a fa) : PD X W (.UnaryOp .Not a pos) (fNotV fa) := PE.imp (pe_not ha) fun σ H Q q => by
  obtain ⟨β, m, ρ, s, q⟩ := q
  refine td_bind s q fun d m1 v β1 H1 e1 s1 rv q1 => ?_
  split at q1
  · cases rv
    exact ⟨_, rfl, q1.here s1.me _ (.bl _)⟩
  · exact q1.elim
def fIf (t : FT) (f g : FE) : FE := fun ρ m => (t ρ m).bind fun b m => if b then f ρ m else g ρ m
theorem pd_if (hc : PTD X W c t) (ha : PD X W a fa) (hb : PD X W b fb) : PD X W (.IfExp c a b pos) (fIf t fa fb) := PE.imp (pe_ifExp hc ha hb) fun σ H Q q => by
  obtain ⟨β, m, ρ, s, q⟩ := q
  refine ttd_bind s q fun d m1 β1 H1 e1 s1 q1 => ?_
  cases d with
  | true => exact ⟨β1, m1, ρ, s1, q1⟩
  | false => exact ⟨β1, m1, ρ, s1, q1⟩
/-- a < b < c -/
def fChain (g g' : D → D → M → Res D) (f1 f2 f3 : FE) : FE := fun ρ m => (f1 ρ m).bind fun a m => (f2 ρ m).bind fun b m => (g a b m).bind fun d m => match d with
  | .bl true => (f3 ρ m).bind fun c m => g' b c m
  | .bl false => .ok (.bl false) m
  | _ => .bad
theorem td_chain {K : PySem.W.Frag} {r r' : R2} {g g' : D → D → M → Res D} (hr : OpD K r g) (hr' : OpD K r' g') {σ : Sg} {H : Hp} {Q : VK} (q : tD K W (fChain g g' fa fb fc) σ H Q) : tChain r r' (tD K W fa) (tD K W fb) (tD K W fc) σ H Q := by
  obtain ⟨β, m, ρ, s, q⟩ := q
  refine td_bind s q fun d1 m1 v1 β1 H1 e1 s1 rv1 q1 => ?_
  refine td_bind s1 q1 fun d2 m2 v2 β2 H2 e2 s2 rv2 q2 => ?_
  refine hr (W σ) β2 H2 m2 v1 v2 d1 d2 _ s2.me (rv1.ext e2) rv2 (q2.bind.imp fun d m3 β3 H3 _ e3 ok3 q3 v rv => ?_)
  split at q3
  · cases rv
    refine ⟨true, rfl, ?_⟩
    rw [if_pos rfl]
    refine td_bind (s2.ext e3 ok3) q3 fun d4 m4 v4 β4 H4 e4 s4 rv4 q4 => ?_
    exact hr' (W σ) β4 H4 m4 v2 v4 d2 d4 _ s4.me ((rv2.ext e3).ext e4) rv4 q4
  · cases rv
    refine ⟨false, rfl, ?_⟩
    rw [if_neg Bool.false_ne_true]
    exact q3.here ok3 _ (.bl false)
  · exact q3.elim
end

/-! ### data as a whole -/
mutual
def D.toP (r : Nat → Option PyData) : D → Option PyData
  | .non => some .none
  | .bl b => some (.bool b)
  | .int i => some (.int i)
  | .str x => some (.str x)
  | .tup ds => (D.toPs r ds).map .tuple
  | .rol ds => (D.toPs r ds).map .list
  | .fix ds => (D.toPs r ds).map .tuple
  | .ref n => r n
  | .ty _ => none
def D.toPs (r : Nat → Option PyData) : List D → Option (List PyData)
  | [] => some []
  | d :: ds => match D.toP r d, D.toPs r ds with
    | some p, some ps => some (p :: ps)
    | _, _ => none
end
/-- up to three lists deep -/
def pdM : Nat → M → D → Option PyData
  | 0, _, d => d.toP fun _ => none
  | k + 1, m, d => d.toP fun n => match m[n]? with
    | some (.lst ds) => (allS (ds.map (pdM k m))).map .list
    | _ => none
where allS : List (Option PyData) → Option (List PyData)
  | [] => some []
  | some p :: r => (allS r).map (p :: ·)
  | none :: _ => none
section
variable {K : PySem.W.Frag} {β : List Addr} {H : Hp} {m : M}
mutual
theorem dp_of {r : Nat → Option PyData} (hr : ∀ n a p, β[n]? = some a → r n = some p → Dp K H (.ref a) p) : ∀ {v : V} {d : D} {p : PyData}, Rp K β H v d → d.toP r = some p → Dp K H v p
  | _, _, _, .non, h => by simp only [D.toP] at h; cases h; exact .non
  | _, _, _, .bl b, h => by simp only [D.toP] at h; cases h; exact .bl b
  | _, _, _, .int i, h => by simp only [D.toP] at h; cases h; exact .int i
  | _, _, _, .str x, h => by simp only [D.toP] at h; cases h; exact .str x
  | _, _, _, .tup (ds := ds) hs rs, h => by
    simp only [D.toP] at h
    cases hq : D.toPs r ds with
    | none => rw [hq] at h; cases h
    | some ps =>
      rw [hq] at h
      cases h
      exact .tup (SqT.of hs) (dps_of hr rs hq)
  | _, _, _, .rol (ds := ds) hs rs, h => by
    simp only [D.toP] at h
    cases hq : D.toPs r ds with
    | none => rw [hq] at h; cases h
    | some ps =>
      rw [hq] at h
      cases h
      exact .lst hs.sql (dps_of hr rs hq)
  | _, _, _, .fix (ds := ds) hs rs, h => by
    simp only [D.toP] at h
    cases hq : D.toPs r ds with
    | none => rw [hq] at h; cases h
    | some ps =>
      rw [hq] at h
      cases h
      exact .tup hs.sqt (dps_of hr rs hq)
  | _, _, _, .ref hb, h => hr _ _ _ hb (by simpa only [D.toP] using h)
  | _, _, _, .ty _, h => by simp only [D.toP] at h; cases h
theorem dps_of {r : Nat → Option PyData} (hr : ∀ n a p, β[n]? = some a → r n = some p → Dp K H (.ref a) p) : ∀ {vs : List V} {ds : List D} {ps : List PyData}, RpA K β H vs ds → D.toPs r ds = some ps → DpAll K H vs ps
  | _, _, _, .nil, h => by simp only [D.toPs] at h; cases h; exact .nil
  | _, _, _, .cons (d := d) (ds := ds) h1 h2, h => by
    simp only [D.toPs] at h
    cases hd : D.toP r d with
    | none => rw [hd] at h; cases h
    | some p =>
      cases hds : D.toPs r ds with
      | none => rw [hd, hds] at h; cases h
      | some ps =>
        rw [hd, hds] at h
        cases h
        exact .cons (dp_of hr h1 hd) (dps_of hr h2 hds)
end
theorem dp_pdM (ok : MOk K β H m) : ∀ (k : Nat) {v : V} {d : D} {p : PyData}, Rp K β H v d → pdM k m d = some p → Dp K H v p
  | 0, v, d, p, r, h => dp_of (r := fun _ => none) (fun _ _ _ _ h => by cases h) r h
  | k + 1, v, d, p, r, h => by
    refine dp_of (r := _) (fun n a p' hb hp => ?_) r h
    have all : ∀ {vs : List V} {ds : List D} {ps : List PyData}, RpA K β H vs ds → pdM.allS (ds.map (pdM k m)) = some ps → DpAll K H vs ps := by
      intro vs ds
      induction ds generalizing vs with
      | nil =>
        intro ps r h
        cases r
        simp only [List.map_nil, pdM.allS] at h
        cases h
        exact .nil
      | cons d ds ih =>
        intro ps r h
        cases r with
        | cons r1 r2 =>
          rw [List.map_cons] at h
          cases hd : pdM k m d with
          | none => rw [hd] at h; simp only [pdM.allS] at h; cases h
          | some p =>
            rw [hd] at h
            simp only [pdM.allS] at h
            cases hs : pdM.allS (ds.map (pdM k m)) with
            | none => rw [hs] at h; cases h
            | some qs =>
              rw [hs] at h
              cases h
              exact .cons (dp_pdM ok k r1 hd) (ih r2 hs)
    obtain ⟨o, ho, hok⟩ := ok.obj hb
    cases o with
    | lst ds =>
      simp only [ho] at hp
      cases hq : pdM.allS (ds.map (pdM k m)) with
      | none => rw [hq] at hp; cases hp
      | some qs =>
        rw [hq] at hp
        cases hp
        obtain ⟨xs, h1, h2⟩ := hok
        exact .lst (SqL.of h1) (all h2 hq)
    | dct t kvs =>
      simp only [ho] at hp
      cases hp
    | fz t kvs =>
      simp only [ho] at hp
      cases hp
end
def DEEP : Nat := 3
/-- no dict within, not too deep -/
def flatP (p : PyData) : Bool := p.plain && decide (p.depth ≤ 64)
def gEq : D → D → M → Res D := fun a b m => match pdM DEEP m a, pdM DEEP m b with
  | some p, some q => if flatP p && flatP q then .ok (.bl (PyData.eqv p q)) m else .bad
  | _, _ => .bad
def gNe : D → D → M → Res D := fun a b m => match pdM DEEP m a, pdM DEEP m b with
  | some p, some q => if flatP p && flatP q then .ok (.bl (!PyData.eqv p q)) m else .bad
  | _, _ => .bad
def rSame (K : PySem.W.Frag) (g : Bool → Bool) : R2 := fun x y H Q => ∃ d e, Dp K H x d ∧ Dp K H y e ∧ flatP d = true ∧ flatP e = true ∧ Q (.bl (g (PyData.eqv d e))) H
theorem flat_room {X : Cx} {d e : PyData} (hu : X.A.units + 64 < cLine) (h : flatP d = true) : X.A.units + min d.depth e.depth < cLine := by
  have h1 : d.depth ≤ 64 := of_decide_eq_true (Bool.and_eq_true_iff.mp h).2
  have := Nat.min_le_left d.depth e.depth
  omega
theorem op_same {X : Cx} (hu : X.A.units + 64 < cLine) : OpR X (compareOp .Eq) (rSame X.K id) := by
  rintro pins s σ H x y v u Q I rx ry ⟨d, e, hd, he, fd, fe, q⟩
  obtain ⟨as, r1⟩ := Dp.reads I d x v hd rx
  obtain ⟨bs, r2⟩ := Dp.reads I e y u he ry
  exact SeqAt.eq_plain r1 r2 (Bool.and_eq_true_iff.mp fd).1 (Bool.and_eq_true_iff.mp fe).1 (flat_room hu fd) ⟨.bl _, H, I, rfl, q⟩
theorem op_other {X : Cx} (hu : X.A.units + 64 < cLine) : OpR X (compareOp .NotEq) (rSame X.K not) := by
  rintro pins s σ H x y v u Q I rx ry ⟨d, e, hd, he, fd, fe, q⟩
  obtain ⟨as, r1⟩ := Dp.reads I d x v hd rx
  obtain ⟨bs, r2⟩ := Dp.reads I e y u he ry
  exact SeqAt.ne_plain r1 r2 (Bool.and_eq_true_iff.mp fd).1 (Bool.and_eq_true_iff.mp fe).1 (flat_room hu fd) ⟨.bl _, H, I, rfl, q⟩
theorem opd_eq {K : PySem.W.Frag} : OpD K (rSame K id) gEq := by
  intro Wx β H m x y a b Q ok ra rb h
  unfold gEq at h
  split at h
  · rename_i p q hp hq
    split at h
    · rename_i hs
      rw [Bool.and_eq_true] at hs
      exact ⟨p, q, dp_pdM ok _ ra hp, dp_pdM ok _ rb hq, hs.1, hs.2, h.here ok _ (.bl _)⟩
    · exact h.elim
  · exact h.elim
theorem opd_ne {K : PySem.W.Frag} : OpD K (rSame K not) gNe := by
  intro Wx β H m x y a b Q ok ra rb h
  unfold gNe at h
  split at h
  · rename_i p q hp hq
    split at h
    · rename_i hs
      rw [Bool.and_eq_true] at hs
      exact ⟨p, q, dp_pdM ok _ ra hp, dp_pdM ok _ rb hq, hs.1, hs.2, h.here ok _ (.bl _)⟩
    · exact h.elim
  · exact h.elim
def D.isN : D → Bool
  | .non => true
  | _ => false
def gIsN : D → M → Res D := fun a m => .ok (.bl a.isN) m
def gNotN : D → M → Res D := fun a m => .ok (.bl (!a.isN)) m
def fUn (g : D → M → Res D) (f : FE) : FE := fun ρ m => (f ρ m).bind g
section
variable {X : Cx} {W : WXD} {a b : Expr} {pos : Pos} {fa fb : FE}
theorem pd_eq (hu : X.A.units + 64 < cLine) (ha : PD X W a fa) (hb : PD X W b fb) : PD X W (.Compare a [.Eq] [b] pos) (fOp gEq fa fb) := pd_cmp (op_same hu) opd_eq ha hb (nomark _)
theorem pd_ne (hu : X.A.units + 64 < cLine) (ha : PD X W a fa) (hb : PD X W b fb) : PD X W (.Compare a [.NotEq] [b] pos) (fOp gNe fa fb) := pd_cmp (op_other hu) opd_ne ha hb (nomark _)
theorem ptd_eq (hu : X.A.units + 64 < cLine) (ha : PD X W a fa) (hb : PD X W b fb) : PTD X W (.Compare a [.Eq] [b] pos) (fTest (fOp gEq fa fb)) := ptd_cmp (op_same hu) opd_eq ha hb (nomark _)
theorem ptd_ne (hu : X.A.units + 64 < cLine) (ha : PD X W a fa) (hb : PD X W b fb) : PTD X W (.Compare a [.NotEq] [b] pos) (fTest (fOp gNe fa fb)) := ptd_cmp (op_other hu) opd_ne ha hb (nomark _)
theorem rp_non {K : PySem.W.Frag} {β : List Addr} {H : Hp} {v : V} {d : D} (r : Rp K β H v d) : decide (v = .non) = d.isN := by
  cases r <;> simp [D.isN]
theorem pd_isN {j pos'} (ha : PD X W a fa) : PD X W (.Compare a [.Is] [.Constant .none j pos'] pos) (fUn gIsN fa) := PE.imp (pe_cmp (pc_isN ha) rfl) fun σ H Q q => by
  obtain ⟨β, m, ρ, s, q⟩ := q
  refine td_bind s q fun d m1 v β1 H1 e1 s1 rv q1 => ?_
  rw [rp_non rv]
  exact q1.here s1.me _ (.bl _)
theorem pd_notN {j pos'} (ha : PD X W a fa) : PD X W (.Compare a [.IsNot] [.Constant .none j pos'] pos) (fUn gNotN fa) := PE.imp (pe_cmp (pc_notN ha) rfl) fun σ H Q q => by
  obtain ⟨β, m, ρ, s, q⟩ := q
  refine td_bind s q fun d m1 v β1 H1 e1 s1 rv q1 => ?_
  rw [rp_non rv]
  exact q1.here s1.me _ (.bl _)
def fIsNT (f : FE) : FT := fun ρ m => (f ρ m).bind fun d m => .ok d.isN m
def fNotNT (f : FE) : FT := fun ρ m => (f ρ m).bind fun d m => .ok (!d.isN) m
theorem ptd_isN {j pos'} (ha : PD X W a fa) : PTD X W (.Compare a [.Is] [.Constant .none j pos'] pos) (fIsNT fa) := PT.imp (pt_cmp (pc_isN ha) rfl) fun σ H Q q => by
  obtain ⟨β, m, ρ, s, q⟩ := q
  refine td_bind s q fun d m1 v β1 H1 e1 s1 rv q1 => ?_
  exact ⟨_, rfl, by rw [rp_non rv]; exact q1.here s1.me⟩
theorem ptd_notN {j pos'} (ha : PD X W a fa) : PTD X W (.Compare a [.IsNot] [.Constant .none j pos'] pos) (fNotNT fa) := PT.imp (pt_cmp (pc_notN ha) rfl) fun σ H Q q => by
  obtain ⟨β, m, ρ, s, q⟩ := q
  refine td_bind s q fun d m1 v β1 H1 e1 s1 rv q1 => ?_
  exact ⟨_, rfl, by rw [rp_non rv]; exact q1.here s1.me⟩
end

/-! ### repr -/
def rRepr (K : PySem.W.Frag) : List V → Hp → VK → Prop := fun xs H Q => ∃ v d, xs = [v] ∧ Dp K H v d ∧ d.showable = true ∧ d.hasDict = false ∧ d.depth ≤ 60 ∧ d.shown.length ≤ sizeLine ∧ Q (.str d.shown) H
theorem cr_repr {X : Cx} (hg : X.A.guards = some []) (hu : X.A.units + 64 < cLine) : CallR X (.builtin "repr") (rRepr X.K) := by
  intro pins s σ H xs us Q I rv h
  obtain ⟨v, d, rfl, hd, hs, hn, hdep, hl, q⟩ := h
  obtain ⟨u, rfl, ru⟩ := vals1 rv
  cases hd with
  | non =>
    cases ru
    exact PySem.P.repr_of_none ⟨.str _, H, I.tok _, ⟨_, rfl⟩, q⟩
  | bl b =>
    cases ru
    exact PySem.P.repr_of_bool ⟨.str _, H, I.tok _, ⟨_, rfl⟩, q⟩
  | int i =>
    obtain ⟨t, rfl⟩ := ru
    exact PySem.P.repr_of_int (by simpa [PyData.showable] using hs) ⟨.str _, H, I.tok _, ⟨_, rfl⟩, q⟩
  | str x =>
    obtain ⟨t, rfl⟩ := ru
    exact PySem.P.repr_of_str ⟨.str _, H, I.tok _, ⟨_, rfl⟩, q⟩ hl
  | lst h1 h2 =>
    obtain ⟨as, hr⟩ := Dp.reads I _ _ u (.lst h1 h2) ru
    cases ru
    exact repr_of_reads' hr hs (PyData.noDict_hsm hn) hg (by omega) (fun _ _ h => h) (fun h' u' tk hk => ⟨.str _, H, I.kept (t' := tk) hk, ⟨_, rfl⟩, q⟩) hl
  | tup h1 h2 =>
    obtain ⟨as, hr⟩ := Dp.reads I _ _ u (.tup h1 h2) ru
    cases ru
    exact repr_of_reads' hr hs (PyData.noDict_hsm hn) hg (by omega) (fun _ _ h => h) (fun h' u' tk hk => ⟨.str _, H, I.kept (t' := tk) hk, ⟨_, rfl⟩, q⟩) hl
end Dl

/-! DL5: calls of built-ins by values; isinstance; methods of lists. -/
namespace Dl
open PySem PySem.Spec PyProof.Rows L2

/-! ### by values -/
def CD (K : PySem.W.Frag) (r : List V → Hp → VK → Prop) (g : List D → M → Res D) : Prop :=
  ∀ (Wx : Exn → List Addr → Hp → Prop) (β : List Addr) (H : Hp) (m : M) (vs : List V) (ds : List D) (Q : VK), MOk K β H m → RpA K β H vs ds →
    okD K Wx β H (g ds m) (fun d _ β' H' => ∀ v, Rp K β' H' v d → Q v H') → r vs H Q
/-- of a new list -/
def CDL (K : PySem.W.Frag) (r : List V → Hp → VK → Prop) (g : List D → M → Res D) : Prop :=
  ∀ (Wx : Exn → List Addr → Hp → Prop) (β : List Addr) (H : Hp) (m : M) (p : Addr) (vs : List V) (ds : List D) (Q : VK), MOk K β H m → H p = some (.lst vs) → RpA K β H vs ds →
    okD K Wx β H (g ds m) (fun d _ β' H' => ∀ v, Rp K β' H' v d → Q v H') → r [.ref p] H Q
def fCB (g : List D → M → Res D) (f : FA) : FE := fun ρ m => (f ρ m).bind g
section
variable {X : Cx} {W : WXD} {x : Str} {p pos : Pos} {e : Expr} {es : List Expr} {f : FA} {id T : String} {r : List V → Hp → VK → Prop} {g : List D → M → Res D}
theorem td_cb {K : PySem.W.Frag} (hg : CD K r g) {σ : Sg} {H : Hp} {Q : VK} (q : tD K W (fCB g f) σ H Q) : tCB r (tAD K W f) σ H Q := by
  obtain ⟨β, m, ρ, s, q⟩ := q
  exact tad_bind s q fun ds m1 vs β1 H1 e1 s1 rs q1 => hg _ β1 H1 m1 vs ds Q s1.me rs q1
theorem td_cbL {K : PySem.W.Frag} (hg : CDL K r g) {σ : Sg} {H : Hp} {Q : VK} (q : tD K W (fCB g f) σ H Q) : tCB r (tCons (tLD K W f) tNil) σ H Q := by
  obtain ⟨β, m, ρ, s, q⟩ := q
  show tLD K W f σ H fun x H1 => r [x] H1 Q
  exact tld_bind s q fun ds m1 p xs β1 H1 e1 s1 _ _ hp rs q1 => hg _ β1 H1 m1 p xs ds Q s1.me hp rs (q1.ext e1)
theorem pd_callB (hc : CallR X (.builtin id) r) (hcd : CD X.K r g) (hg : Gl X x) (hm : X.mg x = none) (hv : bootBuiltins x = some (.builtin id)) (ha : PAD X W (e :: es) f) (hn : x ≠ "__name__" := by decide) (hdb : (x == ("__debug__" : Str)) = false := by decide)
    (he : starEach (e :: es) X.env = (false, eval e X.env) :: starEach es X.env := by rfl) (hpl : (backTo pos (starEach es X.env)).any (·.1) = false := by rfl) : PD X W (.Call (.Name x p) (e :: es) [] pos) (fCB g f) :=
  PE.imp (pe_callB hc hg hm hv ha hn hdb he hpl) fun _ _ _ q => td_cb hcd q
theorem pd_callTy (hc : CallR X (.type T) r) (hcd : CD X.K r g) (hg : Gl X x) (hm : X.mg x = none) (hv : bootBuiltins x = some (.type T)) (ha : PAD X W (e :: es) f) (hn : x ≠ "__name__" := by decide) (hdb : (x == ("__debug__" : Str)) = false := by decide)
    (he : starEach (e :: es) X.env = (false, eval e X.env) :: starEach es X.env := by rfl) (hpl : (backTo pos (starEach es X.env)).any (·.1) = false := by rfl) : PD X W (.Call (.Name x p) (e :: es) [] pos) (fCB g f) :=
  PE.imp (pe_callTy hc hg hm hv ha hn hdb he hpl) fun _ _ _ q => td_cb hcd q
theorem pd_callBL (hc : CallR X (.builtin id) r) (hcd : CDL X.K r g) (hg : Gl X x) (hm : X.mg x = none) (hv : bootBuiltins x = some (.builtin id)) (ha : PLD X W e f) (hn : x ≠ "__name__" := by decide) (hdb : (x == ("__debug__" : Str)) = false := by decide)
    (he : starEach [e] X.env = (false, eval e X.env) :: starEach [] X.env := by rfl) : PD X W (.Call (.Name x p) [e] [] pos) (fCB g f) :=
  PE.imp (pe_callB hc hg hm hv (pa_cons ha pa_nil he) hn hdb he rfl) fun _ _ _ q => td_cbL hcd q
theorem pd_callTyL (hc : CallR X (.type T) r) (hcd : CDL X.K r g) (hg : Gl X x) (hm : X.mg x = none) (hv : bootBuiltins x = some (.type T)) (ha : PLD X W e f) (hn : x ≠ "__name__" := by decide) (hdb : (x == ("__debug__" : Str)) = false := by decide)
    (he : starEach [e] X.env = (false, eval e X.env) :: starEach [] X.env := by rfl) : PD X W (.Call (.Name x p) [e] [] pos) (fCB g f) :=
  PE.imp (pe_callTy hc hg hm hv (pa_cons ha pa_nil he) hn hdb he rfl) fun _ _ _ q => td_cbL hcd q
end

/-! ### what built-ins give -/
def itemsD (m : M) : D → Option (List D)
  | .tup ds => some ds
  | .rol ds => some ds
  | .fix ds => some ds
  | .ref n => match m[n]? with
    | some (.lst ds) => some ds
    | _ => none
  | _ => none
section
variable {K : PySem.W.Frag} {β : List Addr} {H : Hp} {m : M}
theorem items_of' (ok : MOk K β H m) {v : V} {d : D} {ds : List D} (r : Rp K β H v d) (h : itemsD m d = some ds) : ∃ p xs, v = .ref p ∧ (SqL K H p xs ∨ H p = some (.tup xs) ∨ (d = .fix ds ∧ FixT H p xs)) ∧ RpA K β H xs ds := by
  cases r with
  | tup hs rs => simp only [itemsD] at h; cases h; exact ⟨_, _, rfl, .inr (.inl hs), rs⟩
  | fix hs rs => simp only [itemsD] at h; cases h; exact ⟨_, _, rfl, .inr (.inr ⟨rfl, hs⟩), rs⟩
  | rol hs rs => simp only [itemsD] at h; cases h; exact ⟨_, _, rfl, .inl hs.sql, rs⟩
  | ref hb =>
    obtain ⟨o, ho, hok⟩ := ok.obj hb
    simp only [itemsD, ho] at h
    cases o with
    | lst es =>
      cases h
      obtain ⟨xs, h1, h2⟩ := hok
      exact ⟨_, _, rfl, .inl (SqL.of h1), h2⟩
    | dct t kvs => cases h
    | fz t kvs => cases h
  | non => simp only [itemsD] at h; cases h
  | bl _ => simp only [itemsD] at h; cases h
  | int _ => simp only [itemsD] at h; cases h
  | str _ => simp only [itemsD] at h; cases h
  | ty _ => simp only [itemsD] at h; cases h
theorem items_of (ok : MOk K β H m) {v : V} {d : D} {ds : List D} (r : Rp K β H v d) (h : itemsD m d = some ds) : ∃ p xs, v = .ref p ∧ (SqL K H p xs ∨ SqT K H p xs) ∧ RpA K β H xs ds := by
  obtain ⟨p, xs, e, hs, r'⟩ := items_of' ok r h
  rcases hs with hs | hs | ⟨_, hs⟩
  · exact ⟨p, xs, e, .inl hs, r'⟩
  · exact ⟨p, xs, e, .inr (SqT.of hs), r'⟩
  · exact ⟨p, xs, e, .inr hs.sqt, r'⟩
theorem RpA.one {xs : List V} {d : D} (r : RpA K β H xs [d]) : ∃ v, xs = [v] ∧ Rp K β H v d := by
  cases r with
  | cons h t => cases t; exact ⟨_, rfl, h⟩
theorem RpA.two {xs : List V} {d e : D} (r : RpA K β H xs [d, e]) : ∃ v w, xs = [v, w] ∧ Rp K β H v d ∧ Rp K β H w e := by
  cases r with
  | cons h t =>
    obtain ⟨w, rfl, h2⟩ := t.one
    exact ⟨_, w, rfl, h, h2⟩
end
/-- len -/
def gLen : List D → M → Res D := fun ds m => match ds with
  | [d] => match itemsD m d with
    | some xs => .ok (.int xs.length) m
    | none => match d with
      | .str z => if z.length ≤ LIM then .ok (.int z.length) m else .bad
      | _ => .bad
  | _ => .bad
def rLenD (K : PySem.W.Frag) : List V → Hp → VK → Prop := fun xs H Q => (∃ p ys, xs = [.ref p] ∧ (SqL K H p ys ∨ SqT K H p ys) ∧ Q (.int ys.length) H) ∨ ∃ z, xs = [.str z] ∧ z.length ≤ sizeLine ∧ Q (.int z.length) H
theorem cr_len {X : Cx} : CallR X (.builtin "len") (rLenD X.K) := CallR.or call_len_seq call_len_str
theorem cd_len {K : PySem.W.Frag} : CD K (rLenD K) gLen := by
  intro Wx β H m vs ds Q ok rs h
  unfold gLen at h
  split at h
  · rename_i d
    obtain ⟨v, rfl, rv⟩ := rs.one
    split at h
    · rename_i xs hx
      obtain ⟨p, ys, rfl, hs, ry⟩ := items_of ok rv hx
      exact .inl ⟨p, ys, rfl, hs, h.here ok _ (by rw [ry.length]; exact .int _)⟩
    · split at h
      · rename_i z
        split at h
        · rename_i hl
          cases rv
          exact .inr ⟨_, rfl, lim_le hl, h.here ok _ (.int _)⟩
        · exact h.elim
      · exact h.elim
  · exact h.elim
/-- len of a new list -/
def gLenL : List D → M → Res D := fun ds m => .ok (.int ds.length) m
theorem cdl_len {K : PySem.W.Frag} : CDL K (rLenD K) gLenL := fun Wx β H m p vs ds Q ok hp rs h => .inl ⟨p, vs, rfl, .inl (SqL.of hp), h.here ok _ (by rw [rs.length]; exact .int _)⟩
/-- tuple -/
def tupOf (xs : List D) : D → D
  | .fix ds => .fix ds
  | _ => .tup xs
def gTuple : List D → M → Res D := fun ds m => match ds with
  | [d] => match itemsD m d with
    | some xs => .ok (tupOf xs d) m
    | none => .bad
  | _ => .bad
def rTupleD (K : PySem.W.Frag) : List V → Hp → VK → Prop := fun xs H Q => ∃ p ys, xs = [.ref p] ∧ ((SqL K H p ys ∧ ∀ l, H l = none → Q (.ref l) (upd H l (.tup ys))) ∨ (SqT K H p ys ∧ Q (.ref p) H))
theorem cd_tuple {K : PySem.W.Frag} : CD K (rTupleD K) gTuple := by
  intro Wx β H m vs ds Q ok rs h
  unfold gTuple at h
  split at h
  · rename_i d
    obtain ⟨v, rfl, rv⟩ := rs.one
    split at h
    · rename_i xs hx
      by_cases hf : ∃ zs, d = .fix zs
      · obtain ⟨zs, rfl⟩ := hf
        cases rv with
        | fix h1 h2 => exact ⟨_, _, rfl, .inr ⟨h1.sqt, h.here ok _ (.fix h1 h2)⟩⟩
      · obtain ⟨p, ys, rfl, hs, ry⟩ := items_of' ok rv hx
        refine ⟨p, ys, rfl, ?_⟩
        have ht : tupOf xs d = .tup xs := by
          cases d <;> first | rfl | skip
          rename_i zs
          exact absurd ⟨zs, rfl⟩ hf
        rw [ht] at h
        rcases hs with hs | hs | ⟨hs, _⟩
        · exact .inl ⟨hs, fun l hl => h β _ (Ext.upd_new hl) (ok.upd_new hl) _ (.tup upd_same (ry.ext (Ext.upd_new hl)))⟩
        · exact .inr ⟨SqT.of hs, h.here ok _ (.tup hs ry)⟩
        · exact absurd ⟨_, hs⟩ hf
    · exact h.elim
  · exact h.elim
def gTupleL : List D → M → Res D := fun ds m => .ok (.tup ds) m
theorem cdl_tuple {K : PySem.W.Frag} : CDL K (rTupleD K) gTupleL := fun Wx β H m p vs ds Q ok hp rs h =>
  ⟨p, vs, rfl, .inl ⟨SqL.of hp, fun l hl => h β _ (Ext.upd_new hl) (ok.upd_new hl) _ (.tup upd_same (rs.ext (Ext.upd_new hl)))⟩⟩
/-- list(x): a new list, named -/
def gList : List D → M → Res D := fun ds m => match ds with
  | [d] => match itemsD m d with
    | some xs => .ok (.ref m.length) (m ++ [.lst xs])
    | none => .bad
  | _ => .bad
def rListD (K : PySem.W.Frag) : List V → Hp → VK → Prop := fun xs H Q => ∃ p ys, xs = [.ref p] ∧ (SqL K H p ys ∨ SqT K H p ys) ∧ ∀ l, H l = none → Q (.ref l) (upd H l (.lst ys))
theorem cd_list {K : PySem.W.Frag} : CD K (rListD K) gList := by
  intro Wx β H m vs ds Q ok rs h
  unfold gList at h
  split at h
  · rename_i d
    obtain ⟨v, rfl, rv⟩ := rs.one
    split at h
    · rename_i xs hx
      obtain ⟨p, ys, rfl, hs, ry⟩ := items_of ok rv hx
      exact ⟨p, ys, rfl, hs, fun l hl => h (β ++ [l]) _ (Ext.lay hl) (ok.lay hl ry) _ (Rp.last ok)⟩
    · exact h.elim
  · exact h.elim
/-- numbers and truth values of a list -/
def intsD : List D → Option (List Int)
  | [] => some []
  | .int i :: r => (intsD r).map (i :: ·)
  | _ :: _ => none
def blsD : List D → Option (List Bool)
  | [] => some []
  | .bl b :: r => (blsD r).map (b :: ·)
  | _ :: _ => none
theorem ints_of {K : PySem.W.Frag} {β : List Addr} {H : Hp} : ∀ {ds : List D} {xs : List V} {ns : List Int}, RpA K β H xs ds → intsD ds = some ns → xs = ns.map V.int
  | [], _, _, r, h => by
    cases r
    simp only [intsD] at h
    cases h
    rfl
  | d :: ds, _, _, r, h => by
    cases r with
    | cons r1 r2 =>
      cases d with
      | int i =>
        simp only [intsD] at h
        cases hq : intsD ds with
        | none => rw [hq] at h; cases h
        | some ns =>
          rw [hq] at h
          cases h
          cases r1
          rw [ints_of r2 hq]
          rfl
      | non => simp only [intsD] at h; cases h
      | bl _ => simp only [intsD] at h; cases h
      | str _ => simp only [intsD] at h; cases h
      | tup _ => simp only [intsD] at h; cases h
      | rol _ => simp only [intsD] at h; cases h
      | fix _ => simp only [intsD] at h; cases h
      | ref _ => simp only [intsD] at h; cases h
      | ty _ => simp only [intsD] at h; cases h
theorem bls_of {K : PySem.W.Frag} {β : List Addr} {H : Hp} : ∀ {ds : List D} {xs : List V} {ns : List Bool}, RpA K β H xs ds → blsD ds = some ns → xs = ns.map V.bl
  | [], _, _, r, h => by
    cases r
    simp only [blsD] at h
    cases h
    rfl
  | d :: ds, _, _, r, h => by
    cases r with
    | cons r1 r2 =>
      cases d with
      | bl i =>
        simp only [blsD] at h
        cases hq : blsD ds with
        | none => rw [hq] at h; cases h
        | some ns =>
          rw [hq] at h
          cases h
          cases r1
          rw [bls_of r2 hq]
          rfl
      | non => simp only [blsD] at h; cases h
      | int _ => simp only [blsD] at h; cases h
      | str _ => simp only [blsD] at h; cases h
      | tup _ => simp only [blsD] at h; cases h
      | rol _ => simp only [blsD] at h; cases h
      | fix _ => simp only [blsD] at h; cases h
      | ref _ => simp only [blsD] at h; cases h
      | ty _ => simp only [blsD] at h; cases h
/-- all, any of a new list -/
def gAllL : List D → M → Res D := fun ds m => match blsD ds with
  | some bs => .ok (.bl (bs.all id)) m
  | none => .bad
def gAnyL : List D → M → Res D := fun ds m => match blsD ds with
  | some bs => .ok (.bl (bs.any id)) m
  | none => .bad
theorem cdl_all {K : PySem.W.Frag} : CDL K (rAll K) gAllL := fun Wx β H m p vs ds Q ok hp rs h => by
  unfold gAllL at h
  split at h
  · rename_i bs hb
    rw [bls_of rs hb] at hp
    exact ⟨p, bs, rfl, SqL.of hp, h.here ok _ (.bl _)⟩
  · exact h.elim
theorem cdl_any {K : PySem.W.Frag} : CDL K (rAny K) gAnyL := fun Wx β H m p vs ds Q ok hp rs h => by
  unfold gAnyL at h
  split at h
  · rename_i bs hb
    rw [bls_of rs hb] at hp
    exact ⟨p, bs, rfl, SqL.of hp, h.here ok _ (.bl _)⟩
  · exact h.elim
/-- the greatest, the least of some numbers -/
def maxI : Int → List Int → Int
  | a, [] => a
  | a, b :: r => maxI (if b > a then b else a) r
def minI : Int → List Int → Int
  | a, [] => a
  | a, b :: r => minI (if b < a then b else a) r
theorem maxI_mem : ∀ (a : Int) (r : List Int), maxI a r ∈ a :: r ∧ ∀ y ∈ a :: r, y ≤ maxI a r
  | a, [] => by simp [maxI]
  | a, b :: r => by
    unfold maxI
    by_cases hc : b > a
    · rw [if_pos hc]
      obtain ⟨h1, h2⟩ := maxI_mem b r
      refine ⟨List.mem_cons_of_mem _ h1, fun y hy => ?_⟩
      rcases List.mem_cons.mp hy with h | hy
      · have h0 := h2 b List.mem_cons_self
        omega
      · exact h2 y hy
    · rw [if_neg hc]
      obtain ⟨h1, h2⟩ := maxI_mem a r
      refine ⟨?_, fun y hy => ?_⟩
      · rcases List.mem_cons.mp h1 with h | h
        · rw [h]; exact List.mem_cons_self
        · exact List.mem_cons_of_mem _ (List.mem_cons_of_mem _ h)
      · have h0 := h2 a List.mem_cons_self
        rcases List.mem_cons.mp hy with h | hy
        · omega
        · rcases List.mem_cons.mp hy with h | hy
          · omega
          · exact h2 y (List.mem_cons_of_mem _ hy)
def gMaxL : List D → M → Res D := fun ds m => match intsD ds with
  | some (a :: r) => .ok (.int (maxI a r)) m
  | _ => .bad
theorem cdl_max {K : PySem.W.Frag} : CDL K (rMax K) gMaxL := fun Wx β H m p vs ds Q ok hp rs h => by
  unfold gMaxL at h
  split at h
  · rename_i a r hi
    rw [ints_of rs hi] at hp
    refine ⟨p, _, rfl, SqL.of hp, by simp, fun n hn ha => ?_⟩
    have hm := maxI_mem a r
    have e : n = maxI a r := Int.le_antisymm (hm.2 n hn) (ha _ hm.1)
    rw [e]
    exact h.here ok _ (.int _)
  · exact h.elim
def gSumL : List D → M → Res D := fun ds m => match intsD ds with
  | some ns => .ok (.int ns.sum) m
  | _ => .bad
theorem cdl_sum {K : PySem.W.Frag} : CDL K (rSum K) gSumL := fun Wx β H m p vs ds Q ok hp rs h => by
  unfold gSumL at h
  split at h
  · rename_i ns hi
    rw [ints_of rs hi] at hp
    exact ⟨p, _, rfl, SqL.of hp, h.here ok _ (.int _)⟩
  · exact h.elim
def gMin2 : List D → M → Res D := fun ds m => match ds with
  | [.int i, .int j] => .ok (.int (if j < i then j else i)) m
  | _ => .bad
def gMax2 : List D → M → Res D := fun ds m => match ds with
  | [.int i, .int j] => .ok (.int (if j > i then j else i)) m
  | _ => .bad
def rMin2 : List V → Hp → VK → Prop := fun xs H Q => ∃ i j, xs = [.int i, .int j] ∧ Q (.int (if j < i then j else i)) H
def rMax2 : List V → Hp → VK → Prop := fun xs H Q => ∃ i j, xs = [.int i, .int j] ∧ Q (.int (if j > i then j else i)) H
theorem cd_min2 {K : PySem.W.Frag} : CD K rMin2 gMin2 := fun Wx β H m vs ds Q ok rs h => by
  unfold gMin2 at h
  split at h
  · obtain ⟨v, w, rfl, r1, r2⟩ := rs.two
    cases r1
    cases r2
    exact ⟨_, _, rfl, h.here ok _ (.int _)⟩
  · exact h.elim
theorem cd_max2 {K : PySem.W.Frag} : CD K rMax2 gMax2 := fun Wx β H m vs ds Q ok rs h => by
  unfold gMax2 at h
  split at h
  · obtain ⟨v, w, rfl, r1, r2⟩ := rs.two
    cases r1
    cases r2
    exact ⟨_, _, rfl, h.here ok _ (.int _)⟩
  · exact h.elim
def gAbs : List D → M → Res D := fun ds m => match ds with
  | [.int i] => .ok (.int (if i < 0 then -i else i)) m
  | _ => .bad
theorem cd_abs {K : PySem.W.Frag} : CD K (fun xs H Q => ∃ i, xs = [.int i] ∧ Q (.int (if i < 0 then -i else i)) H) gAbs := fun Wx β H m vs ds Q ok rs h => by
  unfold gAbs at h
  split at h
  · obtain ⟨v, rfl, r1⟩ := rs.one
    cases r1
    exact ⟨_, rfl, h.here ok _ (.int _)⟩
  · exact h.elim
def gInt : List D → M → Res D := fun ds m => match ds with
  | [.int i] => .ok (.int i) m
  | [.bl k] => .ok (.int (if k then 1 else 0)) m
  | _ => .bad
theorem cd_int {K : PySem.W.Frag} : CD K (fun xs H Q => (∃ i, xs = [.int i] ∧ Q (.int i) H) ∨ ∃ k, xs = [.bl k] ∧ Q (.int (if k then 1 else 0)) H) gInt := fun Wx β H m vs ds Q ok rs h => by
  unfold gInt at h
  split at h
  · obtain ⟨v, rfl, r1⟩ := rs.one
    cases r1
    exact .inl ⟨_, rfl, h.here ok _ (.int _)⟩
  · obtain ⟨v, rfl, r1⟩ := rs.one
    cases r1
    exact .inr ⟨_, rfl, h.here ok _ (.int _)⟩
  · exact h.elim
def gRepr : List D → M → Res D := fun ds m => match ds with
  | [d] => match pdM DEEP m d with
    | some p => if p.showable && !p.hasDict && decide (p.depth ≤ 60) && decide (p.shown.length ≤ sizeLine) then .ok (.str p.shown) m else .bad
    | none => .bad
  | _ => .bad
theorem cd_repr {K : PySem.W.Frag} : CD K (rRepr K) gRepr := fun Wx β H m vs ds Q ok rs h => by
  unfold gRepr at h
  split at h
  · obtain ⟨v, rfl, r1⟩ := rs.one
    split at h
    · rename_i p hp
      split at h
      · rename_i hc
        simp only [Bool.and_eq_true, Bool.not_eq_true', decide_eq_true_eq] at hc
        exact ⟨v, p, rfl, dp_pdM ok _ r1 hp, hc.1.1.1, hc.1.1.2, hc.1.2, hc.2, h.here ok _ (.str _)⟩
      · exact h.elim
    · exact h.elim
  · exact h.elim
/-! ### isinstance with types -/
def tyD (m : M) : D → Option String
  | .non => some "NoneType"
  | .bl _ => some "bool"
  | .int _ => some "int"
  | .str _ => some "str"
  | .tup _ => some "tuple"
  | .rol _ => some "list"
  | .fix _ => some "tuple"
  | .ref n => match m[n]? with
    | some (.lst _) => some "list"
    | _ => none
  | .ty _ => none
theorem ty_of {K : PySem.W.Frag} {β : List Addr} {H : Hp} {m : M} (ok : MOk K β H m) {v : V} {d : D} {t : String} (r : Rp K β H v d) (h : tyD m d = some t) : TyX K H v (.type t) := by
  cases r with
  | non => simp only [tyD] at h; cases h; exact .base .non
  | bl b => simp only [tyD] at h; cases h; exact .base (.bl b)
  | int i => simp only [tyD] at h; cases h; exact .base (.int i)
  | str x => simp only [tyD] at h; cases h; exact .base (.str x)
  | tup hs _ =>
    simp only [tyD] at h
    cases h
    exact .base (.tup hs)
  | fix hs _ =>
    simp only [tyD] at h
    cases h
    obtain ⟨o, hs, _⟩ := hs
    exact .fTuple hs
  | rol hs _ =>
    simp only [tyD] at h
    cases h
    rcases hs with ⟨o, hs⟩ | ⟨o, _, _, hk, hc, _⟩
    · exact .base (.frz hs)
    · exact .kList hk hc
  | ref hb =>
    obtain ⟨o, ho, hok⟩ := ok.obj hb
    cases o with
    | lst es =>
      simp only [tyD, ho] at h
      cases h
      obtain ⟨xs, h1, _⟩ := hok
      exact .base (.lst h1)
    | dct t kvs =>
      simp only [tyD, ho] at h
      cases h
    | fz t kvs =>
      simp only [tyD, ho] at h
      cases h
  | ty _ => simp only [tyD] at h; cases h
def fIsi (T : String) (f : FE) : FE := fun ρ m => (f ρ m).bind fun d m => match tyD m d with
  | some t => match kitB t T with
    | some b => .ok (.bl b) m
    | none => .bad
  | none => .bad
def isi2 (t T1 T2 : String) : Option Bool := match kitB t T1, kitB t T2 with
  | some a, some b => some (a || b)
  | _, _ => none
def fIsi2 (T1 T2 : String) (f : FE) : FE := fun ρ m => (f ρ m).bind fun d m => match tyD m d with
  | some t => match isi2 t T1 T2 with
    | some b => .ok (.bl b) m
    | none => .bad
  | none => .bad
theorem pd_isi {X : Cx} {W : WXD} {e : Expr} {f : FE} {T : String} {x : Str} {p p2 pos : Pos} (hg : Gl X "isinstance") (hm : X.mg "isinstance" = none) (hgT : Gl X x) (hmT : X.mg x = none) (hvT : bootBuiltins x = some (.type T)) (he : PD X W e f)
    (hn : x ≠ "__name__" := by decide) (hd : (x == ("__debug__" : Str)) = false := by decide)
    (hs : starEach [e, .Name x p2] X.env = (false, eval e X.env) :: starEach [.Name x p2] X.env := by rfl) (hs2 : starEach [.Name x p2] X.env = (false, eval (.Name x p2) X.env) :: starEach [] X.env := by rfl)
    (hpl : (backTo pos (starEach [.Name x p2] X.env)).any (·.1) = false := by rfl) : PD X W (.Call (.Name "isinstance" p) [e, .Name x p2] [] pos) (fIsi T f) :=
  PE.imp (pe_callB call_isi hg hm (by decide +kernel) (pa_cons he (pa_cons (pe_bltn (v := .ty T) hgT hmT hvT rfl hn hd) pa_nil hs2) hs) (he := hs) (hpl := hpl)) fun σ H Q q => by
    obtain ⟨β, m, ρ, s, q⟩ := q
    refine td_bind s q fun d m1 v β1 H1 e1 s1 rv q1 => ?_
    split at q1
    · rename_i t ht
      split at q1
      · rename_i b hb
        exact ⟨v, .ty T, .type t, .type T, b, rfl, .ty T, ty_of s1.me rv ht, kit_ty hb, q1.here s1.me _ (.bl b)⟩
      · exact q1.elim
    · exact q1.elim
theorem kit2 {K : PySem.W.Frag} {t T1 T2 : String} {b : Bool} (h : isi2 t T1 T2 = some b) : PySem.W.kitAny K (.type t) [.type T1, .type T2] = some b := by
  unfold isi2 at h
  split at h
  · rename_i a c h1 h2
    cases h
    refine kitAny_cons (kit_ty h1) (fun ha => ?_) (fun ha => by rw [ha]; rfl)
    rw [ha, Bool.false_or]
    exact kitAny_cons (kit_ty h2) (fun hc => by rw [hc]; exact kitAny_nil) (fun hc => hc)
  · cases h
theorem pd_isi2 {X : Cx} {W : WXD} {e : Expr} {f : FE} {T1 T2 : String} {x y : Str} {p p2 p3 p4 pos : Pos} {k : Nat} (hg : Gl X "isinstance") (hm : X.mg "isinstance" = none) (hgT : Gl X x) (hmT : X.mg x = none) (hvT : bootBuiltins x = some (.type T1))
    (hgU : Gl X y) (hmU : X.mg y = none) (hvU : bootBuiltins y = some (.type T2)) (he : PD X W e f)
    (hn : x ≠ "__name__" := by decide) (hd : (x == ("__debug__" : Str)) = false := by decide) (hn' : y ≠ "__name__" := by decide) (hd' : (y == ("__debug__" : Str)) = false := by decide)
    (hs : starEach [e, .Tuple [.Name x p2, .Name y p3] k p4] X.env = (false, eval e X.env) :: starEach [.Tuple [.Name x p2, .Name y p3] k p4] X.env := by rfl)
    (hs2 : starEach [.Tuple [.Name x p2, .Name y p3] k p4] X.env = (false, eval (.Tuple [.Name x p2, .Name y p3] k p4) X.env) :: starEach [] X.env := by rfl)
    (hs3 : starEach [.Name x p2, .Name y p3] X.env = (false, eval (.Name x p2) X.env) :: starEach [.Name y p3] X.env := by rfl) (hs4 : starEach [.Name y p3] X.env = (false, eval (.Name y p3) X.env) :: starEach [] X.env := by rfl)
    (hpl : (backTo pos (starEach [.Tuple [.Name x p2, .Name y p3] k p4] X.env)).any (·.1) = false := by rfl) : PD X W (.Call (.Name "isinstance" p) [e, .Tuple [.Name x p2, .Name y p3] k p4] [] pos) (fIsi2 T1 T2 f) :=
  PE.imp (pe_callB call_isiT hg hm (by decide +kernel) (pa_cons he (pa_cons (pe_tup (pa_cons (pe_bltn (v := .ty T1) hgT hmT hvT rfl hn hd) (pa_cons (pe_bltn (v := .ty T2) hgU hmU hvU rfl hn' hd') pa_nil hs4) hs3)) pa_nil hs2) hs) (he := hs) (hpl := hpl)) fun σ H Q q => by
    obtain ⟨β, m, ρ, s, q⟩ := q
    refine td_bind s q fun d m1 v β1 H1 e1 s1 rv q1 => ?_
    refine ⟨by show 2 ≤ sizeLine; decide, fun tp htp => ?_⟩
    split at q1
    · rename_i t ht
      split at q1
      · rename_i b hb
        exact ⟨v, tp, [.ty T1, .ty T2], .type t, [.type T1, .type T2], b, rfl, upd_same, .cons (.ty T1) (.cons (.ty T2) .nil), ty_of (s1.me.upd_new htp) (rv.ext (Ext.upd_new htp)) ht, kit2 hb,
          q1 β1 _ (Ext.upd_new htp) (s1.me.upd_new htp) _ (.bl b)⟩
      · exact q1.elim
    · exact q1.elim
end Dl

/-! DL6: statements, targets, loops. -/
namespace Dl
open PySem PySem.Spec PyProof.Rows L2

inductive Out where
  | nx (ρ : Sl) (m : M)
  | rt (d : D) (m : M)
  | bk (ρ : Sl) (m : M)
  | ct (ρ : Sl) (m : M)
  | exc (ρ : Sl) (e : Exn) (m : M)
  | bad
abbrev FS := Sl → M → Out
def okS (K : PySem.W.Frag) (W : WXD) (β : List Addr) (H : Hp) (r : Out) (E : Ends) : Prop := match r with
  | .nx ρ m => ∀ β' H' σ', Ext β β' H H' → Stt K β' H' σ' ρ m → E.nx σ' H'
  | .rt d m => ∀ β' H' v, Ext β β' H H' → MOk K β' H' m → Rp K β' H' v d → E.rt v H'
  | .bk ρ m => ∀ β' H' σ', Ext β β' H H' → Stt K β' H' σ' ρ m → E.bk σ' H'
  | .ct ρ m => ∀ β' H' σ', Ext β β' H H' → Stt K β' H' σ' ρ m → E.ct σ' H'
  | .exc ρ e m => ∀ β' H' σ', Ext β β' H H' → Stt K β' H' σ' ρ m → W σ' e β' H'
  | .bad => False
def tSD (K : PySem.W.Frag) (W : WXD) (g : FS) : TS := fun E σ H => ∃ β m ρ, Stt K β H σ ρ m ∧ okS K W β H (g ρ m) E
abbrev PSD (X : Cx) (W : WXD) (st : Stmt) (g : FS) : Prop := PS X st (tSD X.K W g)
abbrev PSsD (X : Cx) (W : WXD) (st : List Stmt) (g : FS) : Prop := PSs X st (tSD X.K W g)

def Res.out {α : Type} (r : Res α) (ρ : Sl) (k : α → M → Out) : Out := match r with
  | .ok a m => k a m
  | .exc e m => .exc ρ e m
  | .bad => .bad
@[simp] theorem out_ok {α : Type} (a : α) (m : M) (ρ : Sl) (k : α → M → Out) : (Res.ok a m).out ρ k = k a m := nrfl rfl
@[simp] theorem out_exc {α : Type} (e : Exn) (m : M) (ρ : Sl) (k : α → M → Out) : (Res.exc e m : Res α).out ρ k = .exc ρ e m := nrfl rfl
@[simp] theorem out_bad {α : Type} (ρ : Sl) (k : α → M → Out) : (Res.bad : Res α).out ρ k = .bad := nrfl rfl
section
variable {K : PySem.W.Frag} {W : WXD} {β β' : List Addr} {H H' : Hp} {σ : Sg} {ρ : Sl} {m : M} {E : Ends}
theorem okS.ext {r : Out} (e : Ext β β' H H') (h : okS K W β H r E) : okS K W β' H' r E := by
  cases r with
  | nx ρ m => exact fun β2 H2 σ2 e2 s => h β2 H2 σ2 (e.trans e2) s
  | rt d m => exact fun β2 H2 v e2 ok r => h β2 H2 v (e.trans e2) ok r
  | bk ρ m => exact fun β2 H2 σ2 e2 s => h β2 H2 σ2 (e.trans e2) s
  | ct ρ m => exact fun β2 H2 σ2 e2 s => h β2 H2 σ2 (e.trans e2) s
  | exc ρ ee m => exact fun β2 H2 σ2 e2 s => h β2 H2 σ2 (e.trans e2) s
  | bad => exact h
theorem okS.bind {α : Type} {r : Res α} {k : α → M → Out} (s : Stt K β H σ ρ m) (h : okS K W β H (r.out ρ k) E) : okD K (W σ) β H r fun d m' β' H' => okS K W β' H' (k d m') E := by
  cases r with
  | ok d m => exact fun β' H' e ok => okS.ext e h
  | exc e m => exact fun β' H' e1 ok => h β' H' σ e1 (s.ext e1 ok)
  | bad => exact h
theorem ts_bind {f : FE} {k : D → M → Out} {R : V → Hp → Prop} (s : Stt K β H σ ρ m) (h : okS K W β H ((f ρ m).out ρ k) E)
    (q : ∀ d m1 v β1 H1, Ext β β1 H H1 → Stt K β1 H1 σ ρ m1 → Rp K β1 H1 v d → okS K W β1 H1 (k d m1) E → R v H1) : tD K W f σ H R :=
  ⟨β, m, ρ, s, (h.bind s).imp fun d m1 β1 H1 _ e ok hh v hv => q d m1 v β1 H1 e (s.ext e ok) hv hh⟩
theorem tst_bind {f : FT} {k : Bool → M → Out} {R : Bool → Hp → Prop} (s : Stt K β H σ ρ m) (h : okS K W β H ((f ρ m).out ρ k) E)
    (q : ∀ b m1 β1 H1, Ext β β1 H H1 → Stt K β1 H1 σ ρ m1 → okS K W β1 H1 (k b m1) E → R b H1) : tTD K W f σ H R :=
  ⟨β, m, ρ, s, (h.bind s).imp fun d m1 β1 H1 _ e ok hh => q d m1 β1 H1 e (s.ext e ok) hh⟩
theorem tsa_bind {f : FA} {k : List D → M → Out} {R : List V → Hp → Prop} (s : Stt K β H σ ρ m) (h : okS K W β H ((f ρ m).out ρ k) E)
    (q : ∀ ds m1 vs β1 H1, Ext β β1 H H1 → Stt K β1 H1 σ ρ m1 → RpA K β1 H1 vs ds → okS K W β1 H1 (k ds m1) E → R vs H1) : tAD K W f σ H R :=
  ⟨β, m, ρ, s, (h.bind s).imp fun d m1 β1 H1 _ e ok hh v hv => q d m1 v β1 H1 e (s.ext e ok) hv hh⟩
theorem tsl_bind {f : FA} {k : List D → M → Out} {R : V → Hp → Prop} (s : Stt K β H σ ρ m) (h : okS K W β H ((f ρ m).out ρ k) E)
    (q : ∀ ds m1 p xs β1 H1, Ext β β1 H H1 → Stt K β1 H1 σ ρ m1 → H p = none → p ∉ β1 → H1 p = some (.lst xs) → RpA K β1 H1 xs ds → okS K W β H (k ds m1) E → R (.ref p) H1) : tLD K W f σ H R := by
  refine ⟨β, m, ρ, s, ?_⟩
  cases hf : f ρ m with
  | ok ds m1 =>
    rw [hf] at h
    exact fun β1 H1 e ok p xs h1 h2 h3 h4 => q ds m1 p xs β1 H1 e (s.ext e ok) h1 h2 h3 h4 h
  | exc e m1 => rw [hf] at h; exact fun β1 H1 e1 ok => h β1 H1 σ e1 (s.ext e1 ok)
  | bad => rw [hf] at h; exact h
end

/-! ### small statements -/
def sNext : FS := fun ρ m => .nx ρ m
def sSeq (g h : FS) : FS := fun ρ m => match g ρ m with
  | .nx ρ' m' => h ρ' m'
  | o => o
def sBreak : FS := fun ρ m => .bk ρ m
def sCont : FS := fun ρ m => .ct ρ m
def sNever : FS := fun _ _ => .bad
def sDrop (f : FE) : FS := fun ρ m => (f ρ m).out ρ fun _ m' => .nx ρ m'
def sRet (f : FE) : FS := fun ρ m => (f ρ m).out ρ fun d m' => .rt d m'
def sRetN : FS := fun _ m => .rt .non m
def sIf (t : FT) (g h : FS) : FS := fun ρ m => (t ρ m).out ρ fun b m' => if b then g ρ m' else h ρ m'
section
variable {X : Cx} {W : WXD} {st : Stmt} {rest a b : List Stmt} {g h : FS} {e : Expr} {f : FE} {t : FT} {pos : Pos}
theorem pssd_nil : PSsD X W [] sNext := PSs.imp pss_nil fun E σ H q => by
  obtain ⟨β, m, ρ, s, q⟩ := q
  exact q β H σ Ext.refl s
theorem td_seq {K : PySem.W.Frag} {E : Ends} {σ : Sg} {H : Hp} (q : tSD K W (sSeq g h) E σ H) : tSeq (tSD K W g) (tSD K W h) E σ H := by
  obtain ⟨β, m, ρ, s, q⟩ := q
  refine ⟨β, m, ρ, s, ?_⟩
  unfold sSeq at q
  cases hg : g ρ m with
  | nx ρ' m' =>
    rw [hg] at q
    exact fun β1 H1 σ1 e1 s1 => ⟨β1, m', ρ', s1, okS.ext e1 q⟩
  | rt d m' => rw [hg] at q; exact q
  | bk ρ' m' => rw [hg] at q; exact q
  | ct ρ' m' => rw [hg] at q; exact q
  | exc ρ' e m' => rw [hg] at q; exact q
  | bad => rw [hg] at q; exact q
theorem pssd_cons (h1 : PSD X W st g) (h2 : PSsD X W rest h) : PSsD X W (st :: rest) (sSeq g h) := PSs.imp (pss_cons h1 h2) fun _ _ _ q => td_seq q
theorem pssd_one (h1 : PSD X W st g) : PSsD X W [st] g := pss_one h1
theorem psd_pass : PSD X W (.Pass pos) sNext := PS.imp ps_pass fun E σ H q => by
  obtain ⟨β, m, ρ, s, q⟩ := q
  exact q β H σ Ext.refl s
theorem psd_break : PSD X W (.Break pos) sBreak := PS.imp ps_break fun E σ H q => by
  obtain ⟨β, m, ρ, s, q⟩ := q
  exact q β H σ Ext.refl s
theorem psd_continue : PSD X W (.Continue pos) sCont := PS.imp ps_continue fun E σ H q => by
  obtain ⟨β, m, ρ, s, q⟩ := q
  exact q β H σ Ext.refl s
theorem psd_never : PSD X W st sNever := PS.imp ps_never fun E σ H q => by
  obtain ⟨β, m, ρ, s, q⟩ := q
  exact q
theorem pssd_never : PSsD X W rest sNever := PSs.imp pss_never fun E σ H q => by
  obtain ⟨β, m, ρ, s, q⟩ := q
  exact q
theorem psd_expr (he : PD X W e f) (hs : swapsWith e none pos.line X.env = pure false := by rfl) : PSD X W (.Expr e pos) (sDrop f) := PS.imp (ps_expr he hs) fun E σ H q => by
  obtain ⟨β, m, ρ, s, q⟩ := q
  exact ts_bind s q fun d m1 v β1 H1 e1 s1 rv q1 => q1 β1 H1 σ Ext.refl s1
theorem psd_ret (he : PD X W e f) : PSD X W (.Return (some e) pos) (sRet f) := PS.imp (ps_ret he) fun E σ H q => by
  obtain ⟨β, m, ρ, s, q⟩ := q
  exact ts_bind s q fun d m1 v β1 H1 e1 s1 rv q1 => q1 β1 H1 v Ext.refl s1.me rv
theorem psd_retN : PSD X W (.Return none pos) sRetN := PS.imp ps_retN fun E σ H q => by
  obtain ⟨β, m, ρ, s, q⟩ := q
  exact q β H .non Ext.refl s.me .non
theorem psd_if {c : Expr} (hc : PTD X W c t) (ha : PSsD X W a g) (hb : PSsD X W b h) : PSD X W (.If c a b pos) (sIf t g h) := PS.imp (ps_if hc ha hb) fun E σ H q => by
  obtain ⟨β, m, ρ, s, q⟩ := q
  refine tst_bind s q fun b m1 β1 H1 e1 s1 q1 => ?_
  cases b with
  | true => exact ⟨β1, m1, ρ, s1, q1⟩
  | false => exact ⟨β1, m1, ρ, s1, q1⟩
end

/-! ### targets -/
abbrev GT := D → Sl → Option Sl
abbrev GTs := List D → Sl → Option Sl
/-- only slots in I are stored -/
def Only' (I : List Nat) (σ σ' : Sg) : Prop := ∀ vs : List Nat, (∀ i ∈ I, i ∈ vs) → L2.wipe σ' vs = L2.wipe σ vs
theorem wipe_get (σ : Sg) : ∀ (vs : List Nat) (j : Nat), (L2.wipe σ vs)[j]? = if j ∈ vs then (if j < σ.length then some none else none) else σ[j]?
  | [], j => by simp [L2.wipe]
  | v :: vs, j => by
    unfold L2.wipe
    by_cases hv : v = j
    · subst hv
      by_cases hl : v < σ.length
      · rw [List.getElem?_set_self (by rw [L2.wipe_length]; exact hl)]
        simp [hl]
      · rw [List.getElem?_eq_none (by rw [List.length_set, L2.wipe_length]; omega)]
        simp [hl]
    · rw [List.getElem?_set_ne hv, wipe_get σ vs j]
      have e : (j ∈ v :: vs) = (j ∈ vs) := by simp [Ne.symm hv]
      simp only [e]
theorem Only'.set (σ : Sg) (i : Nat) (x : Option V) : Only' [i] σ (σ.set i x) := fun vs h => by
  have hi : i ∈ vs := h i (by simp)
  refine List.ext_getElem? fun j => ?_
  rw [wipe_get, wipe_get, List.length_set]
  by_cases hj : j ∈ vs
  · rw [if_pos hj, if_pos hj]
  · rw [if_neg hj, if_neg hj, List.getElem?_set_ne (fun e => hj (by rw [← e]; exact hi))]
theorem Only'.trans {I J : List Nat} {σ σ1 σ2 : Sg} (a : Only' I σ σ1) (b : Only' J σ1 σ2) : Only' (I ++ J) σ σ2 := fun vs h => by
  rw [b vs fun i hi => h i (List.mem_append_right _ hi), a vs fun i hi => h i (List.mem_append_left _ hi)]
theorem Only'.refl (σ : Sg) : Only' [] σ σ := fun _ _ => rfl
def tGD (K : PySem.W.Frag) (gt : GT) (I : List Nat) : TG := fun v σ H Q => ∃ β m ρ d ρ', Stt K β H σ ρ m ∧ Rp K β H v d ∧ gt d ρ = some ρ' ∧ ∀ σ', Stt K β H σ' ρ' m → Only' I σ σ' → Q σ' H
def tGsD (K : PySem.W.Frag) (gt : GTs) (I : List Nat) : TGs := fun vs σ H Q => ∃ β m ρ ds ρ', Stt K β H σ ρ m ∧ RpA K β H vs ds ∧ gt ds ρ = some ρ' ∧ ∀ σ', Stt K β H σ' ρ' m → Only' I σ σ' → Q σ' H
abbrev PGD (X : Cx) (e : Expr) (gt : GT) (I : List Nat) : Prop := PG X e (tGD X.K gt I)
theorem PGs.imp {X : Cx} {es : List Expr} {t t' : TGs} (h : PGs X es t) (i : ∀ v σ H Q, t' v σ H Q → t v σ H Q) : PGs X es t' := ⟨fun pins s σ H v u Q I r q => h.run pins s σ H v u Q I r (i v σ H Q q)⟩
abbrev PGsD (X : Cx) (es : List Expr) (gt : GTs) (I : List Nat) : Prop := PGs X es (tGsD X.K gt I)
def gN (i : Nat) : GT := fun d ρ => some (ρ.set i (some d))
def gNil' : GTs := fun ds ρ => match ds with
  | [] => some ρ
  | _ => none
def gCons' (g : GT) (gs : GTs) : GTs := fun ds ρ => match ds with
  | d :: r => (g d ρ).bind (gs r)
  | [] => none
def gT (n : Nat) (gs : GTs) : GT := fun d ρ => match d with
  | .tup ds => if ds.length = n then gs ds ρ else none
  | _ => none
section
variable {X : Cx} {pos : Pos}
theorem pgd_name {i : Nat} {x : Str} (hN : X.N.Nodup) (hi : X.N[i]? = some x) (hx : Loc X.env.scope x) (hf : X.fn x = true ∨ X.env.scope.names.lookup x = some .local := by first | exact .inl rfl | exact .inr rfl | assumption) : PGD X (.Name x pos) (gN i) [i] :=
  PG.imp (pg_name hN hi hx hf) fun v σ H Q q => by
    obtain ⟨β, m, ρ, d, ρ', s, rv, hg, q⟩ := q
    cases hg
    exact q _ ⟨s.sl.set rv, s.me⟩ (Only'.set _ _ _)
theorem pgsd_nil : PGsD X [] gNil' [] := PGs.imp pgs_nil fun v σ H Q q => by
  obtain ⟨β, m, ρ, ds, ρ', s, rv, hg, q⟩ := q
  cases rv with
  | nil => simp only [gNil'] at hg; cases hg; exact ⟨rfl, q _ s (Only'.refl _)⟩
  | cons _ _ => simp only [gNil'] at hg; cases hg
theorem pgsd_cons {e : Expr} {es : List Expr} {g : GT} {gs : GTs} {I J : List Nat} (h1 : PGD X e g I) (h2 : PGsD X es gs J)
    (hs : (assignEach (e :: es) X.env).map (·.2) = assign e X.env :: (assignEach es X.env).map (·.2) := by rfl) : PGsD X (e :: es) (gCons' g gs) (I ++ J) :=
  PGs.imp (pgs_cons h1 h2 hs) fun v σ H Q q => by
    obtain ⟨β, m, ρ, ds, ρ', s, rv, hg, q⟩ := q
    cases rv with
    | nil => simp only [gCons'] at hg; cases hg
    | @cons v vs d ds r1 r2 =>
      simp only [gCons'] at hg
      cases h1 : g d ρ with
      | none => rw [h1] at hg; cases hg
      | some ρ1 =>
        rw [h1] at hg
        exact ⟨v, vs, rfl, β, m, ρ, d, ρ1, s, r1, h1, fun σ1 s1 o1 => ⟨β, m, ρ1, ds, ρ', s1, r2, hg, fun σ2 s2 o2 => q σ2 s2 (o1.trans o2)⟩⟩
theorem pgd_tup {es : List Expr} {k : Nat} {gs : GTs} {n : Nat} {I : List Nat} (hc : X.calm = true) (h : PGsD X es gs I)
    (hn : (assignEach es X.env).length = n := by rfl) (hst : (assignEach es X.env).findIdx? (·.1) = none := by rfl) : PGD X (.Tuple es k pos) (gT n gs) I :=
  PG.imp (pg_tup hc h hn hst) fun v σ H Q q => by
    obtain ⟨β, m, ρ, d, ρ', s, rv, hg, q⟩ := q
    cases rv with
    | tup hx rx =>
      simp only [gT] at hg
      split at hg
      · rename_i hl
        exact ⟨_, _, rfl, SqT.of hx, by rw [rx.length]; exact hl, β, m, ρ, _, ρ', s, rx, hg, q⟩
      · cases hg
    | non => simp only [gT] at hg; cases hg
    | bl _ => simp only [gT] at hg; cases hg
    | int _ => simp only [gT] at hg; cases hg
    | str _ => simp only [gT] at hg; cases hg
    | rol _ _ => simp only [gT] at hg; cases hg
    | fix _ _ => simp only [gT] at hg; cases hg
    | ref _ => simp only [gT] at hg; cases hg
    | ty _ => simp only [gT] at hg; cases hg
end

/-! ### assignments -/
def sSet (i : Nat) (f : FE) : FS := fun ρ m => (f ρ m).out ρ fun d m' => .nx (ρ.set i (some d)) m'
def sAsg (f : FE) (g : GT) : FS := fun ρ m => (f ρ m).out ρ fun d m' => match g d ρ with
  | some ρ' => .nx ρ' m'
  | none => .bad
/-- a, b = x, y of plain names -/
def sPar (i j : Nat) (f : FA) : FS := fun ρ m => (f ρ m).out ρ fun ds m' => match ds with
  | [d, e] => .nx ((ρ.set i (some d)).set j (some e)) m'
  | _ => .bad
def sAug (i : Nat) (f : FE) (g : D → D → M → Res D) : FS := fun ρ m => match ρ[i]? with
  | some (some x) => (f ρ m).out ρ fun y m' => (g x y m').out ρ fun z m2 => .nx (ρ.set i (some z)) m2
  | _ => .bad
section
variable {X : Cx} {W : WXD} {e : Expr} {f : FE} {pos : Pos}
theorem psd_set {i : Nat} {x : Str} {pos' : Pos} (hN : X.N.Nodup) (hi : X.N[i]? = some x) (hx : Loc X.env.scope x) (he : PD X W e f) (hs : swapsWith e (some (.Name x pos')) pos.line X.env = pure false := by rfl)
    (hf : X.fn x = true ∨ X.env.scope.names.lookup x = some .local := by first | exact .inl rfl | exact .inr rfl | assumption) : PSD X W (.Assign [.Name x pos'] e pos) (sSet i f) := PS.imp (ps_set hN hi hx he hs hf) fun E σ H q => by
  obtain ⟨β, m, ρ, s, q⟩ := q
  exact ts_bind s q fun d m1 v β1 H1 e1 s1 rv q1 => q1 β1 H1 _ Ext.refl ⟨s1.sl.set rv, s1.me⟩
theorem psd_asg {tg : Expr} {g : GT} {I : List Nat} (he : PD X W e f) (hg : PGD X tg g I) (hs : swapsWithSole [tg] e pos.line X.env = pure false := by rfl) (hw : swappedStores [tg] e X.env = pure none := by rfl)
    (h1 : (assignEach [tg] X.env).map (·.2) = [assign tg X.env] := by rfl) : PSD X W (.Assign [tg] e pos) (sAsg f g) := PS.imp (ps_asg he hg hs hw h1) fun E σ H q => by
  obtain ⟨β, m, ρ, s, q⟩ := q
  refine ts_bind s q fun d m1 v β1 H1 e1 s1 rv q1 => ?_
  cases hd : g d ρ with
  | none => simp only [hd] at q1; exact q1.elim
  | some ρ' =>
    simp only [hd] at q1
    exact ⟨β1, m1, ρ, d, ρ', s1, rv, hd, fun σ' s' _ => q1 β1 H1 σ' Ext.refl s'⟩
theorem psd_par {i j : Nat} {x y : Str} {a b : Expr} {fa : FA} {px py pt : Pos} {kt k2 pt2} (hc : X.calm = true) (hN : X.N.Nodup) (hi : X.N[i]? = some x) (hj : X.N[j]? = some y) (hij : i ≠ j)
    (hx : X.env.scope.names.lookup x = some .local) (hy : X.env.scope.names.lookup y = some .local) (ha : PAD X W [a, b] fa)
    (hw : swappedStores [.Tuple [.Name x px, .Name y py] kt pt] (.Tuple [a, b] k2 pt2) X.env = pure (some [x, y]) := by rfl)
    (hs : swapsWithSole [.Tuple [.Name x px, .Name y py] kt pt] (.Tuple [a, b] k2 pt2) pos.line X.env = pure false := by rfl) :
    PSD X W (.Assign [.Tuple [.Name x px, .Name y py] kt pt] (.Tuple [a, b] k2 pt2) pos) (sPar i j fa) := PS.imp (ps_par hc hN hi hj hij hx hy ha hw hs) fun E σ H q => by
  obtain ⟨β, m, ρ, s, q⟩ := q
  refine tsa_bind s q fun ds m1 vs β1 H1 e1 s1 rs q1 => ?_
  split at q1
  · obtain ⟨v, w, rfl, r1, r2⟩ := rs.two
    exact ⟨v, w, rfl, q1 β1 H1 _ Ext.refl ⟨(s1.sl.set r1).set r2, s1.me⟩⟩
  · exact q1.elim
theorem psd_aug {i : Nat} {x : Str} {op : Operator} {r : R2} {g : D → D → M → Res D} {pos' : Pos} (hN : X.N.Nodup) (hi : X.N[i]? = some x) (hx : Loc X.env.scope x) (he : PD X W e f) (ho : OpR X (inplaceOp op) r) (hg : OpD X.K r g)
    (hf : X.fn x = true ∨ X.env.scope.names.lookup x = some .local := by first | exact .inl rfl | exact .inr rfl | assumption) : PSD X W (.AugAssign (.Name x pos') op e pos) (sAug i f g) := PS.imp (ps_aug hN hi hx he (ti := r) (fun pins s σ H x y v u Q I r1 r2 h => ho pins s σ H x y v u Q I r1 r2 h) hf) fun E σ H q => by
  obtain ⟨β, m, ρ, s, q⟩ := q
  unfold sAug at q
  split at q
  · rename_i x hx
    obtain ⟨v, hv, rv⟩ := s.sl.at' i x hx
    refine ⟨v, hv, ts_bind s q fun y m1 w β1 H1 e1 s1 rw q1 => ?_⟩
    refine hg (W σ) β1 H1 m1 v w x y _ s1.me (rv.ext e1) rw ((q1.bind s1).imp fun z m2 β2 H2 _ e2 ok2 q2 u ru => ?_)
    exact q2 β2 H2 _ Ext.refl ⟨(s1.sl.ext e2).set ru, ok2⟩
  · exact q.elim
end
section
variable {X : Cx} {W : WXD} {e : Expr} {f : FE} {pos : Pos}
theorem opd_mul {K : PySem.W.Frag} : OpD K (rI CMul fun i j => .int (i * j)) (gIC cMul fun i j => .int (i * j)) := opd_IC (fun i j h => cMul_ok h) fun _ _ _ _ => .int _
noncomputable def gMulI : D → D → M → Res D := gIC cMul fun i j => .int (i * j)
end

/-! ### o[i] = e of a list -/
def sPutD (ρ : Sl) (m3 : M) (n : Nat) (t : Bool) (kvs : List (D × D)) (k d : D) : Out := if keyOk t k = true ∧ kvs.length < LIM then .nx ρ (m3.set n (.dct t (putD kvs k d))) else .bad
def sSub (f fo fi : FE) : FS := fun ρ m => (f ρ m).out ρ fun d m1 => (fo ρ m1).out ρ fun o m2 => (fi ρ m2).out ρ fun i m3 => match o, i with
  | .ref n, .int k => match m3[n]? with
    | some (.lst xs) => match ixN xs.length k with
      | some j => .nx ρ (m3.set n (.lst (xs.set j d)))
      | none => .bad
    | some (.dct t kvs) => sPutD ρ m3 n t kvs (.int k) d
    | _ => .bad
  | .ref n, k => match m3[n]? with
    | some (.dct t kvs) => sPutD ρ m3 n t kvs k d
    | _ => .bad
  | _, _ => .bad
theorem dput_of {K : PySem.W.Frag} {β : List Addr} {H : Hp} {m : M} (ok : MOk K β H m) {n : Nat} {a : Addr} {t : Bool} {kvs : List (D × D)} {y v : V} {b e : D} (hn : m[n]? = some (.dct t kvs)) (ha : β[n]? = some a) (rb : Rp K β H y b) (rv : Rp K β H v e)
    (hk : keyOk t b = true) (hl : kvs.length < LIM) : ∃ H', DPut H a y v H' ∧ Ext β β H H' ∧ MOk K β H' (m.set n (.dct t (putD kvs b e))) := by
  have h := ok.at' n _ a hn ha
  cases t with
  | false =>
    obtain ⟨xs, h1, r1⟩ := h
    obtain ⟨k, hk'⟩ := Option.isSome_iff_exists.mp (show (keyD b).isSome = true from hk)
    rw [key_rp rb hk']
    have e1 : Ext β β H (upd H a (.dK (putK xs k v))) := Ext.writeO h1 mutb_dK ha
    exact ⟨_, DPut.k h1 (lim_lt (by rw [r1.length]; exact hl)), e1, ok.writeO h1 mutb_dK ha ⟨_, upd_same, (r1.put (fun a b => keyD_inj a b) hk' rv).mono e1.weak⟩⟩
  | true =>
    obtain ⟨xs, h1, r1⟩ := h
    obtain ⟨k, hk'⟩ := Option.isSome_iff_exists.mp (show (keyT b).isSome = true from hk)
    obtain ⟨p, rfl, hp⟩ := keyT_rp rb hk'
    have e1 : Ext β β H (upd H a (.dT (putK xs k v))) := Ext.writeO h1 mutb_dT ha
    exact ⟨_, DPut.t h1 hp (lim_lt (by rw [r1.length]; exact hl)), e1, ok.writeO h1 mutb_dT ha ⟨_, upd_same, (r1.put (fun a b => keyT_inj a b) hk' rv).mono e1.weak⟩⟩
def rSetDct : V → V → V → Hp → (Hp → Prop) → Prop := fun o i v H Q => ∃ a H', o = .ref a ∧ DPut H a i v H' ∧ Q H'
theorem set_dict {X : Cx} (hu : X.A.units + 64 < cLine) : PSet X rSetDct := by
  intro pins s σ H o i v ov iv u Q I ro ri rv h
  obtain ⟨a, H', rfl, g, q⟩ := h
  obtain rfl : ov = Value.ref a := ro
  exact d_setItem (by omega) I g ri rv fun s' I' => ⟨H', I', q⟩
theorem psor {X : Cx} {t t' : TSet} (h : PSet X t) (h' : PSet X t') : PSet X (fun o i v H Q => t o i v H Q ∨ t' o i v H Q) := by
  intro pins s σ H o i v ov iv u Q I ro ri rv q
  rcases q with q | q
  · exact h pins s σ H o i v ov iv u Q I ro ri rv q
  · exact h' pins s σ H o i v ov iv u Q I ro ri rv q
theorem psd_sub {X : Cx} {W : WXD} {e o i : Expr} {f fo fi : FE} {pos p2 : Pos} (hu : X.A.units + 64 < cLine) (he : PD X W e f) (ho : PD X W o fo) (hi : PD X W i fi)
    (ha : ∀ v, assign (.Subscript o i p2) X.env v = (do
      let ov ← holding [v] (eval o X.env)
      let iv ← holding [v, ov] (eval i X.env)
      standAt p2
      holding [v, ov, iv] (setItem ov iv v)
      release [v, ov, iv] []) := by intro _; rfl)
    (hs : swapsWithSole [.Subscript o i p2] e pos.line X.env = pure false := by rfl) (hw : swappedStores [.Subscript o i p2] e X.env = pure none := by rfl)
    (h1 : (assignEach [.Subscript o i p2] X.env).map (·.2) = [assign (.Subscript o i p2) X.env] := by rfl) : PSD X W (.Assign [.Subscript o i p2] e pos) (sSub f fo fi) :=
  PS.imp (ps_asg he (pg_sub ho hi (psor set_list (set_dict hu)) ha) hs hw h1) fun E σ H q => by
    obtain ⟨β, m, ρ, s, q⟩ := q
    refine ts_bind s q fun d m1 v β1 H1 e1 s1 rv q1 => ?_
    refine ts_bind s1 q1 fun od m2 ov β2 H2 e2 s2 ro q2 => ?_
    refine ts_bind s2 q2 fun id m3 iv β3 H3 e3 s3 ri q3 => ?_
    have dct : ∀ {n : Nat} {t : Bool} {kvs : List (D × D)}, od = .ref n → m3[n]? = some (.dct t kvs) → okS X.K W β3 H3 (sPutD ρ m3 n t kvs id d) E → rSetDct ov iv v H3 (fun H4 => E.nx σ H4) := by
      intro n t kvs e0 hn q4
      subst e0
      unfold sPutD at q4
      split at q4
      · rename_i hk
        have ro3 := ro.ext e3
        cases ro3 with
        | ref hb =>
          obtain ⟨H', g, e4, ok4⟩ := dput_of s3.me hn hb ri ((rv.ext e2).ext e3) hk.1 hk.2
          exact ⟨_, H', rfl, g, q4 β3 _ σ e4 ⟨s3.sl.ext e4, ok4⟩⟩
      · exact q4.elim
    split at q3
    · rename_i n k
      split at q3
      · rename_i ds hn
        split at q3
        · rename_i j hj
          cases ri
          have ro3 := ro.ext e3
          cases ro3 with
          | ref hb =>
            obtain ⟨xs, h1, r1⟩ := s3.me.at' n _ _ hn hb
            refine .inl ⟨_, xs, k, j, rfl, rfl, h1, by rw [r1.length]; exact hj, ?_⟩
            have e4 := Ext.write (ys := xs.set j v) h1 hb
            exact q3 β3 _ σ e4 ⟨s3.sl.ext e4, s3.me.write h1 hb (r1.set ((rv.ext e2).ext e3) j)⟩
        · exact q3.elim
      · rename_i t kvs hn
        exact .inr (dct rfl hn q3)
      · exact q3.elim
    · split at q3
      · rename_i t kvs hn
        exact .inr (dct rfl hn q3)
      · exact q3.elim
    · exact q3.elim
end Dl

/-! DL7: what loops walk; for, while, comprehensions. -/
namespace Dl
open PySem PySem.Spec PyProof.Rows L2

/-! ### what is walked -/
structure Src where
  n : Nat
  get : M → Nat → Option D
  fin : M → Bool
/-- J walks what src tells, from (β0, H0) on -/
def SrcOk (K : PySem.W.Frag) (β0 : List Addr) (H0 : Hp) (src : Src) (J : It) : Prop :=
  ∀ (β : List Addr) (H : Hp) (m : M), Ext0 β0 β H0 H → MOk K β H m →
    (∀ i d, i < src.n → src.get m i = some d → J.go i H ∧ ∀ x H', J.yld i H x H' → Ext β β H H' ∧ MOk K β H' m ∧ Rp K β H' x d) ∧ (src.fin m = true → J.stop src.n H)
abbrev FI := Sl → M → Res Src
def tID (K : PySem.W.Frag) (W : WXD) (f : FI) : TI := fun σ H R => ∃ β m ρ, Stt K β H σ ρ m ∧ okD K (W σ) β H (f ρ m) fun src _ β' H' => ∀ J, SrcOk K β' H' src J → R J H'
abbrev PID (X : Cx) (W : WXD) (tg e : Expr) (f : FI) : Prop := PI X tg e (tID X.K W f)

/-- a plain row -/
def srcT (ds : List D) : Src := ⟨ds.length, fun _ i => ds[i]?, fun _ => true⟩
/-- a list, as it stands -/
def srcL (n : Nat) (k : Nat) : Src := ⟨k, fun m i => match m[n]? with
  | some (.lst ds) => if ds.length = k then ds[i]? else none
  | _ => none, fun m => match m[n]? with
  | some (.lst ds) => decide (ds.length = k)
  | _ => false⟩
def srcR (lo : Int) (k : Nat) : Src := ⟨k, fun _ i => some (.int (lo + i)), fun _ => true⟩
def srcOf (m : M) : D → Option Src
  | .tup ds => some (srcT ds)
  | .rol ds => some (srcT ds)
  | .fix ds => some (srcT ds)
  | .ref n => match m[n]? with
    | some (.lst ds) => some (srcL n ds.length)
    | _ => none
  | _ => none
section
variable {K : PySem.W.Frag} {β0 : List Addr} {H0 : Hp}
theorem src_tup {a : Addr} {xs : List V} {ds : List D} (h : SqT K H0 a xs) (r : RpA K β0 H0 xs ds) : SrcOk K β0 H0 (srcT ds) (Itt K a) := fun β H m e ok => by
  refine ⟨fun i d hi hd => ?_, fun _ => ⟨xs, e.sqt h, by show xs.length ≤ ds.length; rw [r.length]; exact Nat.le_refl _⟩⟩
  obtain ⟨v, hv, rv⟩ := r.get (show ds[i]? = some d from hd)
  refine ⟨⟨xs, v, e.sqt h, hv⟩, fun x H' y => ?_⟩
  obtain ⟨rfl, y⟩ := y
  have hx := y xs (e.sqt h)
  rw [hv] at hx
  cases hx
  exact ⟨Ext.refl, ok, rv.mono e⟩
theorem src_rol {a : Addr} {xs : List V} {ds : List D} (h : SqF K H0 a xs) (r : RpA K β0 H0 xs ds) : SrcOk K β0 H0 (srcT ds) (Itl K a) := fun β H m e ok => by
  refine ⟨fun i d hi hd => ?_, fun _ => ⟨xs, (e.sqf h).sql, by show xs.length ≤ ds.length; rw [r.length]; exact Nat.le_refl _⟩⟩
  obtain ⟨v, hv, rv⟩ := r.get (show ds[i]? = some d from hd)
  refine ⟨⟨xs, v, (e.sqf h).sql, hv⟩, fun x H' y => ?_⟩
  obtain ⟨rfl, y⟩ := y
  have hx := y xs (e.sqf h).sql
  rw [hv] at hx
  cases hx
  exact ⟨Ext.refl, ok, rv.mono e⟩
theorem src_lst {a : Addr} {n k : Nat} (hb : β0[n]? = some a) : SrcOk K β0 H0 (srcL n k) (Itl K a) := fun β H m e ok => by
  have hb' := e.ix _ _ hb
  refine ⟨fun i d hi hd => ?_, fun hf => ?_⟩
  · simp only [srcL] at hd
    split at hd
    · rename_i ds hds
      split at hd
      · obtain ⟨xs, h1, r1⟩ := ok.at' n _ a hds hb'
        obtain ⟨v, hv, rv⟩ := r1.get hd
        refine ⟨⟨xs, v, SqL.of h1, hv⟩, fun x H' y => ?_⟩
        obtain ⟨rfl, y⟩ := y
        have hx := y xs (SqL.of h1)
        rw [hv] at hx
        cases hx
        exact ⟨Ext.refl, ok, rv⟩
      · cases hd
    · cases hd
  · simp only [srcL] at hf
    split at hf
    · rename_i ds hds
      obtain ⟨xs, h1, r1⟩ := ok.at' n _ a hds hb'
      exact ⟨xs, SqL.of h1, by show xs.length ≤ k; rw [r1.length]; exact Nat.le_of_eq (of_decide_eq_true hf)⟩
    · cases hf
theorem src_rng {lo : Int} {k : Nat} : SrcOk K β0 H0 (srcR lo k) (Itr lo k) := fun β H m e ok =>
  ⟨fun i d hi hd => ⟨hi, fun x H' y => by
    obtain ⟨rfl, rfl⟩ := y
    simp only [srcR] at hd
    cases hd
    exact ⟨Ext.refl, ok, .int _⟩⟩, fun _ => Nat.le_refl _⟩
end
/-- a list or a tuple, walked -/
def fWalk (f : FE) : FI := fun ρ m => (f ρ m).bind fun d m => match srcOf m d with
  | some s => .ok s m
  | none => .bad
theorem pid_seq {X : Cx} {W : WXD} {tg e : Expr} {f : FE} (he : PD X W e f) : PID X W tg e (fWalk f) := by
  refine ⟨fun pins s σ H R I q => ?_⟩
  obtain ⟨β, m, ρ, st, q⟩ := q
  refine thn (he.run pins s σ H (fun v H1 => ∃ (a : Addr), v = .ref a ∧ (((∃ xs, SqL X.K H1 a xs) ∧ R (Itl X.K a) H1) ∨ ((∃ xs, SqT X.K H1 a xs) ∧ R (Itt X.K a) H1))) I ?_) fun v s1 h1 => ?_
  · refine td_bind st q fun d m1 v β1 H1 e1 s1 rv q1 => ?_
    split at q1
    · rename_i src hsrc
      have fin : ∀ J, SrcOk X.K β1 H1 src J → R J H1 := q1.here s1.me
      cases rv with
      | tup hx rx => simp only [srcOf] at hsrc; cases hsrc; exact ⟨_, rfl, .inr ⟨⟨_, SqT.of hx⟩, fin _ (src_tup (SqT.of hx) rx)⟩⟩
      | rol hx rx => simp only [srcOf] at hsrc; cases hsrc; exact ⟨_, rfl, .inl ⟨⟨_, hx.sql⟩, fin _ (src_rol hx rx)⟩⟩
      | fix hx rx => simp only [srcOf] at hsrc; cases hsrc; exact ⟨_, rfl, .inr ⟨⟨_, hx.sqt⟩, fin _ (src_tup hx.sqt rx)⟩⟩
      | ref hb =>
        simp only [srcOf] at hsrc
        split at hsrc
        · rename_i ds hds
          cases hsrc
          obtain ⟨xs, h1, r1⟩ := s1.me.at' _ _ _ hds hb
          exact ⟨_, rfl, .inl ⟨⟨xs, SqL.of h1⟩, fin _ (src_lst hb)⟩⟩
        · cases hsrc
      | non => simp only [srcOf] at hsrc; cases hsrc
      | bl _ => simp only [srcOf] at hsrc; cases hsrc
      | int _ => simp only [srcOf] at hsrc; cases hsrc
      | str _ => simp only [srcOf] at hsrc; cases hsrc
      | ty _ => simp only [srcOf] at hsrc; cases hsrc
    · exact q1.elim
  · obtain ⟨v', H1, I1, rv, a, rfl, q1⟩ := h1
    cases rv
    have mem1 : ∀ {b : Addr}, b ∈ [s1.heap.objs.size] → b = s1.heap.objs.size := fun hb => by simpa using hb
    rcases q1 with ⟨⟨xs, hq⟩, q1⟩ | ⟨⟨xs, hq⟩, q1⟩
    · obtain ⟨its, _, p, _⟩ := I1.list hq
      refine wpAny_pyIter_list p.isList ⟨s1.heap.objs.size, [s1.heap.objs.size], _, _, H1, rfl, I1.kept (t' := s1.toks) fun b o e => Heap.get?_push_of_some _ e, turn_list a _, ⟨_, Heap.get?_push_size _ rfl, rfl, rfl⟩, fun b hb => ?_, q1⟩
      rw [mem1 hb]
      exact I1.fpOk (Nat.le_refl _) (I1.hok.fresh (Nat.le_refl _))
    · obtain ⟨its, _, p, _⟩ := I1.tuple hq
      refine wpAny_pyIter_tuple (show s1.heap.IsTuple a its.toArray from p) ⟨s1.heap.objs.size, [s1.heap.objs.size], _, _, H1, rfl, I1.kept (t' := s1.toks) fun b o e => Heap.get?_push_of_some _ e, turn_tuple a _, ⟨_, Heap.get?_push_size _ rfl, rfl, rfl⟩, fun b hb => ?_, q1⟩
      rw [mem1 hb]
      exact I1.fpOk (Nat.le_refl _) (I1.hok.fresh (Nat.le_refl _))
/-- range(n), range(a, b) -/
noncomputable def okR (i : Int) : Bool := decide (-(BIG 62 : Int) ≤ i ∧ i < BIG 62)
theorem okR_iff {i : Int} : okR i = true ↔ -(2 ^ 62) ≤ i ∧ i < 2 ^ 62 := by
  unfold okR
  have e : (BIG 62 : Int) = 2 ^ 62 := by
    rw [BIG_eq]
    decide
  rw [decide_eq_true_iff, e]
noncomputable def fRng (f : FA) : FI := fun ρ m => (f ρ m).bind fun ds m => match ds with
  | [.int n] => if okR n then .ok (srcR 0 n.toNat) m else .bad
  | [.int a, .int b] => if okR a && okR b then .ok (srcR a (b - a).toNat) m else .bad
  | _ => .bad
noncomputable def fRng1 (f : FE) : FI := fun ρ m => (f ρ m).bind fun d m => match d with
  | .int n => if okR n then .ok (srcR 0 n.toNat) m else .bad
  | _ => .bad
noncomputable def fRng2 (f g : FE) : FI := fun ρ m => (f ρ m).bind fun d m => (g ρ m).bind fun e m => match d, e with
  | .int a, .int b => if okR a && okR b then .ok (srcR a (b - a).toNat) m else .bad
  | _, _ => .bad
theorem pid_range1 {X : Cx} {W : WXD} {tg a : Expr} {f : FE} {p pos : Pos} (hg : Gl X "range") (hm : X.mg "range" = none) (ha : PD X W a f) (hs : starEach [a] X.env = (false, eval a X.env) :: starEach [] X.env := by rfl) (hs2 : starEach [a] X.env = [(false, eval a X.env)] := by rfl) : PID X W tg (.Call (.Name "range" p) [a] [] pos) (fRng1 f) :=
  PI.imp (pi_range1 hg hm (pa_cons ha pa_nil hs) hs2) fun σ H R q => by
    obtain ⟨β, m, ρ, s, q⟩ := q
    refine td_bind s q fun d m1 v β1 H1 e1 s1 rv q1 => ?_
    cases d with
    | int n =>
      simp only at q1
      split at q1
      · rename_i h
        have h' := okR_iff.mp h
        cases rv
        exact ⟨n, rfl, h'.1, h'.2, q1.here s1.me _ src_rng⟩
      · exact q1.elim
    | non => exact q1.elim
    | bl _ => exact q1.elim
    | str _ => exact q1.elim
    | tup _ => exact q1.elim
    | rol _ => exact q1.elim
    | fix _ => exact q1.elim
    | ref _ => exact q1.elim
    | ty _ => exact q1.elim
theorem pid_range2 {X : Cx} {W : WXD} {tg a b : Expr} {f g : FE} {p pos : Pos} (hg : Gl X "range") (hm : X.mg "range" = none) (ha : PD X W a f) (hb : PD X W b g) (hs : starEach [a, b] X.env = [(false, eval a X.env), (false, eval b X.env)] := by rfl) (hs2 : starEach [b] X.env = [(false, eval b X.env)] := by rfl)
    (hs' : starEach [a, b] X.env = (false, eval a X.env) :: starEach [b] X.env := by rfl) (hs3 : starEach [b] X.env = (false, eval b X.env) :: starEach [] X.env := by rfl) : PID X W tg (.Call (.Name "range" p) [a, b] [] pos) (fRng2 f g) :=
  PI.imp (pi_range2 hg hm (pa_cons ha (pa_cons hb pa_nil hs3) hs') hs hs2) fun σ H R q => by
    obtain ⟨β, m, ρ, s, q⟩ := q
    refine td_bind s q fun d m1 v β1 H1 e1 s1 rv q1 => ?_
    refine td_bind s1 q1 fun e m2 w β2 H2 e2 s2 rw q2 => ?_
    split at q2
    · rename_i a b
      split at q2
      · rename_i h
        rw [Bool.and_eq_true] at h
        have h1 := okR_iff.mp h.1
        have h2 := okR_iff.mp h.2
        cases rv
        cases rw
        exact ⟨a, b, rfl, ⟨h1.1, h1.2, h2.1, h2.2⟩, q2.here s2.me _ src_rng⟩
      · exact q2.elim
    · exact q2.elim

/-! ### for -/
def forL (src : Src) (gt : GT) (body : FS) : Nat → Nat → Sl → M → Out
  | 0, _, ρ, m => if src.fin m then .nx ρ m else .bad
  | k + 1, i, ρ, m => match src.get m i with
    | none => .bad
    | some d => match gt d ρ with
      | none => .bad
      | some ρ' => match body ρ' m with
        | .nx ρ2 m2 => forL src gt body k (i + 1) ρ2 m2
        | .ct ρ2 m2 => forL src gt body k (i + 1) ρ2 m2
        | .bk ρ2 m2 => .nx ρ2 m2
        | o => o
def sFor (fi : FI) (gt : GT) (body : FS) : FS := fun ρ m => (fi ρ m).out ρ fun src m' => forL src gt body src.n 0 ρ m'
theorem psd_for {X : Cx} {W : WXD} {tg iter : Expr} {body : List Stmt} {fi : FI} {gt : GT} {I : List Nat} {g : FS} {pos : Pos} (hp : PassesOwn (model X.prog X.w) X.A X.env X.xe) (hc : X.calm = true) (hi : PID X W tg iter fi) (hg : PGD X tg gt I) (hb : PSsD X W body g)
    (hs : ∀ x, foldedSetIterable iter X.env x = pure x := by intro _; rfl) : PSD X W (.For tg iter body [] pos) (sFor fi gt g) := PS.imp (ps_for hp hc hi hg hb hs) fun E σ H q => by
  obtain ⟨β, m, ρ, s, q⟩ := q
  refine ⟨β, m, ρ, s, (q.bind s).imp fun src m1 β1 H1 _ e1 ok1 q1 J hJ => ?_⟩
  refine ⟨fun i k σ' H' => ∃ β' m' ρ', i + k = src.n ∧ Ext β1 β' H1 H' ∧ Stt X.K β' H' σ' ρ' m' ∧ okS X.K W β' H' (forL src gt g k i ρ' m') E, ⟨src.n, β1, m1, ρ, by omega, Ext.refl, s.ext e1 ok1, q1⟩, ?_⟩
  rintro i k σ' H' ⟨β', m', ρ', hik, e', s', q'⟩
  obtain ⟨hgo, hstop⟩ := hJ β' H' m' e'.weak s'.me
  cases k with
  | zero =>
    unfold forL at q'
    split at q'
    · rename_i hf
      have hi : i = src.n := by omega
      subst hi
      exact .inl ⟨hstop hf, q' β' H' σ' Ext.refl s'⟩
    · exact q'.elim
  | succ k =>
    unfold forL at q'
    cases hd : src.get m' i with
    | none => rw [hd] at q'; exact q'.elim
    | some d =>
      rw [hd] at q'
      simp only at q'
      obtain ⟨g1, g2⟩ := hgo i d (by omega) hd
      refine .inr ⟨g1, fun σ2 H2 => ∃ β2 m2 ρ2, Ext β1 β2 H1 H2 ∧ Stt X.K β2 H2 σ2 ρ2 m2 ∧ okS X.K W β2 H2 (forL src gt g k (i + 1) ρ2 m2) E, fun σ2 H2 ⟨β2, m2, ρ2, a1, a2, a3⟩ => ⟨k, by omega, β2, m2, ρ2, by omega, a1, a2, a3⟩, fun x H2 y => ?_⟩
      obtain ⟨e2, ok2, rx⟩ := g2 x H2 y
      cases hgt : gt d ρ' with
      | none => rw [hgt] at q'; exact q'.elim
      | some ρ2 =>
        rw [hgt] at q'
        simp only at q'
        refine ⟨β', m', ρ', d, ρ2, s'.ext e2 ok2, rx, hgt, fun σ3 s3 _ => ⟨β', m', ρ2, s3, ?_⟩⟩
        have q2 := okS.ext e2 q'
        cases hbd : g ρ2 m' with
        | nx ρ3 m3 =>
          rw [hbd] at q2
          exact fun β3 H3 σ4 e3 s4 => ⟨β3, m3, ρ3, (e'.trans e2).trans e3, s4, okS.ext e3 q2⟩
        | ct ρ3 m3 =>
          rw [hbd] at q2
          exact fun β3 H3 σ4 e3 s4 => ⟨β3, m3, ρ3, (e'.trans e2).trans e3, s4, okS.ext e3 q2⟩
        | bk ρ3 m3 => rw [hbd] at q2; exact q2
        | rt d3 m3 => rw [hbd] at q2; exact q2
        | exc ρ3 x3 m3 => rw [hbd] at q2; exact q2
        | bad => rw [hbd] at q2; exact q2

/-! ### while -/
def whileL (t : FT) (body : FS) : Nat → Sl → M → Out
  | 0, _, _ => .bad
  | k + 1, ρ, m => (t ρ m).out ρ fun b m1 => if b then match body ρ m1 with
      | .nx ρ2 m2 => whileL t body k ρ2 m2
      | .ct ρ2 m2 => whileL t body k ρ2 m2
      | .bk ρ2 m2 => .nx ρ2 m2
      | o => o
    else .nx ρ m1
/-- so many turns at most -/
def FUEL : Nat := 1000000
def sWhile (t : FT) (body : FS) : FS := fun ρ m => whileL t body FUEL ρ m
theorem psd_while {X : Cx} {W : WXD} {c : Expr} {body : List Stmt} {t : FT} {g : FS} {pos : Pos} (hp : PassesOwn (model X.prog X.w) X.A X.env X.xe) (hc : PTD X W c t) (hb : PSsD X W body g) : PSD X W (.While c body [] pos) (sWhile t g) := PS.imp (ps_while hp hc hb) fun E σ H q => by
  obtain ⟨β, m, ρ, s, q⟩ := q
  refine ⟨fun k σ' H' => ∃ β' m' ρ', Stt X.K β' H' σ' ρ' m' ∧ okS X.K W β' H' (whileL t g k ρ' m') E, ⟨FUEL, β, m, ρ, s, q⟩, ?_⟩
  rintro k σ' H' ⟨β', m', ρ', s', q'⟩
  cases k with
  | zero => exact q'.elim
  | succ k =>
    unfold whileL at q'
    refine tst_bind s' q' fun b m1 β1 H1 e1 s1 q1 => ?_
    cases b with
    | false =>
      refine iteF ?_
      exact q1 β1 H1 σ' Ext.refl s1
    | true =>
      refine iteT ?_
      refine ⟨fun σ2 H2 => ∃ β2 m2 ρ2, Stt X.K β2 H2 σ2 ρ2 m2 ∧ okS X.K W β2 H2 (whileL t g k ρ2 m2) E, fun σ2 H2 ⟨β2, m2, ρ2, a1, a2⟩ => ⟨k, by omega, β2, m2, ρ2, a1, a2⟩, β1, m1, ρ', s1, ?_⟩
      simp only [if_true] at q1
      cases hbd : g ρ' m1 with
      | nx ρ3 m3 =>
        rw [hbd] at q1
        exact fun β3 H3 σ4 e3 s4 => ⟨β3, m3, ρ3, s4, okS.ext e3 q1⟩
      | ct ρ3 m3 =>
        rw [hbd] at q1
        exact fun β3 H3 σ4 e3 s4 => ⟨β3, m3, ρ3, s4, okS.ext e3 q1⟩
      | bk ρ3 m3 => rw [hbd] at q1; exact q1
      | rt d3 m3 => rw [hbd] at q1; exact q1
      | exc ρ3 x3 m3 => rw [hbd] at q1; exact q1
      | bad => rw [hbd] at q1; exact q1

/-! ### comprehensions -/
def WF : WXD := fun _ _ _ _ => False
theorem Ext.none_back {K : PySem.W.Frag} {β β' : List Addr} {H H' : Hp} {m' : M} (e : Ext β β' H H') (ok : MOk K β' H' m') {p : Addr} (hp : H' p = none) : H p = none := by
  cases hq : H p with
  | none => rfl
  | some o =>
    by_cases hb : p ∈ β
    · obtain ⟨xs, hx⟩ := ok.there (by obtain ⟨γ, rfl⟩ := e.pre; exact List.mem_append_left _ hb)
      rw [hp] at hx; cases hx
    · rw [e.keep p o hq hb] at hp; cases hp
theorem Ext.mut {β β' : List Addr} {H H' : Hp} {p : Addr} {xs : List V} {o : HO} (e : Ext β β' H H') (hp : H p = none) (hl : H' p = some (.lst xs) ∨ H' p = none) : Ext β β' H (upd H' p o) := by
  refine ⟨e.pre, fun a ys h => ?_, fun a u x h => ?_, fun a u h hn => ?_, e.new⟩
  · rw [upd_ne (ne_of_none h hp)]; exact e.tup a ys h
  · rw [upd_ne (ne_of_none h hp)]; exact e.frz a u x h
  · rw [upd_ne (ne_of_none h hp)]; exact e.keep a u h hn
/-- a list that is not named is written -/
theorem Ext0.side {β : List Addr} {H : Hp} {p : Addr} {xs : List V} {o : HO} (hp : H p = some (.lst xs)) : Ext0 β β H (upd H p o) :=
  ⟨fun _ _ h => h, fun a ys h => by rw [upd_ne (ne_of h hp (by intro q; cases q))]; exact h, fun a u x h => by rw [upd_ne (ne_of h hp (by intro q; cases q))]; exact h⟩
theorem MOk.side {K : PySem.W.Frag} {β : List Addr} {H : Hp} {m : M} {p : Addr} {xs : List V} {o : HO} (ok : MOk K β H m) (hn : p ∉ β) (hp : H p = some (.lst xs)) : MOk K β (upd H p o) m :=
  ⟨ok.len, ok.nd, fun n u a h1 h2 => (ok.at' n u a h1 h2).mono (Ext0.side hp) fun zs h => by
    rw [upd_ne (fun q => hn (by rw [← q]; exact List.mem_of_getElem? h2))]
    exact h⟩
def lcL (src : Src) (gt : GT) (ρw : Sl) (t : FT) (e : FE) : Nat → Nat → List D → M → Res (List D)
  | 0, _, acc, m => if src.fin m then .ok acc m else .bad
  | k + 1, i, acc, m => match src.get m i with
    | none => .bad
    | some d => match gt d ρw with
      | none => .bad
      | some ρ' => match t ρ' m with
        | .ok true m1 => match e ρ' m1 with
          | .ok y m2 => if acc.length < LIM then lcL src gt ρw t e k (i + 1) (acc ++ [y]) m2 else .bad
          | _ => .bad
        | .ok false m1 => lcL src gt ρw t e k (i + 1) acc m1
        | _ => .bad
def fLc (fi : FI) (gt : GT) (vs : List Nat) (t : FT) (e : FE) : FA := fun ρ m => (fi ρ m).bind fun src m' => lcL src gt (wipeD ρ vs) t e src.n 0 [] m'
def fYes : FT := fun _ m => .ok true m
abbrev PTsD (X : Cx) (W : WXD) (ifs : List Expr) (f : FT) : Prop := PTs X ifs (tTD X.K W f)
theorem PTs.imp {X : Cx} {es : List Expr} {t t' : TT} (h : PTs X es t) (i : ∀ σ H Q, t' σ H Q → t σ H Q) : PTs X es t' := ⟨fun pins s σ H Q I q => h.run pins s σ H Q I (i σ H Q q)⟩
theorem ptsd_nil {X : Cx} {W : WXD} : PTsD X W [] fYes := PTs.imp pts_nil fun σ H Q q => by
  obtain ⟨β, m, ρ, s, q⟩ := q
  exact q.here s.me
theorem ptsd_one {X : Cx} {W : WXD} {c : Expr} {t : FT} (h : PTD X W c t) : PTsD X W [c] t := pts_one h
theorem td_lc {K : PySem.W.Frag} {W : WXD} {fi : FI} {gt : GT} {I : List Nat} {vs : List Nat} {t : FT} {e : FE} (hv : ∀ i ∈ I, i ∈ vs) {σ : Sg} {H : Hp} {Q : VK} (q : tLD K W (fLc fi gt vs t e) σ H Q) :
    tLc (tID K W fi) (tGD K gt I) (tTD K WF t) (tD K WF e) vs σ H Q := by
  obtain ⟨β, m, ρ, s, q⟩ := q
  refine ⟨β, m, ρ, s, ?_⟩
  unfold fLc at q
  cases hfi : fi ρ m with
  | exc x m1 => rw [hfi] at q; exact q
  | bad => rw [hfi] at q; exact q
  | ok src m1 =>
    rw [hfi] at q
    simp only [bind_ok] at q
    intro β1 H1 e1 ok1 J hJ Dl hD
    have hD0 : H Dl = none := e1.none_back ok1 hD
    have sw : RpS K β1 H1 (L2.wipe σ vs) (wipeD ρ vs) := (s.sl.ext e1).wipe vs
    refine ⟨fun i k H' => ∃ β' m' acc xs, i + k = src.n ∧ Ext β1 β' H1 H' ∧ MOk K β' H' m' ∧ Dl ∉ β' ∧ H' Dl = some (.lst xs) ∧ RpA K β' H' xs acc ∧
      okD K (W σ) β H (lcL src gt (wipeD ρ vs) t e k i acc m') fun ds m β' H' => ∀ p xs, H p = none → p ∉ β' → H' p = some (.lst xs) → RpA K β' H' xs ds → Q (.ref p) H',
      ⟨src.n, β1, m1, [], [], by omega, Ext.upd_new hD, ok1.upd_new hD, ok1.fresh hD, upd_same, .nil, q⟩, ?_⟩
    rintro i k H' ⟨β', m', acc, xs, hik, e', ok', hn', hl', ra, q'⟩
    obtain ⟨hgo, hstop⟩ := hJ β' H' m' e'.weak ok'
    cases k with
    | zero =>
      unfold lcL at q'
      split at q'
      · rename_i hf
        have hi : i = src.n := by omega
        subst hi
        exact .inl ⟨hstop hf, q' β' H' (e1.trans e') ok' Dl xs hD0 hn' hl' ra⟩
      · exact q'.elim
    | succ k =>
      unfold lcL at q'
      cases hd : src.get m' i with
      | none => rw [hd] at q'; exact q'.elim
      | some d =>
        rw [hd] at q'
        simp only at q'
        obtain ⟨g1, g2⟩ := hgo i d (by omega) hd
        refine .inr ⟨g1, fun H2 => ∃ β2 m2 acc2 xs2, Ext β1 β2 H1 H2 ∧ MOk K β2 H2 m2 ∧ Dl ∉ β2 ∧ H2 Dl = some (.lst xs2) ∧ RpA K β2 H2 xs2 acc2 ∧
          okD K (W σ) β H (lcL src gt (wipeD ρ vs) t e k (i + 1) acc2 m2) fun ds m β' H' => ∀ p xs, H p = none → p ∉ β' → H' p = some (.lst xs) → RpA K β' H' xs ds → Q (.ref p) H',
          fun H2 ⟨β2, m2, acc2, xs2, a1, a2, a3, a4, a5, a6⟩ => ⟨k, by omega, β2, m2, acc2, xs2, by omega, a1, a2, a3, a4, a5, a6⟩, fun x H2 y => ?_⟩
        obtain ⟨e2, ok2, rx⟩ := g2 x H2 y
        cases hgt : gt d (wipeD ρ vs) with
        | none => rw [hgt] at q'; exact q'.elim
        | some ρ2 =>
          rw [hgt] at q'
          simp only at q'
          have sw2 : Stt K β' H2 (L2.wipe σ vs) (wipeD ρ vs) m' := ⟨sw.ext (e'.trans e2), ok2⟩
          refine ⟨β', m', wipeD ρ vs, d, ρ2, sw2, rx, hgt, fun σ3 s3 ho => ⟨?_, β', m', ρ2, s3, ?_⟩⟩
          · rw [ho vs hv]
            refine List.ext_getElem? fun j => ?_
            rw [wipe_get, wipe_get]
            by_cases hj : j ∈ vs
            · simp only [if_pos hj, L2.wipe_length]
            · simp only [if_neg hj, wipe_get]
          · cases ht : t ρ2 m' with
            | bad => rw [ht] at q'; exact q'.elim
            | exc x m2 => rw [ht] at q'; exact q'.elim
            | ok b m2 =>
              rw [ht] at q'
              intro β3 H3 e3 ok3
              have hn3 : Dl ∉ β3 := fun hm => by
                have := e3.new Dl hm hn'
                have h2 := e2.keep Dl _ hl' hn'
                rw [h2] at this
                cases this
              have hl3 : H3 Dl = some (.lst xs) := e3.keep Dl _ (e2.keep Dl _ hl' hn') hn'
              cases b with
              | false =>
                refine iteF ?_
                exact ⟨β3, m2, acc, xs, (e'.trans e2).trans e3, ok3, hn3, hl3, (ra.ext e2).ext e3, q'⟩
              | true =>
                refine iteT ?_
                refine ⟨β3, m2, ρ2, s3.ext e3 ok3, ?_⟩
                simp only at q'
                cases he : e ρ2 m2 with
                | bad => rw [he] at q'; exact q'.elim
                | exc x m3 => rw [he] at q'; exact q'.elim
                | ok y m3 =>
                  rw [he] at q'
                  simp only at q'
                  split at q'
                  · rename_i hlim
                    intro β4 H4 e4 ok4 v rv
                    have hn4 : Dl ∉ β4 := fun hm => by
                      have := e4.new Dl hm hn3
                      rw [hl3] at this
                      cases this
                    have hl4 : H4 Dl = some (.lst xs) := e4.keep Dl _ hl3 hn3
                    have ra4 := ((ra.ext e2).ext e3).ext e4
                    have ei : Ext0 β4 β4 H4 (upd H4 Dl (.lst (xs ++ [v]))) := Ext0.side hl4
                    refine ⟨xs, hl4, lim_lt (by rw [ra4.length]; exact hlim), β4, m3, acc ++ [y], xs ++ [v], (((e'.trans e2).trans e3).trans e4).mut hD (.inl hl4), ok4.side hn4 hl4, hn4, upd_same, (ra4.mono ei).append (.cons (rv.mono ei) .nil), q'⟩
                  · exact q'.elim
section
variable {X : Cx} {W : WXD}
theorem pld_lc {elt tg iter : Expr} {ifs : List Expr} {scope : Scope} {own : List (Str × Nat)} {pos : Pos} {fi : FI} {gt : GT} {I : List Nat} {t : FT} {e : FE} (hc : X.calm = true) (hN : X.N.Nodup) (hi : PID X W tg iter fi) (ok : BlkOk X.N X.env.scope scope own)
    (hg : ∀ (s : Shared) (H : Hp) (C : Addr) (cl : List (Str × Addr)) (fp : List Addr), PGD (X.blk s H scope (compEnvC scope cl C X.env) fp) tg gt I) (ht : ∀ (s : Shared) (H : Hp) (C : Addr) (cl : List (Str × Addr)) (fp : List Addr), PTsD (X.blk s H scope (compEnvC scope cl C X.env) fp) WF ifs t)
    (he : ∀ (s : Shared) (H : Hp) (C : Addr) (cl : List (Str × Addr)) (fp : List Addr), PD (X.blk s H scope (compEnvC scope cl C X.env) fp) WF elt e) (hv : ∀ i ∈ I, i ∈ own.map (·.2) := by decide) (hs : ∀ x, foldedSetIterable iter X.env x = pure x := by intro _; rfl) :
    PLD X W (.ListComp elt [⟨tg, iter, ifs, 0⟩] scope pos) (fLc fi gt (own.map (·.2)) t e) := PE.imp (pe_lc hc hN hi ok hg ht he hs) fun σ H Q q => td_lc hv q
end
end Dl

/-! DL8: enumerate, zip of tuples; comprehensions of two clauses; methods of lists. -/
namespace Dl
open PySem PySem.Spec PyProof.Rows L2

/-! ### enumerate(tuple) -/
def ItEt (K : PySem.W.Frag) (a : Addr) : It :=
  ⟨fun i H => ∃ (xs : List V) (x : V), SqT K H a xs ∧ xs[i]? = some x, fun i H v H' => ∃ T x, v = .ref T ∧ H T = none ∧ H' = upd H T (.tup [.int (i : Nat), x]) ∧ ∀ xs, SqT K H a xs → xs[i]? = some x,
    fun i H => ∃ xs : List V, SqT K H a xs ∧ xs.length ≤ i⟩
theorem turn_enumT {P : Program} {w : World} {K : PySem.W.Frag} {elts : List Expr} {kk : Nat} {tpos : Pos} (a e it : Addr) :
    Turn P w K (.Tuple elts kk tpos) (ItEt K a) [e, it] e (fun i h => (∃ old, IsEnum h e it ((i : Nat) : Int) old) ∧ h.IsTupleIter it a i ∧ e ≠ it) where
  mem := by simp
  obj := fun i h st b hb => by
    obtain ⟨⟨old, he⟩, ⟨o, ho, hc, hd⟩, _⟩ := st
    have hb2 : b = e ∨ b = it := by simpa using hb
    rcases hb2 with rfl | rfl
    · exact ⟨_, he, fun v q => nomatch q⟩
    · exact ⟨o, ho, fun v q => by rw [hd] at q; cases q⟩
  keep := fun i h h' st k => by
    obtain ⟨⟨old, he⟩, hi, hne⟩ := st
    exact ⟨⟨old, k e (by simp) _ he⟩, hi.at fun o q => k it (by simp) o q, hne⟩
  item := by
    intro X hP hw hK hc i pins s σ H E I hf st hg
    subst hP hw hK
    obtain ⟨⟨old, he⟩, hit, hne⟩ := st
    obtain ⟨xs, x, hq, hx⟩ := hg
    obtain ⟨its, rv, p, hz⟩ := I.tuple hq
    obtain ⟨u, hu, ru⟩ := rv.get hx
    have pt : s.heap.IsTuple a its.toArray := p
    have hel : e < s.heap.objs.size := Heap.lt_size he
    have hil : it < s.heap.objs.size := by obtain ⟨_, q, _⟩ := hit; exact Heap.lt_size q
    have hai : a ≠ it := fun q => by
      obtain ⟨o1, h1, c1, _⟩ := pt
      obtain ⟨o2, h2, c2, _⟩ := hit
      rw [q, h2] at h1
      cases h1
      rw [c1] at c2
      exact absurd c2 (by decide)
    have hea : e ≠ a := fun q => by
      obtain ⟨o1, h1, c1, _⟩ := pt
      rw [← q, he] at h1
      cases h1
      simp at c1
    have hlt : i < its.toArray.size := by
      have := (List.getElem?_eq_some_iff.mp hu).1
      simpa using this
    refine wpAny_pyNext_enum_itemC (Draws.tuple (A := X.A.in1) (I.ok.hd hc) it a hai its.toArray) he ⟨hit, pt⟩ hlt hne (by simp [hne, hea]) fun y h' tk hy ho st' hT hsz hk => ?_
    have hyu : y = u := by
      have h2 : its.toArray[i]? = some y := hy
      rw [List.getElem?_toArray, hu] at h2
      exact (Option.some.inj h2).symm
    subst hyu
    refine ⟨_, rfl, wpAny_letOwnedTupleGo_enum (s := { s with heap := h', toks := tk + 1 }) ho fun h'' he' sb => ?_⟩
    have hT2 : h''.get? s.heap.objs.size = some { cls := .type "tuple", data := .seq #[.int i tk, y] } := (sb.2 _ (Nat.ne_of_gt hel)).trans hT
    have new : ObjOk X.prog X.w (upd H s.heap.objs.size (.tup [.int (i : Nat), x])) h'' s.heap.objs.size (.tup [.int (i : Nat), x]) :=
      ⟨by show 2 ≤ sizeLine; decide, [.int i tk, y], .cons ⟨_, rfl⟩ (.cons ru .nil), ⟨_, hT2, rfl, _, rfl⟩⟩
    have I1 : Inv X pins σ (upd H s.heap.objs.size (.tup [.int (i : Nat), x])) { s with heap := h'', toks := tk + 1 } :=
      I.turnedNew (ch := [e, it]) (fun b ob hb q => (sb.2 b (fun z => hb (by simp [z]))).trans (hk b ob (fun z => hb (by simp [z])) (fun z => hb (by simp [z])) q)) hf (Nat.le_refl _) new
    refine ⟨.ref s.heap.objs.size, _, I1, rfl, ⟨_, x, rfl, I.hok.fresh (Nat.le_refl _), rfl, fun ys hy => by rw [I.tuple_inj hy hq]; exact hx⟩, ⟨⟨y, ?_⟩, st'.1.at fun o q => (sb.2 it (Ne.symm hne)).trans q, hne⟩, fun b hb => ?_⟩
    · have e1 : ((i + 1 : Nat) : Int) = (i : Int) + 1 := by omega
      rw [e1]; exact he'
    · have hb2 : b = e ∨ b = it := by simpa using hb
      have hb' : b < s.heap.objs.size := by
        rcases hb2 with z | z
        · rw [z]; exact hel
        · rw [z]; exact hil
      rw [upd_ne (Nat.ne_of_lt hb')]
      exact (hf b hb).1
  done := by
    intro X hP hw hK hc i pins s σ H E I hf st hg
    subst hP hw hK
    obtain ⟨⟨old, he⟩, hit, hne⟩ := st
    obtain ⟨xs, hq, hx⟩ := hg
    obtain ⟨its, rv, p, hz⟩ := I.tuple hq
    obtain ⟨f0, f1, f2, f3, f4, f5⟩ := hf it (by simp)
    have pt : s.heap.IsTuple a its.toArray := p
    have hl := rv.length
    have hai : a ≠ it := fun q => by
      obtain ⟨o1, h1, c1, _⟩ := pt
      obtain ⟨o2, h2, c2, _⟩ := hit
      rw [q, h2] at h1
      cases h1
      rw [c1] at c2
      exact absurd c2 (by decide)
    unfold pyNext
    have hT : s.TypeIs (.ref e) "enumerate" := ⟨_, he, rfl⟩
    refine wpAny_bind (wpAny_attempt (wpAny_callSpecial?_slot (name := Str.ofString "__next__") hT F.slot_enumerate_next
      (wpAny_call_entry F.slot_enumerate_next hT F.entry_enumerate_next ?_ (F.args_enumerate_next_1 _))))
    show wpAny _ _ (field (.ref e) 2 >>= _) _ _ _
    refine wpAny_bind (wpAny_field he rfl (x := .ref it) rfl ?_)
    refine wpAny_bind (wpAny_nextOf_tuple_end (I.ok.hd hc) hit pt (by simp; omega) fun h' x he' hx' => ?_)
    obtain ⟨o, ho, hcl⟩ := hx'
    refine wpAny_bind (wpAny_isInstance (T := "StopIteration") (b := true) ⟨o, ho, hcl⟩ isSubtype_stop ?_)
    exact wpAny_pure ⟨rfl, I.turned (t' := s.toks) (fun b o hb q => he' b o hb q) f0 f1 f3 f4 f5⟩
  self := fun A i s Q E st h => by
    obtain ⟨⟨_, he⟩, _⟩ := st
    exact wpAny_pyIter_enum he h
set_option maxHeartbeats 4000000 in
theorem meets_enum1 {v : Value} {o : Obj} {H : Heap → Prop} (B : Begins v o H) :
    Meets (Builtin.«enumerate.__new__» ⟨[.type "enumerate", v], []⟩) (fun _ R s => H s.heap ∧
      R (.ok (.ret (.ref (s.heap.push o).objs.size))) { s with heap := (s.heap.push o).push { cls := .type "enumerate", data := .fields #[.none, .bool false, .ref s.heap.objs.size, rawInt 0, .none, .none] } }) :=
  .of_wp fun prog w A R s h => by
    obtain ⟨hp, g, d, tk, os⟩ := s
    obtain ⟨h1, h⟩ := h
    have hsub := sub_enumerate
    have q1 : ∀ {A' : Around} {E : Value → Shared → Prop} {Q : Value → Shared → Prop}, Q (.ref hp.objs.size) ⟨hp.push o, g, d, tk, os⟩ → wpAny (model prog w) A' (pyIter v) Q E ⟨hp, g, d, tk, os⟩ :=
      fun q => B.iter prog w _ _ ⟨hp, g, d, tk, os⟩ _ h1 q
    wp_walk using q1
    refine wpAny_stack_any fun st => wpAny_pure ?_
    split
    · rename_i c _ _ _ _ _
      cases (c == Value.type "enumerate")
      · wp_walk using q1
        exact ⟨_, rfl, h⟩
      · wp_walk using q1
        exact ⟨_, rfl, h⟩
    · wp_walk using q1
      exact ⟨_, rfl, h⟩
theorem enum_begins1 {prog : Program} {w : World} {A : Around} {E : Value → Shared → Prop} {s : Shared} {v : Value} {o : Obj} {H : Heap → Prop} {Q : Value → Shared → Prop} (B : Begins v o H) (h1 : H s.heap)
    (h : ∀ h', IsEnum h' (s.heap.objs.size + 1) s.heap.objs.size 0 .none → h'.get? s.heap.objs.size = some o → (∀ b o, s.heap.get? b = some o → h'.get? b = some o) → Q (.ref (s.heap.objs.size + 1)) { s with heap := h' }) :
    wpAny (model prog w) A (call (.type "enumerate") [v]) Q E s := by
  refine callType_new F.called_enumerate (by decide) (F.typeCall_enumerate_1 _) (F.newCall_enumerate_1 _) (fun obj => F.args_object_init_2 obj _) F.entry_enumerate_new (meets_enum1 B) ⟨h1, ?_⟩
  have hz : (s.heap.push o).objs.size = s.heap.objs.size + 1 := Heap.size_push ..
  show _ ∧ _
  rw [hz]
  have he : IsEnum ((s.heap.push o).push { cls := .type "enumerate", data := .fields #[.none, .bool false, .ref s.heap.objs.size, rawInt 0, .none, .none] }) (s.heap.objs.size + 1) s.heap.objs.size 0 .none := by
    have := Heap.get?_push_size (s.heap.push o) (o := { cls := .type "enumerate", data := .fields #[.none, .bool false, .ref s.heap.objs.size, rawInt 0, .none, .none] }) rfl
    rw [hz] at this
    exact this
  exact ⟨⟨_, he, rfl⟩, h _ he (Heap.get?_push_of_some _ (Heap.get?_push_size _ B.free)) fun b o x => Heap.get?_push_of_some _ (Heap.get?_push_of_some _ x)⟩
def iEnumA (K : PySem.W.Frag) (ta : TA) : TI := fun σ H R => ta σ H fun vs H1 => ∃ a, vs = [.ref a] ∧ (((∃ xs, SqL K H1 a xs) ∧ R (Ite K a) H1) ∨ ((∃ xs, SqT K H1 a xs) ∧ R (ItEt K a) H1))
theorem pi_enumA {X : Cx} {e : Expr} {ta : TA} {p pos tpos : Pos} {elts : List Expr} {kk : Nat} (hg : Gl X "enumerate") (hm : X.mg "enumerate" = none) (ha : PA X [e] ta) (hs : starEach [e] X.env = [(false, eval e X.env)] := by rfl) :
    PI X (.Tuple elts kk tpos) (.Call (.Name "enumerate" p) [e] [] pos) (iEnumA X.K ta) := by
  refine ⟨fun pins s σ H R I h => ?_⟩
  refine Call_ (ld_blt I hg hm boot_enumerate (PyProof.Rows.callWith_type1 (thn (ha.run pos pins s σ H _ I h) fun us s1 ⟨vs, H1, I1, r1, q1⟩ => ?_) hs rfl))
  obtain ⟨a, rfl, q1⟩ := q1
  obtain ⟨u, rfl, ru⟩ := vals1 r1
  cases ru
  have apart : ∀ b, b ∈ [s1.heap.objs.size + 1, s1.heap.objs.size] → s1.heap.objs.size ≤ b := fun b hb => by
    have hb2 : b = s1.heap.objs.size + 1 ∨ b = s1.heap.objs.size := by simpa using hb
    rcases hb2 with z | z
    · rw [z]; exact Nat.le_add_right _ _
    · rw [z]; exact Nat.le_refl _
  rcases q1 with ⟨⟨xs, hq⟩, q1⟩ | ⟨⟨xs, hq⟩, q1⟩
  · obtain ⟨its, rv, pl, hz⟩ := I1.list hq
    refine enum_begins1 (begins_list a its.toArray) pl.isList fun h' he hit hk => wpAny_pyIter_enum he ?_
    have I2 : Inv X pins σ H1 { s1 with heap := h' } := I1.kept (t' := s1.toks) hk
    exact ⟨s1.heap.objs.size + 1, [s1.heap.objs.size + 1, s1.heap.objs.size], _, _, H1, rfl, I2, turn_enum a (s1.heap.objs.size + 1) s1.heap.objs.size, ⟨⟨.none, he⟩, ⟨_, hit, rfl, rfl⟩, Nat.succ_ne_self _⟩, fun b hb => I1.fpOk (apart b hb) (I1.hok.fresh (apart b hb)), q1⟩
  · obtain ⟨its, rv, pt, hz⟩ := I1.tuple hq
    refine enum_begins1 (begins_tuple a its.toArray) pt fun h' he hit hk => wpAny_pyIter_enum he ?_
    have I2 : Inv X pins σ H1 { s1 with heap := h' } := I1.kept (t' := s1.toks) hk
    exact ⟨s1.heap.objs.size + 1, [s1.heap.objs.size + 1, s1.heap.objs.size], _, _, H1, rfl, I2, turn_enumT a (s1.heap.objs.size + 1) s1.heap.objs.size, ⟨⟨.none, he⟩, ⟨_, hit, rfl, rfl⟩, Nat.succ_ne_self _⟩, fun b hb => I1.fpOk (apart b hb) (I1.hok.fresh (apart b hb)), q1⟩
def pairI (i : Nat) (d : D) : D := .tup [.int i, d]
def srcTE (ds : List D) : Src := ⟨ds.length, fun _ i => (ds[i]?).map (pairI i), fun _ => true⟩
def srcLE (n : Nat) (k : Nat) : Src := ⟨k, fun m i => match m[n]? with
  | some (.lst ds) => if ds.length = k then (ds[i]?).map (pairI i) else none
  | _ => none, fun m => match m[n]? with
  | some (.lst ds) => decide (ds.length = k)
  | _ => false⟩
def srcEOf (m : M) : D → Option Src
  | .tup ds => some (srcTE ds)
  | .rol ds => some (srcTE ds)
  | .fix ds => some (srcTE ds)
  | .ref n => match m[n]? with
    | some (.lst ds) => some (srcLE n ds.length)
    | _ => none
  | _ => none
section
variable {K : PySem.W.Frag} {β0 : List Addr} {H0 : Hp}
theorem rp_pair {β : List Addr} {H : Hp} {m : M} {T : Addr} {i : Nat} {x : V} {d : D} (ok : MOk K β H m) (hT : H T = none) (r : Rp K β H x d) : Ext β β H (upd H T (.tup [.int (i : Nat), x])) ∧ MOk K β (upd H T (.tup [.int (i : Nat), x])) m ∧
    Rp K β (upd H T (.tup [.int (i : Nat), x])) (.ref T) (pairI i d) :=
  ⟨Ext.upd_new hT, ok.upd_new hT, .tup upd_same (.cons (.int _) (.cons (r.ext (Ext.upd_new hT)) .nil))⟩
theorem src_etup {a : Addr} {xs : List V} {ds : List D} (h : SqT K H0 a xs) (r : RpA K β0 H0 xs ds) : SrcOk K β0 H0 (srcTE ds) (ItEt K a) := fun β H m e ok => by
  refine ⟨fun i d hi hd => ?_, fun _ => ⟨xs, e.sqt h, by show xs.length ≤ ds.length; rw [r.length]; exact Nat.le_refl _⟩⟩
  simp only [srcTE] at hd
  cases hq : ds[i]? with
  | none => rw [hq] at hd; cases hd
  | some d0 =>
    rw [hq] at hd
    cases hd
    obtain ⟨v, hv, rv⟩ := r.get hq
    refine ⟨⟨xs, v, e.sqt h, hv⟩, fun x H' y => ?_⟩
    obtain ⟨T, x0, rfl, hT, rfl, y⟩ := y
    have hx := y xs (e.sqt h)
    rw [hv] at hx
    cases hx
    exact rp_pair ok hT (rv.mono e)
theorem src_erol {a : Addr} {xs : List V} {ds : List D} (h : SqF K H0 a xs) (r : RpA K β0 H0 xs ds) : SrcOk K β0 H0 (srcTE ds) (Ite K a) := fun β H m e ok => by
  refine ⟨fun i d hi hd => ?_, fun _ => ⟨xs, (e.sqf h).sql, by show xs.length ≤ ds.length; rw [r.length]; exact Nat.le_refl _⟩⟩
  simp only [srcTE] at hd
  cases hq : ds[i]? with
  | none => rw [hq] at hd; cases hd
  | some d0 =>
    rw [hq] at hd
    cases hd
    obtain ⟨v, hv, rv⟩ := r.get hq
    refine ⟨⟨xs, v, (e.sqf h).sql, hv⟩, fun x H' y => ?_⟩
    obtain ⟨T, x0, rfl, hT, rfl, y⟩ := y
    have hx := y xs (e.sqf h).sql
    rw [hv] at hx
    cases hx
    exact rp_pair ok hT (rv.mono e)
theorem src_elst {a : Addr} {n k : Nat} (hb : β0[n]? = some a) : SrcOk K β0 H0 (srcLE n k) (Ite K a) := fun β H m e ok => by
  have hb' := e.ix _ _ hb
  refine ⟨fun i d hi hd => ?_, fun hf => ?_⟩
  · simp only [srcLE] at hd
    split at hd
    · rename_i ds hds
      split at hd
      · obtain ⟨xs, h1, r1⟩ := ok.at' n _ a hds hb'
        cases hq : ds[i]? with
        | none => rw [hq] at hd; cases hd
        | some d0 =>
          rw [hq] at hd
          cases hd
          obtain ⟨v, hv, rv⟩ := r1.get hq
          refine ⟨⟨xs, v, SqL.of h1, hv⟩, fun x H' y => ?_⟩
          obtain ⟨T, x0, rfl, hT, rfl, y⟩ := y
          have hx := y xs (SqL.of h1)
          rw [hv] at hx
          cases hx
          exact rp_pair ok hT rv
      · cases hd
    · cases hd
  · simp only [srcLE] at hf
    split at hf
    · rename_i ds hds
      obtain ⟨xs, h1, r1⟩ := ok.at' n _ a hds hb'
      exact ⟨xs, SqL.of h1, by show xs.length ≤ k; rw [r1.length]; exact Nat.le_of_eq (of_decide_eq_true hf)⟩
    · cases hf
end
def fEnum (f : FE) : FI := fun ρ m => (f ρ m).bind fun d m => match srcEOf m d with
  | some s => .ok s m
  | none => .bad
theorem pid_enum {X : Cx} {W : WXD} {e : Expr} {f : FE} {p pos tpos : Pos} {elts : List Expr} {kk : Nat} (hg : Gl X "enumerate") (hm : X.mg "enumerate" = none) (ha : PD X W e f) (hs : starEach [e] X.env = [(false, eval e X.env)] := by rfl)
    (hs' : starEach [e] X.env = (false, eval e X.env) :: starEach [] X.env := by rfl) : PID X W (.Tuple elts kk tpos) (.Call (.Name "enumerate" p) [e] [] pos) (fEnum f) :=
  PI.imp (pi_enumA hg hm (pa_cons ha pa_nil hs') hs) fun σ H R q => by
    obtain ⟨β, m, ρ, s, q⟩ := q
    refine td_bind s q fun d m1 v β1 H1 e1 s1 rv q1 => ?_
    split at q1
    · rename_i src hsrc
      have fin : ∀ J, SrcOk X.K β1 H1 src J → R J H1 := q1.here s1.me
      cases rv with
      | tup hx rx => simp only [srcEOf] at hsrc; cases hsrc; exact ⟨_, rfl, .inr ⟨⟨_, SqT.of hx⟩, fin _ (src_etup (SqT.of hx) rx)⟩⟩
      | rol hx rx => simp only [srcEOf] at hsrc; cases hsrc; exact ⟨_, rfl, .inl ⟨⟨_, hx.sql⟩, fin _ (src_erol hx rx)⟩⟩
      | fix hx rx => simp only [srcEOf] at hsrc; cases hsrc; exact ⟨_, rfl, .inr ⟨⟨_, hx.sqt⟩, fin _ (src_etup hx.sqt rx)⟩⟩
      | ref hb =>
        simp only [srcEOf] at hsrc
        split at hsrc
        · rename_i ds hds
          cases hsrc
          obtain ⟨xs, h1, r1⟩ := s1.me.at' _ _ _ hds hb
          exact ⟨_, rfl, .inl ⟨⟨xs, SqL.of h1⟩, fin _ (src_elst hb)⟩⟩
        · cases hsrc
      | non => simp only [srcEOf] at hsrc; cases hsrc
      | bl _ => simp only [srcEOf] at hsrc; cases hsrc
      | int _ => simp only [srcEOf] at hsrc; cases hsrc
      | str _ => simp only [srcEOf] at hsrc; cases hsrc
      | ty _ => simp only [srcEOf] at hsrc; cases hsrc
    · exact q1.elim

/-! ### zip of two tuples -/
def srcZ (ds es : List D) : Src := ⟨min ds.length es.length, fun _ i => match ds[i]?, es[i]? with
  | some d, some e => some (.tup [d, e])
  | _, _ => none, fun _ => true⟩
def fZipT (f g : FE) : FI := fun ρ m => (f ρ m).bind fun d m => (g ρ m).bind fun e m => match d, e with
  | .tup ds, .tup es => .ok (srcZ ds es) m
  | _, _ => .bad
theorem src_zipT {K : PySem.W.Frag} {β0 : List Addr} {H0 : Hp} {a b : Addr} {xs ys : List V} {ds es : List D} (h : SqT K H0 a xs) (r : RpA K β0 H0 xs ds) (h' : SqT K H0 b ys) (r' : RpA K β0 H0 ys es) : SrcOk K β0 H0 (srcZ ds es) (RZ.ItzT K a b) := fun β H m e ok => by
  refine ⟨fun i d hi hd => ?_, fun _ => ⟨xs, ys, e.sqt h, e.sqt h', by show xs.length ≤ min ds.length es.length ∨ ys.length ≤ min ds.length es.length; rw [r.length, r'.length]; omega⟩⟩
  simp only [srcZ] at hd
  split at hd
  · rename_i d1 d2 h1 h2
    cases hd
    obtain ⟨v, hv, rv⟩ := r.get h1
    obtain ⟨w, hw, rw'⟩ := r'.get h2
    refine ⟨⟨xs, ys, v, w, e.sqt h, e.sqt h', hv, hw⟩, fun x H' y => ?_⟩
    obtain ⟨T, x0, y0, rfl, hT, rfl, y1, y2⟩ := y
    have hx := y1 xs (e.sqt h)
    rw [hv] at hx
    cases hx
    have hy := y2 ys (e.sqt h')
    rw [hw] at hy
    cases hy
    exact ⟨Ext.upd_new hT, ok.upd_new hT, .tup upd_same (.cons ((rv.mono e).ext (Ext.upd_new hT)) (.cons ((rw'.mono e).ext (Ext.upd_new hT)) .nil))⟩
  · cases hd
theorem pid_zipT {X : Cx} {W : WXD} {e e2 : Expr} {f g : FE} {p pos tpos : Pos} {elts : List Expr} {kk : Nat} (hg : Gl X "zip") (hm : X.mg "zip" = none) (ha : PD X W e f) (hb : PD X W e2 g)
    (hs : starEach [e, e2] X.env = (false, eval e X.env) :: starEach [e2] X.env := by rfl) (hs2 : starEach [e2] X.env = (false, eval e2 X.env) :: starEach [] X.env := by rfl) (hpl : (backTo pos (starEach [e2] X.env)).any (·.1) = false := by rfl) :
    PID X W (.Tuple elts kk tpos) (.Call (.Name "zip" p) [e, e2] [] pos) (fZipT f g) :=
  PI.imp (RZ.pi_zipA hg hm (pa_cons ha (pa_cons hb pa_nil hs2) hs) hs hpl) fun σ H R q => by
    obtain ⟨β, m, ρ, s, q⟩ := q
    refine td_bind s q fun d m1 v β1 H1 e1 s1 rv q1 => ?_
    refine td_bind s1 q1 fun d2 m2 w β2 H2 e2 s2 rw q2 => ?_
    split at q2
    · have rv2 := rv.ext e2
      cases rv2 with
      | tup hx rx =>
        cases rw with
        | tup hy ry => exact ⟨_, _, _, _, rfl, .inr ⟨SqT.of hx, SqT.of hy, q2.here s2.me _ (src_zipT (SqT.of hx) rx (SqT.of hy) ry)⟩⟩
    · exact q2.elim
end Dl

/-! DL9: products, chains of comparisons, comprehensions of two clauses, methods of lists. -/
namespace Dl
open PySem PySem.Spec PyProof.Rows L2

/-! ### a * b -/
theorem tuple_mul1 (l : Addr) (items : Array Value) (n : Nat) (dx : Option Addr) (sx : Array (Option Value)) (u : Tok) :
    Meets (Builtin.«tuple.__mul__» ⟨[.ref l, .int 1 u], []⟩) (fun _ R s => s.heap.get? l = some ⟨.type "tuple", dx, .seq items n, sx⟩ ∧ R (.ok (.ret (.ref l))) s) :=
  .of_wp fun prog w A R s h => by
    obtain ⟨hp, g, d, tk, os⟩ := s
    obtain ⟨hl, h⟩ := h
    have f1 := AutoSeq1.idx_int
    have c1 : (items.isEmpty || (1 : Int) == 1) = true := by simp
    wp_walk using wpAny_loadPart' hl
    exact ⟨_, rfl, h⟩
def rRep1 (K : PySem.W.Frag) : R2 := fun x y H Q => ∃ l xs, x = .ref l ∧ y = .int 1 ∧ SqT K H l xs ∧ Q (.ref l) H
theorem op_rep1 {X : Cx} : OpR X (binaryOp .Mult) (rRep1 X.K) := by
  intro pins s σ H x y v u Q I rx ry h
  obtain ⟨l, xs, rfl, rfl, hT, q⟩ := h
  cases rx
  obtain ⟨t, rfl⟩ := ry
  obtain ⟨its, r, ⟨⟨cls, dd, data, sl⟩, ho, hc, n, hd⟩, hs⟩ := I.tuple hT
  simp only at hc hd
  subst hc hd
  have m1 := tuple_mul1 l its.toArray n dd sl t
  refine wpAny_binaryOp_repeat_ref (T := "tuple") (U := "int") (by decide) ⟨_, ho, rfl⟩ (fun s' => typeIs_int s' 1 t) noFill_tuple_mul F.fills_int_mul F.slot_int_rmul repeat_tuple F.slot_int_index.lookup
    (call_meets F.slot_int_rmul (typeIs_int s 1 t) F.entry_int_rmul (F.args_int_rmul_2 _ _) (int_rmul_tuple 1 t l its.toArray n dd sl) ⟨ho, rfl, ⟨_, ho, rfl⟩, call_meets F.slot_tuple_mul ⟨_, ho, rfl⟩ F.entry_tuple_mul (F.args_tuple_mul_2 _ _) m1 ⟨ho, ?_⟩⟩)
  exact ⟨.ref l, H, I.tok s.toks, rfl, q⟩
noncomputable def gMul : D → D → M → Res D := fun a b m => match a, b with
  | .int i, .int j => if cMul i j then .ok (.int (i * j)) m else .bad
  | .tup xs, .int k => if k = 1 then .ok (.tup xs) m else if 2 ≤ k ∧ k ≤ 1000 ∧ xs ≠ [] ∧ xs.length ≤ 1000 then .ok (.tup (List.replicate k.toNat xs).flatten) m else .bad
  | .ref n, .int k => match m[n]? with
    | some (.lst xs) => if 0 ≤ k ∧ k ≤ 1000 ∧ xs.length ≤ 100 then .ok (.ref m.length) (m ++ [.lst (List.replicate k.toNat xs).flatten]) else .bad
    | _ => .bad
  | _, _ => .bad
def rMulD (K : PySem.W.Frag) : R2 := fun x y H Q => (rI CMul fun i j => .int (i * j)) x y H Q ∨ rRep1 K x y H Q ∨ rRepT K x y H Q ∨ rRep x y H Q
theorem RpA.rep {K : PySem.W.Frag} {β : List Addr} {H : Hp} {xs : List V} {ds : List D} (r : RpA K β H xs ds) : ∀ n : Nat, RpA K β H (List.replicate n xs).flatten (List.replicate n ds).flatten
  | 0 => .nil
  | n + 1 => by
    rw [List.replicate_succ, List.replicate_succ, List.flatten_cons, List.flatten_cons]
    exact r.append (RpA.rep r n)
theorem opd_mulD {K : PySem.W.Frag} : OpD K (rMulD K) gMul := by
  intro Wx β H m x y a b Q ok ra rb h
  unfold gMul at h
  split at h
  · rename_i i j
    refine .inl (opd_mul Wx β H m x y (.int i) (.int j) Q ok ra rb ?_)
    exact h
  · rename_i xs k
    cases ra with
    | tup hx rx =>
      cases rb
      split at h
      · rename_i hk
        subst hk
        exact .inr (.inl ⟨_, _, rfl, rfl, SqT.of hx, h.here ok _ (.tup hx rx)⟩)
      · split at h
        · rename_i hk
          obtain ⟨h1, h2, h3, h4⟩ := hk
          refine .inr (.inr (.inl ⟨_, _, _, rfl, rfl, SqT.of hx, fun e => h3 (rx.nil_iff.mp e), h1, h2, by rw [rx.length]; exact h4, fun p hp => ?_⟩))
          exact h β _ (Ext.upd_new hp) (ok.upd_new hp) _ (.tup upd_same ((rx.ext (Ext.upd_new hp)).rep _))
        · exact h.elim
  · rename_i n k
    split at h
    · rename_i ds hn
      split at h
      · rename_i hk
        obtain ⟨h1, h2, h3⟩ := hk
        cases ra with
        | ref hb =>
          cases rb
          obtain ⟨xs, g1, g2⟩ := ok.at' _ _ _ hn hb
          have hm : xs.length * k.toNat ≤ 100 * 1000 := Nat.mul_le_mul (by rw [g2.length]; exact h3) (by omega)
          refine .inr (.inr (.inr ⟨_, k, xs, rfl, rfl, g1, by omega, by omega, by rw [sizeLine_eq]; omega, fun p hp => ?_⟩))
          exact h (β ++ [p]) _ (Ext.lay hp) (ok.lay hp (g2.rep _)) _ (Rp.last ok)
      · exact h.elim
    · exact h.elim
  · exact h.elim
theorem op_mulD {X : Cx} : OpR X (binaryOp .Mult) (rMulD X.K) := op_mul.or (op_rep1.or (op_repT.or op_rep))
section
variable {X : Cx} {W : WXD} {a b c : Expr} {pos : Pos} {fa fb fc : FE}
theorem pd_mul (ha : PD X W a fa) (hb : PD X W b fb) : PD X W (.BinOp a .Mult b pos) (fOp gMul fa fb) := pd_op op_mulD opd_mulD ha hb

/-! ### a op b op c -/
theorem pd_chain {op op' : CmpOp} {r r' : R2} {g g' : D → D → M → Res D} (ho : OpR X (compareOp op) r) (ho' : OpR X (compareOp op') r') (hg : OpD X.K r g) (hg' : OpD X.K r' g') (ha : PD X W a fa) (hb : PD X W b fb) (hc : PD X W c fc)
    (hm : lastMarks [op, op'] [b, c] = false := by with_unfolding_all rfl) : PD X W (.Compare a [op, op'] [b, c] pos) (fChain g g' fa fb fc) := PE.imp (pe_chain ho ho' ha hb hc hm) fun _ _ _ q => td_chain hg hg' q
theorem ptd_chain {op op' : CmpOp} {r r' : R2} {g g' : D → D → M → Res D} (ho : OpR X (compareOp op) r) (ho' : OpR X (compareOp op') r') (hg : OpD X.K r g) (hg' : OpD X.K r' g') (ha : PD X W a fa) (hb : PD X W b fb) (hc : PD X W c fc)
    (hm : lastMarks [op, op'] [b, c] = false := by with_unfolding_all rfl) : PTD X W (.Compare a [op, op'] [b, c] pos) (fTest (fChain g g' fa fb fc)) := PT.imp (pt_chain ho ho' ha hb hc hm) fun σ H Q h => by
  have q := td_test h
  unfold tTest at q ⊢
  exact td_chain hg hg' q
end

/-! ### methods of lists -/
/-- what the method makes of the list's items: the answer, the items then -/
abbrev MF := M → List D → List D → Option (D × List D)
def fMeth (g : MF) (fo : FE) (fa : FA) : FE := fun ρ m => (fo ρ m).bind fun o m1 => match o with
  | .ref n => match m1[n]? with
    | some (.lst _) => (fa ρ m1).bind fun as m2 => match m2[n]? with
      | some (.lst xs) => match g m2 xs as with
        | some (d, ys) => .ok d (m2.set n (.lst ys))
        | none => .bad
      | _ => .bad
    | _ => .bad
  | _ => .bad
def MtD (K : PySem.W.Frag) (r : V → List V → Hp → VK → Prop) (g : MF) : Prop :=
  ∀ (β : List Addr) (H : Hp) (m : M) (l : Addr) (xs vs : List V) (ds as : List D) (d : D) (es : List D) (Q : VK), MOk K β H m → H l = some (.lst xs) → RpA K β H xs ds → RpA K β H vs as → g m ds as = some (d, es) →
    (∀ v ys, Rp K β H v d → RpA K β H ys es → Q v (upd H l (.lst ys))) → r (.ref l) vs H Q
theorem td_meth {K : PySem.W.Frag} {W : WXD} {r : V → List V → Hp → VK → Prop} {g : MF} (hg : MtD K r g) {fo : FE} {fa : FA} {σ : Sg} {H : Hp} {Q : VK} (q : tD K W (fMeth g fo fa) σ H Q) : tBM K "list" r (tD K W fo) (tAD K W fa) σ H Q := by
  obtain ⟨β, m, ρ, s, q⟩ := q
  refine td_bind s q fun o m1 v β1 H1 e1 s1 rv q1 => ?_
  split at q1
  · rename_i n
    split at q1
    · rename_i ds0 hn0
      cases rv with
      | ref hb =>
        obtain ⟨xs0, h0, r0⟩ := s1.me.at' _ _ _ hn0 hb
        refine ⟨.inl ⟨rfl, _, .inl (.inl h0)⟩, tad_bind s1 q1 fun as m2 vs β2 H2 e2 s2 rs q2 => ?_⟩
        split at q2
        · rename_i ds hn
          split at q2
          · rename_i d es hge
            have hb2 := e2.ix hb
            obtain ⟨xs, h1, r1⟩ := s2.me.at' _ _ _ hn hb2
            refine hg β2 H2 m2 _ xs vs ds as d es Q s2.me h1 r1 rs hge fun u ys ru ry => ?_
            exact q2 β2 _ (Ext.write h1 hb2) (s2.me.write h1 hb2 ry) u (ru.ext (Ext.write h1 hb2))
          · exact q2.elim
        · exact q2.elim
    · exact q1.elim
  · exact q1.elim
def mAppend : MF := fun _ xs as => match as with
  | [y] => if xs.length < LIM then some (.non, xs ++ [y]) else none
  | _ => none
theorem mtd_append {K : PySem.W.Frag} : MtD K rAppend mAppend := by
  intro β H m l xs vs ds as d es Q ok h rx rv hg q
  unfold mAppend at hg
  split at hg
  · split at hg
    · rename_i hl
      obtain ⟨rfl, rfl⟩ : _ ∧ _ := by simpa using hg
      obtain ⟨y, rfl, ry⟩ := rv.one
      exact ⟨l, xs, y, rfl, rfl, h, lim_lt (by rw [rx.length]; exact hl), q _ _ .non (rx.append (.cons ry .nil))⟩
    · cases hg
  · cases hg
def mExtend : MF := fun m xs as => match as with
  | [.ref n] => match m[n]? with
    | some (.lst ys) => if xs.length + ys.length ≤ LIM then some (.non, xs ++ ys) else none
    | _ => none
  | _ => none
theorem mtd_extend {K : PySem.W.Frag} : MtD K rExtend mExtend := by
  intro β H m l xs vs ds as d es Q ok h rx rv hg q
  unfold mExtend at hg
  split at hg
  · split at hg
    · rename_i n es' hn
      split at hg
      · rename_i hl
        obtain ⟨rfl, rfl⟩ : _ ∧ _ := by simpa using hg
        obtain ⟨y, rfl, ry⟩ := rv.one
        cases ry with
        | ref hb =>
          obtain ⟨zs, h1, r1⟩ := ok.at' _ _ _ hn hb
          exact ⟨l, _, xs, zs, rfl, rfl, h, h1, lim_le (by rw [rx.length, r1.length]; exact hl), q _ _ .non (rx.append r1)⟩
      · cases hg
    · cases hg
  · cases hg
def mPop0 : MF := fun _ xs as => match as with
  | [.int 0] => match xs with
    | x :: r => some (x, r)
    | [] => none
  | [.int i] => if 0 ≤ i ∧ i < 1000000 then match xs[i.toNat]? with
      | some x => some (x, xs.eraseIdx i.toNat)
      | none => none
    else none
  | _ => none
theorem mtd_pop0 {K : PySem.W.Frag} : MtD K rPopAt mPop0 := by
  intro β H m l xs vs ds as d es Q ok h rx rv hg q
  unfold mPop0 at hg
  split at hg
  · split at hg
    · obtain ⟨rfl, rfl⟩ : _ ∧ _ := by simpa using hg
      obtain ⟨y, rfl, ry⟩ := rv.one
      cases ry
      cases rx with
      | @cons x xs d ds r1 r2 =>
        refine ⟨l, _, 0, 0, x, rfl, rfl, h, by decide, by decide, ?_, rfl, q _ _ r1 r2⟩
        unfold seqIndex?
        simp
    · cases hg
  · rename_i i _
    split at hg
    · rename_i hi
      split at hg
      · rename_i x hx
        obtain ⟨rfl, rfl⟩ : _ ∧ _ := by simpa using hg
        obtain ⟨y, rfl, ry⟩ := rv.one
        cases ry
        obtain ⟨u, hu, ru⟩ := rx.get hx
        have hlt : i.toNat < xs.length := (List.getElem?_eq_some_iff.mp hu).1
        exact ⟨l, _, i, i.toNat, u, rfl, rfl, h, by omega, by omega, seqIndex_of hi.1 (by omega), hu, q _ _ ru (rx.erase _)⟩
      · cases hg
    · cases hg
  · cases hg
section
variable {X : Cx} {W : WXD} {o e : Expr} {fo : FE} {fa : FA} {apos cpos : Pos} {name : Str} {id : String} {r : V → List V → Hp → VK → Prop} {g : MF}
theorem pd_meth (pl : PlainAttrs "list") (slot : Slot "list" name id) (hty : typeOf (.builtin id) = pure (.type "method_descriptor")) (hm : MtR X id r) (hg : MtD X.K r g) (ho : PD X W o fo) (ha : PAD X W [e] fa)
    (hbase : attributeBase o name X.env (eval o X.env) = eval o X.env := by rfl)
    (hfew : ((backTo cpos (starEach [e] X.env)).all (fun x => !x.1) && (backToKw cpos (keywordEach [] X.env)).all (fun x => x.1.isSome)
      && decide (([e] : List Expr).length + ([] : List Keyword).length + (if ([] : List Keyword).isEmpty then 0 else 1) < 30)) = true := by rfl)
    (hline : (apos.endLine == cpos.line) = true := by rfl) (hs : starEach [e] X.env = (false, eval e X.env) :: starEach [] X.env := by rfl) (hplain : (backTo cpos (starEach [] X.env)).any (·.1) = false := by rfl) :
    PD X W (.Call (.Attribute o name apos) [e] [] cpos) (fMeth g fo fa) :=
  PE.imp (pe_bm pl slot hty hm ho ha hbase hfew hline hs hplain) fun _ _ _ q => td_meth hg q
theorem pd_append (ho : PD X W o fo) (ha : PAD X W [e] fa)
    (hbase : attributeBase o "append" X.env (eval o X.env) = eval o X.env := by rfl)
    (hfew : ((backTo cpos (starEach [e] X.env)).all (fun x => !x.1) && (backToKw cpos (keywordEach [] X.env)).all (fun x => x.1.isSome)
      && decide (([e] : List Expr).length + ([] : List Keyword).length + (if ([] : List Keyword).isEmpty then 0 else 1) < 30)) = true := by rfl)
    (hline : (apos.endLine == cpos.line) = true := by rfl) (hs : starEach [e] X.env = (false, eval e X.env) :: starEach [] X.env := by rfl) (hplain : (backTo cpos (starEach [] X.env)).any (·.1) = false := by rfl) :
    PD X W (.Call (.Attribute o "append" apos) [e] [] cpos) (fMeth mAppend fo fa) := pd_meth PySem.F.plainAttrs_list PySem.F.slot_list_append PySem.F.type_list_append mt_append mtd_append ho ha hbase hfew hline hs hplain
theorem pd_extend (ho : PD X W o fo) (ha : PAD X W [e] fa)
    (hbase : attributeBase o "extend" X.env (eval o X.env) = eval o X.env := by rfl)
    (hfew : ((backTo cpos (starEach [e] X.env)).all (fun x => !x.1) && (backToKw cpos (keywordEach [] X.env)).all (fun x => x.1.isSome)
      && decide (([e] : List Expr).length + ([] : List Keyword).length + (if ([] : List Keyword).isEmpty then 0 else 1) < 30)) = true := by rfl)
    (hline : (apos.endLine == cpos.line) = true := by rfl) (hs : starEach [e] X.env = (false, eval e X.env) :: starEach [] X.env := by rfl) (hplain : (backTo cpos (starEach [] X.env)).any (·.1) = false := by rfl) :
    PD X W (.Call (.Attribute o "extend" apos) [e] [] cpos) (fMeth mExtend fo fa) := pd_meth PySem.F.plainAttrs_list PySem.F.slot_list_extend PySem.F.type_list_extend mt_extend mtd_extend ho ha hbase hfew hline hs hplain
theorem pd_pop0 (ho : PD X W o fo) (ha : PAD X W [e] fa)
    (hbase : attributeBase o "pop" X.env (eval o X.env) = eval o X.env := by rfl)
    (hfew : ((backTo cpos (starEach [e] X.env)).all (fun x => !x.1) && (backToKw cpos (keywordEach [] X.env)).all (fun x => x.1.isSome)
      && decide (([e] : List Expr).length + ([] : List Keyword).length + (if ([] : List Keyword).isEmpty then 0 else 1) < 30)) = true := by rfl)
    (hline : (apos.endLine == cpos.line) = true := by rfl) (hs : starEach [e] X.env = (false, eval e X.env) :: starEach [] X.env := by rfl) (hplain : (backTo cpos (starEach [] X.env)).any (·.1) = false := by rfl) :
    PD X W (.Call (.Attribute o "pop" apos) [e] [] cpos) (fMeth mPop0 fo fa) := pd_meth PySem.F.plainAttrs_list PySem.F.slot_list_pop PySem.F.type_list_pop mt_popAt mtd_pop0 ho ha hbase hfew hline hs hplain
end

/-! ### what is named no more goes -/
def lowM (L : Nat) (m : M) : Bool := (m.take L).all (O.blw L)
def gc (L : Nat) (d : D) (m : M) : D × M :=
  if lowM L m then
    if d.blw L then (d, m.take L) else match d with
      | .ref n => match m[n]? with
        | some o => if o.blw L then (.ref L, m.take L ++ [o]) else (d, m)
        | none => (d, m)
      | _ => (d, m)
  else (d, m)
section
variable {K : PySem.W.Frag} {β β' β'' : List Addr} {H H' : Hp} {L : Nat}
mutual
theorem Rp.low (h : ∀ (n : Nat) (a : Addr), n < L → β'[n]? = some a → β''[n]? = some a) : ∀ {v : V} {d : D}, d.blw L = true → Rp K β' H v d → Rp K β'' H v d
  | _, _, _, .non => .non
  | _, _, _, .bl b => .bl b
  | _, _, _, .int i => .int i
  | _, _, _, .str x => .str x
  | _, _, hd, .tup hs r => .tup hs (RpA.low h (by simpa only [D.blw] using hd) r)
  | _, _, hd, .rol hs r => .rol hs (RpA.low h (by simpa only [D.blw] using hd) r)
  | _, _, hd, .fix hs r => .fix hs (RpA.low h (by simpa only [D.blw] using hd) r)
  | _, _, hd, .ref hb => .ref (h _ _ (by simpa only [D.blw, decide_eq_true_eq] using hd) hb)
  | _, _, _, .ty n => .ty n
theorem RpA.low (h : ∀ (n : Nat) (a : Addr), n < L → β'[n]? = some a → β''[n]? = some a) : ∀ {vs : List V} {ds : List D}, D.blws L ds = true → RpA K β' H vs ds → RpA K β'' H vs ds
  | _, _, _, .nil => .nil
  | _, _, hd, .cons r t => by
    simp only [D.blws, Bool.and_eq_true] at hd
    exact .cons (Rp.low h hd.1 r) (RpA.low h hd.2 t)
end
theorem KvR.low {κ : Type} {f : D → Option κ} (h : ∀ (n : Nat) (a : Addr), n < L → β'[n]? = some a → β''[n]? = some a) {r : List (κ × V)} {s : List (D × D)} (hb : D.blws L (s.map (·.2)) = true) (q : KvR K β' H f r s) : KvR K β'' H f r s := by
  induction q with
  | nil => exact .nil
  | cons h1 h2 _ ih =>
    simp only [List.map_cons, D.blws, Bool.and_eq_true] at hb
    exact .cons h1 (h2.low h hb.1) (ih hb.2)
theorem OOk.low (h : ∀ (n : Nat) (a : Addr), n < L → β'[n]? = some a → β''[n]? = some a) {a : Addr} {o : O} (hb : o.blw L = true) (q : OOk K β' H a o) : OOk K β'' H a o := by
  cases o with
  | lst ds =>
    obtain ⟨xs, h3, h4⟩ := q
    exact ⟨xs, h3, h4.low h hb⟩
  | dct t kvs =>
    cases t with
    | false =>
      obtain ⟨xs, h3, h4⟩ := q
      exact ⟨xs, h3, h4.low h hb⟩
    | true =>
      obtain ⟨xs, h3, h4⟩ := q
      exact ⟨xs, h3, h4.low h hb⟩
  | fz t kvs =>
    cases t with
    | false =>
      obtain ⟨o, xs, h3, h4⟩ := q
      exact ⟨o, xs, h3, h4.low h hb⟩
    | true =>
      obtain ⟨o, xs, h3, h4⟩ := q
      exact ⟨o, xs, h3, h4.low h hb⟩
theorem gc_ok {m m' : M} {d : D} (ok : MOk K β H m) (e : Ext β β' H H') (ok' : MOk K β' H' m') : ∃ β2, Ext β β2 H H' ∧ MOk K β2 H' (gc m.length d m').2 ∧ ∀ v, Rp K β' H' v d → Rp K β2 H' v (gc m.length d m').1 := by
  have same : ∃ β2, Ext β β2 H H' ∧ MOk K β2 H' m' ∧ ∀ v, Rp K β' H' v d → Rp K β2 H' v d := ⟨β', e, ok', fun _ r => r⟩
  obtain ⟨γ, rfl⟩ := e.pre
  have hl := ok.len
  have hl' := ok'.len
  rw [List.length_append] at hl'
  have bx : ∀ (n : Nat) (a : Addr) (δ : List Addr), n < m.length → (β ++ γ)[n]? = some a → (β ++ δ)[n]? = some a := fun n a δ hn h => by
    rw [List.getElem?_append_left (by omega)] at h ⊢
    exact h
  have low : ∀ δ : List Addr, lowM m.length m' = true → ∀ (n : Nat) (o : O) (a : Addr), n < m.length → m'[n]? = some o → (β ++ γ)[n]? = some a → OOk K (β ++ δ) H' a o := fun δ hm n o a hn h1 h2 => by
    have hb : o.blw m.length = true := by
      refine List.all_eq_true.mp hm o ?_
      refine List.mem_of_getElem? (i := n) ?_
      rw [List.getElem?_take_of_lt hn]
      exact h1
    exact (ok'.at' n _ a h1 h2).low (fun n a hn h => bx n a δ hn h) hb
  unfold gc
  split
  · rename_i hm
    split
    · rename_i hd
      refine ⟨β, ⟨⟨[], by simp⟩, e.tup, e.frz, e.keep, fun a h1 h2 => absurd h1 h2⟩, ⟨?_, ok.nd, fun n o a h1 h2 => ?_⟩, fun v r => ?_⟩
      · rw [List.length_take]
        omega
      · have hn : n < m.length := by
          have := (List.getElem?_eq_some_iff.mp h2).1
          omega
        rw [List.getElem?_take_of_lt hn] at h1
        have z := low [] hm n o a hn h1 (by rw [List.getElem?_append_left (by omega)]; exact h2)
        rw [List.append_nil] at z
        exact z
      · exact r.low (fun n a hn h => by rw [List.getElem?_append_left (by omega)] at h; exact h) hd
    · split
      · rename_i n hd
        split
        · rename_i o ho
          split
          · rename_i hob
            have hn0 : ¬ n < m.length := by simpa [D.blw] using hd
            have hn1 := (List.getElem?_eq_some_iff.mp ho).1
            have hn2 : n < (β ++ γ).length := by rw [List.length_append]; omega
            have hp : (β ++ γ)[n]? = some ((β ++ γ)[n]) := List.getElem?_eq_getElem hn2
            generalize hpa : (β ++ γ)[n] = p at hp
            have nd := ok'.nd
            have hpg : p ∈ γ := by
              rw [List.getElem?_append_right (by omega)] at hp
              exact List.mem_of_getElem? hp
            have hpb : p ∉ β := fun h => (List.nodup_append.mp nd).2.2 p h p hpg rfl
            refine ⟨β ++ [p], ⟨⟨[p], rfl⟩, e.tup, e.frz, e.keep, fun a h1 h2 => ?_⟩, ⟨?_, ?_, fun k o' a h1 h2 => ?_⟩, fun v r => ?_⟩
            · have ha : a = p := by
                rcases List.mem_append.mp h1 with h | h
                · exact absurd h h2
                · simpa using h
              rw [ha]
              exact e.new p (List.mem_append_right _ hpg) hpb
            · rw [List.length_append, List.length_append, List.length_take, List.length_singleton, List.length_singleton]
              omega
            · refine List.nodup_append.mpr ⟨ok.nd, by simp, fun a h1 b h2 => ?_⟩
              have hb2 : b = p := by simpa using h2
              rw [hb2]
              intro q
              rw [q] at h1
              exact hpb h1
            · by_cases hk : k < m.length
              · rw [List.getElem?_append_left (by rw [List.length_take]; omega), List.getElem?_take_of_lt hk] at h1
                rw [List.getElem?_append_left (by omega)] at h2
                exact low [p] hm k o' a hk h1 (by rw [List.getElem?_append_left (by omega)]; exact h2)
              · have hk2 : k = m.length := by
                  have := (List.getElem?_eq_some_iff.mp h2).1
                  rw [List.length_append, List.length_singleton] at this
                  omega
                subst hk2
                rw [List.getElem?_append_right (by rw [List.length_take]; omega), List.length_take, show m.length - min m.length m'.length = 0 by omega] at h1
                rw [List.getElem?_append_right (by omega), show m.length - β.length = 0 by omega] at h2
                have e1 : o = o' := by simpa using h1
                have e2 : p = a := by simpa using h2
                subst e1 e2
                exact (ok'.at' n _ p ho hp).low (fun n a hn h => bx n a [p] hn h) hob
            · cases r with
              | ref hb =>
                rw [hp] at hb
                cases hb
                refine .ref ?_
                rw [List.getElem?_append_right (by omega), show m.length - β.length = 0 by omega]
                rfl
          · exact same
        · exact same
      · exact same
  · exact same
end
def gcR (L : Nat) : Res D → Res D
  | .ok d m => .ok (gc L d m).1 (gc L d m).2
  | r => r
theorem okD.gc {K : PySem.W.Frag} {Wx : Exn → List Addr → Hp → Prop} {β : List Addr} {H : Hp} {m : M} {r : Res D} {Q : VK} (ok : MOk K β H m) (h : okD K Wx β H (gcR m.length r) fun d _ β' H' => ∀ v, Rp K β' H' v d → Q v H') :
    okD K Wx β H r fun d _ β' H' => ∀ v, Rp K β' H' v d → Q v H' := by
  cases r with
  | ok d m1 =>
    intro β1 H1 e1 ok1 v rv
    obtain ⟨β2, e2, ok2, r2⟩ := gc_ok (d := d) ok e1 ok1
    exact h β2 H1 e2 ok2 v (r2 v rv)
  | exc e m1 => exact h
  | bad => exact h
def fGc (f : FE) : FE := fun ρ m => gcR m.length (f ρ m)
theorem td_gc {K : PySem.W.Frag} {W : WXD} {f : FE} {σ : Sg} {H : Hp} {Q : VK} (q : tD K W (fGc f) σ H Q) : tD K W f σ H Q := by
  obtain ⟨β, m, ρ, s, q⟩ := q
  exact ⟨β, m, ρ, s, okD.gc s.me q⟩
theorem pd_gc {X : Cx} {W : WXD} {e : Expr} {f : FE} (h : PD X W e f) : PD X W e (fGc f) := PE.imp h fun _ _ _ q => td_gc q
def gcB (L : Nat) : Res Bool → Res Bool
  | .ok b m => .ok b (gc L .non m).2
  | r => r
def fGcB (f : FT) : FT := fun ρ m => gcB m.length (f ρ m)
theorem ptd_gc {X : Cx} {W : WXD} {e : Expr} {f : FT} (h : PTD X W e f) : PTD X W e (fGcB f) := PT.imp h fun σ H Q q => by
  obtain ⟨β, m, ρ, s, q⟩ := q
  refine ⟨β, m, ρ, s, ?_⟩
  unfold fGcB at q
  cases hf : f ρ m with
  | ok b m1 =>
    rw [hf] at q
    intro β1 H1 e1 ok1
    obtain ⟨β2, e2, ok2, r2⟩ := gc_ok (d := .non) s.me e1 ok1
    exact q β2 H1 e2 ok2
  | exc e m1 => rw [hf] at q; exact q
  | bad => rw [hf] at q; exact q
end Dl

/-! DL10: comprehensions of two clauses; a name set by a comprehension. -/
namespace Dl
open PySem PySem.Spec PyProof.Rows L2
def lc2L (src : Src) (gt : GT) (ρw : Sl) (t : FT) (fj : FI) (gu : GT) (us : List Nat) (tj : FT) (e : FE) : Nat → Nat → List D → M → Res (List D)
  | 0, _, acc, m => if src.fin m then .ok acc m else .bad
  | k + 1, i, acc, m => match src.get m i with
    | none => .bad
    | some d => match gt d ρw with
      | none => .bad
      | some ρ2 => match t ρ2 m with
        | .ok true m1 => match fj ρ2 m1 with
          | .ok sj m2 => match lcL sj gu (wipeD ρ2 us) tj e sj.n 0 acc m2 with
            | .ok acc' m3 => lc2L src gt ρw t fj gu us tj e k (i + 1) acc' m3
            | _ => .bad
          | _ => .bad
        | .ok false m1 => lc2L src gt ρw t fj gu us tj e k (i + 1) acc m1
        | _ => .bad
def fLc2 (fi : FI) (gt : GT) (vs : List Nat) (t : FT) (fj : FI) (gu : GT) (us : List Nat) (tj : FT) (e : FE) : FA := fun ρ m => (fi ρ m).bind fun src m' => lc2L src gt (wipeD ρ vs) t fj gu us tj e src.n 0 [] m'
theorem Ext0.trans {β β' β'' : List Addr} {H H' H'' : Hp} (a : Ext0 β β' H H') (b : Ext0 β' β'' H' H'') : Ext0 β β'' H H'' := ⟨fun n x h => b.ix n x (a.ix n x h), fun x xs h => b.tup x xs (a.tup x xs h), fun x o u h => b.frz x o u (a.frz x o u h)⟩
theorem wipe_wipe (σ : Sg) (vs : List Nat) : L2.wipe (L2.wipe σ vs) vs = L2.wipe σ vs := by
  refine List.ext_getElem? fun j => ?_
  rw [wipe_get, wipe_get]
  by_cases hj : j ∈ vs
  · simp only [if_pos hj, L2.wipe_length]
  · simp only [if_neg hj, wipe_get]
theorem stepL {src : Src} {gt : GT} {ρw : Sl} {t : FT} {e : FE} {k i : Nat} {acc : List D} {m : M} {d : D} {ρ2 : Sl} (h1 : src.get m i = some d) (h2 : gt d ρw = some ρ2) :
    lcL src gt ρw t e (k + 1) i acc m = match t ρ2 m with
        | .ok true m1 => match e ρ2 m1 with
          | .ok y m2 => if acc.length < LIM then lcL src gt ρw t e k (i + 1) (acc ++ [y]) m2 else .bad
          | _ => .bad
        | .ok false m1 => lcL src gt ρw t e k (i + 1) acc m1
        | _ => .bad := by
  rw [lcL, h1]
  simp only [h2]
  all_goals
    cases ht : t ρ2 m with
    | bad => rfl
    | exc x m1 => rfl
    | ok b m1 =>
      cases b with
      | false => rfl
      | true =>
        simp only
        cases he : e ρ2 m1 <;> rfl
theorem td_lc2 {K : PySem.W.Frag} {W : WXD} {fi fj : FI} {gt gu : GT} {I J : List Nat} {vs us : List Nat} {t tj : FT} {e : FE} (hv : ∀ i ∈ I, i ∈ vs) (hu : ∀ i ∈ J, i ∈ us) {σ : Sg} {H : Hp} {Q : VK} (q : tLD K W (fLc2 fi gt vs t fj gu us tj e) σ H Q) :
    tLc2 (tID K W fi) (tGD K gt I) (tTD K WF t) (tID K WF fj) (tGD K gu J) (tTD K WF tj) (tD K WF e) vs us σ H Q := by
  obtain ⟨β, m, ρ, s, q⟩ := q
  refine ⟨β, m, ρ, s, ?_⟩
  unfold fLc2 at q
  cases hfi : fi ρ m with
  | exc x m1 => rw [hfi] at q; exact q
  | bad => rw [hfi] at q; exact q
  | ok src m1 =>
    rw [hfi] at q
    simp only [bind_ok] at q
    intro β1 H1 e1 ok1 Jo hJ Dl hD
    have hD0 : H Dl = none := e1.none_back ok1 hD
    have sw : RpS K β1 H1 (L2.wipe σ vs) (wipeD ρ vs) := (s.sl.ext e1).wipe vs
    refine ⟨fun i k H' => ∃ β' m' acc xs, i + k = src.n ∧ Ext β1 β' H1 H' ∧ MOk K β' H' m' ∧ Dl ∉ β' ∧ H' Dl = some (.lst xs) ∧ RpA K β' H' xs acc ∧
      okD K (W σ) β H (lc2L src gt (wipeD ρ vs) t fj gu us tj e k i acc m') fun ds m β' H' => ∀ p xs, H p = none → p ∉ β' → H' p = some (.lst xs) → RpA K β' H' xs ds → Q (.ref p) H',
      ⟨src.n, β1, m1, [], [], by omega, Ext.upd_new hD, ok1.upd_new hD, ok1.fresh hD, upd_same, .nil, q⟩, ?_⟩
    rintro i k H' ⟨β', m', acc, xs, hik, e', ok', hn', hl', ra, q'⟩
    obtain ⟨hgo, hstop⟩ := hJ β' H' m' e'.weak ok'
    cases k with
    | zero =>
      unfold lc2L at q'
      split at q'
      · rename_i hf
        have hi : i = src.n := by omega
        subst hi
        exact .inl ⟨hstop hf, q' β' H' (e1.trans e') ok' Dl xs hD0 hn' hl' ra⟩
      · exact q'.elim
    | succ k =>
      unfold lc2L at q'
      cases hd : src.get m' i with
      | none => rw [hd] at q'; exact q'.elim
      | some d =>
        rw [hd] at q'
        simp only at q'
        obtain ⟨g1, g2⟩ := hgo i d (by omega) hd
        refine .inr ⟨g1, fun H2 => ∃ β2 m2 acc2 xs2, Ext β1 β2 H1 H2 ∧ MOk K β2 H2 m2 ∧ Dl ∉ β2 ∧ H2 Dl = some (.lst xs2) ∧ RpA K β2 H2 xs2 acc2 ∧
          okD K (W σ) β H (lc2L src gt (wipeD ρ vs) t fj gu us tj e k (i + 1) acc2 m2) fun ds m β' H' => ∀ p xs, H p = none → p ∉ β' → H' p = some (.lst xs) → RpA K β' H' xs ds → Q (.ref p) H',
          fun H2 ⟨β2, m2, acc2, xs2, a1, a2, a3, a4, a5, a6⟩ => ⟨k, by omega, β2, m2, acc2, xs2, by omega, a1, a2, a3, a4, a5, a6⟩, fun x H2 y => ?_⟩
        obtain ⟨e2, ok2, rx⟩ := g2 x H2 y
        cases hgt : gt d (wipeD ρ vs) with
        | none => rw [hgt] at q'; exact q'.elim
        | some ρ2 =>
          rw [hgt] at q'
          simp only at q'
          have sw2 : Stt K β' H2 (L2.wipe σ vs) (wipeD ρ vs) m' := ⟨sw.ext (e'.trans e2), ok2⟩
          refine ⟨β', m', wipeD ρ vs, d, ρ2, sw2, rx, hgt, fun σ3 s3 ho => ⟨by rw [ho vs hv]; exact wipe_wipe σ vs, β', m', ρ2, s3, ?_⟩⟩
          cases ht : t ρ2 m' with
          | bad => rw [ht] at q'; exact q'.elim
          | exc x m2 => rw [ht] at q'; exact q'.elim
          | ok b m2 =>
            rw [ht] at q'
            intro β3 H3 e3 ok3
            have hn3 : Dl ∉ β3 := fun hm => by
              have := e3.new Dl hm hn'
              have h2 := e2.keep Dl _ hl' hn'
              rw [h2] at this
              cases this
            have hl3 : H3 Dl = some (.lst xs) := e3.keep Dl _ (e2.keep Dl _ hl' hn') hn'
            cases b with
            | false =>
              refine iteF ?_
              exact ⟨β3, m2, acc, xs, (e'.trans e2).trans e3, ok3, hn3, hl3, (ra.ext e2).ext e3, q'⟩
            | true =>
              refine iteT ?_
              refine ⟨β3, m2, ρ2, s3.ext e3 ok3, ?_⟩
              simp only at q'
              cases hfj : fj ρ2 m2 with
              | bad => rw [hfj] at q'; exact q'.elim
              | exc x m3 => rw [hfj] at q'; exact q'.elim
              | ok sj m3 =>
                rw [hfj] at q'
                simp only at q'
                intro β4 H4 e4 ok4 Ji hJi
                have hn4 : Dl ∉ β4 := fun hm => by
                  have := e4.new Dl hm hn3
                  rw [hl3] at this
                  cases this
                have hl4 : H4 Dl = some (.lst xs) := e4.keep Dl _ hl3 hn3
                have ra4 := ((ra.ext e2).ext e3).ext e4
                have s4 : RpS K β4 H4 σ3 ρ2 := (s3.sl.ext e3).ext e4
                have E14 : Ext β1 β4 H1 H4 := ((e'.trans e2).trans e3).trans e4
                refine ⟨fun j l H5 => ∃ β5 m5 acc5 xs5, j + l = sj.n ∧ Ext β1 β5 H1 H5 ∧ Ext0 β4 β5 H4 H5 ∧ MOk K β5 H5 m5 ∧ Dl ∉ β5 ∧ H5 Dl = some (.lst xs5) ∧ RpA K β5 H5 xs5 acc5 ∧
                  okD K (W σ) β H (match lcL sj gu (wipeD ρ2 us) tj e l j acc5 m5 with
                    | .ok acc' m3 => lc2L src gt (wipeD ρ vs) t fj gu us tj e k (i + 1) acc' m3
                    | _ => .bad) fun ds m β' H' => ∀ p xs, H p = none → p ∉ β' → H' p = some (.lst xs) → RpA K β' H' xs ds → Q (.ref p) H',
                  ⟨sj.n, β4, m3, acc, xs, by omega, E14, (Ext.refl : Ext β4 β4 H4 H4).weak, ok4, hn4, hl4, ra4, q'⟩, ?_⟩
                rintro j l H5 ⟨β5, m5, acc5, xs5, hjl, E5, W5, ok5, hn5, hl5, ra5, q5⟩
                obtain ⟨jgo, jstop⟩ := hJi β5 H5 m5 W5 ok5
                cases l with
                | zero =>
                  unfold lcL at q5
                  split at q5
                  · rename_i acc' m6 hacc
                    split at hacc
                    · rename_i hf
                      cases hacc
                      have hj : j = sj.n := by omega
                      subst hj
                      exact .inl ⟨jstop hf, β5, m5, acc5, xs5, E5, ok5, hn5, hl5, ra5, q5⟩
                    · cases hacc
                  · exact q5.elim
                | succ l =>
                  cases hdj : sj.get m5 j with
                  | none =>
                    unfold lcL at q5
                    rw [hdj] at q5
                    exact q5.elim
                  | some dj =>
                    obtain ⟨j1, j2⟩ := jgo j dj (by omega) hdj
                    refine .inr ⟨j1, fun H6 => ∃ β6 m6 acc6 xs6, Ext β1 β6 H1 H6 ∧ Ext0 β4 β6 H4 H6 ∧ MOk K β6 H6 m6 ∧ Dl ∉ β6 ∧ H6 Dl = some (.lst xs6) ∧ RpA K β6 H6 xs6 acc6 ∧
                      okD K (W σ) β H (match lcL sj gu (wipeD ρ2 us) tj e l (j + 1) acc6 m6 with
                        | .ok acc' m3 => lc2L src gt (wipeD ρ vs) t fj gu us tj e k (i + 1) acc' m3
                        | _ => .bad) fun ds m β' H' => ∀ p xs, H p = none → p ∉ β' → H' p = some (.lst xs) → RpA K β' H' xs ds → Q (.ref p) H',
                      fun H6 ⟨β6, m6, acc6, xs6, a1, a2, a3, a4, a5, a6, a7⟩ => ⟨l, by omega, β6, m6, acc6, xs6, by omega, a1, a2, a3, a4, a5, a6, a7⟩, fun x H6 y => ?_⟩
                    obtain ⟨e6, ok6, rx6⟩ := j2 x H6 y
                    cases hgu : gu dj (wipeD ρ2 us) with
                    | none =>
                      unfold lcL at q5
                      rw [hdj] at q5
                      simp only [hgu] at q5
                      exact q5.elim
                    | some ρ6 =>
                      rw [stepL hdj hgu] at q5
                      have sw6 : Stt K β5 H6 (L2.wipe σ3 us) (wipeD ρ2 us) m5 := ⟨⟨(s4.wipe us).len, fun i d h => let ⟨v, h1, h2⟩ := (s4.wipe us).at' i d h; ⟨v, h1, (h2.mono W5).ext e6⟩⟩, ok6⟩
                      refine ⟨β5, m5, wipeD ρ2 us, dj, ρ6, sw6, rx6, hgu, fun σ7 s7 ho7 => ⟨by rw [ho7 us hu]; exact wipe_wipe σ3 us, β5, m5, ρ6, s7, ?_⟩⟩
                      cases htj : tj ρ6 m5 with
                      | bad => rw [htj] at q5; exact q5.elim
                      | exc x m7 => rw [htj] at q5; exact q5.elim
                      | ok b7 m7 =>
                        rw [htj] at q5
                        intro β7 H7 e7 ok7
                        have hn7 : Dl ∉ β7 := fun hm => by
                          have := e7.new Dl hm hn5
                          rw [e6.keep Dl _ hl5 hn5] at this
                          cases this
                        have hl7 : H7 Dl = some (.lst xs5) := e7.keep Dl _ (e6.keep Dl _ hl5 hn5) hn5
                        have W7 : Ext0 β4 β7 H4 H7 := (W5.trans e6.weak).trans e7.weak
                        cases b7 with
                        | false =>
                          refine iteF ?_
                          exact ⟨β7, m7, acc5, xs5, (E5.trans e6).trans e7, W7, ok7, hn7, hl7, (ra5.ext e6).ext e7, q5⟩
                        | true =>
                          refine iteT ?_
                          refine ⟨β7, m7, ρ6, s7.ext e7 ok7, ?_⟩
                          simp only at q5
                          cases he : e ρ6 m7 with
                          | bad => rw [he] at q5; exact q5.elim
                          | exc x m8 => rw [he] at q5; exact q5.elim
                          | ok y8 m8 =>
                            rw [he] at q5
                            simp only at q5
                            by_cases hlim : acc5.length < LIM
                            · rw [if_pos hlim] at q5
                              intro β8 H8 e8 ok8 v rv
                              have hn8 : Dl ∉ β8 := fun hm => by
                                have := e8.new Dl hm hn7
                                rw [hl7] at this
                                cases this
                              have hl8 : H8 Dl = some (.lst xs5) := e8.keep Dl _ hl7 hn7
                              have ra8 := ((ra5.ext e6).ext e7).ext e8
                              have ei : Ext0 β8 β8 H8 (upd H8 Dl (.lst (xs5 ++ [v]))) := Ext0.side hl8
                              exact ⟨xs5, hl8, lim_lt (by rw [ra8.length]; exact hlim), β8, m8, acc5 ++ [y8], xs5 ++ [v], (((E5.trans e6).trans e7).trans e8).mut hD (.inl hl8), (W7.trans e8.weak).trans ei, ok8.side hn8 hl8, hn8, upd_same, (ra8.mono ei).append (.cons (rv.mono ei) .nil), q5⟩
                            · rw [if_neg hlim] at q5
                              exact q5.elim
section
variable {X : Cx} {W : WXD}
theorem pld_lc2 {elt tg iter tg1 iter1 : Expr} {ifs ifs1 : List Expr} {scope : Scope} {own : List (Str × Nat)} {us : List Nat} {pos : Pos} {fi fj : FI} {gt gu : GT} {I J : List Nat} {t tj : FT} {e : FE} (hc : X.calm = true) (hN : X.N.Nodup) (hi : PID X W tg iter fi) (ok : BlkOk X.N X.env.scope scope own) (hus : ∀ i ∈ us, i ∈ own.map (·.2))
    (hg : ∀ (s : Shared) (H : Hp) (C : Addr) (cl : List (Str × Addr)) (fp : List Addr), PGD (X.blk s H scope (compEnvC scope cl C X.env) fp) tg gt I) (ht : ∀ (s : Shared) (H : Hp) (C : Addr) (cl : List (Str × Addr)) (fp : List Addr), PTsD (X.blk s H scope (compEnvC scope cl C X.env) fp) WF ifs t)
    (hi1 : ∀ (s : Shared) (H : Hp) (C : Addr) (cl : List (Str × Addr)) (fp : List Addr), PID (X.blk s H scope (compEnvC scope cl C X.env) fp) WF tg1 iter1 fj)
    (hg1 : ∀ (s : Shared) (H : Hp) (C : Addr) (cl : List (Str × Addr)) (fp : List Addr), PGD (X.blk s H scope (compEnvC scope cl C X.env) fp) tg1 gu J) (ht1 : ∀ (s : Shared) (H : Hp) (C : Addr) (cl : List (Str × Addr)) (fp : List Addr), PTsD (X.blk s H scope (compEnvC scope cl C X.env) fp) WF ifs1 tj)
    (he : ∀ (s : Shared) (H : Hp) (C : Addr) (cl : List (Str × Addr)) (fp : List Addr), PD (X.blk s H scope (compEnvC scope cl C X.env) fp) WF elt e) (hv : ∀ i ∈ I, i ∈ own.map (·.2)) (hu : ∀ i ∈ J, i ∈ us)
    (hs : ∀ x, foldedSetIterable iter X.env x = pure x := by intro _; rfl) (hs1 : ∀ env x, foldedSetIterable iter1 env x = pure x := by intro _ _; rfl) :
    PLD X W (.ListComp elt [⟨tg, iter, ifs, 0⟩, ⟨tg1, iter1, ifs1, 0⟩] scope pos) (fLc2 fi gt (own.map (·.2)) t fj gu us tj e) := PE.imp (pe_lc2 hc hN hi ok hus hg ht hi1 hg1 ht1 he hs hs1) fun σ H Q q => td_lc2 hv hu q
/-- y = [..] -/
def sSetL (i : Nat) (f : FA) : FS := sSet i (fName f)
theorem ts_setL {K : PySem.W.Frag} {i : Nat} {f : FA} {E : Ends} {σ : Sg} {H : Hp} {t : TE} (ht : ∀ σ H Q, tLD K W f σ H Q → t σ H Q) (q : tSD K W (sSetL i f) E σ H) : tAsg t (gName i) E σ H := by
  obtain ⟨β, m, ρ, s, q⟩ := q
  refine ht σ H _ ?_
  unfold sSetL sSet fName at q
  refine ⟨β, m, ρ, s, ?_⟩
  cases hf : f ρ m with
  | ok ds m1 =>
    rw [hf] at q
    intro β1 H1 e1 ok1 p xs h1 h2 h3 h4
    exact q (β1 ++ [p]) H1 _ (Ext.adopt' h1 e1) ⟨(s.sl.ext (Ext.adopt' h1 e1)).set (Rp.last ok1), ok1.adopt h2 h3 h4⟩
  | exc e m1 => rw [hf] at q; exact fun β1 H1 e1 ok => q β1 H1 σ e1 (s.ext e1 ok)
  | bad => rw [hf] at q; exact q
theorem psd_setLc {i : Nat} {y : Str} {py : Pos} {elt tg iter : Expr} {ifs : List Expr} {scope : Scope} {own : List (Str × Nat)} {pos spos : Pos} {fi : FI} {gt : GT} {I : List Nat} {t : FT} {e : FE} (hc : X.calm = true) (hN : X.N.Nodup) (hy : X.N[i]? = some y) (hyl : X.env.scope.names.lookup y = some .local)
    (hsw : swapsWith (.ListComp elt [⟨tg, iter, ifs, 0⟩] scope pos) (some (.Name y py)) spos.line X.env = pure true) (hi : PID X W tg iter fi) (ok : BlkOk X.N X.env.scope scope own)
    (hg : ∀ (s : Shared) (H : Hp) (C : Addr) (cl : List (Str × Addr)) (fp : List Addr), PGD (X.blk s H scope (compEnvC scope cl C X.env) fp) tg gt I) (ht : ∀ (s : Shared) (H : Hp) (C : Addr) (cl : List (Str × Addr)) (fp : List Addr), PTsD (X.blk s H scope (compEnvC scope cl C X.env) fp) WF ifs t)
    (he : ∀ (s : Shared) (H : Hp) (C : Addr) (cl : List (Str × Addr)) (fp : List Addr), PD (X.blk s H scope (compEnvC scope cl C X.env) fp) WF elt e) (hv : ∀ i ∈ I, i ∈ own.map (·.2)) (hs : ∀ x, foldedSetIterable iter X.env x = pure x := by intro _; rfl) :
    PSD X W (.Assign [.Name y py] (.ListComp elt [⟨tg, iter, ifs, 0⟩] scope pos) spos) (sSetL i (fLc fi gt (own.map (·.2)) t e)) := PS.imp (ps_setLc hc hN hy hyl hsw hi ok hg ht he hs) fun _ _ _ q => ts_setL (fun _ _ _ z => td_lc hv z) q
theorem psd_setLc2 {i : Nat} {y : Str} {py : Pos} {elt tg iter tg1 iter1 : Expr} {ifs ifs1 : List Expr} {scope : Scope} {own : List (Str × Nat)} {us : List Nat} {pos spos : Pos} {fi fj : FI} {gt gu : GT} {I J : List Nat} {t tj : FT} {e : FE} (hc : X.calm = true) (hN : X.N.Nodup) (hy : X.N[i]? = some y) (hyl : X.env.scope.names.lookup y = some .local)
    (hsw : swapsWith (.ListComp elt [⟨tg, iter, ifs, 0⟩, ⟨tg1, iter1, ifs1, 0⟩] scope pos) (some (.Name y py)) spos.line X.env = pure true) (hi : PID X W tg iter fi) (ok : BlkOk X.N X.env.scope scope own) (hus : ∀ i ∈ us, i ∈ own.map (·.2))
    (hg : ∀ (s : Shared) (H : Hp) (C : Addr) (cl : List (Str × Addr)) (fp : List Addr), PGD (X.blk s H scope (compEnvC scope cl C X.env) fp) tg gt I) (ht : ∀ (s : Shared) (H : Hp) (C : Addr) (cl : List (Str × Addr)) (fp : List Addr), PTsD (X.blk s H scope (compEnvC scope cl C X.env) fp) WF ifs t)
    (hi1 : ∀ (s : Shared) (H : Hp) (C : Addr) (cl : List (Str × Addr)) (fp : List Addr), PID (X.blk s H scope (compEnvC scope cl C X.env) fp) WF tg1 iter1 fj)
    (hg1 : ∀ (s : Shared) (H : Hp) (C : Addr) (cl : List (Str × Addr)) (fp : List Addr), PGD (X.blk s H scope (compEnvC scope cl C X.env) fp) tg1 gu J) (ht1 : ∀ (s : Shared) (H : Hp) (C : Addr) (cl : List (Str × Addr)) (fp : List Addr), PTsD (X.blk s H scope (compEnvC scope cl C X.env) fp) WF ifs1 tj)
    (he : ∀ (s : Shared) (H : Hp) (C : Addr) (cl : List (Str × Addr)) (fp : List Addr), PD (X.blk s H scope (compEnvC scope cl C X.env) fp) WF elt e) (hv : ∀ i ∈ I, i ∈ own.map (·.2)) (hu : ∀ i ∈ J, i ∈ us)
    (hs : ∀ x, foldedSetIterable iter X.env x = pure x := by intro _; rfl) (hs1 : ∀ env x, foldedSetIterable iter1 env x = pure x := by intro _ _; rfl) :
    PSD X W (.Assign [.Name y py] (.ListComp elt [⟨tg, iter, ifs, 0⟩, ⟨tg1, iter1, ifs1, 0⟩] scope pos) spos) (sSetL i (fLc2 fi gt (own.map (·.2)) t fj gu us tj e)) := PS.imp (ps_setLc2 hc hN hy hyl hsw hi ok hus hg ht hi1 hg1 ht1 he hs hs1) fun _ _ _ q => ts_setL (fun _ _ _ z => td_lc2 hv hu z) q
end
end Dl

/-! DL11: defs, their calls. -/
namespace Dl
open PySem PySem.Spec PyProof.Rows L2

abbrev NoX : XK := fun _ _ _ => False
abbrev NoC : CXT := fun _ _ _ _ _ _ => False
/-- a def, by what it makes of plain data -/
structure FnG (P : Program) (w : World) (K : PySem.W.Frag) (mg : Str → Option Value) (base : Heap) (k : Nat) (f : Addr) (fd : FuncData) (ps : List Str) (F : List D → M → Res D) : Prop where
  run : ∀ (A : Around) (outer : List Env) (s : Shared) (H : Hp) (args : Args) (us : List Value) (vs : List V) (Q : VK) (β : List Addr) (m : M) (ds : List D), Room k A → A.guards = some [] → Env0 P w K mg base A outer s H →
    BindsTo s fd args (ps.zip us) → Vals vs us → vs.length = ps.length → RpA K β H vs ds → MOk K β H m → okD K (fun _ _ _ => False) β H (F ds m) (fun d _ β' H' => ∀ v, Rp K β' H' v d → Q v H') →
    codeAny (model P w) A (.call (.ref f) args) (CR NoC outer P w H s Q NoX) s
theorem FnG.mono {P : Program} {w : World} {K : PySem.W.Frag} {mg : Str → Option Value} {base : Heap} {j k : Nat} {f : Addr} {fd : FuncData} {ps : List Str} {F : List D → M → Res D} (h : FnG P w K mg base j f fd ps F) (hk : j ≤ k) : FnG P w K mg base k f fd ps F :=
  ⟨fun A outer s H args us vs Q β m ds hr => h.run A outer s H args us vs Q β m ds (hr.mono hk)⟩

def startD (n : Nat) (ds : List D) : Sl := ds.map some ++ List.replicate (n - ds.length) none
def resOf : Out → Res D
  | .nx _ m => .ok .non m
  | .rt d m => .ok d m
  | .exc _ e m => .exc e m
  | _ => .bad
/-- the body's outcome at these arguments -/
def runF (N : Nat) (np : Nat) (g : FS) (ds : List D) (m : M) : Res D := if ds.length = np then gcR m.length (resOf (g (startD N ds) m)) else .bad
theorem rps_start {K : PySem.W.Frag} {β : List Addr} {H : Hp} {N : List Str} {vs : List V} {ds : List D} (r : RpA K β H vs ds) : RpS K β H (L2.start N vs) (startD N.length ds) := by
  have hl := r.length
  refine ⟨?_, fun i d h => ?_⟩
  · unfold L2.start startD
    simp only [List.length_append, List.length_map, List.length_replicate, hl]
  · unfold startD at h
    by_cases hi : i < ds.length
    · rw [List.getElem?_append_left (by simpa using hi), List.getElem?_map] at h
      cases hd : ds[i]? with
      | none => rw [hd] at h; cases h
      | some d' =>
        rw [hd] at h
        cases h
        obtain ⟨v, hv, rv⟩ := r.get hd
        refine ⟨v, ?_, rv⟩
        unfold L2.start
        rw [List.getElem?_append_left (by simp only [List.length_map]; omega), List.getElem?_map, hv]
        rfl
    · rw [List.getElem?_append_right (by simpa using hi), List.getElem?_replicate] at h
      split at h
      · cases h
      · cases h
theorem ts_run {K : PySem.W.Frag} {W : WXD} {β : List Addr} {H : Hp} {m : M} {σ : Sg} {ρ : Sl} {g : FS} {Q : VK} (s : Stt K β H σ ρ m) (h : okD K (fun _ _ _ => False) β H (resOf (g ρ m)) fun d _ β' H' => ∀ v, Rp K β' H' v d → Q v H') :
    tSD K W g { nx := fun _ H' => Q .non H', rt := Q } σ H := by
  refine ⟨β, m, ρ, s, ?_⟩
  cases hg : g ρ m with
  | nx ρ' m' => rw [hg] at h; exact fun β' H' σ' e s' => h β' H' e s'.me .non .non
  | rt d m' => rw [hg] at h; exact fun β' H' v e ok r => h β' H' e ok v r
  | bk ρ' m' => rw [hg] at h; exact h.elim
  | ct ρ' m' => rw [hg] at h; exact h.elim
  | exc ρ' e m' => rw [hg] at h; exact fun β' H' σ' e s' => (h β' H' e s'.me).elim
  | bad => rw [hg] at h; exact h.elim
/-- the context of a def's body -/
abbrev cxD (P : Program) (w : World) (K : PySem.W.Frag) (mg : Str → Option Value) (base : Heap) (N : List Str) (qual : Str) (scope : Scope) (f : Addr) (cd : Value) (A : Around) (outer : List Env) (s : Shared) (H : Hp) : Cx := (cxOf NoC P w K mg base N qual scope f cd A outer s H NoX).nox
section
variable {P : Program} {w : World} {K : PySem.W.Frag} {mg : Str → Option Value} {base : Heap}
theorem fng_of {x qual : Str} {params : Arguments} {body : List Stmt} {scope : Scope} {dvs : List V} {kws : List (Str × V)} {f : Addr} {fd : FuncData} (F : FunD K x qual params body scope dvs kws f fd) {N ps : List Str} {k : Nat} {g : FS} {W : WXD} (S : FnScope N ps scope)
    (hbody : ∀ (cdv : Value) (A : Around) (outer : List Env) (s : Shared) (H : Hp), Room k (A.deeper (envOfC qual scope s.heap.objs.size f cdv)) → (A.deeper (envOfC qual scope s.heap.objs.size f cdv)).guards = some [] →
      PSsD (cxD P w K mg base N qual scope f cdv A outer s H) W body g) : FnG P w K mg base (k + 1) f fd ps (runF N.length ps.length g) := by
  obtain ⟨oc, od, dV, kV, doc, pm, an, cdv, ct, osl, rfl, lk, hcd, _, _⟩ := F.ex
  refine ⟨fun A outer s H args us vs Q β m ds room hgu e0 hb r hl ra ok hsp => ?_⟩
  have inK : K.In s.heap := e0.mod.kin.keeps fun b o e => (e0.bs b o e).1
  have noLim : s.heap.NoLimit := e0.mod.nolimit.keeps fun b o e => (e0.bs b o e).1
  have kinds : ∀ y ∈ ps.zip us, scope.names.lookup y.1 = some .local ∨ (scope.names.lookup y.1 = some .cell ∧ ((cellsFrom (s.heap.objs.size + 1) scope.names []).lookup y.1).isSome = true) := by
    rintro ⟨n, v⟩ hy
    rcases S.par n (List.of_mem_zip hy).1 with q | q
    · exact .inl q
    · exact .inr ⟨q, PySem.W.cellsFrom_some _ _ _ (.inl q)⟩
  refine codeAny_call_function room.depth (inK _ _ lk) rfl S.co S.gen rfl (PySem.W.codeRec_of inK hcd) (hb _ _ _ _ ?_)
  refine wpAny_newFunctionEnv_cells S.kind kinds fun env he s1 fresh => ?_
  subst he
  refine ⟨noLim.keeps fresh.toInCall.keep, codeAny_func ?_⟩
  have hrun := (PSs.nox (hbody cdv A outer s H (room.deeper _) hgu)).run [] s1 (L2.start N vs) H { nx := fun _ H' => Q .non H', rt := Q }
  have I0 : Inv (cxOf NoC P w K mg base N qual scope f cdv A outer s H NoX) [] (L2.start N vs) H s1 := inv_start S room.hd e0 hl r fresh
  have hds : ds.length = ps.length := ra.length.symm.trans hl
  have hres : okD K (fun _ _ _ => False) β H (resOf (g (startD N.length ds) m)) fun d _ β' H' => ∀ v, Rp K β' H' v d → Q v H' := by
    refine okD.gc ok ?_
    unfold runF at hsp
    rw [if_pos hds] at hsp
    exact hsp
  refine wpAny_mono (hrun I0 (ts_run ⟨rps_start ra, ok⟩ hres)) (fun fl s' hs => ?_) fun e s' hs => hs
  cases fl with
  | next =>
    obtain ⟨σ', H', J, q⟩ := hs
    exact ⟨.non, H', J.os, J.bare, J.base, J.hok, rfl, q⟩
  | ret u =>
    obtain ⟨v, σ', H', J, rv, q⟩ := hs
    exact ⟨v, H', J.os, J.bare, J.base, J.hok, rv, q⟩
  | brk =>
    obtain ⟨_, _, _, q⟩ := hs
    exact q.elim
  | cont =>
    obtain ⟨_, _, _, q⟩ := hs
    exact q.elim
end

/-! ### calls -/
section
variable {X : Cx} {k : Nat} {f : Addr} {fd : FuncData} {ps : List Str} {F : List D → M → Res D}
theorem run_fng {pins : List (Addr × Obj)} {σ : Sg} {H : Hp} {s : Shared} {Q : VK} {args : Args} {us : List Value} {vs : List V} {β : List Addr} {m : M} {ds : List D} (G : FnG X.prog X.w X.K X.mg X.base k f fd ps F) (hr : Room k X.A) (hgu : X.A.guards = some [])
    (hb : BindsTo s fd args (ps.zip us)) (I : Inv X pins σ H s) (r : Vals vs us) (hl : vs.length = ps.length) (ra : RpA X.K β H vs ds) (ok : MOk X.K β H m) (h : okD X.K (fun _ _ _ => False) β H (F ds m) fun d _ β' H' => ∀ v, Rp X.K β' H' v d → Q v H') :
    codeAny (model X.prog X.w) X.A (.call (.ref f) args) (fun r s' => match r with
      | .ok (.ret u) => EP X pins σ Q u s'
      | _ => False) s := by
  refine codeAny_mono (G.run X.A X.stack s H args us vs Q β m ds hr hgu I.env0 hb r hl ra ok h) fun r s' hq => ?_
  cases r with
  | error e => exact hq
  | ok fl =>
    cases fl with
    | ret u => exact I.after hq
    | next => exact hq
    | brk => exact hq
    | cont => exact hq
/-- a call by places -/
def fCall (F : List D → M → Res D) (fa : FA) : FE := fGc fun ρ m => (fa ρ m).bind F
def nPar (n : Nat) (F : List D → M → Res D) : Prop := ∀ ds m, ds.length ≠ n → F ds m = .bad
theorem nPar_run {N n : Nat} {g : FS} : nPar n (runF N n g) := fun ds m h => if_neg h
/-- what is known of a def that is called -/
structure Cle (P : Program) (w : World) (K : PySem.W.Frag) (mg : Str → Option Value) (base : Heap) (k : Nat) (x : Str) (n : Nat) (F : List D → M → Res D) : Prop where
  ex : ∃ (f : Addr) (fd : FuncData) (ps : List Str), ps.length = n ∧ FnG P w K mg base k f fd ps F ∧ mg x = some (.ref f) ∧ PySem.W.keepIn K (.ref f) = true ∧ (∀ (s : Shared) (us : List Value), us.length = n → BindsTo s fd ⟨us, []⟩ (ps.zip us))
theorem pd_call {x : Str} {n j : Nat} {p pos : Pos} {e : Expr} {es : List Expr} {fa : FA} (c : Cle X.prog X.w X.K X.mg X.base k x n F) (np : nPar n F) (hr : Room j X.A) (hk : k ≤ j) (hgu : X.A.guards = some []) (hg : Gl X x) (ha : PAD X WF (e :: es) fa)
    (hdb : (x == ("__debug__" : Str)) = false := by decide) (he : starEach (e :: es) X.env = (false, eval e X.env) :: starEach es X.env := by rfl) (hpl : (backTo pos (starEach es X.env)).any (·.1) = false := by rfl) :
    PD X WF (.Call (.Name x p) (e :: es) [] pos) (fCall F fa) := by
  obtain ⟨f, fd, ps, hps, G, hm, kp, hb⟩ := c.ex
  refine pd_gc ⟨fun pins s σ H Q I h => ?_⟩
  obtain ⟨β, m, ρ, st, h⟩ := h
  have h0 : tAD X.K WF fa σ H (fun vs H1 => ∃ (β1 : List Addr) (m1 : M) (ds : List D), vs.length = n ∧ RpA X.K β1 H1 vs ds ∧ MOk X.K β1 H1 m1 ∧ okD X.K (fun _ _ _ => False) β1 H1 (F ds m1) fun d _ β' H' => ∀ v, Rp X.K β' H' v d → Q v H') := by
    refine tad_bind st h fun ds m1 vs β1 H1 e1 s1 rs q1 => ⟨β1, m1, ds, ?_, rs, s1.me, q1⟩
    rw [rs.length]
    refine Decidable.byContradiction fun hn => ?_
    rw [np ds m1 hn] at q1
    exact q1
  refine wpAny_Call_Name_kw (ld_glob I hg hm ?_ hdb)
  refine PySem.W.callWith_K (h₀ := X.base) I.ok.mod.kin kp (thn (ha.run pos pins s σ H _ I h0) fun us s1 ⟨vs, H1, I1, r, β1, m1, ds, hl, ra, ok, q⟩ => ⟨I1.kIn, ?_⟩) he hpl
  refine wpAny_call (codeAny_mono (run_fng G (hr.mono hk) hgu (hb s1 us (r.length.symm.trans hl)) I1 r (hl.trans hps.symm) ra ok q) fun r s' hq => ?_)
  cases r with
  | error e => exact hq.elim
  | ok fl =>
    cases fl with
    | ret u => exact hq
    | next => exact hq.elim
    | brk => exact hq.elim
    | cont => exact hq.elim
/-- a call by names alone: g puts the values in the parameters' order -/
abbrev PKD (X : Cx) (kws : List Keyword) (f : FA) : Prop := PK X kws (tAD X.K WF f)
theorem PK.imp {X : Cx} {kws : List Keyword} {t t' : TA} (h : PK X kws t) (i : ∀ σ H Q, t' σ H Q → t σ H Q) : PK X kws t' := ⟨fun pos pins s σ H Q I q => h.run pos pins s σ H Q I (i σ H Q q)⟩
theorem pkd_nil : PKD X [] fNil := PK.imp pk_nil fun σ H Q h => by
  obtain ⟨β, m, ρ, s, h⟩ := h
  exact h.here s.me [] .nil
theorem pkd_cons {nm : Option Str} {e : Expr} {kpos : Pos} {kws : List Keyword} {fe : FE} {fa : FA} (he : PD X WF e fe) (hr : PKD X kws fa) : PKD X (⟨nm, e, kpos⟩ :: kws) (fCons fe fa) := PK.imp (pk_cons he hr) fun σ H Q h => by
  obtain ⟨β, m, ρ, s, h⟩ := h
  refine td_bind s h fun d m1 v β1 H1 e1 s1 rv h1 => ?_
  exact tad_bind s1 h1 fun ds m2 vs β2 H2 e2 s2 rs h2 => h2.here s2.me _ (.cons (rv.ext e2) rs)
structure Perm (g : {α : Type} → List α → List α) : Prop where
  len : ∀ {α : Type} (l : List α), (g l).length = l.length
  vals : ∀ {vs : List V} {us : List Value}, Vals vs us → Vals (g vs) (g us)
  rpa : ∀ {K : PySem.W.Frag} {β : List Addr} {H : Hp} {vs : List V} {ds : List D}, RpA K β H vs ds → RpA K β H (g vs) (g ds)
structure CleK (P : Program) (w : World) (K : PySem.W.Frag) (mg : Str → Option Value) (base : Heap) (k : Nat) (x : Str) (n : Nat) (F : List D → M → Res D) (ks : List Str) (g : {α : Type} → List α → List α) : Prop where
  ex : ∃ (f : Addr) (fd : FuncData) (ps : List Str), ps.length = n ∧ FnG P w K mg base k f fd ps F ∧ mg x = some (.ref f) ∧ PySem.W.keepIn K (.ref f) = true ∧ (∀ (s : Shared) (ws : List Value), ws.length = n → BindsTo s fd ⟨[], ks.zip ws⟩ (ps.zip (g ws)))
theorem pd_callK {x : Str} {n j : Nat} {p pos : Pos} {kws : List Keyword} {ks : List Str} {g : {α : Type} → List α → List α} {fk : FA} (c : CleK X.prog X.w X.K X.mg X.base k x n F ks g) (pm : Perm g) (np : nPar n F) (hr : Room j X.A) (hk : k ≤ j) (hgu : X.A.guards = some []) (hg : Gl X x) (hkw : PKD X kws fk)
    (hall : (backToKw pos (keywordEach kws X.env)).all (·.1.isSome) = true := by rfl) (hks : (backToKw pos (keywordEach kws X.env)).filterMap (·.1) = ks := by rfl)
    (hdb : (x == ("__debug__" : Str)) = false := by decide) (hpl : ((backTo pos (starEach [] X.env)).any (·.1) || (backToKw pos (keywordEach kws X.env)).any (·.1.isNone)) = false := by rfl) :
    PD X WF (.Call (.Name x p) [] kws pos) (fCall (fun ds m => F (g ds) m) fk) := by
  obtain ⟨f, fd, ps, hps, G, hm, kp, hb⟩ := c.ex
  refine pd_gc ⟨fun pins s σ H Q I h => ?_⟩
  obtain ⟨β, m, ρ, st, h⟩ := h
  have h0 : tAD X.K WF fk σ H (fun vs H1 => ∃ (β1 : List Addr) (m1 : M) (ds : List D), vs.length = n ∧ RpA X.K β1 H1 vs ds ∧ MOk X.K β1 H1 m1 ∧ okD X.K (fun _ _ _ => False) β1 H1 (F (g ds) m1) fun d _ β' H' => ∀ v, Rp X.K β' H' v d → Q v H') := by
    refine tad_bind st h fun ds m1 vs β1 H1 e1 s1 rs q1 => ⟨β1, m1, ds, ?_, rs, s1.me, q1⟩
    rw [rs.length]
    refine Decidable.byContradiction fun hn => ?_
    rw [np (g ds) m1 (by rw [pm.len]; exact hn)] at q1
    exact q1
  refine wpAny_Call_Name_kw (ld_glob I hg hm ?_ hdb)
  refine PySem.W.callWith_KW0 (h₀ := X.base) I.ok.mod.kin kp hall ?_ hpl
  refine thn (hkw.run pos pins s σ H _ I h0) fun ws s1 ⟨vs, H1, I1, r, β1, m1, ds, hl, ra, ok, q⟩ => ⟨I1.kIn, ?_⟩
  rw [hks]
  refine wpAny_call (codeAny_mono (run_fng G (hr.mono hk) hgu (hb s1 ws (r.length.symm.trans hl)) I1 (pm.vals r) (by rw [pm.len]; exact hl.trans hps.symm) (pm.rpa ra) ok q) fun r s' hq => ?_)
  cases r with
  | error e => exact hq.elim
  | ok fl =>
    cases fl with
    | ret u => exact hq
    | next => exact hq.elim
    | brk => exact hq.elim
    | cont => exact hq.elim
end
/-- a def that is called by places, from what the head tells -/
theorem cle_of {P : Program} {w : World} {K : PySem.W.Frag} {mg : Str → Option Value} {base : Heap} {k : Nat} {x qual : Str} {params : Arguments} {body : List Stmt} {scope : Scope} {kws : List (Str × V)} {f : Addr} {fd : FuncData} {ps : List Str} {n : Nat} {F : List D → M → Res D}
    (D0 : FunD K x qual params body scope [] kws f fd) (hm : mg x = some (.ref f)) (hps : ps.length = n) (G : FnG P w K mg base k f fd ps F)
    (h : ∀ (kV doc pm : Value) (an : Option Addr) (cdv ct : Value) (us : List Value), us.length = ps.length → bindArgs (PySem.W.fnOf x qual params body scope .none kV doc pm an cdv ct) ⟨us, []⟩ = pure (ps.zip us)) : Cle P w K mg base k x n F :=
  ⟨f, fd, ps, hps, G, hm, D0.kp, fun s us hl => D0.bindsA h s us (hl.trans hps.symm)⟩
theorem clek_of {P : Program} {w : World} {K : PySem.W.Frag} {mg : Str → Option Value} {base : Heap} {k : Nat} {x qual : Str} {params : Arguments} {body : List Stmt} {scope : Scope} {kws : List (Str × V)} {f : Addr} {fd : FuncData} {ps : List Str} {n : Nat} {F : List D → M → Res D} {ks : List Str} {g : {α : Type} → List α → List α}
    (D0 : FunD K x qual params body scope [] kws f fd) (hm : mg x = some (.ref f)) (hps : ps.length = n) (G : FnG P w K mg base k f fd ps F)
    (h : ∀ (kV doc pm : Value) (an : Option Addr) (cdv ct : Value) (us : List Value), us.length = n → bindArgs (PySem.W.fnOf x qual params body scope .none kV doc pm an cdv ct) ⟨[], ks.zip us⟩ = pure (ps.zip (g us))) : CleK P w K mg base k x n F ks g := by
  refine ⟨f, fd, ps, hps, G, hm, D0.kp, fun s us hl => ?_⟩
  obtain ⟨oc, od, dV, kV, doc, pm, an, cdv, ct, osl, rfl, lk, hcd, hD, hK⟩ := D0.ex
  rcases hD with ⟨_, rfl⟩ | ⟨e, _⟩
  · exact .of_eq (h kV doc pm an cdv ct us hl)
  · exact absurd rfl e
end Dl

/-! DL12: the end of a law; a try that runs through. -/
namespace Dl
open PySem PySem.Spec PyProof.Rows L2
def scriptD (ns : List Int) : D := .rol (ns.map D.int)
theorem rpa_ints {K : PySem.W.Frag} {β : List Addr} {H : Hp} : ∀ ns : List Int, RpA K β H (ns.map V.int) (ns.map D.int)
  | [] => .nil
  | n :: r => .cons (.int n) (rpa_ints r)
theorem mok_nil {K : PySem.W.Frag} {H : Hp} : MOk K [] H [] := ⟨rfl, .nil, fun n o a h => by simp at h⟩
section
variable {P : Program} {w : World} {K : PySem.W.Frag} {mg mb : Str → Option Value} {k : Nat} {fa a : Addr} {fd : FuncData} {x : Str} {s₁ : Shared} {vs : List Value} {ns : List Int} {FL : List D → M → Res D}
/-- from an abstract heap that tells the script alone -/
theorem law_at (KX : K.In s₁.heap) (hns : s₁.heap.Ns mainGlobals mg) (hb : s₁.heap.Ns builtinsNs mb) (hbb : ∀ x : Str, x ≠ "__name__" → mb x = bootBuiltins x) (hlim : s₁.heap.NoLimit) (hg : s₁.gens = #[])
    (ha : s₁.heap.get? a = some { cls := .type "list", data := .seq vs.toArray }) (hr : Room k callerA) (hgu : callerA.guards = some []) (F : ∀ base : Heap, K.In base → base.Ns mainGlobals mg → FnG P w K mg base k fa fd [x] FL)
    (hbind : ∀ (s : Shared) (u : Value), BindsTo s fd ⟨[u], []⟩ [(x, u)]) (hF : ∃ m, FL [scriptD ns] [] = .ok (.bl true) m)
    (H : Hp) (frz : ∀ b u, H b = some u → b = a ∧ ∃ o ys, u = .frz o (.lst ys)) (hS : SqF K H a (ns.map V.int)) (hok : HOk P w H s₁.heap) (hK : H a ≠ none → K.lookup a = none) :
    codeAny (model P w) callerA (.call (.ref fa) ⟨[.ref a], []⟩) (fun r s' => r = .ok (.ret (.bool true)) ∧ OldK s₁.heap s'.heap ∧ s'.os = s₁.os ∧ AllBare s'.gens) s₁ := by
  have noDict : ∀ {b : Addr} {o : Obj} {es : Array DictEntry} {ep : Nat}, s₁.heap.get? b = some o → o.data = .dict es ep → H b = none := by
    intro b o es ep e d
    cases q : H b with
    | none => rfl
    | some u =>
      obtain ⟨rfl, _⟩ := frz b u q
      rw [ha] at e
      cases e
      cases d
  have names : ∀ {b : Addr} {m : Str → Option Value}, s₁.heap.Ns b m → (hidT s₁.heap H).Ns b m := by
    rintro b m ⟨o, es, ep, e, d, r⟩
    exact ⟨o, es, ep, hidT_get e (noDict e d), d, r⟩
  have inB : K.In (hidT s₁.heap H) := by
    intro b o e
    refine hidT_get (KX b o e) ?_
    cases q : H b with
    | none => rfl
    | some u =>
      obtain ⟨rfl, _⟩ := frz b u q
      rw [hK (by rw [q]; simp)] at e
      cases e
  obtain ⟨mc, hl1, hl2⟩ := hlim
  have hM : Mod K mg (hidT s₁.heap H) := ⟨inB, names hns, ⟨mb, names hb, hbb⟩, ⟨mc, names hl1, hl2⟩⟩
  have e0 : Env0 P w K mg (hidT s₁.heap H) callerA [] s₁ H := ⟨rfl, hM, fun b o e => of_hidT e, Nat.le_of_eq (hidT_size _ _), trivial, fun b hb => (List.not_mem_nil hb).elim, hok, AllBare.of_eq hg⟩
  obtain ⟨m', hF⟩ := hF
  have hres : okD K (fun _ _ _ => False) [] H (FL [scriptD ns] []) (fun d _ β' H' => ∀ v, Rp K β' H' v d → (fun v _ => v = V.bl true) v H') := by
    rw [hF]
    intro β' H' _ _ v rv
    cases rv
    rfl
  refine codeAny_mono ((F _ inB (names hns)).run callerA [] s₁ H ⟨[.ref a], []⟩ [.ref a] [.ref a] (fun v _ => v = .bl true) [] [] [scriptD ns] hr hgu e0 (hbind s₁ (.ref a)) (.cons rfl .nil) rfl (.cons (.rol hS (rpa_ints ns)) .nil) mok_nil hres) fun r s' h => ?_
  cases r with
  | error e => exact h.elim
  | ok fl =>
    cases fl with
    | next => exact h.elim
    | brk => exact h.elim
    | cont => exact h.elim
    | ret u =>
      obtain ⟨v, H', os, bare, un, hok', r', rfl⟩ := h
      obtain rfl : u = Value.bool true := r'
      refine ⟨rfl, OldK.of_keep fun b o e => ?_, os, bare⟩
      cases q : H b with
      | none => exact un.keep b o e q (fun z => (List.not_mem_nil z).elim) (List.not_mem_nil)
      | some u =>
        obtain ⟨rfl, ob, ys, rfl⟩ := frz b u q
        obtain ⟨e1, _⟩ := hok b _ q
        obtain ⟨e2, _⟩ := hok' b _ (un.frzs b ob _ q)
        rw [e] at e1
        cases e1
        exact e2
theorem law_run (KX : K.In s₁.heap) (hns : s₁.heap.Ns mainGlobals mg) (hb : s₁.heap.Ns builtinsNs mb) (hbb : ∀ x : Str, x ≠ "__name__" → mb x = bootBuiltins x) (hlim : s₁.heap.NoLimit) (hg : s₁.gens = #[])
    (ha : s₁.heap.get? a = some { cls := .type "list", data := .seq vs.toArray }) (hi : IntsAre vs ns) (hl : ns.length ≤ sizeLine) (hr : Room k callerA) (hgu : callerA.guards = some []) (F : ∀ base : Heap, K.In base → base.Ns mainGlobals mg → FnG P w K mg base k fa fd [x] FL)
    (hbind : ∀ (s : Shared) (u : Value), BindsTo s fd ⟨[u], []⟩ [(x, u)]) (hF : ∃ m, FL [scriptD ns] [] = .ok (.bl true) m) :
    codeAny (model P w) callerA (.call (.ref fa) ⟨[.ref a], []⟩) (fun r s' => r = .ok (.ret (.bool true)) ∧ OldK s₁.heap s'.heap ∧ s'.os = s₁.os ∧ AllBare s'.gens) s₁ := by
  have rv := vals_ints hi
  have go := fun H frz hS hok hK => law_at (P := P) (w := w) KX hns hb hbb hlim hg ha hr hgu F hbind hF H frz hS hok hK
  cases hk : K.lookup a with
  | some o =>
    have e := KX a o hk
    rw [ha] at e
    cases e
    exact go (fun _ => none) (fun b u z => by cases z) (.inr ⟨_, vs.toArray, _, hk, rfl, rfl, rfl, by rw [List.size_toArray, hi.length]; exact hl, by simpa using rv⟩) (fun b u z => by cases z) fun z => absurd rfl z
  | none =>
    let H0 : Hp := fun b => if b = a then some (.frz { cls := .type "list", data := .seq vs.toArray } (.lst (ns.map V.int))) else none
    have at0 : ∀ b u, H0 b = some u → b = a ∧ u = .frz { cls := .type "list", data := .seq vs.toArray } (.lst (ns.map V.int)) := by
      intro b u z
      by_cases h : b = a
      · exact ⟨h, (Option.some.inj ((if_pos h).symm.trans z)).symm⟩
      · cases (if_neg h).symm.trans z
    refine go H0 (fun b u z => ⟨(at0 b u z).1, _, _, (at0 b u z).2⟩) (.inl ⟨_, if_pos rfl⟩) (fun b u z => ?_) fun _ => hk
    obtain ⟨rfl, rfl⟩ := at0 b u z
    exact ⟨ha, by rw [List.length_map]; exact hl, vs, _, rv, ha⟩
end
/-- the law, from what its def makes of any script -/
theorem walk_D {l : PySem.W.OpenLaw} {n k : Nat} {q : Program} {loose : List Str} {XP : (Str → Option Value) → Heap → Prop} {YP : World → Heap → Prop} {d : DefRec} {x : Str} {FL : List D → M → Res D}
    (hn : l.most = some n) (hn2 : n ≤ sizeLine) (hdf : d.params.defaults = []) (hr : Room k callerA) (hgu : callerA.guards = some [])
    (F : ∀ (w : World) (mg : Str → Option Value) (fa : Addr) (h : Heap), YP w h → h.Ns mainGlobals mg → mg d.name = some (.ref fa) →
      ∃ (K : PySem.W.Frag) (fd : FuncData), K.In h ∧ (∀ (s : Shared) (u : Value), BindsTo s fd ⟨[u], []⟩ [(x, u)]) ∧ ∀ base : Heap, K.In base → base.Ns mainGlobals mg → FnG l.prog w K mg base k fa fd [x] FL)
    (hF : ∀ ns : List Int, ns.length ≤ n → ∃ m, FL [scriptD ns] [] = .ok (.bl true) m) :
    PySem.W.WalkO q loose XP YP l.row.toRowW d [] (fun f vs => PySem.call f vs) := by
  refine Att.attach_call hn hdf fun w s₀ s₁ mg mb fa o pm cd doc a vs ns G Y ho hd hcd hmg hobj hints hlen hg => ?_
  obtain ⟨K, fd, KX, hb, hG⟩ := F w mg fa _ Y G.T.g hmg
  exact law_run KX G.T.g G.T.b G.T.builtins G.T.nolimit hg hobj hints (Nat.le_trans hlen hn2) hr hgu hG hb (hF ns hlen)
theorem caller_guards : callerA.guards = some [] := rfl

/-- a try whose body runs through -/
theorem psd_try {X : Cx} {W : WXD} {body : List Stmt} {h₀ : ExceptHandler} {hs : List ExceptHandler} {pos : Pos} {g : FS} (hb : PSsD X.nox W body g) : PSD X W (.Try body (h₀ :: hs) [] [] pos) g := PS.imp (ps_try_thru0 hb) fun _ _ _ q => q
end Dl

/-! DL13: calls of built-ins, by name. -/
namespace Dl
open PySem PySem.Spec PyProof.Rows L2
section
variable {X : Cx} {W : WXD} {p pos : Pos} {e e2 : Expr} {f f2 : FE} {fa : FA}
abbrev One (e : Expr) (X : Cx) : Prop := starEach [e] X.env = (false, eval e X.env) :: starEach [] X.env
abbrev Two (e e2 : Expr) (X : Cx) : Prop := starEach [e, e2] X.env = (false, eval e X.env) :: starEach [e2] X.env
theorem b_len (hg : Gl X "len") (hm : X.mg "len" = none) (ha : PD X W e f) (h1 : One e X := by rfl) : PD X W (.Call (.Name "len" p) [e] [] pos) (fCB gLen (fCons f fNil)) :=
  pd_callB cr_len cd_len hg hm (by decide +kernel) (pad_cons ha pad_nil h1) (he := h1) (hpl := rfl)
theorem b_lenL (hg : Gl X "len") (hm : X.mg "len" = none) (ha : PLD X W e fa) (h1 : One e X := by rfl) : PD X W (.Call (.Name "len" p) [e] [] pos) (fCB gLenL fa) :=
  pd_callBL cr_len cdl_len hg hm (by decide +kernel) ha (he := h1)
theorem b_tuple (hg : Gl X "tuple") (hm : X.mg "tuple" = none) (ha : PD X W e f) (h1 : One e X := by rfl) : PD X W (.Call (.Name "tuple" p) [e] [] pos) (fCB gTuple (fCons f fNil)) :=
  pd_callTy call_tuple_of cd_tuple hg hm (by decide +kernel) (pad_cons ha pad_nil h1) (he := h1) (hpl := rfl)
theorem b_tupleL (hg : Gl X "tuple") (hm : X.mg "tuple" = none) (ha : PLD X W e fa) (h1 : One e X := by rfl) : PD X W (.Call (.Name "tuple" p) [e] [] pos) (fCB gTupleL fa) :=
  pd_callTyL call_tuple_of cdl_tuple hg hm (by decide +kernel) ha (he := h1)
theorem b_list (hg : Gl X "list") (hm : X.mg "list" = none) (ha : PD X W e f) (h1 : One e X := by rfl) : PD X W (.Call (.Name "list" p) [e] [] pos) (fCB gList (fCons f fNil)) :=
  pd_callTy call_list_of cd_list hg hm (by decide +kernel) (pad_cons ha pad_nil h1) (he := h1) (hpl := rfl)
theorem b_allL (hc : X.calm = true) (hg : Gl X "all") (hm : X.mg "all" = none) (ha : PLD X W e fa) (h1 : One e X := by rfl) : PD X W (.Call (.Name "all" p) [e] [] pos) (fCB gAllL fa) :=
  pd_callBL (cr_all hc) cdl_all hg hm (by decide +kernel) ha (he := h1)
theorem b_anyL (hc : X.calm = true) (hg : Gl X "any") (hm : X.mg "any" = none) (ha : PLD X W e fa) (h1 : One e X := by rfl) : PD X W (.Call (.Name "any" p) [e] [] pos) (fCB gAnyL fa) :=
  pd_callBL (cr_any hc) cdl_any hg hm (by decide +kernel) ha (he := h1)
theorem b_maxL (hc : X.calm = true) (hg : Gl X "max") (hm : X.mg "max" = none) (ha : PLD X W e fa) (h1 : One e X := by rfl) : PD X W (.Call (.Name "max" p) [e] [] pos) (fCB gMaxL fa) :=
  pd_callBL (cr_max hc) cdl_max hg hm (by decide +kernel) ha (he := h1)
theorem b_sumL (hc : X.calm = true) (hg : Gl X "sum") (hm : X.mg "sum" = none) (ha : PLD X W e fa) (h1 : One e X := by rfl) : PD X W (.Call (.Name "sum" p) [e] [] pos) (fCB gSumL fa) :=
  pd_callBL (cr_sum hc) cdl_sum hg hm (by decide +kernel) ha (he := h1)
theorem b_min2 (hc : X.calm = true) (hg : Gl X "min") (hm : X.mg "min" = none) (ha : PD X W e f) (hb : PD X W e2 f2) (h1 : Two e e2 X := by rfl) (h2 : One e2 X := by rfl) (hpl : (backTo pos (starEach [e2] X.env)).any (·.1) = false := by rfl) :
    PD X W (.Call (.Name "min" p) [e, e2] [] pos) (fCB gMin2 (fCons f (fCons f2 fNil))) :=
  pd_callB (call_min2 hc) cd_min2 hg hm (by decide +kernel) (pad_cons ha (pad_cons hb pad_nil h2) h1) (he := h1) (hpl := hpl)
theorem b_max2 (hc : X.calm = true) (hg : Gl X "max") (hm : X.mg "max" = none) (ha : PD X W e f) (hb : PD X W e2 f2) (h1 : Two e e2 X := by rfl) (h2 : One e2 X := by rfl) (hpl : (backTo pos (starEach [e2] X.env)).any (·.1) = false := by rfl) :
    PD X W (.Call (.Name "max" p) [e, e2] [] pos) (fCB gMax2 (fCons f (fCons f2 fNil))) :=
  pd_callB (call_max2 hc) cd_max2 hg hm (by decide +kernel) (pad_cons ha (pad_cons hb pad_nil h2) h1) (he := h1) (hpl := hpl)
theorem b_abs (hg : Gl X "abs") (hm : X.mg "abs" = none) (ha : PD X W e f) (h1 : One e X := by rfl) : PD X W (.Call (.Name "abs" p) [e] [] pos) (fCB gAbs (fCons f fNil)) :=
  pd_callB call_abs cd_abs hg hm (by decide +kernel) (pad_cons ha pad_nil h1) (he := h1) (hpl := rfl)
theorem b_int (hg : Gl X "int") (hm : X.mg "int" = none) (ha : PD X W e f) (h1 : One e X := by rfl) : PD X W (.Call (.Name "int" p) [e] [] pos) (fCB gInt (fCons f fNil)) :=
  pd_callTy call_int1 cd_int hg hm (by decide +kernel) (pad_cons ha pad_nil h1) (he := h1) (hpl := rfl)
theorem b_repr (hgu : X.A.guards = some []) (hu : X.A.units + 64 < cLine) (hg : Gl X "repr") (hm : X.mg "repr" = none) (ha : PD X W e f) (h1 : One e X := by rfl) : PD X W (.Call (.Name "repr" p) [e] [] pos) (fCB gRepr (fCons f fNil)) :=
  pd_callB (cr_repr hgu hu) cd_repr hg hm (by decide +kernel) (pad_cons ha pad_nil h1) (he := h1) (hpl := rfl)
theorem b_isi {T : String} {x : Str} {p2 : Pos} (hg : Gl X "isinstance") (hm : X.mg "isinstance" = none) (hgT : Gl X x) (hmT : X.mg x = none) (hvT : bootBuiltins x = some (.type T)) (he : PD X W e f)
    (hn : x ≠ "__name__" := by decide) (hd : (x == ("__debug__" : Str)) = false := by decide) (hs : starEach [e, .Name x p2] X.env = (false, eval e X.env) :: starEach [.Name x p2] X.env := by rfl) (hs2 : starEach [.Name x p2] X.env = (false, eval (.Name x p2) X.env) :: starEach [] X.env := by rfl)
    (hpl : (backTo pos (starEach [.Name x p2] X.env)).any (·.1) = false := by rfl) : PD X W (.Call (.Name "isinstance" p) [e, .Name x p2] [] pos) (fIsi T f) := pd_isi hg hm hgT hmT hvT he hn hd hs hs2 hpl
end
theorem room_units {k : Nat} {A : Around} (r : Room k A) : A.units + 64 < cLine := by
  have := r.un
  omega
end Dl

/-! DL14: in, is of bools, displays of dicts, list(range(..)). -/
namespace Dl
open PySem PySem.Spec PyProof.Rows L2

/-! ### in, not in -/
def inS (m : M) (a b : D) : Option Bool := match pdM DEEP m a, pdM DEEP m b with
  | some p, some (.list qs) => if PyData.plainAll qs && (p.plain && decide (p.depth ≤ 60)) then some (qs.any fun y => PyData.eqv y p) else none
  | some p, some (.tuple qs) => if PyData.plainAll qs && (p.plain && decide (p.depth ≤ 60)) then some (qs.any fun y => PyData.eqv y p) else none
  | _, _ => none
def inD (m : M) (a b : D) : Option Bool := match b with
  | .ref n => match m[n]? with
    | some (.dct t kvs) => if keyOk t a then some (valD kvs a).isSome else none
    | some (.fz t kvs) => if keyOk t a then some (valD kvs a).isSome else none
    | _ => inS m a (.ref n)
  | b => inS m a b
def gIn : D → D → M → Res D := fun a b m => match inD m a b with
  | some r => .ok (.bl r) m
  | none => .bad
def gNotIn : D → D → M → Res D := fun a b m => match inD m a b with
  | some r => .ok (.bl (!r)) m
  | none => .bad
def rInA (K : PySem.W.Frag) (f : Bool → Bool) : R2 := fun x y H Q => (∃ a o, y = .ref a ∧ DGet H a x o ∧ Q (.bl (f o.isSome)) H) ∨
  ∃ p qs, Dp K H x p ∧ (Dp K H y (.list qs) ∨ Dp K H y (.tuple qs)) ∧ PyData.plainAll qs = true ∧ p.plain = true ∧ p.depth ≤ 60 ∧ Q (.bl (f (qs.any fun z => PyData.eqv z p))) H
section
variable {X : Cx}
theorem in_room {A : Around} {qs : List PyData} {p : PyData} (hu : A.units + 64 < cLine) (h : p.depth ≤ 60) : A.units + 1 + min (PyData.depthAll qs) p.depth < cLine := by
  have := Nat.min_le_right (PyData.depthAll qs) p.depth
  omega
theorem op_inA (hu : X.A.units + 64 < cLine) : OpR X (compareOp .In) (rInA X.K id) := by
  rintro pins s σ H x y v u Q I rx ry (⟨a, o, rfl, g, q⟩ | ⟨p, qs, hp, hq, h1, h2, h3, q⟩)
  · obtain rfl : u = Value.ref a := ry
    exact d_in (by omega) I g rx fun s' I' => ⟨.bl o.isSome, H, I', rfl, q⟩
  · obtain ⟨as, r1⟩ := Dp.reads I p x v hp rx
    rcases hq with hq | hq
    · obtain ⟨bs, r2⟩ := Dp.reads I _ y u hq ry
      exact SeqAt.in_list_data r2 r1 h1 h2 (in_room hu h3) ⟨.bl _, H, I, rfl, q⟩
    · obtain ⟨bs, r2⟩ := Dp.reads I _ y u hq ry
      exact SeqAt.in_tuple_data r2 r1 h1 h2 (in_room hu h3) ⟨.bl _, H, I, rfl, q⟩
theorem op_notInA (hu : X.A.units + 64 < cLine) : OpR X (compareOp .NotIn) (rInA X.K not) := by
  rintro pins s σ H x y v u Q I rx ry (⟨a, o, rfl, g, q⟩ | ⟨p, qs, hp, hq, h1, h2, h3, q⟩)
  · obtain rfl : u = Value.ref a := ry
    exact d_notIn (by omega) I g rx fun s' I' => ⟨.bl (!o.isSome), H, I', rfl, q⟩
  · obtain ⟨as, r1⟩ := Dp.reads I p x v hp rx
    rcases hq with hq | hq
    · obtain ⟨bs, r2⟩ := Dp.reads I _ y u hq ry
      exact SeqAt.notIn_list_data r2 r1 h1 h2 (in_room hu h3) ⟨.bl _, H, I, rfl, q⟩
    · obtain ⟨bs, r2⟩ := Dp.reads I _ y u hq ry
      exact SeqAt.notIn_tuple_data r2 r1 h1 h2 (in_room hu h3) ⟨.bl _, H, I, rfl, q⟩
end
theorem rin_of {K : PySem.W.Frag} {β : List Addr} {H : Hp} {m : M} {x y : V} {a b : D} {f : Bool → Bool} {r : Bool} {Q : VK} (ok : MOk K β H m) (ra : Rp K β H x a) (rb : Rp K β H y b) (h : inD m a b = some r) (q : Q (.bl (f r)) H) : rInA K f x y H Q := by
  have hS : ∀ {b : D}, Rp K β H y b → inS m a b = some r → rInA K f x y H Q := by
    intro b rb h
    unfold inS at h
    split at h
    · rename_i p qs hp hq
      split at h
      · rename_i hs
        cases h
        simp only [Bool.and_eq_true, decide_eq_true_eq] at hs
        exact .inr ⟨p, qs, dp_pdM ok _ ra hp, .inl (dp_pdM ok _ rb hq), hs.1, hs.2.1, hs.2.2, q⟩
      · exact nomatch h
    · rename_i p qs hp hq
      split at h
      · rename_i hs
        cases h
        simp only [Bool.and_eq_true, decide_eq_true_eq] at hs
        exact .inr ⟨p, qs, dp_pdM ok _ ra hp, .inr (dp_pdM ok _ rb hq), hs.1, hs.2.1, hs.2.2, q⟩
      · exact nomatch h
    · exact nomatch h
  unfold inD at h
  split at h
  · rename_i n
    split at h
    · rename_i t kvs hn
      split at h
      · rename_i hk
        cases h
        cases rb with
        | ref ha =>
          obtain ⟨o, g, e⟩ := dget_of ok hn ha ra hk
          refine .inl ⟨_, o, rfl, g, ?_⟩
          rcases e with ⟨e1, e2⟩ | ⟨v, e', e1, e2, r'⟩
          · rw [e2] at q
            rw [e1]
            exact q
          · rw [e2] at q
            rw [e1]
            exact q
      · exact nomatch h
    · rename_i t kvs hn
      split at h
      · rename_i hk
        cases h
        cases rb with
        | ref ha =>
          obtain ⟨o, g, e⟩ := fget_of ok hn ha ra hk
          refine .inl ⟨_, o, rfl, g, ?_⟩
          rcases e with ⟨e1, e2⟩ | ⟨v, e', e1, e2, r'⟩
          · rw [e2] at q
            rw [e1]
            exact q
          · rw [e2] at q
            rw [e1]
            exact q
      · exact nomatch h
    · exact hS rb h
  · exact hS rb h
theorem opd_in {K : PySem.W.Frag} : OpD K (rInA K id) gIn := by
  intro Wx β H m x y a b Q ok ra rb h
  unfold gIn at h
  split at h
  · rename_i r hr
    exact rin_of ok ra rb hr (h.here ok _ (.bl _))
  · exact h.elim
theorem opd_notIn {K : PySem.W.Frag} : OpD K (rInA K not) gNotIn := by
  intro Wx β H m x y a b Q ok ra rb h
  unfold gNotIn at h
  split at h
  · rename_i r hr
    exact rin_of ok ra rb hr (h.here ok _ (.bl _))
  · exact h.elim
/-! ### is, is not: of bools -/
def gIsB : D → D → M → Res D := fun a b m => match a, b with
  | .bl x, .bl y => .ok (.bl (decide (x = y))) m
  | _, _ => .bad
def gNotB : D → D → M → Res D := fun a b m => match a, b with
  | .bl x, .bl y => .ok (.bl (!decide (x = y))) m
  | _, _ => .bad
theorem opd_isB {K : PySem.W.Frag} : OpD K rIsB gIsB := by
  intro Wx β H m x y a b Q ok ra rb h
  unfold gIsB at h
  split at h
  · cases ra
    cases rb
    exact ⟨_, _, rfl, rfl, h.here ok _ (.bl _)⟩
  · exact h.elim
theorem opd_notB {K : PySem.W.Frag} : OpD K rNotB gNotB := by
  intro Wx β H m x y a b Q ok ra rb h
  unfold gNotB at h
  split at h
  · cases ra
    cases rb
    exact ⟨_, _, rfl, rfl, h.here ok _ (.bl _)⟩
  · exact h.elim
section
variable {X : Cx} {W : WXD} {a b : Expr} {pos : Pos} {fa fb : FE}
theorem pd_in (hu : X.A.units + 64 < cLine) (ha : PD X W a fa) (hb : PD X W b fb) (hm : behindInMarks .In b = false := by with_unfolding_all rfl) : PD X W (.Compare a [.In] [b] pos) (fOp gIn fa fb) := pd_cmp (op_inA hu) opd_in ha hb hm
theorem pd_notIn (hu : X.A.units + 64 < cLine) (ha : PD X W a fa) (hb : PD X W b fb) (hm : behindInMarks .NotIn b = false := by with_unfolding_all rfl) : PD X W (.Compare a [.NotIn] [b] pos) (fOp gNotIn fa fb) := pd_cmp (op_notInA hu) opd_notIn ha hb hm
theorem ptd_in (hu : X.A.units + 64 < cLine) (ha : PD X W a fa) (hb : PD X W b fb) (hm : behindInMarks .In b = false := by with_unfolding_all rfl) : PTD X W (.Compare a [.In] [b] pos) (fTest (fOp gIn fa fb)) := ptd_cmp (op_inA hu) opd_in ha hb hm
theorem ptd_notIn (hu : X.A.units + 64 < cLine) (ha : PD X W a fa) (hb : PD X W b fb) (hm : behindInMarks .NotIn b = false := by with_unfolding_all rfl) : PTD X W (.Compare a [.NotIn] [b] pos) (fTest (fOp gNotIn fa fb)) := ptd_cmp (op_notInA hu) opd_notIn ha hb hm
theorem pd_isB (ha : PD X W a fa) (hb : PD X W b fb) : PD X W (.Compare a [.Is] [b] pos) (fOp gIsB fa fb) := pd_cmp op_isBl opd_isB ha hb (nomark _)
theorem pd_notB (ha : PD X W a fa) (hb : PD X W b fb) : PD X W (.Compare a [.IsNot] [b] pos) (fOp gNotB fa fb) := pd_cmp op_notBl opd_notB ha hb (nomark _)
theorem ptd_isB (ha : PD X W a fa) (hb : PD X W b fb) : PTD X W (.Compare a [.Is] [b] pos) (fTest (fOp gIsB fa fb)) := ptd_cmp op_isBl opd_isB ha hb (nomark _)
theorem ptd_notB (ha : PD X W a fa) (hb : PD X W b fb) : PTD X W (.Compare a [.IsNot] [b] pos) (fTest (fOp gNotB fa fb)) := ptd_cmp op_notBl opd_notB ha hb (nomark _)
end
/-! ### list(range(..)), tuple(range(..)) -/
def rgD (a b : Int) : List D := (List.range (b - a).toNat).map fun i => D.int (a + (i : Nat))
def rgOk (a b : Int) : Bool := decide (-(LIM : Int) ≤ a ∧ a ≤ LIM ∧ -(LIM : Int) ≤ b ∧ b ≤ LIM ∧ b - a ≤ LIM)
theorem rgOk_of {a b : Int} (h : rgOk a b = true) : RgOk a b := by
  have h := of_decide_eq_true h
  unfold LIM at h
  exact ⟨by omega, by omega, by omega, by omega, by omega⟩
theorem rpa_rg {K : PySem.W.Frag} {β : List Addr} {H : Hp} (a b : Int) : RpA K β H (rgV a b) (rgD a b) := by
  unfold rgV rgD
  induction List.range (b - a).toNat with
  | nil => exact .nil
  | cons i r ih => exact .cons (.int _) ih
def fRgA1 (f : FE) : FA := fun ρ m => (f ρ m).bind fun d m => match d with
  | .int n => if rgOk 0 n then .ok (rgD 0 n) m else .bad
  | _ => .bad
def fRgA2 (f g : FE) : FA := fun ρ m => (f ρ m).bind fun d m => (g ρ m).bind fun e m => match d, e with
  | .int a, .int b => if rgOk a b then .ok (rgD a b) m else .bad
  | _, _ => .bad
def fLstA (f : FA) : FE := fun ρ m => (f ρ m).bind fun ds m => .ok (.ref m.length) (m ++ [.lst ds])
def fTupA (f : FA) : FE := fun ρ m => (f ρ m).bind fun ds m => .ok (.tup ds) m
/-- a range's bounds, by data -/
def PRgD (X : Cx) (W : WXD) (e : Expr) (f : FA) : Prop := ∃ te : L2.St → Hp → (Int → Int → Hp → Prop) → Prop, PRg X e te ∧ ∀ (σ : Sg) (H : Hp) (Q : Int → Int → Hp → Prop),
  (∃ β m ρ, Stt X.K β H σ ρ m ∧ okD X.K (W σ) β H (f ρ m) fun ds _ β' H' => ∀ a b, RgOk a b → ds = rgD a b → Q a b H') → te σ H fun a b H1 => RgOk a b ∧ Q a b H1
section
variable {X : Cx} {W : WXD} {a b : Expr} {p pos p2 pos2 : Pos} {fa fb : FE}
theorem prgd_1 (hg : Gl X "range") (hm : X.mg "range" = none) (ha : PD X W a fa) (na : starEach [a] X.env = (false, eval a X.env) :: starEach [] X.env := by rfl) : PRgD X W (.Call (.Name "range" p) [a] [] pos) (fRgA1 fa) :=
  ⟨_, prg_1 hg hm ha na, fun σ H Q h => by
    obtain ⟨β, m, ρ, s, q⟩ := h
    refine td_bind s q fun d m1 v β1 H1 e1 s1 rv q1 => ?_
    split at q1
    · split at q1
      · rename_i n hn
        cases rv
        exact ⟨_, rfl, rgOk_of hn, q1.here s1.me _ _ (rgOk_of hn) rfl⟩
      · exact q1.elim
    · exact q1.elim⟩
theorem prgd_2 (hg : Gl X "range") (hm : X.mg "range" = none) (ha : PD X W a fa) (hb : PD X W b fb) (na : starEach [a, b] X.env = (false, eval a X.env) :: starEach [b] X.env := by rfl)
    (nb : starEach [b] X.env = (false, eval b X.env) :: starEach [] X.env := by rfl) (hp : (backTo pos (starEach [b] X.env)).any (·.1) = false := by rfl) : PRgD X W (.Call (.Name "range" p) [a, b] [] pos) (fRgA2 fa fb) :=
  ⟨_, prg_2 hg hm ha hb na nb hp, fun σ H Q h => by
    obtain ⟨β, m, ρ, s, q⟩ := h
    refine td_bind s q fun d m1 v β1 H1 e1 s1 rv q1 => ?_
    refine td_bind s1 q1 fun d2 m2 v2 β2 H2 e2 s2 rv2 q2 => ?_
    split at q2
    · split at q2
      · rename_i hn
        cases rv
        cases rv2
        exact ⟨_, _, rfl, rfl, rgOk_of hn, q2.here s2.me _ _ (rgOk_of hn) rfl⟩
      · exact q2.elim
    · exact q2.elim⟩
theorem pd_listRg {e : Expr} {f : FA} (hc : X.calm = true) (hg : Gl X "list") (hm : X.mg "list" = none) (he : PRgD X W e f) (na : starEach [e] X.env = (false, eval e X.env) :: starEach [] X.env := by rfl) : PD X W (.Call (.Name "list" p) [e] [] pos) (fLstA f) := by
  obtain ⟨te, h1, h2⟩ := he
  refine PE.imp (pe_listRg hc hg hm h1 na) fun σ H Q h => ?_
  obtain ⟨β, m, ρ, s, q⟩ := h
  refine h2 σ H (fun a b H1 => ∀ q, H1 q = none → Q (.ref q) (upd H1 q (.lst (rgV a b)))) ⟨β, m, ρ, s, ?_⟩
  unfold fLstA at q
  refine okD.imp (okD.bind q) fun ds m1 β1 H1 _ e1 ok1 q1 a b hab hds p hp => ?_
  subst hds
  exact q1 (β1 ++ [p]) _ (Ext.lay hp) (ok1.lay hp (rpa_rg a b)) _ (Rp.last ok1)
theorem pd_tupRg {e : Expr} {f : FA} (hc : X.calm = true) (hg : Gl X "tuple") (hm : X.mg "tuple" = none) (he : PRgD X W e f) (na : starEach [e] X.env = (false, eval e X.env) :: starEach [] X.env := by rfl) : PD X W (.Call (.Name "tuple" p) [e] [] pos) (fTupA f) := by
  obtain ⟨te, h1, h2⟩ := he
  refine PE.imp (pe_tupRg hc hg hm h1 na) fun σ H Q h => ?_
  obtain ⟨β, m, ρ, s, q⟩ := h
  refine h2 σ H (fun a b H1 => ∀ q, H1 q = none → Q (.ref q) (upd H1 q (.tup (rgV a b)))) ⟨β, m, ρ, s, ?_⟩
  unfold fTupA at q
  refine okD.imp (okD.bind q) fun ds m1 β1 H1 _ e1 ok1 q1 a b hab hds p hp => ?_
  subst hds
  exact q1 β1 _ (Ext.upd_new hp) (ok1.upd_new hp) _ (.tup upd_same ((rpa_rg a b).ext (Ext.upd_new hp)))
end
/-! ### displays of dicts -/
theorem mutO {β β' : List Addr} {H H' : Hp} {p : Addr} {o : HO} (e : Ext β β' H H') (hp : H p = none) (hl : ∃ u, H' p = some u ∧ Mutb u) : Ext β β' H (upd H' p o) := by
  refine ⟨e.pre, fun a ys h => ?_, fun a u x h => ?_, fun a u h hn => ?_, e.new⟩
  · rw [upd_ne (ne_of_none h hp)]; exact e.tup a ys h
  · rw [upd_ne (ne_of_none h hp)]; exact e.frz a u x h
  · rw [upd_ne (ne_of_none h hp)]; exact e.keep a u h hn
theorem side0 {β : List Addr} {H : Hp} {p : Addr} {u o : HO} (hp : H p = some u) (hm : Mutb u) : Ext0 β β H (upd H p o) :=
  ⟨fun _ _ h => h, fun a xs h => by
    rw [upd_ne fun z => by subst z; rw [hp] at h; exact hm.1 _ (Option.some.inj h)]; exact h, fun a x v h => by
    rw [upd_ne fun z => by subst z; rw [hp] at h; exact hm.2 _ _ (Option.some.inj h)]; exact h⟩
theorem sideM {K : PySem.W.Frag} {β : List Addr} {H : Hp} {m : M} {p : Addr} {u o : HO} (ok : MOk K β H m) (hp : H p = some u) (hm : Mutb u) (hb : p ∉ β) : MOk K β (upd H p o) m :=
  ⟨ok.len, ok.nd, fun n x a h1 h2 => (ok.at' n x a h1 h2).mono (side0 hp hm) fun v hv => by
    rw [upd_ne (fun q => hb (by rw [← q]; exact List.mem_of_getElem? h2))]; exact hv⟩
abbrev FP := Sl → M → Res (List (D × D))
def fPNil : FP := fun _ m => .ok [] m
def fPCons (fk fv : FE) (fp : FP) : FP := fun ρ m => (fk ρ m).bind fun k m => (fv ρ m).bind fun v m => (fp ρ m).bind fun r m => .ok ((k, v) :: r) m
inductive RpP (K : PySem.W.Frag) (β : List Addr) (H : Hp) : List (V × V) → List (D × D) → Prop
  | nil : RpP K β H [] []
  | cons {v w : V} {d e : D} {r : List (V × V)} {s : List (D × D)} : Rp K β H v d → Rp K β H w e → RpP K β H r s → RpP K β H ((v, w) :: r) ((d, e) :: s)
def PPsD (X : Cx) (W : WXD) (pos : Pos) (keys : List (Option Expr)) (values : List Expr) (fp : FP) : Prop := ∃ trs, PPs X pos keys values trs ∧ ∀ (σ : Sg) (H : Hp) (Q : List (V × V) → Hp → Prop),
  (∃ β m ρ, Stt X.K β H σ ρ m ∧ okD X.K (W σ) β H (fp ρ m) fun kvs _ β' H' => ∀ ps, RpP X.K β' H' ps kvs → Q ps H') → tPairs trs σ H Q
def mergeD (kvs more : List (D × D)) : List (D × D) := more.foldl (fun acc kv => putD acc kv.1 kv.2) kvs
def fDict (fp : FP) : FE := fun ρ m => (fp ρ m).bind fun kvs m => if kvs.length ≤ 15 ∧ kvs.all (fun kv => (keyD kv.1).isSome) = true then .ok (.ref m.length) (m ++ [.dct false (mergeD [] kvs)]) else .bad
def fDict0 (t : Bool) : FE := fun _ m => .ok (.ref m.length) (m ++ [.dct t []])
section
variable {X : Cx} {W : WXD} {pos : Pos} {fk fv : FE} {fp : FP}
theorem ppsd_nil : PPsD X W pos [] [] fPNil := ⟨_, pps_nil, fun σ H Q h => by
  obtain ⟨β, m, ρ, s, q⟩ := h
  exact q.here s.me [] .nil⟩
theorem ppsd_cons {k v : Expr} {ks : List (Option Expr)} {vs : List Expr} (hk : PD X W k fk) (hv : PD X W v fv) (hr : PPsD X W pos ks vs fp) : PPsD X W pos (some k :: ks) (v :: vs) (fPCons fk fv fp) := by
  obtain ⟨trs, h1, h2⟩ := hr
  refine ⟨_, pps_cons hk hv h1, fun σ H Q h => ?_⟩
  obtain ⟨β, m, ρ, s, q⟩ := h
  refine td_bind s q fun d m1 x β1 H1 e1 s1 rx q1 => ?_
  refine td_bind s1 q1 fun d2 m2 y β2 H2 e2 s2 ry q2 => ?_
  refine h2 σ H2 _ ⟨β2, m2, ρ, s2, okD.imp (okD.bind q2) fun kvs m3 β3 H3 _ e3 ok3 q3 ps rp => ?_⟩
  exact q3.here ok3 _ (.cons ((rx.ext e2).ext e3) (ry.ext e3) rp)
theorem rpp_keys {K : PySem.W.Frag} {β : List Addr} {H : Hp} {ps : List (V × V)} {kvs : List (D × D)} (r : RpP K β H ps kvs) (h : kvs.all (fun kv => (keyD kv.1).isSome) = true) :
    ∃ xs : List (Key × V), ps = xs.map (fun kv => (kV kv.1, kv.2)) ∧ xs.length = kvs.length ∧ ∀ {acc : List (Key × V)} {acd : List (D × D)}, KvR K β H keyD acc acd → KvR K β H keyD (mergeK acc xs) (mergeD acd kvs) := by
  induction r with
  | nil => exact ⟨[], rfl, rfl, fun q => q⟩
  | @cons v w d e r s rv rw' _ ih =>
    rw [List.all_cons, Bool.and_eq_true] at h
    obtain ⟨xs, h1, h2, h3⟩ := ih h.2
    obtain ⟨k, hk⟩ := Option.isSome_iff_exists.mp h.1
    refine ⟨(k, w) :: xs, ?_, by rw [List.length_cons, List.length_cons, h2], fun q => ?_⟩
    · rw [List.map_cons, h1, key_rp rv hk]
    · exact h3 (q.put (fun a b => keyD_inj a b) hk rw')
theorem pd_dict {keys : List (Option Expr)} {values : List Expr} (h : PPsD X W pos keys values fp) (hall : keys.all (·.isSome) = true := by rfl) (hl : keys.length = values.length := by rfl) (h0 : keys ≠ [] := by exact List.cons_ne_nil _ _)
    (h15 : keys.length ≤ 15 := by decide) : PD X W (.Dict keys values pos) (fDict fp) := by
  obtain ⟨trs, h1, h2⟩ := h
  refine PE.imp (pe_disp h1 hall hl h0 h15) fun σ H Q hq p hp => ?_
  obtain ⟨β, m, ρ, s, q⟩ := hq
  have s' : Stt X.K β (upd H p (.dK [])) σ ρ m := s.ext (Ext.upd_new hp) (s.me.upd_new hp)
  have hb : p ∉ β := s.me.fresh hp
  refine h2 σ _ _ ⟨β, m, ρ, s', ?_⟩
  unfold fDict at q
  cases hfp : fp ρ m with
  | bad => rw [hfp] at q; exact q.elim
  | exc x m1 => rw [hfp] at q; exact okD.ext (r := .exc x m1) (Ext.upd_new hp) q
  | ok kvs m1 =>
    rw [hfp] at q
    intro β1 H1 e1 ok1 ps rp
    have hp1 : H1 p = some (.dK []) := e1.keep p _ upd_same hb
    refine ⟨hp1, ?_⟩
    change okD X.K (W σ) β H (if kvs.length ≤ 15 ∧ kvs.all (fun kv => (keyD kv.1).isSome) = true then Res.ok (D.ref m1.length) (m1 ++ [O.dct false (mergeD [] kvs)]) else Res.bad) _ at q
    split at q
    · rename_i hk
      obtain ⟨xs, h4, h5, h6⟩ := rpp_keys rp hk.2
      refine ⟨xs, h4, by rw [h5]; exact hk.1, ?_⟩
      have hb1 : p ∉ β1 := fun hb1 => by
        have := e1.new p hb1 hb
        rw [upd_same] at this
        exact nomatch this
      have e2 : Ext β β1 H (upd H1 p (.dK (mergeK [] xs))) := mutO ((Ext.upd_new hp).trans e1) hp ⟨_, hp1, mutb_dK⟩
      have e3 : Ext0 β1 β1 H1 (upd H1 p (.dK (mergeK [] xs))) := side0 hp1 mutb_dK
      have e4 : Ext0 β1 (β1 ++ [p]) H1 (upd H1 p (.dK (mergeK [] xs))) := e3.trans (Ext0.more _)
      have ok2 : MOk X.K β1 (upd H1 p (.dK (mergeK [] xs))) m1 := sideM ok1 hp1 mutb_dK hb1
      exact q (β1 ++ [p]) _ (Ext.adopt' hp e2) (ok2.adoptO hb1 ⟨_, upd_same, (h6 .nil).mono e4⟩) _ (Rp.last ok1)
    · exact q.elim
theorem pd_dict0 : PD X W (.Dict [] [] pos) (fDict0 false) := PE.imp pe_dnewK fun σ H Q hq p hp => by
  obtain ⟨β, m, ρ, s, q⟩ := hq
  exact q (β ++ [p]) _ (Ext.lay hp) ((s.me.upd_new hp).adoptO (s.me.fresh hp) ⟨[], upd_same, .nil⟩) _ (Rp.last s.me)
theorem pd_dict0T : PD X W (.Dict [] [] pos) (fDict0 true) := PE.imp pe_dnewT fun σ H Q hq p hp => by
  obtain ⟨β, m, ρ, s, q⟩ := hq
  exact q (β ++ [p]) _ (Ext.lay hp) ((s.me.upd_new hp).adoptO (s.me.fresh hp) ⟨[], upd_same, .nil⟩) _ (Rp.last s.me)
end
/-! ### x += i of ints -/
def gAddI : D → D → M → Res D := gI fun i j => .int (i + j)
theorem opd_addI {K : PySem.W.Frag} : OpD K (rI0 fun i j => .int (i + j)) gAddI := opd_I0 fun _ _ _ _ => .int _
/-! ### a, b, .. = [..] -/
def sAsgL (n : Nat) (f : FA) (g : GTs) : FS := fun ρ m => (f ρ m).out ρ fun ds m' => if ds.length = n then (match g ds ρ with
  | some ρ' => .nx ρ' m'
  | none => .bad) else .bad
theorem psd_asgL {X : Cx} {W : WXD} {es : List Expr} {e : Expr} {k : Nat} {p2 pos : Pos} {n : Nat} {f : FA} {gs : GTs} {I : List Nat} (hc : X.calm = true) (he : PLD X W e f) (h : PGsD X es gs I)
    (hn : (assignEach es X.env).length = n := by rfl) (hst : (assignEach es X.env).findIdx? (·.1) = none := by rfl)
    (hs : swapsWithSole [.Tuple es k p2] e pos.line X.env = pure false := by rfl) (hw : swappedStores [.Tuple es k p2] e X.env = pure none := by rfl)
    (h1 : (assignEach [.Tuple es k p2] X.env).map (·.2) = [assign (.Tuple es k p2) X.env] := by rfl) : PSD X W (.Assign [.Tuple es k p2] e pos) (sAsgL n f gs) :=
  PS.imp (ps_asg he (pg_unl hc h hn hst) hs hw h1) fun E σ H q => by
    obtain ⟨β, m, ρ, s, q⟩ := q
    refine tsl_bind s q fun ds m1 p xs β1 H1 e1 s1 hp hb hl rs q1 => ?_
    split at q1
    · rename_i hk
      cases hg : gs ds ρ with
      | none => simp only [hg] at q1; exact q1.elim
      | some ρ' =>
        simp only [hg] at q1
        exact ⟨_, xs, rfl, SqL.of hl, by rw [rs.length]; exact hk, β1, m1, ρ, _, ρ', s1, rs, hg, fun σ2 s2 _ => q1 β1 H1 σ2 e1 s2⟩
    · exact q1.elim
end Dl

/-! DL15: texts and tables of the module, minus, rows turned round, d.get(k, x), places of items, dicts locked and walked, tuples known to have no dict. -/
namespace Dl
open PySem PySem.Spec PyProof.Rows L2
section
variable {X : Cx} {W : WXD} {a b : Expr} {pos : Pos} {fa fb : FE}
/-- a text of the module -/
theorem pd_globS {x z : Str} (hg : Gl X x) (hm : ∃ t, X.mg x = some (.str z t)) (hd : (x == ("__debug__" : Str)) = false := by decide) : PD X W (.Name x pos) (fC (.str z)) := by
  obtain ⟨t, hm⟩ := hm
  exact PE.imp (pe_glob (v := .str z) hg hm ⟨t, rfl⟩ hd) fun _ _ _ h => td_c (fun _ _ => .str z) h
def gNeg : D → M → Res D := fun a m => match a with
  | .int i => .ok (.int (-i)) m
  | _ => .bad
theorem pd_neg (ha : PD X W a fa) : PD X W (.UnaryOp .USub a pos) (fUn gNeg fa) := PE.imp (pe_un un_neg ha) fun σ H Q q => by
  obtain ⟨β, m, ρ, s, q⟩ := q
  refine td_bind s q fun d m1 v β1 H1 e1 s1 rv q1 => ?_
  unfold gNeg at q1
  split at q1
  · cases rv
    exact ⟨_, rfl, q1.here s1.me _ (.int _)⟩
  · exact q1.elim
/-- xs[::-1] of a list -/
def fRevL (f : FE) : FE := fun ρ m => (f ρ m).bind fun d m => match d with
  | .ref n => match m[n]? with
    | some (.lst xs) => .ok (.ref m.length) (m ++ [.lst xs.reverse])
    | _ => .bad
  | _ => .bad
theorem RpA.rev {K : PySem.W.Frag} {β : List Addr} {H : Hp} : ∀ {vs : List V} {ds : List D}, RpA K β H vs ds → RpA K β H vs.reverse ds.reverse
  | _, _, .nil => .nil
  | _, _, .cons r t => by
    rw [List.reverse_cons, List.reverse_cons]
    exact (RpA.rev t).append (.cons r .nil)
theorem pd_revL {k : Nat} {p1 p2 p3 : Pos} (ha : PD X W a fa) : PD X W (.Subscript a (.Slice none none (some (.UnaryOp .USub (.Constant (.int 1) k p1) p2)) p3) pos) (fRevL fa) := PE.imp (pe_revL ha) fun σ H Q q => by
  obtain ⟨β, m, ρ, s, q⟩ := q
  refine td_bind s q fun d m1 v β1 H1 e1 s1 rv q1 => ?_
  split at q1
  · split at q1
    · rename_i n xs hn
      cases rv with
      | ref hb =>
        obtain ⟨ys, h1, r1⟩ := s1.me.at' _ _ _ hn hb
        exact ⟨_, ys, rfl, SqL.of h1, fun l hl => q1 (β1 ++ [l]) _ (Ext.lay hl) (s1.me.lay hl r1.rev) _ (Rp.last s1.me)⟩
    · exact q1.elim
  · exact q1.elim
/-! ### d.get(k, x) -/
def dctOf (m : M) (n : Nat) : Option (Bool × List (D × D)) := match m[n]? with
  | some (.dct t kvs) => some (t, kvs)
  | some (.fz t kvs) => some (t, kvs)
  | _ => none
theorem dct_get {K : PySem.W.Frag} {β : List Addr} {H : Hp} {m : M} (ok : MOk K β H m) {n : Nat} {a : Addr} {t : Bool} {kvs : List (D × D)} {y : V} {b : D} (hn : dctOf m n = some (t, kvs)) (ha : β[n]? = some a) (rb : Rp K β H y b) (hk : keyOk t b = true) :
    ∃ o, DGet H a y o ∧ ((o = none ∧ valD kvs b = none) ∨ ∃ v e, o = some v ∧ valD kvs b = some e ∧ Rp K β H v e) := by
  unfold dctOf at hn
  split at hn
  · cases hn; exact dget_of ok ‹_› ha rb hk
  · cases hn; exact fget_of ok ‹_› ha rb hk
  · cases hn
theorem dct_isD {K : PySem.W.Frag} {β : List Addr} {H : Hp} {m : M} (ok : MOk K β H m) {n : Nat} {a : Addr} {p : Bool × List (D × D)} (hn : dctOf m n = some p) (ha : β[n]? = some a) : IsD H a := by
  unfold dctOf at hn
  split at hn
  · rename_i t kvs hm
    have h := ok.at' n _ a hm ha
    cases t with
    | false => obtain ⟨xs, h1, _⟩ := h; exact .inl ⟨xs, .inl h1⟩
    | true => obtain ⟨xs, h1, _⟩ := h; exact .inr ⟨xs, .inl h1⟩
  · rename_i t kvs hm
    have h := ok.at' n _ a hm ha
    cases t with
    | false => obtain ⟨o, xs, h1, _⟩ := h; exact .inl ⟨xs, .inr ⟨o, h1⟩⟩
    | true => obtain ⟨o, xs, h1, _⟩ := h; exact .inr ⟨xs, .inr ⟨o, h1⟩⟩
  · cases hn
def fGet2 (fo fk fx : FE) : FE := fun ρ m => (fo ρ m).bind fun o m1 => match o with
  | .ref n => match dctOf m1 n with
    | some _ => (fk ρ m1).bind fun k m2 => (fx ρ m2).bind fun x m3 => match dctOf m3 n with
      | some (t, kvs) => if keyOk t k then .ok ((valD kvs k).getD x) m3 else .bad
      | none => .bad
    | none => .bad
  | _ => .bad
theorem pd_get2 {o e f : Expr} {apos cpos : Pos} {fo fk fx : FE} (hu : X.A.units + 64 < cLine) (ho : PD X W o fo) (he : PD X W e fk) (hf : PD X W f fx) (m : M2 X o "get" apos e f cpos) :
    PD X W (.Call (.Attribute o "get" apos) [e, f] [] cpos) (fGet2 fo fk fx) := PE.imp (pe_dget2 (by omega) ho he hf m) fun σ H Q q => by
  obtain ⟨β, m, ρ, s, q⟩ := q
  refine td_bind s q fun d m1 v β1 H1 e1 s1 rv q1 => ?_
  split at q1
  · rename_i n
    split at q1
    · rename_i p hp
      cases rv with
      | ref hb =>
        refine ⟨_, rfl, dct_isD s1.me hp hb, ?_⟩
        refine td_bind s1 q1 fun k m2 u β2 H2 e2 s2 rk q2 => ?_
        refine td_bind s2 q2 fun x m3 w β3 H3 e3 s3 rx q3 => ?_
        split at q3
        · rename_i t kvs hd
          split at q3
          · rename_i hk
            obtain ⟨o, g, e⟩ := dct_get s3.me hd (e3.ix (e2.ix hb)) (rk.ext e3) hk
            refine ⟨o, g, ?_⟩
            rcases e with ⟨rfl, e⟩ | ⟨v, e', rfl, e, r⟩
            · rw [e] at q3
              exact q3.here s3.me _ rx
            · rw [e] at q3
              exact q3.here s3.me _ r
          · exact q3.elim
        · exact q3.elim
    · exact q1.elim
  · exact q1.elim
/-! ### the place of an item -/
def idxP (qs : List PyData) (p : PyData) : Option Nat := qs.findIdx? fun z => PyData.eqv z p
theorem idxP_some {qs : List PyData} {p : PyData} {j : Nat} (h : idxP qs p = some j) : ∃ z, qs[j]? = some z ∧ PyData.eqv z p = true ∧ ∀ (i : Nat) (z' : PyData), i < j → qs[i]? = some z' → PyData.eqv z' p = false := by
  unfold idxP at h
  rw [List.findIdx?_eq_some_iff_getElem] at h
  obtain ⟨h1, h2, h3⟩ := h
  refine ⟨qs[j], List.getElem?_eq_getElem h1, h2, fun i z' hi hz => ?_⟩
  have h4 := h3 i hi
  obtain ⟨h5, h6⟩ := List.getElem?_eq_some_iff.mp hz
  rw [← h6]
  simpa using h4
def gIdxL (o d : D) (m : M) : Res D := match pdM DEEP m o, pdM DEEP m d with
  | some (.list qs), some p => if SeqAt.shaped (.list qs) && SeqAt.shaped p then (match idxP qs p with
    | some j => .ok (.int (j : Nat)) m
    | none => .bad) else .bad
  | _, _ => .bad
def gIdxT (o d : D) (m : M) : Res D := match pdM DEEP m o, pdM DEEP m d with
  | some (.tuple qs), some p => if SeqAt.shaped (.list qs) && SeqAt.shaped p then (match idxP qs p with
    | some j => .ok (.int (j : Nat)) m
    | none => .bad) else .bad
  | _, _ => .bad
def fIdxL (fo fa : FE) : FE := fun ρ m => (fo ρ m).bind fun o m1 => match o with
  | .ref n => match m1[n]? with
    | some (.lst _) => (fa ρ m1).bind fun d m2 => gIdxL o d m2
    | _ => .bad
  | _ => .bad
def fIdxT (fo fa : FE) : FE := fun ρ m => (fo ρ m).bind fun o m1 => match o with
  | .fix ds => (fa ρ m1).bind fun d m2 => gIdxT (.fix ds) d m2
  | _ => .bad
/-- t.index(x) of a tuple known to have no dict -/
def rIndexT (K : PySem.W.Frag) : V → List V → Hp → VK → Prop := fun x xs H Q => ∃ (a : Addr) (y : V) (d : PyData) (ds : List PyData) (j : Nat) (z : PyData), x = V.ref a ∧ xs = [y] ∧ Dp K H (V.ref a) (.tuple ds) ∧ Dp K H y d ∧
  SeqAt.shaped (.list ds) = true ∧ SeqAt.shaped d = true ∧ ds[j]? = some z ∧ PyData.eqv z d = true ∧ (∀ (m : Nat) (z' : PyData), m < j → ds[m]? = some z' → PyData.eqv z' d = false) ∧ Q (.int (j : Nat)) H
theorem mt_tup_indexD (hu : X.A.units + 65 < cLine) : MtR X "tuple.index" (rIndexT X.K) := by
  intro pins s σ H x xs v us Q I rx rxs h
  obtain ⟨a, y, d, ds, j, z, rfl, rfl, hl, hy, sl, sd, hz, hzj, hno, q⟩ := h
  cases rx
  cases rxs with
  | cons ry rt =>
    rename_i uy ut
    cases rt
    obtain ⟨bs, r1⟩ := Dp.reads I d y uy hy ry
    have hxs : PyData.canLayAll0 ds = true := SeqAt.canLay_of_shaped sl
    have hroom : X.A.units + 1 + min (PyData.depthAll ds) d.depth < cLine := room_in_shaped sd hu
    cases hl with
    | tup hs ha =>
      obtain ⟨its, rv, ⟨⟨cls, dd, data, sls⟩, ho, hc, n, hdt⟩, hlen⟩ := I.tuple hs
      simp only at hc hdt
      subst hc hdt
      obtain ⟨as, h4⟩ := Dp.readsAll I ds _ its ha rv
      have hn : its.length = ds.length := SeqAt.ReadsAll.length ds its as h4
      have hmap : its.map (SeqAt.readOf s.heap) = ds := SeqAt.readsAll_map ds its as hxs h4
      obtain ⟨hjd, _⟩ := List.getElem?_eq_some_iff.mp hz
      have hjl : j < its.length := by omega
      have hj : j < its.toArray.size := by simpa using hjl
      have at_ : ∀ (m : Nat) (hm : m < its.toArray.size) (z' : PyData), ds[m]? = some z' → SeqAt.readOf s.heap its.toArray[m] = z' := by
        intro m hm z' hz'
        have hml : m < its.length := by simpa using hm
        rw [← hmap, List.getElem?_map, List.getElem?_eq_getElem hml] at hz'
        have e1 : SeqAt.readOf s.heap its[m] = z' := Option.some.inj (show some (SeqAt.readOf s.heap its[m]) = some z' from hz')
        simpa using e1
      refine call_meets PySem.F.slot_tuple_index ⟨_, ho, rfl⟩ PySem.F.entry_tuple_index (PySem.F.args_tuple_index_2 _ _)
        (TI.tuple_indexAt a its.toArray n dd sls uy (fun u => PyData.eqv (SeqAt.readOf s.heap u) d) j hj ?_ ?_) ⟨ho, SeqAt.items_eqAt (vs := its.toArray) (show ReadsAll s.heap its.toArray.toList ds as from h4) r1 hxs (SeqAt.canLay_of_shaped sd) hroom, ?_⟩
      · show PyData.eqv (SeqAt.readOf s.heap its.toArray[j]) d = true
        rw [at_ j hj z hz]
        exact hzj
      · intro m hm hmj
        have hmd : m < ds.length := by
          have : its.toArray.size = its.length := by simp
          omega
        have hz' : ds[m]? = some ds[m] := List.getElem?_eq_getElem hmd
        show PyData.eqv (SeqAt.readOf s.heap its.toArray[m]) d = false
        rw [at_ m hm _ hz']
        exact hno m _ hmj hz'
      · exact ⟨.int (j : Nat), H, I.tok _, ⟨_, rfl⟩, q⟩
def tBMF (r : V → List V → Hp → VK → Prop) (to : TE) (t : TA) : TE := fun σ H Q => to σ H fun x H1 => (∃ p ys, x = .ref p ∧ FixT H1 p ys) ∧ t σ H1 fun xs H2 => r x xs H2 Q
theorem fix_is {pins : List (Addr × Obj)} {σ : L2.St} {H : Hp} {s : Shared} {p : Addr} {ys : List V} (I : Inv X pins σ H s) (h : FixT H p ys) : s.TypeIs (.ref p) "tuple" ∧ ∀ a, Value.ref p = .ref a → ∃ ob, s.heap.get? a = some ob ∧ ob.dict = none := by
  obtain ⟨o, h, hd⟩ := h
  obtain ⟨h1, _, its, _, o2, h2, h3, _⟩ := (show ObjOk X.prog X.w H s.heap p (.frz o (.tup ys)) from I.hok p _ h)
  rw [h1] at h2
  cases h2
  exact ⟨⟨o, h1, h3⟩, fun a e => by cases e; exact ⟨o, h1, hd⟩⟩
theorem pe_bmF {o e : Expr} {es : List Expr} {to : TE} {t : TA} {name : Str} {apos cpos : Pos} {id : String} {r : V → List V → Hp → VK → Prop} (pa : PlainAttrs "tuple") (slot : Slot "tuple" name id) (hty : typeOf (.builtin id) = pure (.type "method_descriptor")) (hm : MtR X id r) (ho : PE X o to) (ha : PA X (e :: es) t)
    (hbase : attributeBase o name X.env (eval o X.env) = eval o X.env := by rfl)
    (hfew : ((backTo cpos (starEach (e :: es) X.env)).all (fun x => !x.1) && (backToKw cpos (keywordEach [] X.env)).all (fun x => x.1.isSome)
      && decide ((e :: es).length + ([] : List Keyword).length + (if ([] : List Keyword).isEmpty then 0 else 1) < 30)) = true := by rfl)
    (hline : (apos.endLine == cpos.line) = true := by rfl) (hs : starEach (e :: es) X.env = (false, eval e X.env) :: starEach es X.env := by rfl) (hplain : (backTo cpos (starEach es X.env)).any (·.1) = false := by rfl) :
    PE X (.Call (.Attribute o name apos) (e :: es) [] cpos) (tBMF r to t) := by
  refine ⟨fun pins s σ H Q I h => ?_⟩
  refine wpAny_Call_method_late hbase hfew hline rfl (thn (ho.run pins s σ H _ I h) fun v s1 ⟨x, H1, I1, r1, ⟨p, ys, ex, hf⟩, q1⟩ => ?_)
  subst ex
  obtain rfl : v = Value.ref p := r1
  obtain ⟨h1, h2⟩ := fix_is I1 hf
  refine ⟨"tuple", id, pa, slot, hty, h1, h2, ?_⟩
  have hA := ha.run cpos pins s1 σ H1 _ I1 q1
  rw [hs] at hA ⊢
  refine Calls.callWith_builtin (by show (false || (backTo cpos (starEach es X.env)).any (·.1)) = false; rw [hplain] <;> rfl) (Calls.evalArgs_plain ?_)
  exact thn hA fun us s2 ⟨vs, H2, I2, r2, q2⟩ => hm pins s2 σ H2 (.ref p) vs _ us Q I2 rfl r2 q2
theorem pd_idxT {o e : Expr} {apos cpos : Pos} {fo fe : FE} (hu : X.A.units + 65 < cLine) (ho : PD X W o fo) (he : PD X W e fe)
    (hbase : attributeBase o "index" X.env (eval o X.env) = eval o X.env := by rfl)
    (hfew : ((backTo cpos (starEach [e] X.env)).all (fun x => !x.1) && (backToKw cpos (keywordEach [] X.env)).all (fun x => x.1.isSome)
      && decide (([e] : List Expr).length + ([] : List Keyword).length + (if ([] : List Keyword).isEmpty then 0 else 1) < 30)) = true := by rfl)
    (hline : (apos.endLine == cpos.line) = true := by rfl) (hs : starEach [e] X.env = (false, eval e X.env) :: starEach [] X.env := by rfl) (hplain : (backTo cpos (starEach [] X.env)).any (·.1) = false := by rfl) :
    PD X W (.Call (.Attribute o "index" apos) [e] [] cpos) (fIdxT fo fe) :=
  PE.imp (pe_bmF PySem.F.plainAttrs_tuple PySem.F.slot_tuple_index PySem.F.type_tuple_index (mt_tup_indexD hu) ho (pa_cons he pa_nil hs) hbase hfew hline hs hplain) fun σ H Q q => by
    obtain ⟨β, m, ρ, s, q⟩ := q
    refine td_bind s q fun d m1 v β1 H1 e1 s1 rv q1 => ?_
    split at q1
    · rename_i ds
      cases rv with
      | fix hx rx =>
        refine ⟨⟨_, _, rfl, hx⟩, ?_⟩
        show tD X.K W fe σ H1 fun y H2 => rIndexT X.K _ [y] H2 Q
        refine td_bind s1 q1 fun k m2 u β2 H2 e2 s2 rk q2 => ?_
        unfold gIdxT at q2
        split at q2
        · rename_i qs p hq hp
          split at q2
          · rename_i hsh
            split at q2
            · rename_i j hj
              obtain ⟨z, z1, z2, z3⟩ := idxP_some hj
              obtain ⟨c1, c2⟩ := Bool.and_eq_true_iff.mp hsh
              exact ⟨_, u, p, qs, j, z, rfl, rfl, dp_pdM s2.me _ ((Rp.fix hx rx).ext e2) hq, dp_pdM s2.me _ rk hp, c1, c2, z1, z2, z3, q2.here s2.me _ (.int _)⟩
            · exact q2.elim
          · exact q2.elim
        · exact q2.elim
    · exact q1.elim
theorem pd_idxL {o e : Expr} {apos cpos : Pos} {fo fe : FE} (hu : X.A.units + 65 < cLine) (ho : PD X W o fo) (he : PD X W e fe)
    (hbase : attributeBase o "index" X.env (eval o X.env) = eval o X.env := by rfl)
    (hfew : ((backTo cpos (starEach [e] X.env)).all (fun x => !x.1) && (backToKw cpos (keywordEach [] X.env)).all (fun x => x.1.isSome)
      && decide (([e] : List Expr).length + ([] : List Keyword).length + (if ([] : List Keyword).isEmpty then 0 else 1) < 30)) = true := by rfl)
    (hline : (apos.endLine == cpos.line) = true := by rfl) (hs : starEach [e] X.env = (false, eval e X.env) :: starEach [] X.env := by rfl) (hplain : (backTo cpos (starEach [] X.env)).any (·.1) = false := by rfl) :
    PD X W (.Call (.Attribute o "index" apos) [e] [] cpos) (fIdxL fo fe) :=
  PE.imp (pe_bm PySem.F.plainAttrs_list PySem.F.slot_list_index PySem.F.type_list_index (mt_indexD hu) ho (pa_cons he pa_nil hs) hbase hfew hline hs hplain) fun σ H Q q => by
    obtain ⟨β, m, ρ, s, q⟩ := q
    refine td_bind s q fun d m1 v β1 H1 e1 s1 rv q1 => ?_
    split at q1
    · rename_i n
      split at q1
      · rename_i ds hn
        cases rv with
        | ref hb =>
          obtain ⟨xs, h1, r1⟩ := s1.me.at' _ _ _ hn hb
          refine ⟨.inl ⟨rfl, _, SqL.of h1⟩, ?_⟩
          show tD X.K W fe σ H1 fun y H2 => rIndexD X.K _ [y] H2 Q
          refine td_bind s1 q1 fun k m2 u β2 H2 e2 s2 rk q2 => ?_
          unfold gIdxL at q2
          split at q2
          · rename_i qs p hq hp
            split at q2
            · rename_i hsh
              split at q2
              · rename_i j hj
                obtain ⟨z, z1, z2, z3⟩ := idxP_some hj
                obtain ⟨c1, c2⟩ := Bool.and_eq_true_iff.mp hsh
                exact ⟨_, u, p, qs, j, z, rfl, rfl, dp_pdM s2.me _ ((Rp.ref hb).ext e2) hq, dp_pdM s2.me _ rk hp, c1, c2, z1, z2, z3, q2.here s2.me _ (.int _)⟩
              · exact q2.elim
            · exact q2.elim
          · exact q2.elim
      · exact q1.elim
    · exact q1.elim
/-! ### tuple([..]), known to have no dict -/
theorem call_tuple_fix : CallR X (.type "tuple") (fun xs H Q => ∃ p ys, xs = [.ref p] ∧ SqL X.K H p ys ∧ ∀ l o, H l = none → o.dict = none → Q (.ref l) (upd H l (.frz o (.tup ys)))) := by
  intro pins s σ H xs us Q I r h
  obtain ⟨p, ys, rfl, hq, q⟩ := h
  obtain ⟨u, rfl, rx⟩ := vals1 r
  cases rx
  obtain ⟨its, r', pl, hz⟩ := I.list hq
  have hlen := r'.length
  refine call_tuple_list pl.isList (fun h' kp => ?_) (by simp only [List.size_toArray] <;> omega)
  have I1 : Inv X pins σ H { s with heap := h' } := I.kept (t' := s.toks) kp
  have hnew : (h'.push { cls := .type "tuple", data := .seq its.toArray }).get? h'.objs.size = some { cls := .type "tuple", data := .seq its.toArray } := Heap.get?_push_size _ rfl
  have I2 : Inv X pins σ (upd H h'.objs.size (.frz { cls := .type "tuple", data := .seq its.toArray } (.tup ys))) { s with heap := h'.push { cls := .type "tuple", data := .seq its.toArray } } :=
    I1.laid (t' := s.toks) (fun b o e => Heap.get?_push_of_some _ e) (Nat.le_refl _) (show ObjOk X.prog X.w _ _ _ (.frz _ (.tup ys)) from ⟨hnew, hz, its, r', IsTup.new _ _⟩)
  exact ⟨.ref h'.objs.size, _, I2, rfl, q _ _ (I1.hok.fresh (Nat.le_refl _)) rfl⟩
def gTupF : List D → M → Res D := fun ds m => .ok (.fix ds) m
theorem cdl_tupleF {K : PySem.W.Frag} : CDL K (fun xs H Q => ∃ p ys, xs = [.ref p] ∧ SqL K H p ys ∧ ∀ l o, H l = none → o.dict = none → Q (.ref l) (upd H l (.frz o (.tup ys)))) gTupF := fun Wx β H m p vs ds Q ok hp rs h =>
  ⟨p, vs, rfl, SqL.of hp, fun l o hl hd => h β _ (Ext.upd_new hl) (ok.upd_new hl) _ (.fix ⟨o, upd_same, hd⟩ (rs.ext (Ext.upd_new hl)))⟩
theorem b_tupleF {p : Pos} {e : Expr} {f : FA} (hg : Gl X "tuple") (hm : X.mg "tuple" = none) (ha : PLD X W e f) (h1 : One e X := by rfl) : PD X W (.Call (.Name "tuple" p) [e] [] pos) (fCB gTupF f) :=
  pd_callTyL call_tuple_fix cdl_tupleF hg hm (by decide +kernel) ha (he := h1)
/-! ### tables of the module: texts to whole numbers -/
def TabOk (K : PySem.W.Frag) (w : World) (d : Addr) (ks : List (Str × Int)) : Prop := (∃ es n, KDict K w d es n) ∧ ∀ p ∈ ks, ∃ u, PySem.W.nsIn K d p.1 = some (some u) ∧ RelV (.int p.2) u
def tabV (ks : List (Str × Int)) (z : Str) : Option Int := (ks.find? fun p => decide (p.1 = z)).map (·.2)
theorem tab_mem {ks : List (Str × Int)} {z : Str} {i : Int} (h : tabV ks z = some i) : (z, i) ∈ ks := by
  unfold tabV at h
  obtain ⟨p, hp, rfl⟩ := Option.map_eq_some_iff.mp h
  have h1 := List.mem_of_find?_eq_some hp
  have h2 := List.find?_some hp
  have : p.1 = z := of_decide_eq_true h2
  rw [← this]
  exact h1
def fTabNI (ks : List (Str × Int)) (f : FE) : FT := fun ρ m => (f ρ m).bind fun d m => match d with
  | .str z => match tabV ks z with
    | some _ => .ok false m
    | none => .bad
  | _ => .bad
def fTabIx (ks : List (Str × Int)) (f : FE) : FE := fun ρ m => (f ρ m).bind fun d m => match d with
  | .str z => match tabV ks z with
    | some i => .ok (.int i) m
    | none => .bad
  | _ => .bad
theorem ptd_tabNI {x : Str} {pn : Pos} {ks : List (Str × Int)} (hg : Gl X x) (hm : ∃ d, X.mg x = some (.ref d) ∧ TabOk X.K X.w d ks) (ha : PD X W a fa) (hd : (x == ("__debug__" : Str)) = false := by decide) (hb : behindInMarks .NotIn (.Name x pn) = false := by with_unfolding_all rfl) :
    PTD X W (.Compare a [.NotIn] [.Name x pn] pos) (fTabNI ks fa) := by
  obtain ⟨d, hm, ⟨es, n, D⟩, hk⟩ := hm
  refine PT.imp (pt_cmpR (op_notIn_kd D) ha (pe_glob (v := .ref d) hg hm rfl hd) hb) fun σ H Q q => ?_
  obtain ⟨β, m, ρ, s, q⟩ := q
  refine td_bind s q fun k m1 v β1 H1 e1 s1 rv q1 => ?_
  split at q1
  · rename_i z
    split at q1
    · rename_i i hi
      obtain ⟨u, h1, _⟩ := hk _ (tab_mem hi)
      cases rv
      exact ⟨z, some u, rfl, rfl, h1, false, rfl, q1.here s1.me⟩
    · exact q1.elim
  · exact q1.elim
theorem pd_tabIx {x : Str} {pn : Pos} {ks : List (Str × Int)} (hg : Gl X x) (hm : ∃ d, X.mg x = some (.ref d) ∧ TabOk X.K X.w d ks) (ha : PD X W a fa) (hd : (x == ("__debug__" : Str)) = false := by decide) (hs : PlainIx a := by exact fun _ _ => rfl) :
    PD X W (.Subscript (.Name x pn) a pos) (fTabIx ks fa) := by
  obtain ⟨d, hm, ⟨es, n, D⟩, hk⟩ := hm
  refine PE.imp (pe_ix ix_kdict (pe_glob (v := .ref d) hg hm rfl hd) ha hs) fun σ H Q q => ?_
  show tD X.K W fa σ H fun y H2 => rIxD X.K X.w (.ref d) y H2 Q
  obtain ⟨β, m, ρ, s, q⟩ := q
  refine td_bind s q fun k m1 v β1 H1 e1 s1 rv q1 => ?_
  split at q1
  · rename_i z
    split at q1
    · rename_i i hi
      obtain ⟨u, h1, h2⟩ := hk _ (tab_mem hi)
      cases rv
      exact ⟨d, z, .int i, rfl, rfl, ⟨es, n, u, D.at_, D.lit, h1, h2⟩, q1.here s1.me _ (.int _)⟩
    · exact q1.elim
  · exact q1.elim
end
/-! ### a dict locked, and walked -/
section
variable {K : PySem.W.Frag} {β β' : List Addr} {H H' : Hp} {a : Addr} {u : HO} {od : Obj}
def IsDc (u : HO) : Prop := (∃ xs, u = .dK xs) ∨ ∃ xs, u = .dT xs
theorem IsDc.mutb (h : IsDc u) : Mutb u := by
  rcases h with ⟨xs, rfl⟩ | ⟨xs, rfl⟩
  · exact mutb_dK
  · exact mutb_dT
theorem IsDc.mut (h : IsDc u) : Mut (some u) := by
  rcases h with ⟨xs, rfl⟩ | ⟨xs, rfl⟩ <;> exact trivial
theorem unl_ne {b : Addr} {o : HO} (hd : IsDc u) (ha : H a = some (.frz od u)) (hb : H b = some o) (h1 : ∀ w, o = .frz od w → IsDc w → False) : b ≠ a := by
  rintro rfl
  rw [ha] at hb
  cases hb
  exact h1 u rfl hd
theorem not_lst {xs : List V} (h : IsDc (.lst xs)) : False := by rcases h with ⟨_, h⟩ | ⟨_, h⟩ <;> cases h
theorem not_tup {xs : List V} (h : IsDc (.tup xs)) : False := by rcases h with ⟨_, h⟩ | ⟨_, h⟩ <;> cases h
mutual
theorem Rp.unl (hd : IsDc u) (ha : H a = some (.frz od u)) : ∀ {v : V} {d : D}, Rp K β H v d → Rp K β (upd H a u) v d
  | _, _, .non => .non
  | _, _, .bl b => .bl b
  | _, _, .int i => .int i
  | _, _, .str x => .str x
  | _, _, .tup h r => .tup (by rw [upd_ne (unl_ne hd ha h fun w e _ => by cases e)]; exact h) (RpA.unl hd ha r)
  | _, _, .rol h r => .rol (by
      rcases h with ⟨o, h⟩ | h
      · exact .inl ⟨o, by rw [upd_ne (unl_ne hd ha h fun w e q => by cases e; exact not_lst q)]; exact h⟩
      · exact .inr h) (RpA.unl hd ha r)
  | _, _, .fix h r => .fix (by
      obtain ⟨o, h, hn⟩ := h
      exact ⟨o, by rw [upd_ne (unl_ne hd ha h fun w e q => by cases e; exact not_tup q)]; exact h, hn⟩) (RpA.unl hd ha r)
  | _, _, .ref h => .ref h
  | _, _, .ty n => .ty n
theorem RpA.unl (hd : IsDc u) (ha : H a = some (.frz od u)) : ∀ {vs : List V} {ds : List D}, RpA K β H vs ds → RpA K β (upd H a u) vs ds
  | _, _, .nil => .nil
  | _, _, .cons h r => .cons (Rp.unl hd ha h) (RpA.unl hd ha r)
end
theorem KvR.unl (hd : IsDc u) (ha : H a = some (.frz od u)) {κ : Type} {f : D → Option κ} {r : List (κ × V)} {s : List (D × D)} (h : KvR K β H f r s) : KvR K β (upd H a u) f r s := by
  induction h with
  | nil => exact .nil
  | cons h1 h2 _ ih => exact .cons h1 (h2.unl hd ha) ih
theorem OOk.unl (hd : IsDc u) (ha : H a = some (.frz od u)) {b : Addr} {o : O} (hb : b ≠ a) (h : OOk K β H b o) : OOk K β (upd H a u) b o := by
  have e : ∀ w, H b = some w → upd H a u b = some w := fun w hw => by rw [upd_ne hb]; exact hw
  cases o with
  | lst ds => obtain ⟨xs, h1, h2⟩ := h; exact ⟨xs, e _ h1, h2.unl hd ha⟩
  | dct t kvs =>
    cases t with
    | false => obtain ⟨xs, h1, h2⟩ := h; exact ⟨xs, e _ h1, h2.unl hd ha⟩
    | true => obtain ⟨xs, h1, h2⟩ := h; exact ⟨xs, e _ h1, h2.unl hd ha⟩
  | fz t kvs =>
    cases t with
    | false => obtain ⟨o, xs, h1, h2⟩ := h; exact ⟨o, xs, e _ h1, h2.unl hd ha⟩
    | true => obtain ⟨o, xs, h1, h2⟩ := h; exact ⟨o, xs, e _ h1, h2.unl hd ha⟩
theorem RpS.unl (hd : IsDc u) (ha : H a = some (.frz od u)) {σ : Sg} {ρ : Sl} (r : RpS K β H σ ρ) : RpS K β (upd H a u) σ ρ :=
  ⟨r.len, fun i d h => let ⟨v, h1, h2⟩ := r.at' i d h; ⟨v, h1, h2.unl hd ha⟩⟩
/-- what is behind, the dict unlocked -/
theorem Ext.unl (hd : IsDc u) (h0 : H a = some u) (hb : a ∈ β) (e : Ext β β' (upd H a (.frz od u)) H') : Ext β β' H (upd H' a u) := by
  refine ⟨e.pre, fun b xs h => ?_, fun b o w h => ?_, fun b o h hn => ?_, fun b h hn => ?_⟩
  · have hne : b ≠ a := by
      rintro rfl
      rw [h0] at h
      rcases hd with ⟨ys, h2⟩ | ⟨ys, h2⟩ <;> (rw [h2] at h; cases h)
    rw [upd_ne hne]
    exact e.tup b xs (by rw [upd_ne hne]; exact h)
  · have hne : b ≠ a := by
      rintro rfl
      rw [h0] at h
      rcases hd with ⟨ys, h2⟩ | ⟨ys, h2⟩ <;> (rw [h2] at h; cases h)
    rw [upd_ne hne]
    exact e.frz b o w (by rw [upd_ne hne]; exact h)
  · have hne : b ≠ a := fun q => hn (by rw [q]; exact hb)
    rw [upd_ne hne]
    exact e.keep b o (by rw [upd_ne hne]; exact h) hn
  · have hne : b ≠ a := fun q => hn (by rw [q]; exact hb)
    have := e.new b h hn
    rw [upd_ne hne] at this
    exact this
theorem MOk.unl {m : M} {n : Nat} {o : O} (hd : IsDc u) (ha : H a = some (.frz od u)) (ok : MOk K β H m) (hb : β[n]? = some a) (ho : OOk K β (upd H a u) a o) : MOk K β (upd H a u) (m.set n o) := by
  refine ⟨by rw [List.length_set]; exact ok.len, ok.nd, fun k o' b h1 h2 => ?_⟩
  by_cases hk : n = k
  · subst hk
    rw [hb] at h2
    cases h2
    have hl : n < m.length := by rw [← ok.len]; exact (List.getElem?_eq_some_iff.mp hb).1
    rw [List.getElem?_set_self hl] at h1
    cases h1
    exact ho
  · rw [List.getElem?_set_ne hk] at h1
    refine (ok.at' k o' b h1 h2).unl hd ha fun q => hk ?_
    subst q
    obtain ⟨l1, e1⟩ := List.getElem?_eq_some_iff.mp hb
    obtain ⟨l2, e2⟩ := List.getElem?_eq_some_iff.mp h2
    exact (List.getElem_inj ok.nd).mp (e1.trans e2.symm)
end
def unlk (n : Nat) (o : O) : Out → Out
  | .nx ρ m => .nx ρ (m.set n o)
  | .rt d m => .rt d (m.set n o)
  | .bk ρ m => .bk ρ (m.set n o)
  | .ct ρ m => .ct ρ (m.set n o)
  | _ => .bad
/-- a statement, while the dict in slot i is locked -/
def sLock (i : Nat) (g : FS) : FS := fun ρ m => match ρ[i]? with
  | some (some (.ref n)) => match m[n]? with
    | some (.dct t kvs) => unlk n (.dct t kvs) (g ρ (m.set n (.fz t kvs)))
    | _ => .bad
  | _ => .bad
theorem psd_lock {X : Cx} {W : WXD} {st : Stmt} {g : FS} (i : Nat) (h : PSD X W st g) : PSD X W st (sLock i g) := PS.imp (ps_lock h) fun E σ H q => by
  obtain ⟨β, m, ρ, s, q⟩ := q
  unfold sLock at q
  split at q
  · rename_i n hi
    split at q
    · rename_i t kvs hn
      obtain ⟨v, hv, rv⟩ := s.sl.at' i _ hi
      cases rv with
      | ref hb =>
        rename_i a
        have hok := s.me.at' n _ a hn hb
        have ha : a ∈ β := List.mem_of_getElem? hb
        have go : ∀ u : HO, IsDc u → H a = some u → (∀ (β' : List Addr) (H' : Hp), Ext0 β β' H H' → H' a = some u → OOk X.K β' H' a (.dct t kvs)) → (∀ od, OOk X.K β (upd H a (.frz od u)) a (.fz t kvs)) → tLock (tSD X.K W g) E σ H := by
          intro u hd h0 hdct hfz
          refine ⟨a, u, h0, hd.mut, fun od => ?_⟩
          have e1 : Ext β β H (upd H a (.frz od u)) := Ext.writeO h0 hd.mutb hb
          have ok1 : MOk X.K β (upd H a (.frz od u)) (m.set n (.fz t kvs)) := s.me.writeO h0 hd.mutb hb (hfz od)
          refine ⟨β, m.set n (.fz t kvs), ρ, s.ext e1 ok1, ?_⟩
          have hH1 : (upd H a (.frz od u)) a = some (.frz od u) := upd_same
          have back : ∀ (β' : List Addr) (H' : Hp) (m' : M), Ext β β' (upd H a (.frz od u)) H' → MOk X.K β' H' m' → H' a = some (.frz od u) ∧ Ext β β' H (upd H' a u) ∧ MOk X.K β' (upd H' a u) (m'.set n (.dct t kvs)) := by
            intro β' H' m' e ok'
            have h1 := e.frz a od u hH1
            have e2 := Ext.unl hd h0 ha e
            exact ⟨h1, e2, MOk.unl hd h1 ok' (e.ix hb) (hdct β' _ e2.weak upd_same)⟩
          cases hg : g ρ (m.set n (.fz t kvs)) with
          | nx ρ' m' =>
            rw [hg] at q
            intro β' H' σ' e st'
            obtain ⟨h1, e2, ok2⟩ := back β' H' m' e st'.me
            exact ⟨h1, q β' _ σ' e2 ⟨st'.sl.unl hd h1, ok2⟩⟩
          | rt d m' =>
            rw [hg] at q
            intro β' H' v e ok' rv
            obtain ⟨h1, e2, ok2⟩ := back β' H' m' e ok'
            exact ⟨h1, q β' _ v e2 ok2 (rv.unl hd h1)⟩
          | bk ρ' m' =>
            rw [hg] at q
            intro β' H' σ' e st'
            obtain ⟨h1, e2, ok2⟩ := back β' H' m' e st'.me
            exact ⟨h1, q β' _ σ' e2 ⟨st'.sl.unl hd h1, ok2⟩⟩
          | ct ρ' m' =>
            rw [hg] at q
            intro β' H' σ' e st'
            obtain ⟨h1, e2, ok2⟩ := back β' H' m' e st'.me
            exact ⟨h1, q β' _ σ' e2 ⟨st'.sl.unl hd h1, ok2⟩⟩
          | exc ρ' x m' => rw [hg] at q; exact q.elim
          | bad => rw [hg] at q; exact q.elim
        cases t with
        | false =>
          obtain ⟨xs, h0, r0⟩ := hok
          exact go (.dK xs) (.inl ⟨xs, rfl⟩) h0 (fun β' H' e h => ⟨xs, h, r0.mono e⟩) fun od => ⟨od, xs, upd_same, r0.mono (Ext.writeO h0 mutb_dK hb).weak⟩
        | true =>
          obtain ⟨xs, h0, r0⟩ := hok
          exact go (.dT xs) (.inr ⟨xs, rfl⟩) h0 (fun β' H' e h => ⟨xs, h, r0.mono e⟩) fun od => ⟨od, xs, upd_same, r0.mono (Ext.writeO h0 mutb_dT hb).weak⟩
    · exact q.elim
  · exact q.elim
theorem KvR.at {K : PySem.W.Frag} {β : List Addr} {H : Hp} {κ : Type} {f : D → Option κ} : ∀ {r : List (κ × V)} {s : List (D × D)}, KvR K β H f r s → ∀ {i : Nat} {d : D}, (s.map (·.1))[i]? = some d → ∃ k v, r[i]? = some (k, v) ∧ f d = some k
  | _, _, .nil, i, d, h => by simp at h
  | _, _, .cons h1 h2 t, 0, d, h => by simp at h; subst h; exact ⟨_, _, rfl, h1⟩
  | _, _, .cons h1 h2 t, i + 1, d, h => by
    obtain ⟨k, v, h3, h4⟩ := KvR.at t (i := i) (d := d) (by simpa using h)
    exact ⟨k, v, by simpa using h3, h4⟩
theorem KvR.len {K : PySem.W.Frag} {β : List Addr} {H : Hp} {κ : Type} {f : D → Option κ} {r : List (κ × V)} {s : List (D × D)} (h : KvR K β H f r s) : r.length = s.length := by
  induction h with
  | nil => rfl
  | cons _ _ _ ih => rw [List.length_cons, List.length_cons, ih]
theorem rp_key {K : PySem.W.Frag} {β : List Addr} {H : Hp} {d : D} {k : Key} (h : keyD d = some k) : Rp K β H (kV k) d := by
  cases d <;> simp only [keyD] at h <;> first | (cases h; done) | skip
  · cases h; exact .int _
  · cases h; exact .str _
/-- the keys of a locked dict -/
def fWalkK (f : FE) : FI := fun ρ m => (f ρ m).bind fun d m => match d with
  | .ref n => match m[n]? with
    | some (.fz false kvs) => .ok (srcT (kvs.map (·.1))) m
    | _ => .bad
  | _ => .bad
theorem pid_keys {X : Cx} {W : WXD} {tg e : Expr} {f : FE} (he : PD X W e f) : PID X W tg e (fWalkK f) := PI.imp (pi_keys he) fun σ H R q => by
  obtain ⟨β, m, ρ, s, q⟩ := q
  refine td_bind s q fun d m1 v β1 H1 e1 s1 rv q1 => ?_
  split at q1
  · rename_i n
    split at q1
    · rename_i kvs hn
      cases rv with
      | ref hb =>
        rename_i a
        obtain ⟨o, xs, h1, r1⟩ := s1.me.at' _ _ _ hn hb
        refine ⟨a, o, rfl, .inl ⟨xs, h1, ?_⟩⟩
        refine q1.here s1.me (Itk a o xs) fun β' H' m' e ok => ⟨fun i d hi hd => ?_, fun _ => ⟨e.frz _ _ _ h1, ?_⟩⟩
        · obtain ⟨k, v, h3, h4⟩ := r1.at (show (kvs.map (·.1))[i]? = some d from hd)
          refine ⟨⟨e.frz _ _ _ h1, (List.getElem?_eq_some_iff.mp h3).1⟩, fun x H2 y => ?_⟩
          obtain ⟨rfl, k', v', h5, rfl⟩ := y
          rw [h3] at h5
          cases h5
          exact ⟨Ext.refl, ok, rp_key h4⟩
        · show xs.length ≤ (kvs.map (·.1)).length
          rw [List.length_map, r1.len]
          exact Nat.le_refl _
    · exact q1.elim
  · exact q1.elim
def sPar3 (i j l : Nat) (f : FA) : FS := fun ρ m => (f ρ m).out ρ fun ds m' => match ds with
  | [d, e, g] => .nx (((ρ.set i (some d)).set j (some e)).set l (some g)) m'
  | _ => .bad
theorem RpA.three {K : PySem.W.Frag} {β : List Addr} {H : Hp} {xs : List V} {d e f : D} (r : RpA K β H xs [d, e, f]) : ∃ v w u, xs = [v, w, u] ∧ Rp K β H v d ∧ Rp K β H w e ∧ Rp K β H u f := by
  cases r with
  | cons h t =>
    obtain ⟨w, u, rfl, h2, h3⟩ := t.two
    exact ⟨_, w, u, rfl, h, h2, h3⟩
theorem psd_par3 {X : Cx} {W : WXD} {i j l : Nat} {x y z : Str} {a b c : Expr} {fa : FA} {px py pz pt pos : Pos} {kt k2 pt2} (hc : X.calm = true) (hN : X.N.Nodup) (hi : X.N[i]? = some x) (hj : X.N[j]? = some y) (hl : X.N[l]? = some z) (hij : i ≠ j) (hil : i ≠ l) (hjl : j ≠ l)
    (hx : X.env.scope.names.lookup x = some .local) (hy : X.env.scope.names.lookup y = some .local) (hz : X.env.scope.names.lookup z = some .local) (ha : PAD X W [a, b, c] fa)
    (hw : swappedStores [.Tuple [.Name x px, .Name y py, .Name z pz] kt pt] (.Tuple [a, b, c] k2 pt2) X.env = pure (some [x, y, z]) := by rfl)
    (hs : swapsWithSole [.Tuple [.Name x px, .Name y py, .Name z pz] kt pt] (.Tuple [a, b, c] k2 pt2) pos.line X.env = pure false := by rfl) :
    PSD X W (.Assign [.Tuple [.Name x px, .Name y py, .Name z pz] kt pt] (.Tuple [a, b, c] k2 pt2) pos) (sPar3 i j l fa) := PS.imp (ps_par3 hc hN hi hj hl hij hil hjl hx hy hz ha hw hs) fun E σ H q => by
  obtain ⟨β, m, ρ, s, q⟩ := q
  refine tsa_bind s q fun ds m1 vs β1 H1 e1 s1 rs q1 => ?_
  split at q1
  · obtain ⟨v, w, u, rfl, r1, r2, r3⟩ := rs.three
    exact ⟨v, w, u, rfl, q1 β1 H1 _ Ext.refl ⟨((s1.sl.set r1).set r2).set r3, s1.me⟩⟩
  · exact q1.elim
theorem room_units65 {k : Nat} {A : Around} (r : Room k A) : A.units + 65 < cLine := by
  have := r.un
  omega
end Dl

/-! PL1: evaluation, plain. -/
namespace Dl
open PySem PyProof.Rows L2

/-! ### unfolding -/
@[simp] theorem e_var (i : Nat) (ρ : Sl) (m : M) : fVar i ρ m = match ρ[i]? with
  | some (some d) => .ok d m
  | _ => .bad := nrfl rfl
@[simp] theorem e_c (d : D) (ρ : Sl) (m : M) : fC d ρ m = .ok d m := nrfl rfl
@[simp] theorem e_op (g : D → D → M → Res D) (a b : FE) (ρ : Sl) (m : M) : fOp g a b ρ m = (a ρ m).bind fun x m1 => (b ρ m1).bind fun y m2 => g x y m2 := nrfl rfl
@[simp] theorem e_test (f : FE) (ρ : Sl) (m : M) : fTest f ρ m = asB (f ρ m) := nrfl rfl
@[simp] theorem e_asB (b : Bool) (m : M) : asB (.ok (.bl b) m) = .ok b m := nrfl rfl
@[simp] theorem e_nil (ρ : Sl) (m : M) : fNil ρ m = .ok [] m := nrfl rfl
@[simp] theorem e_cons (f : FE) (g : FA) (ρ : Sl) (m : M) : fCons f g ρ m = (f ρ m).bind fun d m => (g ρ m).bind fun ds m => .ok (d :: ds) m := nrfl rfl
@[simp] theorem e_tup (f : FA) (ρ : Sl) (m : M) : fTup f ρ m = (f ρ m).bind fun ds m => if ds.length ≤ LIM then .ok (.tup ds) m else .bad := nrfl rfl
@[simp] theorem e_lst (f : FA) (ρ : Sl) (m : M) : fLst f ρ m = (f ρ m).bind fun ds m => if ds.length ≤ LIM then .ok ds m else .bad := nrfl rfl
@[simp] theorem e_name (f : FA) (ρ : Sl) (m : M) : fName f ρ m = (f ρ m).bind fun ds m => .ok (.ref m.length) (m ++ [.lst ds]) := nrfl rfl
@[simp] theorem e_cb (g : List D → M → Res D) (f : FA) (ρ : Sl) (m : M) : fCB g f ρ m = (f ρ m).bind g := nrfl rfl
@[simp] theorem e_call (F : List D → M → Res D) (f : FA) (ρ : Sl) (m : M) : fCall F f ρ m = gcR m.length ((f ρ m).bind F) := nrfl rfl
@[simp] theorem e_gc (f : FE) (ρ : Sl) (m : M) : fGc f ρ m = gcR m.length (f ρ m) := nrfl rfl
@[simp] theorem e_gcB (f : FT) (ρ : Sl) (m : M) : fGcB f ρ m = gcB m.length (f ρ m) := nrfl rfl
@[simp] theorem e_yes (ρ : Sl) (m : M) : fYes ρ m = .ok true m := nrfl rfl
@[simp] theorem e_andT (t u : FT) (ρ : Sl) (m : M) : fAndT t u ρ m = (t ρ m).bind fun b m => if b then u ρ m else .ok false m := nrfl rfl
@[simp] theorem e_orT (t u : FT) (ρ : Sl) (m : M) : fOrT t u ρ m = (t ρ m).bind fun b m => if b then .ok true m else u ρ m := nrfl rfl
@[simp] theorem e_notT (t : FT) (ρ : Sl) (m : M) : fNotT t ρ m = (t ρ m).bind fun b m => .ok (!b) m := nrfl rfl
@[simp] theorem e_if (t : FT) (f g : FE) (ρ : Sl) (m : M) : fIf t f g ρ m = (t ρ m).bind fun b m => if b then f ρ m else g ρ m := nrfl rfl
def andK (d : D) (m : M) (r : Res D) : Res D := match d with
  | .bl true => r
  | .bl false => .ok (.bl false) m
  | _ => .bad
def orK (d : D) (m : M) (r : Res D) : Res D := match d with
  | .bl true => .ok (.bl true) m
  | .bl false => r
  | _ => .bad
@[simp] theorem e_andV (f g : FE) (ρ : Sl) (m : M) : fAndV f g ρ m = (f ρ m).bind fun d m => andK d m (g ρ m) := nrfl rfl
@[simp] theorem e_orV (f g : FE) (ρ : Sl) (m : M) : fOrV f g ρ m = (f ρ m).bind fun d m => orK d m (g ρ m) := nrfl rfl
@[simp] theorem e_andK (b : Bool) (m : M) (r : Res D) : andK (.bl b) m r = if b then r else .ok (.bl false) m := by cases b <;> rfl
@[simp] theorem e_orK (b : Bool) (m : M) (r : Res D) : orK (.bl b) m r = if b then .ok (.bl true) m else r := by cases b <;> rfl
def notK (d : D) (m : M) : Res D := match d with
  | .bl b => .ok (.bl (!b)) m
  | _ => .bad
@[simp] theorem e_notV (f : FE) (ρ : Sl) (m : M) : fNotV f ρ m = (f ρ m).bind notK := nrfl rfl
@[simp] theorem e_notK (b : Bool) (m : M) : notK (.bl b) m = .ok (.bl (!b)) m := nrfl rfl
@[simp] theorem e_chain (g g' : D → D → M → Res D) (a b c : FE) (ρ : Sl) (m : M) : fChain g g' a b c ρ m = (a ρ m).bind fun x m => (b ρ m).bind fun y m => (g x y m).bind fun d m => andK d m ((c ρ m).bind fun z m => g' y z m) := nrfl rfl
@[simp] theorem e_cut (f : FE) (l h : FO) (ρ : Sl) (m : M) : fCut f l h ρ m = (f ρ m).bind fun a m => (l ρ m).bind fun lo m => (h ρ m).bind fun hi m => gCut lo hi a m := nrfl rfl
@[simp] theorem e_noPart (ρ : Sl) (m : M) : fNoPart ρ m = .ok none m := nrfl rfl
@[simp] theorem e_part (f : FE) (ρ : Sl) (m : M) : fPart f ρ m = (f ρ m).bind fun d m => match d with
  | .int i => .ok (some i) m
  | _ => .bad := nrfl rfl
@[simp] theorem e_gcut (lo hi : Option Int) (xs : List D) (m : M) : gCut lo hi (.tup xs) m = .ok (.tup (cutD xs lo hi)) m := nrfl rfl
@[simp] theorem e_add (i j : Int) (m : M) : gAdd (.int i) (.int j) m = .ok (.int (i + j)) m := nrfl rfl
@[simp] theorem e_addT (xs ys : List D) (m : M) : gAdd (.tup xs) (.tup ys) m = if xs.length + ys.length ≤ LIM then .ok (.tup (xs ++ ys)) m else .bad := nrfl rfl
@[simp] theorem e_sub (i j : Int) (m : M) : gSub (.int i) (.int j) m = .ok (.int (i - j)) m := nrfl rfl
@[simp] theorem e_mul (i j : Int) (m : M) : gMul (.int i) (.int j) m = if cMul i j then .ok (.int (i * j)) m else .bad := nrfl rfl
@[simp] theorem e_mulI (i j : Int) (m : M) : gMulI (.int i) (.int j) m = if cMul i j then .ok (.int (i * j)) m else .bad := nrfl rfl
@[simp] theorem e_fdiv (i j : Int) (m : M) : gFdiv (.int i) (.int j) m = if cDiv i j then .ok (.int (i / j)) m else .bad := nrfl rfl
@[simp] theorem e_mod (i j : Int) (m : M) : gMod (.int i) (.int j) m = if cMod i j then .ok (.int (i % j)) m else .bad := nrfl rfl
@[simp] theorem e_lt (i j : Int) (m : M) : gLt (.int i) (.int j) m = .ok (.bl (decide (i < j))) m := nrfl rfl
@[simp] theorem e_le (i j : Int) (m : M) : gLe (.int i) (.int j) m = .ok (.bl (decide (i ≤ j))) m := nrfl rfl
@[simp] theorem e_gt (i j : Int) (m : M) : gGt (.int i) (.int j) m = .ok (.bl (decide (j < i))) m := nrfl rfl
@[simp] theorem e_ge (i j : Int) (m : M) : gGe (.int i) (.int j) m = .ok (.bl (decide (j ≤ i))) m := nrfl rfl
@[simp] theorem e_len (d : D) (m : M) : gLen [d] m = match itemsD m d with
    | some xs => .ok (.int xs.length) m
    | none => match d with
      | .str z => if z.length ≤ LIM then .ok (.int z.length) m else .bad
      | _ => .bad := nrfl rfl
@[simp] theorem e_lenL (ds : List D) (m : M) : gLenL ds m = .ok (.int ds.length) m := nrfl rfl
@[simp] theorem e_tuple (d : D) (m : M) : gTuple [d] m = match itemsD m d with
    | some xs => .ok (tupOf xs d) m
    | none => .bad := nrfl rfl
@[simp] theorem e_tupleL (ds : List D) (m : M) : gTupleL ds m = .ok (.tup ds) m := nrfl rfl
@[simp] theorem e_list (d : D) (m : M) : gList [d] m = match itemsD m d with
    | some xs => .ok (.ref m.length) (m ++ [.lst xs])
    | none => .bad := nrfl rfl
@[simp] theorem e_itT (m : M) (ds : List D) : itemsD m (.tup ds) = some ds := nrfl rfl
@[simp] theorem e_itR (m : M) (ds : List D) : itemsD m (.rol ds) = some ds := nrfl rfl
@[simp] theorem e_itF (m : M) (ds : List D) : itemsD m (.fix ds) = some ds := nrfl rfl
@[simp] theorem tupOf_t (xs ds : List D) : tupOf xs (.tup ds) = .tup xs := nrfl rfl
@[simp] theorem tupOf_r (xs ds : List D) : tupOf xs (.rol ds) = .tup xs := nrfl rfl
@[simp] theorem tupOf_l (xs : List D) (n : Nat) : tupOf xs (.ref n) = .tup xs := nrfl rfl
@[simp] theorem tupOf_f (xs ds : List D) : tupOf xs (.fix ds) = .fix ds := nrfl rfl
@[simp] theorem e_itL (m : M) (n : Nat) : itemsD m (.ref n) = match m[n]? with
    | some (.lst ds) => some ds
    | _ => none := nrfl rfl
@[simp] theorem e_abs (i : Int) (m : M) : gAbs [.int i] m = .ok (.int (if i < 0 then -i else i)) m := nrfl rfl
@[simp] theorem e_int (i : Int) (m : M) : gInt [.int i] m = .ok (.int i) m := nrfl rfl
@[simp] theorem e_min2 (i j : Int) (m : M) : gMin2 [.int i, .int j] m = .ok (.int (if j < i then j else i)) m := nrfl rfl
theorem kit_int_int : kitB "int" "int" = some true := by decide +kernel
theorem kit_int_bool : kitB "int" "bool" = some false := by decide +kernel
theorem isi_list : isi2 "list" "list" "tuple" = some true := by decide +kernel
theorem isi_tuple : isi2 "tuple" "list" "tuple" = some true := by decide +kernel
theorem isi_int : isi2 "int" "list" "tuple" = some false := by decide +kernel
@[simp] theorem e_isi (T : String) (f : FE) (ρ : Sl) (m : M) : fIsi T f ρ m = (f ρ m).bind fun d m => match tyD m d with
  | some t => match kitB t T with
    | some b => .ok (.bl b) m
    | none => .bad
  | none => .bad := nrfl rfl
@[simp] theorem e_isi2 (T U : String) (f : FE) (ρ : Sl) (m : M) : fIsi2 T U f ρ m = (f ρ m).bind fun d m => match tyD m d with
  | some t => match isi2 t T U with
    | some b => .ok (.bl b) m
    | none => .bad
  | none => .bad := nrfl rfl

/-! ### statements -/
@[simp] theorem s_next (ρ : Sl) (m : M) : sNext ρ m = .nx ρ m := nrfl rfl
def seqK (o : Out) (h : FS) : Out := match o with
  | .nx ρ' m' => h ρ' m'
  | o => o
@[simp] theorem s_seq (g h : FS) (ρ : Sl) (m : M) : sSeq g h ρ m = seqK (g ρ m) h := by unfold sSeq seqK; cases g ρ m <;> rfl
@[simp] theorem seqK_nx (ρ : Sl) (m : M) (h : FS) : seqK (.nx ρ m) h = h ρ m := nrfl rfl
@[simp] theorem seqK_rt (d : D) (m : M) (h : FS) : seqK (.rt d m) h = .rt d m := nrfl rfl
@[simp] theorem s_drop (f : FE) (ρ : Sl) (m : M) : sDrop f ρ m = (f ρ m).out ρ fun _ m' => .nx ρ m' := nrfl rfl
@[simp] theorem s_ret (f : FE) (ρ : Sl) (m : M) : sRet f ρ m = (f ρ m).out ρ fun d m' => .rt d m' := nrfl rfl
@[simp] theorem s_if (t : FT) (g h : FS) (ρ : Sl) (m : M) : sIf t g h ρ m = (t ρ m).out ρ fun b m' => if b then g ρ m' else h ρ m' := nrfl rfl
@[simp] theorem s_set (i : Nat) (f : FE) (ρ : Sl) (m : M) : sSet i f ρ m = (f ρ m).out ρ fun d m' => .nx (ρ.set i (some d)) m' := nrfl rfl
@[simp] theorem s_setL (i : Nat) (f : FA) (ρ : Sl) (m : M) : sSetL i f ρ m = (f ρ m).out ρ fun ds m' => .nx (ρ.set i (some (.ref m'.length))) (m' ++ [.lst ds]) := by
  show (fName f ρ m).out ρ _ = _
  simp only [e_name]
  cases f ρ m <;> rfl
def asgK (o : Option Sl) (m : M) : Out := match o with
  | some ρ' => .nx ρ' m
  | none => .bad
@[simp] theorem asgK_some (ρ : Sl) (m : M) : asgK (some ρ) m = .nx ρ m := nrfl rfl
@[simp] theorem s_asg (f : FE) (g : GT) (ρ : Sl) (m : M) : sAsg f g ρ m = (f ρ m).out ρ fun d m' => asgK (g d ρ) m' := nrfl rfl
@[simp] theorem s_par (i j : Nat) (f : FA) (ρ : Sl) (m : M) : sPar i j f ρ m = (f ρ m).out ρ fun ds m' => match ds with
  | [d, e] => .nx ((ρ.set i (some d)).set j (some e)) m'
  | _ => .bad := nrfl rfl
@[simp] theorem s_for (fi : FI) (gt : GT) (body : FS) (ρ : Sl) (m : M) : sFor fi gt body ρ m = (fi ρ m).out ρ fun src m' => forL src gt body src.n 0 ρ m' := nrfl rfl
@[simp] theorem t_n (i : Nat) (d : D) (ρ : Sl) : gN i d ρ = some (ρ.set i (some d)) := nrfl rfl
@[simp] theorem t_nil (ρ : Sl) : gNil' [] ρ = some ρ := nrfl rfl
@[simp] theorem t_cons (g : GT) (gs : GTs) (d : D) (ds : List D) (ρ : Sl) : gCons' g gs (d :: ds) ρ = (g d ρ).bind (gs ds) := nrfl rfl
@[simp] theorem t_t (n : Nat) (gs : GTs) (ds : List D) (ρ : Sl) : gT n gs (.tup ds) ρ = if ds.length = n then gs ds ρ else none := nrfl rfl
@[simp] theorem r_nx (ρ : Sl) (m : M) : resOf (.nx ρ m) = .ok .non m := nrfl rfl
@[simp] theorem r_rt (d : D) (m : M) : resOf (.rt d m) = .ok d m := nrfl rfl

/-! ### what goes -/
theorem gc_same (d : D) (m : M) : gc m.length d m = (d, m) := by
  have ht : m.take m.length = m := List.take_length
  have hn : ∀ n : Nat, ¬ n < m.length → m[n]? = none := fun n h => List.getElem?_eq_none (by omega)
  unfold gc
  split
  · split
    · rw [ht]
    · split
      · rename_i n hd
        have hn0 : ¬ n < m.length := by simpa [D.blw] using hd
        rw [hn n hn0]
      · rfl
  · rfl
@[simp] theorem gcR_same (d : D) (m : M) : gcR m.length (.ok d m) = .ok d m := by
  show Res.ok (gc m.length d m).1 (gc m.length d m).2 = _
  rw [gc_same]
@[simp] theorem gcR_same' {L : Nat} {m : M} (d : D) (h : L = m.length) : gcR L (.ok d m) = .ok d m := by
  subst h
  exact gcR_same d m
/-- every list's items name lists that stand -/
def Wf (m : M) : Prop := lowM m.length m = true
theorem wf_iff {m : M} : Wf m ↔ ∀ o ∈ m, O.blw m.length o = true := by
  unfold Wf lowM
  rw [List.take_length, List.all_eq_true]
theorem lowM_app {m j : M} (h : Wf m) : lowM m.length (m ++ j) = true := by
  unfold lowM
  rw [List.take_append_of_le_length (Nat.le_refl _)]
  exact h
theorem gc_junk {m j : M} {d : D} (h : Wf m) (hd : d.blw m.length = true) : gc m.length d (m ++ j) = (d, m) := by
  unfold gc
  rw [if_pos (lowM_app h), if_pos hd, List.take_append_of_le_length (Nat.le_refl _), List.take_length]
theorem gcR_junk {L : Nat} {m j : M} {d : D} (hl : L = m.length) (h : Wf m) (hd : d.blw m.length = true) : gcR L (.ok d (m ++ j)) = .ok d m := by
  subst hl
  show Res.ok (gc _ d (m ++ j)).1 (gc _ d (m ++ j)).2 = _
  rw [gc_junk h hd]
theorem gcB_junk {L : Nat} {m j : M} {b : Bool} (hl : L = m.length) (h : Wf m) : gcB L (.ok b (m ++ j)) = .ok b m := by
  subst hl
  show Res.ok b (gc _ .non (m ++ j)).2 = _
  rw [gc_junk h rfl]
@[simp] theorem gcB_same (b : Bool) (m : M) : gcB m.length (.ok b m) = .ok b m := by
  show Res.ok b (gc m.length .non m).2 = _
  rw [gc_same]
/-- a new list that is told -/
theorem gcR_new {L : Nat} {m j : M} {n : Nat} {o : O} (hl : L = m.length) (h : Wf m) (hn : m.length ≤ n) (ho : (m ++ j)[n]? = some o) (hb : o.blw m.length = true) : gcR L (.ok (.ref n) (m ++ j)) = .ok (.ref m.length) (m ++ [o]) := by
  subst hl
  show Res.ok (gc _ (.ref n) (m ++ j)).1 (gc _ (.ref n) (m ++ j)).2 = _
  have e : gc m.length (.ref n) (m ++ j) = (.ref m.length, m ++ [o]) := by
    unfold gc
    rw [if_pos (lowM_app h), if_neg (by simp only [D.blw, decide_eq_true_eq]; omega)]
    simp only [ho, hb, if_true]
    rw [List.take_append_of_le_length (Nat.le_refl _), List.take_length]
  rw [e]
theorem runF_rt {N np : Nat} {g : FS} {ds : List D} {m : M} {d : D} (hl : ds.length = np) (h : g (startD N ds) m = .rt d m) : runF N np g ds m = .ok d m := by
  unfold runF
  rw [if_pos hl, h]
  exact gcR_same d m
theorem runF_rtJ {N np : Nat} {g : FS} {ds : List D} {m m' j : M} {d : D} (hl : ds.length = np) (h : g (startD N ds) m = .rt d (m' ++ j)) (hm : m.length = m'.length) (hw : Wf m') (hd : d.blw m'.length = true) : runF N np g ds m = .ok d m' := by
  unfold runF
  rw [if_pos hl, h]
  exact gcR_junk hm hw hd
theorem runF_rtS {N np : Nat} {g : FS} {ds : List D} {m m' : M} {d : D} (hl : ds.length = np) (h : g (startD N ds) m = .rt d m') (hm : m.length = m'.length) : runF N np g ds m = .ok d m' := by
  unfold runF
  rw [if_pos hl, h]
  show gcR m.length (.ok d m') = _
  rw [hm]
  exact gcR_same d m'
theorem Wf.set {m : M} {n : Nat} {o : O} (h : Wf m) (ho : o.blw m.length = true) : Wf (m.set n o) := by
  rw [wf_iff] at h ⊢
  intro x hx
  rw [List.length_set]
  rcases List.mem_or_eq_of_mem_set hx with hx | rfl
  · exact h x hx
  · exact ho
mutual
theorem blw_mono {L L' : Nat} (h : L ≤ L') : ∀ {d : D}, d.blw L = true → d.blw L' = true
  | .non, _ => rfl
  | .bl _, _ => rfl
  | .int _, _ => rfl
  | .str _, _ => rfl
  | .tup ds, hd => by simp only [D.blw] at hd ⊢; exact blws_mono h hd
  | .rol ds, hd => by simp only [D.blw] at hd ⊢; exact blws_mono h hd
  | .fix ds, hd => by simp only [D.blw] at hd ⊢; exact blws_mono h hd
  | .ref n, hd => by simp only [D.blw, decide_eq_true_eq] at hd ⊢; omega
  | .ty _, _ => rfl
theorem blws_mono {L L' : Nat} (h : L ≤ L') : ∀ {ds : List D}, D.blws L ds = true → D.blws L' ds = true
  | [], _ => rfl
  | d :: r, hd => by
    simp only [D.blws, Bool.and_eq_true] at hd ⊢
    exact ⟨blw_mono h hd.1, blws_mono h hd.2⟩
end
theorem Wf.app {m : M} {o : O} (h : Wf m) (ho : o.blw (m.length + 1) = true) : Wf (m ++ [o]) := by
  rw [wf_iff] at h ⊢
  intro x hx
  rw [List.length_append, List.length_singleton]
  rcases List.mem_append.mp hx with hx | hx
  · have := h x hx
    cases x <;> exact blws_mono (by omega) this
  · have e : x = o := by simpa using hx
    rw [e]
    exact ho
theorem wf_nil : Wf [] := rfl

/-! ### loops -/
/-- src gives xs at m -/
structure SrcIs (src : Src) (xs : List D) (m : M) : Prop where
  n : src.n = xs.length
  get : ∀ i, i < xs.length → src.get m i = xs[i]?
  fin : src.fin m = true
theorem isT (xs : List D) (m : M) : SrcIs (srcT xs) xs m := ⟨rfl, fun _ _ => rfl, rfl⟩
theorem isR (k : Nat) (m : M) : SrcIs (srcR 0 k) ((List.range k).map fun i => .int (i : Nat)) m := by
  refine ⟨by simp [srcR], fun i hi => ?_, rfl⟩
  have hi' : i < k := by simpa using hi
  simp [srcR, hi']
theorem isTE (xs : List D) (m : M) : SrcIs (srcTE xs) (xs.zipIdx.map fun p => .tup [.int (p.2 : Nat), p.1]) m := by
  refine ⟨by simp [srcTE], fun i hi => ?_, rfl⟩
  have hi' : i < xs.length := by simpa using hi
  simp [srcTE, pairI, hi']
theorem isZ (xs ys : List D) (m : M) : SrcIs (srcZ xs ys) ((xs.zip ys).map fun p => .tup [p.1, p.2]) m := by
  refine ⟨by simp [srcZ], fun i hi => ?_, rfl⟩
  have hi' : i < xs.length ∧ i < ys.length := by
    rw [List.length_map, List.length_zip] at hi
    omega
  rw [List.getElem?_eq_getElem hi]
  simp [srcZ, hi'.1, hi'.2]
theorem isL {n k : Nat} {xs : List D} {m : M} (h : m[n]? = some (.lst xs)) (hk : k = xs.length) : SrcIs (srcL n k) xs m := by
  subst hk
  refine ⟨rfl, fun i hi => ?_, ?_⟩
  · simp [srcL, h]
  · simp [srcL, h]
/-- a comprehension, each turn told -/
theorem lcL_inv {src : Src} {gt : GT} {ρw : Sl} {t : FT} {e : FE} {n : Nat} (I : Nat → List D → M → Prop) (hn : src.n = n)
    (hs : ∀ i acc m, i < n → I i acc m → ∃ d ρ', src.get m i = some d ∧ gt d ρw = some ρ' ∧ ((∃ m1, t ρ' m = .ok false m1 ∧ I (i + 1) acc m1) ∨ ∃ m1 y m2, t ρ' m = .ok true m1 ∧ e ρ' m1 = .ok y m2 ∧ acc.length < LIM ∧ I (i + 1) (acc ++ [y]) m2))
    (hf : ∀ acc m, I n acc m → src.fin m = true) : ∀ (k i : Nat) (acc : List D) (m : M), i + k = n → I i acc m → ∃ acc' m', lcL src gt ρw t e k i acc m = .ok acc' m' ∧ I n acc' m'
  | 0, i, acc, m, hik, h => by
    have e1 : i = n := by omega
    subst e1
    exact ⟨acc, m, by unfold lcL; rw [if_pos (hf acc m h)], h⟩
  | k + 1, i, acc, m, hik, h => by
    obtain ⟨d, ρ', h1, h2, h3⟩ := hs i acc m (by omega) h
    rw [stepL h1 h2]
    rcases h3 with ⟨m1, ht, hi⟩ | ⟨m1, y, m2, ht, he, hl, hi⟩
    · rw [ht]
      exact lcL_inv I hn hs hf k (i + 1) acc m1 (by omega) hi
    · rw [ht]
      simp only [he, if_pos hl]
      exact lcL_inv I hn hs hf k (i + 1) (acc ++ [y]) m2 (by omega) hi
/-- all of it, the memory as it is -/
theorem lcL_map {src : Src} {gt : GT} {ρw : Sl} {t : FT} {e : FE} {xs : List D} {m : M} (F : D → Option D) (hs : SrcIs src xs m) (hx : ∀ x ∈ xs, ∃ ρ', gt x ρw = some ρ' ∧ ((t ρ' m = .ok false m ∧ F x = none) ∨ ∃ y, t ρ' m = .ok true m ∧ e ρ' m = .ok y m ∧ F x = some y)) :
    ∀ (k i : Nat) (acc : List D), i + k = xs.length → acc.length + k ≤ LIM → lcL src gt ρw t e k i acc m = .ok (acc ++ (xs.drop i).filterMap F) m
  | 0, i, acc, hik, hl => by
    unfold lcL
    rw [if_pos hs.fin, List.drop_eq_nil_of_le (by omega)]
    simp
  | k + 1, i, acc, hik, hl => by
    have hi : i < xs.length := by omega
    obtain ⟨ρ', h2, h3⟩ := hx xs[i] (List.getElem_mem hi)
    rw [stepL (d := xs[i]) (by rw [hs.get i hi]; simp) h2, List.drop_eq_getElem_cons hi, List.filterMap_cons]
    rcases h3 with ⟨ht, hF⟩ | ⟨y, ht, he, hF⟩
    · rw [ht, hF]
      exact lcL_map F hs hx k (i + 1) acc (by omega) (by omega)
    · rw [ht, hF]
      simp only [he, if_pos (show acc.length < LIM by omega)]
      rw [lcL_map F hs hx k (i + 1) (acc ++ [y]) (by omega) (by rw [List.length_append, List.length_singleton]; omega)]
      simp
theorem fLc_map {fi : FI} {gt : GT} {vs : List Nat} {t : FT} {e : FE} {ρ : Sl} {m : M} {src : Src} {xs : List D} (F : D → Option D) (h1 : fi ρ m = .ok src m) (hs : SrcIs src xs m)
    (hx : ∀ x ∈ xs, ∃ ρ', gt x (wipeD ρ vs) = some ρ' ∧ ((t ρ' m = .ok false m ∧ F x = none) ∨ ∃ y, t ρ' m = .ok true m ∧ e ρ' m = .ok y m ∧ F x = some y)) (hl : xs.length ≤ LIM) : fLc fi gt vs t e ρ m = .ok (xs.filterMap F) m := by
  unfold fLc
  rw [h1]
  simp only [bind_ok]
  rw [hs.n, lcL_map F hs hx xs.length 0 [] (by omega) (by simpa using hl)]
  simp
/-- .. of every one -/
theorem fLc_all {fi : FI} {gt : GT} {vs : List Nat} {e : FE} {ρ : Sl} {m : M} {src : Src} {xs : List D} (F : D → D) (h1 : fi ρ m = .ok src m) (hs : SrcIs src xs m)
    (hx : ∀ x ∈ xs, ∃ ρ', gt x (wipeD ρ vs) = some ρ' ∧ e ρ' m = .ok (F x) m) (hl : xs.length ≤ LIM) : fLc fi gt vs fYes e ρ m = .ok (xs.map F) m := by
  rw [fLc_map (fun x => some (F x)) h1 hs (fun x hm => ?_) hl, List.filterMap_eq_map']
  obtain ⟨ρ', a, b⟩ := hx x hm
  exact ⟨ρ', a, .inr ⟨F x, rfl, b, rfl⟩⟩
/-- a loop, each turn told -/
theorem forL_inv {src : Src} {gt : GT} {body : FS} {n : Nat} (I : Nat → Sl → M → Prop) (hn : src.n = n)
    (hs : ∀ i ρ m, i < n → I i ρ m → ∃ d ρ' ρ2 m2, src.get m i = some d ∧ gt d ρ = some ρ' ∧ body ρ' m = .nx ρ2 m2 ∧ I (i + 1) ρ2 m2)
    (hf : ∀ ρ m, I n ρ m → src.fin m = true) : ∀ (k i : Nat) (ρ : Sl) (m : M), i + k = n → I i ρ m → ∃ ρ' m', forL src gt body k i ρ m = .nx ρ' m' ∧ I n ρ' m'
  | 0, i, ρ, m, hik, h => by
    have e1 : i = n := by omega
    subst e1
    exact ⟨ρ, m, by unfold forL; rw [if_pos (hf ρ m h)], h⟩
  | k + 1, i, ρ, m, hik, h => by
    obtain ⟨d, ρ', ρ2, m2, h1, h2, h3, h4⟩ := hs i ρ m (by omega) h
    unfold forL
    rw [h1]
    simp only [h2, h3]
    exact forL_inv I hn hs hf k (i + 1) ρ2 m2 (by omega) h4
end Dl

/-! PL2: more of evaluation: sources, equality, repr, parts of rows. -/
namespace Dl
open PySem PyProof.Rows L2
@[simp] theorem startD_eq (n : Nat) (ds : List D) : startD n ds = ds.map some ++ List.replicate (n - ds.length) none := nrfl rfl
abbrev iD (n : Nat) : D := .int (n : Int)
def tI (l : List Nat) : D := .tup (l.map iD)
def srcK (m : M) (d : D) : Res Src := match srcOf m d with
  | some s => .ok s m
  | none => .bad
@[simp] theorem e_walk (f : FE) (ρ : Sl) (m : M) : fWalk f ρ m = (f ρ m).bind fun d m => srcK m d := nrfl rfl
@[simp] theorem srcK_t (m : M) (xs : List D) : srcK m (.tup xs) = .ok (srcT xs) m := nrfl rfl
@[simp] theorem srcK_f (m : M) (xs : List D) : srcK m (.fix xs) = .ok (srcT xs) m := nrfl rfl
theorem srcK_l {m : M} {n : Nat} {xs : List D} (h : m[n]? = some (.lst xs)) : srcK m (.ref n) = .ok (srcL n xs.length) m := by
  simp [srcK, srcOf, h]
noncomputable def rngK (d : D) (m : M) : Res Src := match d with
  | .int n => if okR n then .ok (srcR 0 n.toNat) m else .bad
  | _ => .bad
@[simp] theorem e_rng (f : FE) (ρ : Sl) (m : M) : fRng1 f ρ m = (f ρ m).bind rngK := nrfl rfl
theorem rngK_n {k : Nat} (h : k ≤ LIM) (m : M) : rngK (.int (k : Int)) m = .ok (srcR 0 k) m := by
  have hk : okR (k : Int) = true := by
    have : (LIM : Nat) = 100000 := rfl
    exact okR_iff.mpr (by omega)
  simp [rngK, hk]
def enumK (m : M) (d : D) : Res Src := match srcEOf m d with
  | some s => .ok s m
  | none => .bad
@[simp] theorem e_enum (f : FE) (ρ : Sl) (m : M) : fEnum f ρ m = (f ρ m).bind fun d m => enumK m d := nrfl rfl
@[simp] theorem enumK_t (m : M) (xs : List D) : enumK m (.tup xs) = .ok (srcTE xs) m := nrfl rfl
theorem enumK_l {m : M} {n : Nat} {xs : List D} (h : m[n]? = some (.lst xs)) : enumK m (.ref n) = .ok (srcLE n xs.length) m := by
  simp [enumK, srcEOf, h]
def zipK (m : M) (d e : D) : Res Src := match d, e with
  | .tup ds, .tup es => .ok (srcZ ds es) m
  | _, _ => .bad
@[simp] theorem e_zip (f g : FE) (ρ : Sl) (m : M) : fZipT f g ρ m = (f ρ m).bind fun d m => (g ρ m).bind fun e m => zipK m d e := nrfl rfl
@[simp] theorem zipK_t (m : M) (xs ys : List D) : zipK m (.tup xs) (.tup ys) = .ok (srcZ xs ys) m := nrfl rfl
theorem isLE {n k : Nat} {xs : List D} {m : M} (h : m[n]? = some (.lst xs)) (hk : k = xs.length) : SrcIs (srcLE n k) (xs.zipIdx.map fun p => .tup [.int (p.2 : Nat), p.1]) m := by
  subst hk
  refine ⟨by simp [srcLE], fun i hi => ?_, ?_⟩
  · have hi' : i < xs.length := by simpa using hi
    simp [srcLE, h, pairI, hi']
  · simp [srcLE, h]
theorem allL_ok {ds : List D} (h : ∀ d ∈ ds, d = .bl true) (m : M) : gAllL ds m = .ok (.bl true) m := by
  have e : ∃ bs, blsD ds = some bs ∧ bs.all id = true := by
    induction ds with
    | nil => exact ⟨[], rfl, rfl⟩
    | cons d r ih =>
      obtain ⟨bs, h1, h2⟩ := ih fun x hx => h x (List.mem_cons_of_mem _ hx)
      have hd := h d List.mem_cons_self
      subst hd
      exact ⟨true :: bs, by simp [blsD, h1], by simpa using h2⟩
  obtain ⟨bs, h1, h2⟩ := e
  unfold gAllL
  rw [h1]
  simp only [h2]

/-! ### indexing -/
def getK (o : Option D) (m : M) : Res D := match o with
  | some d => .ok d m
  | none => .bad
@[simp] theorem getK_some (d : D) (m : M) : getK (some d) m = .ok d m := nrfl rfl
@[simp] theorem e_ixT (xs : List D) (i : Int) (m : M) : gIx (.tup xs) (.int i) m = getK (atI xs i) m := nrfl rfl
@[simp] theorem e_ixR (xs : List D) (i : Int) (m : M) : gIx (.rol xs) (.int i) m = getK (atI xs i) m := nrfl rfl
@[simp] theorem e_ixF (xs : List D) (i : Int) (m : M) : gIx (.fix xs) (.int i) m = getK (atI xs i) m := nrfl rfl
theorem e_ixL {n : Nat} {xs : List D} {m : M} (i : Int) (h : m[n]? = some (.lst xs)) : gIx (.ref n) (.int i) m = getK (atI xs i) m := by
  have e : gIx (.ref n) (.int i) m = gIxS (.ref n) (.int i) m := by
    unfold gIx
    simp only [h]
  rw [e]
  show (match m[n]? with
      | some (.lst xs) => match atI xs i with
        | some d => Res.ok d m
        | none => .bad
      | _ => .bad) = _
  rw [h]
  rfl
@[simp] theorem at0 {α : Type} (x : α) (r : List α) : atI (x :: r) 0 = some x := by
  unfold atI ixN
  rw [if_pos (by omega), if_pos (by rw [List.length_cons]; omega)]
  rfl
@[simp] theorem at1 {α : Type} (x y : α) (r : List α) : atI (x :: y :: r) 1 = some y := by
  unfold atI ixN
  rw [if_pos (by omega), if_pos (by rw [List.length_cons, List.length_cons]; omega)]
  rfl
theorem at_nat {α : Type} {xs : List α} {k : Nat} {x : α} (h : xs[k]? = some x) : atI xs (k : Int) = some x := by
  have hk := (List.getElem?_eq_some_iff.mp h).1
  unfold atI ixN
  rw [if_pos (by omega), if_pos (by omega)]
  simpa using h

/-! ### equality -/
mutual
/-- whole numbers and rows of such -/
def D.num : D → Bool
  | .int _ => true
  | .tup ds => D.nums ds
  | _ => false
def D.nums : List D → Bool
  | [] => true
  | d :: r => D.num d && D.nums r
end
mutual
def D.dep : D → Nat
  | .tup ds => D.deps ds + 1
  | _ => 0
def D.deps : List D → Nat
  | [] => 0
  | d :: r => max (D.dep d) (D.deps r)
end
mutual
theorem toP_num (r : Nat → Option PyData) : ∀ {d : D}, d.num = true → ∃ p, d.toP r = some p ∧ p.plain = true ∧ p.depth ≤ d.dep
  | .int i, _ => ⟨.int i, rfl, rfl, Nat.le_refl _⟩
  | .tup ds, h => by
    obtain ⟨ps, h1, h2, h3⟩ := toPs_num r (ds := ds) (by simpa only [D.num] using h)
    exact ⟨.tuple ps, by simp only [D.toP, h1, Option.map_some], by simpa only [PyData.plain] using h2, by simp only [PyData.depth, D.dep]; omega⟩
  | .non, h => by simp [D.num] at h
  | .bl _, h => by simp [D.num] at h
  | .str _, h => by simp [D.num] at h
  | .rol _, h => by simp [D.num] at h
  | .fix _, h => by simp [D.num] at h
  | .ref _, h => by simp [D.num] at h
  | .ty _, h => by simp [D.num] at h
theorem toPs_num (r : Nat → Option PyData) : ∀ {ds : List D}, D.nums ds = true → ∃ ps, D.toPs r ds = some ps ∧ PyData.plainAll ps = true ∧ PyData.depthAll ps ≤ D.deps ds
  | [], _ => ⟨[], rfl, rfl, Nat.le_refl _⟩
  | d :: t, h => by
    simp only [D.nums, Bool.and_eq_true] at h
    obtain ⟨p, a1, a2, a3⟩ := toP_num r (d := d) h.1
    obtain ⟨ps, b1, b2, b3⟩ := toPs_num r (ds := t) h.2
    refine ⟨p :: ps, by simp only [D.toPs, a1, b1], by simp only [PyData.plainAll, a2, b2, Bool.and_self], ?_⟩
    simp only [PyData.depthAll, D.deps]
    omega
end
mutual
theorem eqv_num {r : Nat → Option PyData} : ∀ {a b : D} {p q : PyData}, a.num = true → b.num = true → a.toP r = some p → b.toP r = some q → PyData.eqv p q = D.beq a b
  | .int i, .int j, p, q, _, _, hp, hq => by simp only [D.toP] at hp hq; cases hp; cases hq; simp only [PyData.eqv, D.beq]; by_cases e : i = j <;> simp [e]
  | .int i, .tup es, p, q, _, hb, hp, hq => by
    simp only [D.toP] at hp hq
    cases hp
    cases h : D.toPs r es with
    | none => rw [h] at hq; cases hq
    | some ps => rw [h] at hq; cases hq; simp [PyData.eqv, D.beq]
  | .tup es, .int i, p, q, _, hb, hp, hq => by
    simp only [D.toP] at hp hq
    cases hq
    cases h : D.toPs r es with
    | none => rw [h] at hp; cases hp
    | some ps => rw [h] at hp; cases hp; simp [PyData.eqv, D.beq]
  | .tup ds, .tup es, p, q, ha, hb, hp, hq => by
    simp only [D.toP] at hp hq
    cases h : D.toPs r ds with
    | none => rw [h] at hp; cases hp
    | some ps =>
      rw [h] at hp
      cases h' : D.toPs r es with
      | none => rw [h'] at hq; cases hq
      | some qs =>
        rw [h'] at hq
        cases hp
        cases hq
        simp only [PyData.eqv, D.beq]
        exact eqvs_num (by simpa only [D.num] using ha) (by simpa only [D.num] using hb) h h'
  | .non, _, _, _, h, _, _, _ => by simp [D.num] at h
  | .bl _, _, _, _, h, _, _, _ => by simp [D.num] at h
  | .str _, _, _, _, h, _, _, _ => by simp [D.num] at h
  | .rol _, _, _, _, h, _, _, _ => by simp [D.num] at h
  | .fix _, _, _, _, h, _, _, _ => by simp [D.num] at h
  | .ref _, _, _, _, h, _, _, _ => by simp [D.num] at h
  | .ty _, _, _, _, h, _, _, _ => by simp [D.num] at h
  | .int _, .non, _, _, _, h, _, _ => by simp [D.num] at h
  | .int _, .bl _, _, _, _, h, _, _ => by simp [D.num] at h
  | .int _, .str _, _, _, _, h, _, _ => by simp [D.num] at h
  | .int _, .rol _, _, _, _, h, _, _ => by simp [D.num] at h
  | .int _, .fix _, _, _, _, h, _, _ => by simp [D.num] at h
  | .int _, .ref _, _, _, _, h, _, _ => by simp [D.num] at h
  | .int _, .ty _, _, _, _, h, _, _ => by simp [D.num] at h
  | .tup _, .non, _, _, _, h, _, _ => by simp [D.num] at h
  | .tup _, .bl _, _, _, _, h, _, _ => by simp [D.num] at h
  | .tup _, .str _, _, _, _, h, _, _ => by simp [D.num] at h
  | .tup _, .rol _, _, _, _, h, _, _ => by simp [D.num] at h
  | .tup _, .fix _, _, _, _, h, _, _ => by simp [D.num] at h
  | .tup _, .ref _, _, _, _, h, _, _ => by simp [D.num] at h
  | .tup _, .ty _, _, _, _, h, _, _ => by simp [D.num] at h
theorem eqvs_num {r : Nat → Option PyData} : ∀ {a b : List D} {p q : List PyData}, D.nums a = true → D.nums b = true → D.toPs r a = some p → D.toPs r b = some q → PyData.eqvAll p q = D.beqs a b
  | [], [], _, _, _, _, hp, hq => by simp only [D.toPs] at hp hq; cases hp; cases hq; rfl
  | a :: s, [], p, q, ha, _, hp, hq => by
    simp only [D.toPs] at hp hq
    cases hq
    split at hp
    · cases hp; rfl
    · cases hp
  | [], b :: t, p, q, _, hb, hp, hq => by
    simp only [D.toPs] at hp hq
    cases hp
    split at hq
    · cases hq; rfl
    · cases hq
  | a :: s, b :: t, p, q, ha, hb, hp, hq => by
    simp only [D.nums, Bool.and_eq_true] at ha hb
    simp only [D.toPs] at hp hq
    split at hp
    · rename_i p1 ps h1 h2
      cases hp
      split at hq
      · rename_i q1 qs h3 h4
        cases hq
        simp only [PyData.eqvAll, D.beqs, eqv_num ha.1 hb.1 h1 h3, eqvs_num ha.2 hb.2 h2 h4]
      · cases hq
    · cases hp
end
theorem beq_dec (a b : D) : D.beq a b = decide (a = b) := by
  by_cases h : a = b
  · rw [h, D.beq_refl]; simp
  · rw [decide_eq_false h]
    cases e : D.beq a b with
    | false => rfl
    | true => exact absurd (D.beq_eq e) h
theorem shaped_num {p : PyData} {d : D} (h1 : p.plain = true) (h2 : p.depth ≤ d.dep) (h3 : d.dep ≤ 64) : flatP p = true := by
  unfold flatP
  rw [h1, Bool.true_and]
  exact decide_eq_true (by omega)
theorem pdM_r (m : M) : ∃ r, ∀ d, pdM DEEP m d = d.toP r := ⟨_, fun _ => rfl⟩
theorem gEq_num {a b : D} (ha : a.num = true) (hb : b.num = true) (da : a.dep ≤ 64) (db : b.dep ≤ 64) (m : M) : gEq a b m = .ok (.bl (decide (a = b))) m := by
  unfold gEq
  obtain ⟨r, hr⟩ := pdM_r m
  rw [hr, hr]
  obtain ⟨p, h1, h2, h3⟩ := toP_num r ha
  obtain ⟨q, g1, g2, g3⟩ := toP_num r hb
  simp only [h1, g1, shaped_num h2 h3 da, shaped_num g2 g3 db, Bool.and_self, if_true, eqv_num ha hb h1 g1, beq_dec]
theorem gNe_num {a b : D} (ha : a.num = true) (hb : b.num = true) (da : a.dep ≤ 64) (db : b.dep ≤ 64) (m : M) : gNe a b m = .ok (.bl (!decide (a = b))) m := by
  unfold gNe
  obtain ⟨r, hr⟩ := pdM_r m
  rw [hr, hr]
  obtain ⟨p, h1, h2, h3⟩ := toP_num r ha
  obtain ⟨q, g1, g2, g3⟩ := toP_num r hb
  simp only [h1, g1, shaped_num h2 h3 da, shaped_num g2 g3 db, Bool.and_self, if_true, eqv_num ha hb h1 g1, beq_dec]
@[simp] theorem gEq_int (i j : Int) (m : M) : gEq (.int i) (.int j) m = .ok (.bl (decide (i = j))) m := by
  rw [gEq_num rfl rfl (Nat.zero_le _) (Nat.zero_le _)]
  simp
@[simp] theorem gNe_int (i j : Int) (m : M) : gNe (.int i) (.int j) m = .ok (.bl (!decide (i = j))) m := by
  rw [gNe_num rfl rfl (Nat.zero_le _) (Nat.zero_le _)]
  simp
theorem nums_iff {ds : List D} : D.nums ds = true ↔ ∀ d ∈ ds, d.num = true := by
  induction ds with
  | nil => simp [D.nums]
  | cons d r ih => simp [D.nums, ih]
theorem deps_le {ds : List D} {k : Nat} (h : ∀ d ∈ ds, d.dep ≤ k) : D.deps ds ≤ k := by
  induction ds with
  | nil => exact Nat.zero_le _
  | cons d r ih =>
    simp only [D.deps]
    have := h d List.mem_cons_self
    have := ih fun x hx => h x (List.mem_cons_of_mem _ hx)
    omega
mutual
theorem num_pure : ∀ {d : D}, d.num = true → d.pure = true
  | .int _, _ => rfl
  | .tup ds, h => by
    simp only [D.num] at h
    simp only [D.pure]
    exact nums_pure h
  | .non, h => by simp [D.num] at h
  | .bl _, h => by simp [D.num] at h
  | .str _, h => by simp [D.num] at h
  | .rol _, h => by simp [D.num] at h
  | .fix _, h => by simp [D.num] at h
  | .ref _, h => by simp [D.num] at h
  | .ty _, h => by simp [D.num] at h
theorem nums_pure : ∀ {ds : List D}, D.nums ds = true → D.pures ds = true
  | [], _ => rfl
  | d :: r, h => by
    simp only [D.nums, Bool.and_eq_true] at h
    simp only [D.pures, Bool.and_eq_true]
    exact ⟨num_pure h.1, nums_pure h.2⟩
end
theorem num_blw {d : D} (h : d.num = true) (L : Nat) : d.blw L = true := D.blw_of_pure (num_pure h)

/-! ### repr of such -/
mutual
def D.small : D → Bool
  | .int i => decide (i.natAbs < 10 ^ 18)
  | .tup ds => D.smalls ds
  | _ => false
def D.smalls : List D → Bool
  | [] => true
  | d :: r => D.small d && D.smalls r
end
mutual
def D.wt : D → Nat
  | .tup ds => D.wts ds + 3
  | _ => 20
def D.wts : List D → Nat
  | [] => 0
  | d :: r => D.wt d + 2 + D.wts r
end
mutual
theorem toP_ind (r r' : Nat → Option PyData) : ∀ {d : D}, d.small = true → d.toP r = d.toP r'
  | .int _, _ => rfl
  | .tup ds, h => by simp only [D.small] at h; simp only [D.toP, toPs_ind r r' h]
  | .non, h => by simp [D.small] at h
  | .bl _, h => by simp [D.small] at h
  | .str _, h => by simp [D.small] at h
  | .rol _, h => by simp [D.small] at h
  | .fix _, h => by simp [D.small] at h
  | .ref _, h => by simp [D.small] at h
  | .ty _, h => by simp [D.small] at h
theorem toPs_ind (r r' : Nat → Option PyData) : ∀ {ds : List D}, D.smalls ds = true → D.toPs r ds = D.toPs r' ds
  | [], _ => rfl
  | d :: t, h => by
    simp only [D.smalls, Bool.and_eq_true] at h
    simp only [D.toPs, toP_ind r r' h.1, toPs_ind r r' h.2]
end
theorem tup_len (ts : List Str) : (tupleText ts).length ≤ piled ts + 3 := by
  unfold tupleText
  rw [strLen_append, strLen_append]
  have e1 : ((("(" : String) : Str)).length = 1 := rfl
  have e3 : (((if ts.length == 1 then ",)" else ")" : String) : Str)).length ≤ 2 := by split <;> decide
  by_cases h : ts = []
  · subst h
    have e4 : (Str.join ", " ([] : List Str)).length = 0 := rfl
    omega
  · have := join_length_add ts h
    omega
mutual
theorem shown_small (r : Nat → Option PyData) : ∀ {d : D}, d.small = true → ∃ p, d.toP r = some p ∧ p.shown.length ≤ d.wt ∧ p.showable = true ∧ p.hasDict = false ∧ p.depth ≤ d.dep
  | .int i, h => by
    have hi : i.natAbs < 10 ^ 18 := of_decide_eq_true (by simpa only [D.small] using h)
    refine ⟨.int i, rfl, ?_, ?_, rfl, Nat.le_refl _⟩
    · have := int_text_length_le10 (a := i) (k := 18) (by decide) hi
      show (Str.ofString (toString i)).length ≤ 20
      rw [PySem.ofString_length]
      omega
    · show decide (i.natAbs.log2 < 1920) = true
      refine decide_eq_true ?_
      by_cases h0 : i.natAbs = 0
      · rw [h0]; decide
      · exact (Nat.log2_lt h0).mpr (Nat.lt_of_lt_of_le hi (by
          have : (10 : Nat) ^ 18 ≤ 2 ^ 60 := by decide
          exact Nat.le_trans this (Nat.pow_le_pow_right (by decide) (by decide))))
  | .tup ds, h => by
    obtain ⟨ps, h1, h2, h3, h4, h5⟩ := showns_small r (ds := ds) (by simpa only [D.small] using h)
    refine ⟨.tuple ps, by simp only [D.toP, h1, Option.map_some], ?_, by simpa only [PyData.showable] using h3, by simpa only [PyData.hasDict] using h4, by simp only [PyData.depth, D.dep]; omega⟩
    show (tupleText (PyData.shownAll ps)).length ≤ D.wts ds + 3
    have := tup_len (PyData.shownAll ps)
    omega
  | .non, h => by simp [D.small] at h
  | .bl _, h => by simp [D.small] at h
  | .str _, h => by simp [D.small] at h
  | .rol _, h => by simp [D.small] at h
  | .fix _, h => by simp [D.small] at h
  | .ref _, h => by simp [D.small] at h
  | .ty _, h => by simp [D.small] at h
theorem showns_small (r : Nat → Option PyData) : ∀ {ds : List D}, D.smalls ds = true → ∃ ps, D.toPs r ds = some ps ∧ piled (PyData.shownAll ps) ≤ D.wts ds ∧ PyData.showableAll ps = true ∧ PyData.hasDictAll ps = false ∧ PyData.depthAll ps ≤ D.deps ds
  | [], _ => ⟨[], rfl, Nat.le_refl _, rfl, rfl, Nat.le_refl _⟩
  | d :: t, h => by
    simp only [D.smalls, Bool.and_eq_true] at h
    obtain ⟨p, a1, a2, a3, a4, a5⟩ := shown_small r (d := d) h.1
    obtain ⟨ps, b1, b2, b3, b4, b5⟩ := showns_small r (ds := t) h.2
    refine ⟨p :: ps, by simp only [D.toPs, a1, b1], ?_, by simp only [PyData.showableAll, a3, b3, Bool.and_self], by simp only [PyData.hasDictAll, a4, b4, Bool.or_self], ?_⟩
    · show piled (p.shown :: PyData.shownAll ps) ≤ D.wt d + 2 + D.wts t
      rw [piled_cons]
      omega
    · simp only [PyData.depthAll, D.deps]
      omega
end
/-- its text -/
def rpr (d : D) : Str := match d.toP (fun _ => none) with
  | some p => p.shown
  | none => match d with
    | .bl true => "True"
    | .bl false => "False"
    | _ => ""
theorem gRepr_small {d : D} (h : d.small = true) (hw : d.wt ≤ 1000000) (hd : d.dep ≤ 60) (m : M) : gRepr [d] m = .ok (.str (rpr d)) m := by
  unfold gRepr
  obtain ⟨r, hr⟩ := pdM_r m
  obtain ⟨p, h1, h2, h3, h4, h5⟩ := shown_small r h
  have e : rpr d = p.shown := by
    unfold rpr
    rw [toP_ind (fun _ => none) r h, h1]
  simp only [hr, h1, h3, h4, e]
  rw [if_pos]
  simp only [Bool.not_false, Bool.and_self, Bool.true_and, Bool.and_eq_true, decide_eq_true_eq]
  refine ⟨by omega, ?_⟩
  rw [sizeLine_eq]
  omega
theorem gRepr_bl (b : Bool) (m : M) : gRepr [.bl b] m = .ok (.str (rpr (.bl b))) m := by
  unfold gRepr
  obtain ⟨r, hr⟩ := pdM_r m
  cases b
  · simp only [hr, D.toP]
    rfl
  · simp only [hr, D.toP]
    rfl
theorem eqv_str (x : Str) : PyData.eqv (.str x) (.str x) = true := by simp [PyData.eqv]
theorem gNe_str (x : Str) (m : M) : gNe (.str x) (.str x) m = .ok (.bl false) m := by
  unfold gNe
  obtain ⟨r, hr⟩ := pdM_r m
  simp only [hr, D.toP, eqv_str]
  rfl
end Dl

/-! PL3: comprehensions of two clauses; all vectors; places. -/
namespace Dl
open PySem PyProof.Rows L2
theorem lc2L_map {src : Src} {gt : GT} {ρw : Sl} {fj : FI} {gu : GT} {us : List Nat} {e : FE} {xs : List D} {m : M} (F : D → List D) (hs : SrcIs src xs m)
    (hx : ∀ x ∈ xs, ∃ ρ' sj ys, gt x ρw = some ρ' ∧ fj ρ' m = .ok sj m ∧ SrcIs sj ys m ∧ ∃ G : D → D, (∀ y ∈ ys, ∃ ρ'', gu y (wipeD ρ' us) = some ρ'' ∧ e ρ'' m = .ok (G y) m) ∧ F x = ys.map G) :
    ∀ (k i : Nat) (acc : List D), i + k = xs.length → acc.length + ((xs.drop i).flatMap F).length ≤ LIM → lc2L src gt ρw fYes fj gu us fYes e k i acc m = .ok (acc ++ (xs.drop i).flatMap F) m
  | 0, i, acc, hik, hl => by
    unfold lc2L
    rw [if_pos hs.fin, List.drop_eq_nil_of_le (by omega)]
    simp
  | k + 1, i, acc, hik, hl => by
    have hi : i < xs.length := by omega
    obtain ⟨ρ', sj, ys, h1, h2, h3, G, h4, h5⟩ := hx xs[i] (List.getElem_mem hi)
    rw [List.drop_eq_getElem_cons hi, List.flatMap_cons, List.length_append] at hl
    rw [List.drop_eq_getElem_cons hi, List.flatMap_cons]
    have hlen : (F xs[i]).length = ys.length := by rw [h5, List.length_map]
    unfold lc2L
    rw [show src.get m i = some xs[i] by rw [hs.get i hi]; simp]
    simp only [h1, e_yes, h2]
    rw [h3.n, lcL_map (fun y => some (G y)) h3 (fun y hy => ?_) ys.length 0 acc (by omega) (by omega), List.filterMap_eq_map', List.drop_zero, ← h5]
    · simp only
      rw [lc2L_map F hs hx k (i + 1) (acc ++ F xs[i]) (by omega) (by rw [List.length_append]; omega), List.append_assoc]
    · obtain ⟨ρ'', a, b⟩ := h4 y hy
      exact ⟨ρ'', a, .inr ⟨G y, rfl, b, rfl⟩⟩
theorem fLc2_all {fi : FI} {gt : GT} {vs : List Nat} {fj : FI} {gu : GT} {us : List Nat} {e : FE} {ρ : Sl} {m : M} {src : Src} {xs : List D} (F : D → List D) (h1 : fi ρ m = .ok src m) (hs : SrcIs src xs m)
    (hx : ∀ x ∈ xs, ∃ ρ' sj ys, gt x (wipeD ρ vs) = some ρ' ∧ fj ρ' m = .ok sj m ∧ SrcIs sj ys m ∧ ∃ G : D → D, (∀ y ∈ ys, ∃ ρ'', gu y (wipeD ρ' us) = some ρ'' ∧ e ρ'' m = .ok (G y) m) ∧ F x = ys.map G)
    (hl : (xs.flatMap F).length ≤ LIM) : fLc2 fi gt vs fYes fj gu us fYes e ρ m = .ok (xs.flatMap F) m := by
  unfold fLc2
  rw [h1]
  simp only [bind_ok]
  rw [hs.n, lc2L_map F hs hx xs.length 0 [] (by omega) (by simpa using hl)]
  simp

theorem revInd {α : Type} {P : List α → Prop} (h0 : P []) (h1 : ∀ l a, P l → P (l ++ [a])) (l : List α) : P l := by
  have h : ∀ l : List α, P l.reverse := by
    intro l
    induction l with
    | nil => exact h0
    | cons a r ih => rw [List.reverse_cons]; exact h1 _ _ ih
  have := h l.reverse
  rwa [List.reverse_reverse] at this
/-! ### vectors -/
def stepV (acc : List (List Nat)) (n : Nat) : List (List Nat) := acc.flatMap fun v => (List.range (n + 1)).map fun k => v ++ [k]
def vecs (cs : List Nat) : List (List Nat) := cs.foldl stepV [[]]
def prd (cs : List Nat) : Nat := (cs.map (· + 1)).prod
theorem vecs_snoc (cs : List Nat) (n : Nat) : vecs (cs ++ [n]) = stepV (vecs cs) n := by
  unfold vecs
  rw [List.foldl_append]
  rfl
theorem stepV_len (acc : List (List Nat)) (n : Nat) : (stepV acc n).length = acc.length * (n + 1) := by
  unfold stepV
  induction acc with
  | nil => simp
  | cons a r ih => rw [List.flatMap_cons, List.length_append, ih, List.length_map, List.length_range, List.length_cons, Nat.succ_mul]; omega
theorem prd_snoc (cs : List Nat) (n : Nat) : prd (cs ++ [n]) = prd cs * (n + 1) := by
  unfold prd
  rw [List.map_append, List.prod_append]
  simp
theorem vecs_len (cs : List Nat) : (vecs cs).length = prd cs := by
  induction cs using revInd with
  | h0 => rfl
  | h1 cs n ih => rw [vecs_snoc, stepV_len, prd_snoc, ih]
theorem prd_pos (cs : List Nat) : 1 ≤ prd cs := by
  induction cs with
  | nil => exact Nat.le_refl _
  | cons n r ih =>
    unfold prd at ih ⊢
    rw [List.map_cons, List.prod_cons]
    exact Nat.le_trans ih (Nat.le_mul_of_pos_left _ (by omega))
theorem prd_app (as bs : List Nat) : prd (as ++ bs) = prd as * prd bs := by
  unfold prd
  rw [List.map_append, List.prod_append]
theorem prd_take (cs : List Nat) (i : Nat) : prd (cs.take i) ≤ prd cs := by
  have h : prd cs = prd (cs.take i) * prd (cs.drop i) := by rw [← prd_app, List.take_append_drop]
  rw [h]
  exact Nat.le_mul_of_pos_right _ (prd_pos _)
/-- v within cs -/
def Within (cs v : List Nat) : Prop := v.length = cs.length ∧ ∀ (i : Nat) (n k : Nat), cs[i]? = some n → v[i]? = some k → k ≤ n
theorem mem_vecs {cs v : List Nat} : v ∈ vecs cs ↔ Within cs v := by
  induction cs using revInd generalizing v with
  | h0 =>
    simp only [vecs, List.foldl_nil, List.mem_singleton, Within]
    constructor
    · rintro rfl
      exact ⟨rfl, fun i n k h => by simp at h⟩
    · rintro ⟨h, _⟩
      exact List.eq_nil_of_length_eq_zero h
  | h1 cs n ih =>
    rw [vecs_snoc]
    unfold stepV
    simp only [List.mem_flatMap, List.mem_map, List.mem_range]
    constructor
    · rintro ⟨u, hu, k, hk, rfl⟩
      obtain ⟨h1, h2⟩ := ih.mp hu
      refine ⟨by simp [h1], fun i a b ha hb => ?_⟩
      by_cases hi : i < cs.length
      · rw [List.getElem?_append_left hi] at ha
        rw [List.getElem?_append_left (by omega)] at hb
        exact h2 i a b ha hb
      · rw [List.getElem?_append_right (by omega)] at ha
        rw [List.getElem?_append_right (by omega)] at hb
        rw [h1] at hb
        cases hj : i - cs.length with
        | zero => rw [hj] at ha hb; simp at ha hb; omega
        | succ j => rw [hj] at ha; simp at ha
    · rintro ⟨h1, h2⟩
      rw [List.length_append, List.length_singleton] at h1
      have hv : v = v.take cs.length ++ [v[cs.length]'(by omega)] := by
        rw [List.take_append_getElem]
        rw [← h1, List.take_length]
      refine ⟨v.take cs.length, ih.mpr ⟨by simp; omega, fun i a b ha hb => ?_⟩, v[cs.length]'(by omega), ?_, hv.symm⟩
      · have hi : i < cs.length := (List.getElem?_eq_some_iff.mp ha).1
        rw [List.getElem?_take_of_lt hi] at hb
        exact h2 i a b (by rw [List.getElem?_append_left hi]; exact ha) hb
      · have := h2 cs.length n (v[cs.length]'(by omega)) (by simp) (by simp)
        omega
/-- the place of v among them -/
def plc (cs v : List Nat) : Nat := (v.zip cs).foldl (fun a p => a * (p.2 + 1) + p.1) 0
theorem stepV_at {acc : List (List Nat)} {n i k : Nat} {v : List Nat} (hv : acc[i]? = some v) (hk : k ≤ n) : (stepV acc n)[i * (n + 1) + k]? = some (v ++ [k]) := by
  induction acc generalizing i with
  | nil => simp at hv
  | cons a r ih =>
    unfold stepV
    rw [List.flatMap_cons]
    have hl : ((List.range (n + 1)).map fun k => a ++ [k]).length = n + 1 := by simp
    cases i with
    | zero =>
      simp at hv
      subst hv
      have hkl : k < ((List.range (n + 1)).map fun k => a ++ [k]).length := by rw [hl]; omega
      rw [Nat.zero_mul, Nat.zero_add, List.getElem?_append_left hkl, List.getElem?_map, List.getElem?_range (by omega)]
      rfl
    | succ i =>
      rw [List.getElem?_append_right (by rw [hl, Nat.succ_mul]; omega), hl, show (i + 1) * (n + 1) + k - (n + 1) = i * (n + 1) + k by rw [Nat.succ_mul]; omega]
      exact ih (by simpa using hv)
theorem plc_snoc {cs v : List Nat} {n k : Nat} (h : v.length = cs.length) : plc (cs ++ [n]) (v ++ [k]) = plc cs v * (n + 1) + k := by
  unfold plc
  rw [List.zip_append h, List.foldl_append]
  rfl
theorem vecs_at {cs v : List Nat} (h : Within cs v) : (vecs cs)[plc cs v]? = some v := by
  induction cs using revInd generalizing v with
  | h0 =>
    have : v = [] := List.eq_nil_of_length_eq_zero h.1
    subst this
    rfl
  | h1 cs n ih =>
    have hm := mem_vecs.mpr h
    rw [vecs_snoc] at hm
    unfold stepV at hm
    simp only [List.mem_flatMap, List.mem_map, List.mem_range] at hm
    obtain ⟨u, hu, k, hk, rfl⟩ := hm
    have hw := mem_vecs.mp hu
    rw [vecs_snoc, plc_snoc hw.1]
    exact stepV_at (ih hw) (by omega)
end Dl

/-! PL4: methods, parts of rows, plain. -/
namespace Dl
open PySem PyProof.Rows L2
theorem LIM_eq : LIM = 100000 := rfl
theorem meth_ok {g : MF} {fo : FE} {fa : FA} {ρ : Sl} {m m1 m2 : M} {n : Nat} {xs0 xs as ys : List D} {d : D} (h1 : fo ρ m = .ok (.ref n) m1) (h2 : m1[n]? = some (.lst xs0)) (h3 : fa ρ m1 = .ok as m2) (h4 : m2[n]? = some (.lst xs)) (h5 : g m2 xs as = some (d, ys)) :
    fMeth g fo fa ρ m = .ok d (m2.set n (.lst ys)) := by
  unfold fMeth
  rw [h1]
  simp only [bind_ok, h2, h3, h4, h5]
theorem append_ok {m : M} {xs : List D} {y : D} (h : xs.length < LIM) : mAppend m xs [y] = some (.non, xs ++ [y]) := if_pos h
theorem cut_take {xs : List D} {k : Nat} (h : k ≤ xs.length) : cutD xs none (some (k : Int)) = xs.take k := by
  unfold cutD
  have e1 : HT.sIx xs.length 0 none = 0 := rfl
  have e2 : HT.sIx xs.length xs.length (some (k : Int)) = k := by rw [HT.sIx_nat]; omega
  rw [e1, e2]
  simp
theorem cut_drop {xs : List D} {k : Nat} (h : k ≤ xs.length) : cutD xs (some (k : Int)) none = xs.drop k := by
  unfold cutD
  have e1 : HT.sIx xs.length 0 (some (k : Int)) = k := by rw [HT.sIx_nat]; omega
  have e2 : HT.sIx xs.length xs.length none = xs.length := rfl
  rw [e1, e2]
  rw [List.take_of_length_le (by rw [List.length_drop]; omega)]
theorem set_parts {α : Type} {l : List α} {k : Nat} (h : k < l.length) (x : α) : l.set k x = l.take k ++ [x] ++ l.drop (k + 1) := by
  rw [List.set_eq_take_append_cons_drop, if_pos h]
  simp
theorem tI_take (l : List Nat) (k : Nat) : (l.map iD).take k = (l.take k).map iD := by rw [List.map_take]
/-- an entry that stands -/
theorem tI_at {l : List Nat} {k x : Nat} (h : l[k]? = some x) (m : M) : gIx (tI l) (.int (k : Int)) m = .ok (iD x) m := by
  show getK (atI (l.map iD) (k : Int)) m = _
  rw [at_nat (x := iD x) (by simp [h])]
  rfl
theorem tup_at {l : List D} {k : Nat} {x : D} (h : l[k]? = some x) (m : M) : gIx (.tup l) (.int (k : Int)) m = .ok x m := by
  show getK (atI l (k : Int)) m = _
  rw [at_nat h]
  rfl
theorem aug_ok {i : Nat} {f : FE} {g : D → D → M → Res D} {ρ : Sl} {m m1 m2 : M} {x y z : D} (h : ρ[i]? = some (some x)) (h1 : f ρ m = .ok y m1) (h2 : g x y m1 = .ok z m2) : sAug i f g ρ m = .nx (ρ.set i (some z)) m2 := by
  unfold sAug
  rw [h]
  simp only [h1, out_ok, h2]
theorem sub_ok {f fo fi : FE} {ρ : Sl} {m m1 m2 m3 : M} {d : D} {n j : Nat} {k : Int} {xs : List D} (h1 : f ρ m = .ok d m1) (h2 : fo ρ m1 = .ok (.ref n) m2) (h3 : fi ρ m2 = .ok (.int k) m3) (h4 : m3[n]? = some (.lst xs)) (h5 : ixN xs.length k = some j) :
    sSub f fo fi ρ m = .nx ρ (m3.set n (.lst (xs.set j d))) := by
  unfold sSub
  simp only [h1, out_ok, h2, h3, h4, h5]
theorem ixN_nat {n k : Nat} (h : k < n) : ixN n (k : Int) = some k := by
  unfold ixN
  rw [if_pos (by omega), if_pos (by omega)]
  simp
theorem set_snoc (m : M) (o o' : O) : (m ++ [o]).set m.length o' = m ++ [o'] := by
  simp [List.set_append]
theorem at_snoc (m : M) (o : O) : (m ++ [o])[m.length]? = some o := by simp
end Dl

/-! PL5: tables of histories, plain. -/
namespace Dl
open PySem PyProof.Rows L2
abbrev Hist := List (Nat × Nat)
def num1 (h : Hist) (j : Nat) : Nat := (h.filter fun p => p.1 == j).length
def cnt (hs : Nat) (h : Hist) : List Nat := (List.range hs).map (num1 h)
def bmp (cs : List Nat) (j : Nat) : List Nat := cs.set j (cs.getD j 0 + 1)
def drp (cs : List Nat) (j : Nat) : List Nat := cs.set j (cs.getD j 0 - 1)
def stp (maps : List (List Nat)) (s : Nat × List Nat) (p : Nat × Nat) : Nat × List Nat := if 0 < s.2.getD p.1 0 then ((maps.getD p.2 []).getD s.1 0, s.2.set p.1 (s.2.getD p.1 0 - 1)) else s
def stF (maps : List (List Nat)) (s : Nat × List Nat) (h : Hist) : Nat × List Nat := h.foldl (stp maps) s
def brd (maps : List (List Nat)) (start : Nat) (h : Hist) (v : List Nat) : Nat := (stF maps (start, v) h).1
theorem cnt_len (hs : Nat) (h : Hist) : (cnt hs h).length = hs := by simp [cnt]
theorem cnt_at {hs j : Nat} (h : Hist) (hj : j < hs) : (cnt hs h)[j]? = some (num1 h j) := by simp [cnt, hj]
theorem num1_nil (j : Nat) : num1 [] j = 0 := rfl
theorem num1_cons (p : Nat × Nat) (h : Hist) (j : Nat) : num1 (p :: h) j = (if p.1 = j then 1 else 0) + num1 h j := by
  unfold num1
  by_cases e : p.1 = j
  · simp [e]; omega
  · simp [e]
theorem num1_app (a b : Hist) (j : Nat) : num1 (a ++ b) j = num1 a j + num1 b j := by simp [num1]
theorem num1_le (h : Hist) (j : Nat) : num1 h j ≤ h.length := List.length_filter_le _ _
theorem getD_set (v : List Nat) (i j x : Nat) : (v.set i x).getD j 0 = if i = j ∧ j < v.length then x else v.getD j 0 := by
  simp only [List.getD_eq_getElem?_getD, List.getElem?_set]
  by_cases e : i = j
  · subst e
    by_cases h : i < v.length
    · simp [h]
    · simp [h, List.getElem?_eq_none (Nat.le_of_not_lt h)]
  · simp [e]
theorem stF_cons (maps : List (List Nat)) (s : Nat × List Nat) (p : Nat × Nat) (h : Hist) : stF maps s (p :: h) = stF maps (stp maps s p) h := rfl
theorem stF_app (maps : List (List Nat)) (s : Nat × List Nat) (a b : Hist) : stF maps s (a ++ b) = stF maps (stF maps s a) b := List.foldl_append ..
theorem stp_len (maps : List (List Nat)) (s : Nat × List Nat) (p : Nat × Nat) : (stp maps s p).2.length = s.2.length := by
  unfold stp
  split <;> simp
theorem stF_left (maps : List (List Nat)) : ∀ (h : Hist) (s : Nat × List Nat) (j : Nat), (stF maps s h).2.getD j 0 = s.2.getD j 0 - num1 h j
  | [], s, j => by rw [num1_nil]; rfl
  | p :: h, s, j => by
    rw [stF_cons, stF_left maps h, num1_cons]
    unfold stp
    by_cases hp : 0 < s.2.getD p.1 0
    · rw [if_pos hp]
      simp only [getD_set]
      have hl : p.1 < s.2.length := by
        refine Decidable.byContradiction fun q => ?_
        rw [List.getD_eq_getElem?_getD, List.getElem?_eq_none (by omega)] at hp
        exact absurd hp (by simp)
      by_cases e : p.1 = j
      · subst e
        simp only [hl, and_self, if_true]
        omega
      · simp [e]
    · rw [if_neg hp]
      by_cases e : p.1 = j
      · subst e
        simp only [if_true]
        omega
      · simp [e]
/-- the boards are as one where the numbers differ above what is there -/
theorem brd_agree (maps : List (List Nat)) : ∀ (h : Hist) (b : Nat) (v w : List Nat), v.length = w.length → (∀ i, v.getD i 0 = w.getD i 0 ∨ (num1 h i ≤ v.getD i 0 ∧ num1 h i ≤ w.getD i 0)) → (stF maps (b, v) h).1 = (stF maps (b, w) h).1
  | [], b, v, w, _, _ => rfl
  | p :: h, b, v, w, hl, hh => by
    rw [stF_cons, stF_cons]
    have hp := hh p.1
    rw [num1_cons, if_pos rfl] at hp
    unfold stp
    by_cases hv : 0 < v.getD p.1 0
    · have hw : 0 < w.getD p.1 0 := by
        rcases hp with e | e
        · rw [← e]; exact hv
        · omega
      simp only [hv, hw, if_true]
      refine brd_agree maps h _ _ _ (by simp [hl]) fun i => ?_
      simp only [getD_set]
      have hi := hh i
      rw [num1_cons] at hi
      by_cases e : p.1 = i
      · subst e
        simp only [if_true] at hi
        by_cases hlt : p.1 < v.length
        · simp only [hlt, show p.1 < w.length by omega, and_self, if_true]
          omega
        · simp only [hlt, show ¬ p.1 < w.length by omega, and_false, if_false]
          omega
      · simp only [e, false_and, if_false] at hi ⊢
        simpa using hi
    · have hw : ¬ 0 < w.getD p.1 0 := by
        rcases hp with e | e
        · rw [← e]; exact hv
        · omega
      simp only [hv, hw, if_false]
      refine brd_agree maps h _ _ _ hl fun i => ?_
      have hi := hh i
      rw [num1_cons] at hi
      omega
theorem cnt_snoc {hs j : Nat} (h : Hist) (d : Nat) (hj : j < hs) : cnt hs (h ++ [(j, d)]) = bmp (cnt hs h) j := by
  refine List.ext_getElem? fun i => ?_
  unfold bmp
  rw [List.getElem?_set, cnt_len, List.getD_eq_getElem?_getD, cnt_at h hj]
  by_cases hi : i < hs
  · rw [cnt_at _ hi, num1_app, num1_cons, num1_nil]
    by_cases e : j = i
    · subst e
      simp [hj]
    · simp only [e, if_false]
      rw [cnt_at _ hi]
      rfl
  · rw [List.getElem?_eq_none (by rw [cnt_len]; omega)]
    have e : ¬ j = i := by omega
    simp only [e, if_false]
    rw [List.getElem?_eq_none (by rw [cnt_len]; omega)]
theorem cnt_gone {hs j : Nat} (a b : Hist) (d : Nat) (hj : j < hs) : cnt hs (a ++ b) = drp (cnt hs (a ++ (j, d) :: b)) j := by
  refine List.ext_getElem? fun i => ?_
  unfold drp
  rw [List.getElem?_set, cnt_len, List.getD_eq_getElem?_getD, cnt_at _ hj]
  by_cases hi : i < hs
  · rw [cnt_at _ hi, num1_app]
    by_cases e : j = i
    · subst e
      simp only [hj, if_true, num1_app, num1_cons, Option.getD_some]
      congr 1
      omega
    · simp only [e, if_false]
      rw [cnt_at _ hi, num1_app, num1_cons]
      simp [e]
  · rw [List.getElem?_eq_none (by rw [cnt_len]; omega)]
    have e : ¬ j = i := by omega
    simp only [e, if_false]
    rw [List.getElem?_eq_none (by rw [cnt_len]; omega)]
/-- the entries of a grown table -/
def grow (cs : List Nat) (j : Nat) (st : List Nat) (f : List Nat → Nat) (v : List Nat) : Nat := if v.getD j 0 < cs.getD j 0 + 1 then f v else st.getD (f (v.set j (v.getD j 0 - 1))) 0
theorem getD_some {l : List Nat} {i x : Nat} (h : l[i]? = some x) : l.getD i 0 = x := by rw [List.getD_eq_getElem?_getD, h]; rfl
theorem grow_brd {hs j d : Nat} {maps : List (List Nat)} {st : List Nat} {start : Nat} {h : Hist} {v : List Nat} (hj : j < hs) (hst : maps[d]? = some st) (hv : Within (bmp (cnt hs h) j) v) :
    grow (cnt hs h) j st (brd maps start h) v = brd maps start (h ++ [(j, d)]) v := by
  have hcj := getD_some (cnt_at h hj)
  have hvl : v.length = hs := by rw [hv.1]; simp [bmp, cnt_len]
  have hjv : j < v.length := by omega
  have hvj : v.getD j 0 ≤ num1 h j + 1 := by
    refine hv.2 j (num1 h j + 1) (v.getD j 0) ?_ ?_
    · unfold bmp
      rw [List.getElem?_set_self (by rw [cnt_len]; exact hj), hcj]
    · rw [List.getD_eq_getElem?_getD, List.getElem?_eq_getElem hjv]
      rfl
  unfold grow brd
  rw [stF_app, stF_cons, hcj]
  have hleft := stF_left maps h (start, v) j
  show _ = (stp maps (stF maps (start, v) h) (j, d)).1
  unfold stp
  by_cases hlt : v.getD j 0 < num1 h j + 1
  · rw [if_pos hlt, if_neg (by rw [hleft]; show ¬ 0 < v.getD j 0 - num1 h j; omega)]
  · rw [if_neg hlt, if_pos (by rw [hleft]; show 0 < v.getD j 0 - num1 h j; omega)]
    have e1 : maps.getD d [] = st := by rw [List.getD_eq_getElem?_getD, hst]; rfl
    rw [e1]
    congr 1
    refine brd_agree maps h start _ _ (by simp) fun i => ?_
    simp only [getD_set]
    by_cases e : j = i
    · subst e
      simp only [hjv, and_self, if_true]
      omega
    · simp [e]
theorem brd_gone {hs j d : Nat} {maps : List (List Nat)} {start : Nat} {a b : Hist} {v : List Nat} (hv : v.getD j 0 ≤ num1 a j) : brd maps start (a ++ (j, d) :: b) v = brd maps start (a ++ b) v := by
  unfold brd
  rw [stF_app, stF_app, stF_cons]
  have hleft := stF_left maps a (start, v) j
  congr 2
  unfold stp
  rw [if_neg (by rw [hleft]; show ¬ 0 < v.getD j 0 - num1 a j; omega)]
theorem brd_lt {b : Nat} {maps : List (List Nat)} (hm : ∀ f ∈ maps, f.length = b) (he : ∀ f ∈ maps, ∀ x ∈ f, x < b) : ∀ (h : Hist) (s : Nat × List Nat), (∀ p ∈ h, p.2 < maps.length) → s.1 < b → (stF maps s h).1 < b
  | [], s, _, hs => hs
  | p :: h, s, hd, hs => by
    rw [stF_cons]
    refine brd_lt hm he h _ (fun q hq => hd q (List.mem_cons_of_mem _ hq)) ?_
    unfold stp
    split
    · have hp := hd p List.mem_cons_self
      have e1 : maps.getD p.2 [] = maps[p.2] := by rw [List.getD_eq_getElem?_getD, List.getElem?_eq_getElem hp]; rfl
      have hf : maps[p.2] ∈ maps := List.getElem_mem hp
      have hl := hm _ hf
      simp only [e1]
      rw [List.getD_eq_getElem?_getD, List.getElem?_eq_getElem (by omega)]
      exact he _ hf _ (List.getElem_mem _)
    · exact hs
theorem prd_le {cs : List Nat} (h4 : cs.length ≤ 4) (h : ∀ n ∈ cs, n ≤ 12) : prd cs ≤ 30000 := by
  have key : ∀ cs : List Nat, (∀ n ∈ cs, n ≤ 12) → prd cs ≤ 13 ^ cs.length := by
    intro cs
    induction cs with
    | nil => intro _; exact Nat.le_refl _
    | cons n r ih =>
      intro h
      have h1 := ih fun x hx => h x (List.mem_cons_of_mem _ hx)
      have h2 := h n List.mem_cons_self
      have e : prd (n :: r) = (n + 1) * prd r := by unfold prd; simp
      rw [e, List.length_cons, Nat.pow_succ, Nat.mul_comm (13 ^ r.length)]
      exact Nat.mul_le_mul (by omega) h1
  have h1 := key cs h
  have h2 : 13 ^ cs.length ≤ 13 ^ 4 := Nat.pow_le_pow_right (by decide) h4
  omega
theorem cnt_le {hs : Nat} {h : Hist} {k : Nat} (hl : h.length ≤ k) : ∀ n ∈ cnt hs h, n ≤ k := by
  intro n hn
  unfold cnt at hn
  obtain ⟨j, _, rfl⟩ := List.mem_map.mp hn
  exact Nat.le_trans (num1_le h j) hl
end Dl

/-! PL6: what is to hold behind: runs by their posts. -/
namespace Dl
open PySem PyProof.Rows L2
def RW {α : Type} (r : Res α) (Q : α → M → Prop) : Prop := match r with
  | .ok a m => Q a m
  | _ => False
structure Pst where
  nx : Sl → M → Prop
  rt : D → M → Prop
  bk : Sl → M → Prop
  ct : Sl → M → Prop
def OW (o : Out) (E : Pst) : Prop := match o with
  | .nx ρ m => E.nx ρ m
  | .rt d m => E.rt d m
  | .bk ρ m => E.bk ρ m
  | .ct ρ m => E.ct ρ m
  | _ => False
def thenP (h : FS) (E : Pst) : Pst := ⟨fun ρ m => OW (h ρ m) E, E.rt, E.bk, E.ct⟩
def endP (Q : D → M → Prop) : Pst := ⟨fun _ m => Q .non m, Q, fun _ _ => False, fun _ _ => False⟩
def loopP (I : Sl → M → Prop) (E : Pst) : Pst := ⟨I, E.rt, E.nx, I⟩
@[simp] theorem RW_ok {α : Type} (a : α) (m : M) (Q : α → M → Prop) : RW (.ok a m) Q = Q a m := nrfl rfl
@[simp] theorem RW_bind {α γ : Type} (r : Res α) (k : α → M → Res γ) (Q : γ → M → Prop) : RW (r.bind k) Q = RW r fun a m => RW (k a m) Q := by cases r <;> rfl
@[simp] theorem RW_ite {α : Type} (c : Prop) [Decidable c] (a b : Res α) (Q : α → M → Prop) : RW (if c then a else b) Q = if c then RW a Q else RW b Q := by split <;> rfl
@[simp] theorem RW_asB (r : Res D) (Q : Bool → M → Prop) : RW (asB r) Q = RW r fun d m => match d with
  | .bl b => Q b m
  | _ => False := by
  unfold asB
  rw [RW_bind]
  congr 1
  funext d m
  cases d <;> rfl
@[simp] theorem RW_gcR (L : Nat) (r : Res D) (Q : D → M → Prop) : RW (gcR L r) Q = RW r fun d m => Q (gc L d m).1 (gc L d m).2 := by cases r <;> rfl
@[simp] theorem RW_gcB (L : Nat) (r : Res Bool) (Q : Bool → M → Prop) : RW (gcB L r) Q = RW r fun b m => Q b (gc L .non m).2 := by cases r <;> rfl
@[simp] theorem OW_nx (ρ : Sl) (m : M) (E : Pst) : OW (.nx ρ m) E = E.nx ρ m := nrfl rfl
@[simp] theorem OW_rt (d : D) (m : M) (E : Pst) : OW (.rt d m) E = E.rt d m := nrfl rfl
@[simp] theorem OW_bk (ρ : Sl) (m : M) (E : Pst) : OW (.bk ρ m) E = E.bk ρ m := nrfl rfl
@[simp] theorem OW_ct (ρ : Sl) (m : M) (E : Pst) : OW (.ct ρ m) E = E.ct ρ m := nrfl rfl
@[simp] theorem OW_out {α : Type} (r : Res α) (ρ : Sl) (k : α → M → Out) (E : Pst) : OW (r.out ρ k) E = RW r fun a m => OW (k a m) E := by cases r <;> rfl
@[simp] theorem OW_seqK (o : Out) (h : FS) (E : Pst) : OW (seqK o h) E = OW o (thenP h E) := by cases o <;> rfl
@[simp] theorem OW_ite (c : Prop) [Decidable c] (a b : Out) (E : Pst) : OW (if c then a else b) E = if c then OW a E else OW b E := by split <;> rfl
@[simp] theorem thenP_nx (h : FS) (E : Pst) (ρ : Sl) (m : M) : (thenP h E).nx ρ m = OW (h ρ m) E := nrfl rfl
@[simp] theorem thenP_rt (h : FS) (E : Pst) : (thenP h E).rt = E.rt := nrfl rfl
@[simp] theorem thenP_bk (h : FS) (E : Pst) : (thenP h E).bk = E.bk := nrfl rfl
@[simp] theorem thenP_ct (h : FS) (E : Pst) : (thenP h E).ct = E.ct := nrfl rfl
@[simp] theorem endP_nx (Q : D → M → Prop) (ρ : Sl) (m : M) : (endP Q).nx ρ m = Q .non m := nrfl rfl
@[simp] theorem endP_rt (Q : D → M → Prop) : (endP Q).rt = Q := nrfl rfl
@[simp] theorem loopP_nx (I : Sl → M → Prop) (E : Pst) (ρ : Sl) (m : M) : (loopP I E).nx ρ m = I ρ m := nrfl rfl
@[simp] theorem loopP_ct (I : Sl → M → Prop) (E : Pst) (ρ : Sl) (m : M) : (loopP I E).ct ρ m = I ρ m := nrfl rfl
@[simp] theorem loopP_bk (I : Sl → M → Prop) (E : Pst) : (loopP I E).bk = E.nx := nrfl rfl
@[simp] theorem loopP_rt (I : Sl → M → Prop) (E : Pst) : (loopP I E).rt = E.rt := nrfl rfl
theorem RW.eq {α : Type} {r : Res α} {a : α} {m : M} (h : RW r fun b m' => b = a ∧ m' = m) : r = .ok a m := by
  cases r with
  | ok b m' => obtain ⟨rfl, rfl⟩ := h; rfl
  | exc _ _ => exact h.elim
  | bad => exact h.elim
theorem RW.get {α : Type} {r : Res α} {Q : α → M → Prop} (h : RW r Q) : ∃ a m, r = .ok a m ∧ Q a m := by
  cases r with
  | ok a m => exact ⟨a, m, rfl, h⟩
  | exc _ _ => exact h.elim
  | bad => exact h.elim
theorem RW.of {α : Type} {r : Res α} {Q : α → M → Prop} {a : α} {m : M} (e : r = .ok a m) (h : Q a m) : RW r Q := by rw [e]; exact h
theorem RW.imp {α : Type} {r : Res α} {Q R : α → M → Prop} (h : RW r Q) (i : ∀ a m, Q a m → R a m) : RW r R := by
  cases r with
  | ok a m => exact i a m h
  | exc _ _ => exact h.elim
  | bad => exact h.elim
theorem OW.imp {o : Out} {E F : Pst} (h : OW o E) (h1 : ∀ ρ m, E.nx ρ m → F.nx ρ m) (h2 : ∀ d m, E.rt d m → F.rt d m) (h3 : ∀ ρ m, E.bk ρ m → F.bk ρ m) (h4 : ∀ ρ m, E.ct ρ m → F.ct ρ m) : OW o F := by
  cases o with
  | nx ρ m => exact h1 _ _ h
  | rt d m => exact h2 _ _ h
  | bk ρ m => exact h3 _ _ h
  | ct ρ m => exact h4 _ _ h
  | exc _ _ _ => exact h.elim
  | bad => exact h.elim
theorem run_w {N np : Nat} {g : FS} {ds : List D} {m : M} {Q : D → M → Prop} (hl : ds.length = np) (h : OW (g (startD N ds) m) (endP fun d m' => Q (gc m.length d m').1 (gc m.length d m').2)) : RW (runF N np g ds m) Q := by
  unfold runF
  rw [if_pos hl]
  cases e : g (startD N ds) m with
  | nx ρ m' => rw [e] at h; exact h
  | rt d m' => rw [e] at h; exact h
  | bk ρ m' => rw [e] at h; exact h.elim
  | ct ρ m' => rw [e] at h; exact h.elim
  | exc _ _ _ => rw [e] at h; exact h.elim
  | bad => rw [e] at h; exact h.elim
theorem gc_len {L : Nat} {d : D} {m : M} (h : m.length = L) : gc L d m = (d, m) := by subst h; exact gc_same d m
theorem gc_j {L : Nat} {m j : M} {d : D} (hl : m.length = L) (h : Wf m) (hd : d.blw L = true) : gc L d (m ++ j) = (d, m) := by subst hl; exact gc_junk h hd
theorem gc_n {L : Nat} {m j : M} {n : Nat} {o : O} (hl : m.length = L) (h : Wf m) (hn : L ≤ n) (ho : (m ++ j)[n]? = some o) (hb : o.blw L = true) : gc L (.ref n) (m ++ j) = (.ref L, m ++ [o]) := by
  subst hl
  unfold gc
  rw [if_pos (lowM_app h), if_neg (by simp only [D.blw, decide_eq_true_eq]; omega)]
  simp only [ho, hb, if_true]
  rw [List.take_append_of_le_length (Nat.le_refl _), List.take_length]

/-! ### slots that change -/
def upd : Sl → List Nat → List (Option D) → Sl
  | ρ, i :: S, v :: vs => upd (ρ.set i v) S vs
  | ρ, _, _ => ρ
@[simp] theorem upd_cons (ρ : Sl) (i : Nat) (S : List Nat) (v : Option D) (vs : List (Option D)) : upd ρ (i :: S) (v :: vs) = upd (ρ.set i v) S vs := nrfl rfl
@[simp] theorem upd_nil (ρ : Sl) (vs : List (Option D)) : upd ρ [] vs = ρ := by cases vs <;> rfl
@[simp] theorem upd_nil' (ρ : Sl) (S : List Nat) : upd ρ S [] = ρ := by cases S <;> rfl
def slots (ρ : Sl) (S : List Nat) : List (Option D) := S.map fun i => ρ.getD i none
@[simp] theorem slots_nil (ρ : Sl) : slots ρ [] = [] := nrfl rfl
@[simp] theorem slots_cons (ρ : Sl) (i : Nat) (S : List Nat) : slots ρ (i :: S) = ρ.getD i none :: slots ρ S := nrfl rfl
theorem set_getD (ρ : Sl) (i : Nat) : ρ.set i (ρ.getD i none) = ρ := by
  refine List.ext_getElem? fun j => ?_
  rw [List.getElem?_set]
  split
  · rename_i e
    subst e
    split
    · rename_i h
      rw [List.getD_eq_getElem?_getD, List.getElem?_eq_getElem h]
      rfl
    · rename_i h
      rw [List.getElem?_eq_none (by omega)]
  · rfl
theorem upd_same : ∀ (S : List Nat) (ρ : Sl), upd ρ S (slots ρ S) = ρ
  | [], ρ => by simp
  | i :: S, ρ => by rw [slots_cons, upd_cons, set_getD, upd_same S ρ]
def bodyAt (gt : GT) (body : FS) (d : D) (ρ : Sl) (m : M) : Out := match gt d ρ with
  | some ρ' => body ρ' m
  | none => .bad
@[simp] theorem bodyAt_n (i : Nat) (body : FS) (d : D) (ρ : Sl) (m : M) : bodyAt (gN i) body d ρ m = body (ρ.set i (some d)) m := nrfl rfl
theorem bodyAt_some {gt : GT} {body : FS} {d : D} {ρ ρ' : Sl} {m : M} (h : gt d ρ = some ρ') : bodyAt gt body d ρ m = body ρ' m := by unfold bodyAt; rw [h]
@[simp] theorem bodyAt_t2 (i j : Nat) (body : FS) (d e : D) (ρ : Sl) (m : M) : bodyAt (gT 2 (gCons' (gN i) (gCons' (gN j) gNil'))) body (.tup [d, e]) ρ m = body ((ρ.set i (some d)).set j (some e)) m := nrfl rfl
/-- what gives the same items whatever the memory -/
structure SrcC (src : Src) (xs : List D) : Prop where
  n : src.n = xs.length
  get : ∀ m i, i < xs.length → src.get m i = xs[i]?
  fin : ∀ m, src.fin m = true
theorem cT (xs : List D) : SrcC (srcT xs) xs := ⟨rfl, fun _ _ _ => rfl, fun _ => rfl⟩
theorem cR (k : Nat) : SrcC (srcR 0 k) ((List.range k).map iD) := ⟨(isR k []).n, fun m => (isR k m).get, fun m => (isR k m).fin⟩
theorem cTE (xs : List D) : SrcC (srcTE xs) (xs.zipIdx.map fun p => .tup [.int (p.2 : Nat), p.1]) := ⟨(isTE xs []).n, fun m => (isTE xs m).get, fun m => (isTE xs m).fin⟩
theorem cZ (xs ys : List D) : SrcC (srcZ xs ys) ((xs.zip ys).map fun p => .tup [p.1, p.2]) := ⟨(isZ xs ys []).n, fun m => (isZ xs ys m).get, fun m => (isZ xs ys m).fin⟩
theorem for_g {src : Src} {gt : GT} {body : FS} {ρ : Sl} {E : Pst} {α : Type} (l : List α) (f : α → D) (S : List Nat) (I : List α → List (Option D) → M → Prop)
    (hget : ∀ pre a post vs m, l = pre ++ a :: post → I pre vs m → src.get m pre.length = some (f a))
    (hb : ∀ pre a post vs m, l = pre ++ a :: post → I pre vs m → OW (bodyAt gt body (f a) (upd ρ S vs) m) (loopP (fun ρ2 m2 => ∃ vs', ρ2 = upd ρ S vs' ∧ I (pre ++ [a]) vs' m2) E))
    (he : ∀ vs m, I l vs m → src.fin m = true ∧ E.nx (upd ρ S vs) m) : ∀ (post pre : List α) (vs : List (Option D)) (m : M) (k : Nat), l = pre ++ post → k = post.length → I pre vs m → OW (forL src gt body k pre.length (upd ρ S vs) m) E
  | [], pre, vs, m, k, hl, hk, h => by
    subst hk
    have : pre = l := by rw [hl, List.append_nil]
    subst this
    unfold forL
    obtain ⟨h1, h2⟩ := he vs m h
    rw [List.length_nil]
    simp only [h1, if_true]
    exact h2
  | a :: post, pre, vs, m, k, hl, hk, h => by
    subst hk
    have h1 := hget pre a post vs m hl h
    have h2 := hb pre a post vs m hl h
    rw [List.length_cons]
    unfold forL
    simp only [h1]
    unfold bodyAt at h2
    cases hg : gt (f a) (upd ρ S vs) with
    | none => rw [hg] at h2; exact h2.elim
    | some ρ' =>
      rw [hg] at h2
      simp only at h2 ⊢
      have go : ∀ ρ2 m2, (∃ vs', ρ2 = upd ρ S vs' ∧ I (pre ++ [a]) vs' m2) → OW (forL src gt body post.length (pre.length + 1) ρ2 m2) E := by
        rintro ρ2 m2 ⟨vs', rfl, h3⟩
        have := for_g l f S I hget hb he post (pre ++ [a]) vs' m2 post.length (by rw [hl]; simp) rfl h3
        rw [List.length_append, List.length_singleton] at this
        exact this
      cases hbd : body ρ' m with
      | nx ρ2 m2 => rw [hbd] at h2; exact go _ _ h2
      | ct ρ2 m2 => rw [hbd] at h2; exact go _ _ h2
      | bk ρ2 m2 => rw [hbd] at h2; exact h2
      | rt d m2 => rw [hbd] at h2; exact h2
      | exc _ _ _ => rw [hbd] at h2; exact h2
      | bad => rw [hbd] at h2; exact h2
/-- a loop over what does not change -/
theorem for_c {src : Src} {gt : GT} {body : FS} {ρ : Sl} {m : M} {E : Pst} {k : Nat} {α : Type} (l : List α) (f : α → D) (hs : SrcC src (l.map f)) (hk : k = l.length) (S : List Nat) (I : List α → List (Option D) → M → Prop)
    (h0 : I [] (slots ρ S) m)
    (hb : ∀ pre a post vs m, l = pre ++ a :: post → I pre vs m → OW (bodyAt gt body (f a) (upd ρ S vs) m) (loopP (fun ρ2 m2 => ∃ vs', ρ2 = upd ρ S vs' ∧ I (pre ++ [a]) vs' m2) E))
    (he : ∀ vs m, I l vs m → E.nx (upd ρ S vs) m) : OW (forL src gt body k 0 ρ m) E := by
  have := for_g (src := src) (gt := gt) (body := body) (ρ := ρ) (E := E) l f S I (fun pre a post vs m hl _ => by rw [hs.get m pre.length (by rw [hl]; simp), hl]; simp) hb (fun vs m h => ⟨hs.fin m, he vs m h⟩) l [] (slots ρ S) m k rfl hk h0
  rw [upd_same] at this
  exact this
/-- a loop over a list, which stands -/
theorem for_l {n : Nat} {gt : GT} {body : FS} {ρ : Sl} {m : M} {E : Pst} {k k' : Nat} {α : Type} (l : List α) (f : α → D) (hk : k = l.length) (hk' : k' = l.length) (S : List Nat) (I : List α → List (Option D) → M → Prop)
    (h0 : I [] (slots ρ S) m) (hm : ∀ pre vs m, I pre vs m → m[n]? = some (.lst (l.map f)))
    (hb : ∀ pre a post vs m, l = pre ++ a :: post → I pre vs m → OW (bodyAt gt body (f a) (upd ρ S vs) m) (loopP (fun ρ2 m2 => ∃ vs', ρ2 = upd ρ S vs' ∧ I (pre ++ [a]) vs' m2) E))
    (he : ∀ vs m, I l vs m → E.nx (upd ρ S vs) m) : OW (forL (srcL n k') gt body k 0 ρ m) E := by
  have := for_g (src := srcL n k') (gt := gt) (body := body) (ρ := ρ) (E := E) l f S I (fun pre a post vs m hl h => by
    have := (isL (hm pre vs m h) (k := k') (by rw [hk']; simp)).get pre.length (by rw [hl]; simp)
    rw [this, hl]
    simp) hb (fun vs m h => ⟨(isL (hm _ vs m h) (k := k') (by rw [hk']; simp)).fin, he vs m h⟩) l [] (slots ρ S) m k rfl hk h0
  rw [upd_same] at this
  exact this
theorem for_le {n : Nat} {gt : GT} {body : FS} {ρ : Sl} {m : M} {E : Pst} {k k' : Nat} (l : List D) (hk : k = l.length) (hk' : k' = l.length) (S : List Nat) (I : List (D × Nat) → List (Option D) → M → Prop)
    (h0 : I [] (slots ρ S) m) (hm : ∀ pre vs m, I pre vs m → m[n]? = some (.lst l))
    (hb : ∀ pre a post vs m, l.zipIdx = pre ++ a :: post → I pre vs m → OW (bodyAt gt body (.tup [.int (a.2 : Nat), a.1]) (upd ρ S vs) m) (loopP (fun ρ2 m2 => ∃ vs', ρ2 = upd ρ S vs' ∧ I (pre ++ [a]) vs' m2) E))
    (he : ∀ vs m, I l.zipIdx vs m → E.nx (upd ρ S vs) m) : OW (forL (srcLE n k') gt body k 0 ρ m) E := by
  have := for_g (src := srcLE n k') (gt := gt) (body := body) (ρ := ρ) (E := E) l.zipIdx (fun a => .tup [.int (a.2 : Nat), a.1]) S I (fun pre a post vs m hl h => by
    have := (isLE (hm pre vs m h) (k := k') hk').get pre.length (by rw [List.length_map, hl]; simp)
    rw [this, hl]
    simp) hb (fun vs m h => ⟨(isLE (hm _ vs m h) (k := k') hk').fin, he vs m h⟩) l.zipIdx [] (slots ρ S) m k rfl (by simpa using hk) h0
  rw [upd_same] at this
  exact this
/-- a loop by a measure -/
theorem while_g {t : FT} {body : FS} {ρ : Sl} {E : Pst} (S : List Nat) (I : Nat → List (Option D) → M → Prop)
    (hb : ∀ k vs m, I k vs m → RW (t (upd ρ S vs) m) fun b m1 => if b = true then OW (body (upd ρ S vs) m1) (loopP (fun ρ2 m2 => ∃ k' vs', k' < k ∧ ρ2 = upd ρ S vs' ∧ I k' vs' m2) E) else E.nx (upd ρ S vs) m1) :
    ∀ (fu k : Nat) (vs : List (Option D)) (m : M), k < fu → I k vs m → OW (whileL t body fu (upd ρ S vs) m) E
  | 0, k, vs, m, hk, _ => absurd hk (by omega)
  | fu + 1, k, vs, m, hk, h => by
    obtain ⟨b, m1, e, h1⟩ := (hb k vs m h).get
    unfold whileL
    rw [e]
    show OW (if b = true then _ else _) E
    cases b with
    | false => simpa using h1
    | true =>
      simp only [if_true] at h1 ⊢
      have go : ∀ ρ2 m2, (∃ k' vs', k' < k ∧ ρ2 = upd ρ S vs' ∧ I k' vs' m2) → OW (whileL t body fu ρ2 m2) E := by
        rintro ρ2 m2 ⟨k', vs', h2, rfl, h3⟩
        exact while_g S I hb fu k' vs' m2 (by omega) h3
      cases hbd : body (upd ρ S vs) m1 with
      | nx ρ2 m2 => rw [hbd] at h1; exact go _ _ h1
      | ct ρ2 m2 => rw [hbd] at h1; exact go _ _ h1
      | bk ρ2 m2 => rw [hbd] at h1; exact h1
      | rt d m2 => rw [hbd] at h1; exact h1
      | exc _ _ _ => rw [hbd] at h1; exact h1
      | bad => rw [hbd] at h1; exact h1
theorem while_w {t : FT} {body : FS} {ρ : Sl} {m : M} {E : Pst} (S : List Nat) (k : Nat) (I : Nat → List (Option D) → M → Prop) (hk : k < 1000000) (h0 : I k (slots ρ S) m)
    (hb : ∀ k vs m, I k vs m → RW (t (upd ρ S vs) m) fun b m1 => if b = true then OW (body (upd ρ S vs) m1) (loopP (fun ρ2 m2 => ∃ k' vs', k' < k ∧ ρ2 = upd ρ S vs' ∧ I k' vs' m2) E) else E.nx (upd ρ S vs) m1) : OW (sWhile t body ρ m) E := by
  have := while_g S I hb FUEL k (slots ρ S) m hk h0
  rw [upd_same] at this
  exact this
/-! ### comprehensions by typed rows -/
theorem fLc_t {α : Type} {fi : FI} {gt : GT} {vs : List Nat} {t : FT} {e : FE} {ρ : Sl} {m : M} {src : Src} (l : List α) (f : α → D) (p : α → Bool) (G : α → D) (h1 : fi ρ m = .ok src m) (hs : SrcIs src (l.map f) m) (hl : l.length ≤ LIM)
    (hx : ∀ a ∈ l, ∃ ρ', gt (f a) (wipeD ρ vs) = some ρ' ∧ t ρ' m = .ok (p a) m ∧ (p a = true → e ρ' m = .ok (G a) m)) : fLc fi gt vs t e ρ m = .ok ((l.filter p).map G) m := by
  have go : ∀ (post pre : List α) (acc : List D), l = pre ++ post → acc.length + post.length ≤ LIM → lcL src gt (wipeD ρ vs) t e post.length pre.length acc m = .ok (acc ++ (post.filter p).map G) m := by
    intro post
    induction post with
    | nil => intro pre acc hl _; unfold lcL; simp [hs.fin]
    | cons a post ih =>
      intro pre acc hl hlen
      rw [List.length_cons] at hlen ⊢
      obtain ⟨ρ', h2, h3, h4⟩ := hx a (by rw [hl]; simp)
      rw [stepL (d := f a) (by rw [hs.get pre.length (by rw [hl]; simp), hl]; simp) h2, h3]
      have hnext := ih (pre ++ [a])
      rw [List.length_append, List.length_singleton] at hnext
      by_cases hp : p a = true
      · rw [hp]
        simp only [h4 hp, if_pos (show acc.length < LIM by omega)]
        rw [hnext _ (by rw [hl]; simp) (by rw [List.length_append, List.length_singleton]; omega), List.filter_cons_of_pos hp]
        simp
      · simp only [show p a = false by simpa using hp]
        rw [hnext _ (by rw [hl]; simp) (by omega), List.filter_cons_of_neg hp]
  unfold fLc
  rw [h1]
  simp only [bind_ok]
  rw [show src.n = l.length by rw [hs.n]; simp]
  have := go l [] [] rfl (by simpa using hl)
  simpa using this
theorem fLc_y {α : Type} {fi : FI} {gt : GT} {vs : List Nat} {e : FE} {ρ : Sl} {m : M} {src : Src} (l : List α) (f : α → D) (G : α → D) (h1 : fi ρ m = .ok src m) (hs : SrcIs src (l.map f) m) (hl : l.length ≤ LIM)
    (hx : ∀ a ∈ l, ∃ ρ', gt (f a) (wipeD ρ vs) = some ρ' ∧ e ρ' m = .ok (G a) m) : fLc fi gt vs fYes e ρ m = .ok (l.map G) m := by
  rw [fLc_t l f (fun _ => true) G h1 hs hl fun a ha => ?_]
  · rw [List.filter_eq_self.mpr (fun _ _ => rfl)]
  · obtain ⟨ρ', h2, h3⟩ := hx a ha
    exact ⟨ρ', h2, rfl, fun _ => h3⟩
/-- a comprehension that changes the memory -/
theorem lc_w {α : Type} {fi : FI} {gt : GT} {vs : List Nat} {t : FT} {e : FE} {ρ : Sl} {m : M} {src : Src} {Q : List D → M → Prop} (l : List α) (f : α → D) (I : List α → List D → M → Prop) (h1 : fi ρ m = .ok src m) (hs : SrcC src (l.map f)) (h0 : I [] [] m)
    (hb : ∀ pre a post acc m, l = pre ++ a :: post → I pre acc m → acc.length < LIM ∧ ∃ ρ', gt (f a) (wipeD ρ vs) = some ρ' ∧ RW (t ρ' m) fun b m1 => if b = true then RW (e ρ' m1) fun y m2 => I (pre ++ [a]) (acc ++ [y]) m2 else I (pre ++ [a]) acc m1)
    (he : ∀ acc m, I l acc m → Q acc m) : RW (fLc fi gt vs t e ρ m) Q := by
  have go : ∀ (post pre : List α) (acc : List D) (m : M), l = pre ++ post → I pre acc m → RW (lcL src gt (wipeD ρ vs) t e post.length pre.length acc m) Q := by
    intro post
    induction post with
    | nil =>
      intro pre acc m hl h
      have : pre = l := by rw [hl, List.append_nil]
      subst this
      unfold lcL
      simpa [hs.fin] using he acc m h
    | cons a post ih =>
      intro pre acc m hl h
      obtain ⟨hlen, ρ', h2, h3⟩ := hb pre a post acc m hl h
      rw [List.length_cons, stepL (d := f a) (by rw [hs.get m pre.length (by rw [hl]; simp), hl]; simp) h2]
      have hnext := ih (pre ++ [a])
      rw [List.length_append, List.length_singleton] at hnext
      obtain ⟨b, m1, e1, h4⟩ := h3.get
      rw [e1]
      cases b with
      | false => exact hnext acc m1 (by rw [hl]; simp) (by simpa using h4)
      | true =>
        simp only [if_true] at h4
        obtain ⟨y, m2, e2, h5⟩ := h4.get
        simp only [e2, if_pos hlen]
        exact hnext _ m2 (by rw [hl]; simp) h5
  unfold fLc
  rw [h1]
  simp only [bind_ok]
  rw [show src.n = l.length by rw [hs.n]; simp]
  exact go l [] [] m rfl h0
end Dl

/-! PL7: equality, being in, dicts, plain. -/
namespace Dl
open PySem PyProof.Rows L2
mutual
/-- numbers, texts, None, rows of such -/
def bareP : PyData → Bool
  | .none => true
  | .int _ => true
  | .str _ => true
  | .list xs => barePs xs
  | .tuple xs => barePs xs
  | .bool _ => false
  | .dict _ => false
def barePs : List PyData → Bool
  | [] => true
  | x :: r => bareP x && barePs r
end
mutual
theorem eqv_bare : ∀ {p q : PyData}, bareP p = true → bareP q = true → (PyData.eqv p q = true ↔ p = q)
  | .none, .none, _, _ => by simp [PyData.eqv]
  | .int a, .int b, _, _ => by simp [PyData.eqv]
  | .str a, .str b, _, _ => by simp [PyData.eqv]
  | .list a, .list b, h, g => by
    simp only [bareP] at h g
    simp only [PyData.eqv, PyData.list.injEq]
    exact eqvs_bare h g
  | .tuple a, .tuple b, h, g => by
    simp only [bareP] at h g
    simp only [PyData.eqv, PyData.tuple.injEq]
    exact eqvs_bare h g
  | .none, .int _, _, _ => by simp [PyData.eqv]
  | .none, .str _, _, _ => by simp [PyData.eqv]
  | .none, .list _, _, _ => by simp [PyData.eqv]
  | .none, .tuple _, _, _ => by simp [PyData.eqv]
  | .int _, .none, _, _ => by simp [PyData.eqv]
  | .int _, .str _, _, _ => by simp [PyData.eqv]
  | .int _, .list _, _, _ => by simp [PyData.eqv]
  | .int _, .tuple _, _, _ => by simp [PyData.eqv]
  | .str _, .none, _, _ => by simp [PyData.eqv]
  | .str _, .int _, _, _ => by simp [PyData.eqv]
  | .str _, .list _, _, _ => by simp [PyData.eqv]
  | .str _, .tuple _, _, _ => by simp [PyData.eqv]
  | .list _, .none, _, _ => by simp [PyData.eqv]
  | .list _, .int _, _, _ => by simp [PyData.eqv]
  | .list _, .str _, _, _ => by simp [PyData.eqv]
  | .list _, .tuple _, _, _ => by simp [PyData.eqv]
  | .tuple _, .none, _, _ => by simp [PyData.eqv]
  | .tuple _, .int _, _, _ => by simp [PyData.eqv]
  | .tuple _, .str _, _, _ => by simp [PyData.eqv]
  | .tuple _, .list _, _, _ => by simp [PyData.eqv]
  | .bool _, _, h, _ => by simp [bareP] at h
  | .dict _, _, h, _ => by simp [bareP] at h
  | .none, .bool _, _, h => by simp [bareP] at h
  | .int _, .bool _, _, h => by simp [bareP] at h
  | .str _, .bool _, _, h => by simp [bareP] at h
  | .list _, .bool _, _, h => by simp [bareP] at h
  | .tuple _, .bool _, _, h => by simp [bareP] at h
  | .none, .dict _, _, h => by simp [bareP] at h
  | .int _, .dict _, _, h => by simp [bareP] at h
  | .str _, .dict _, _, h => by simp [bareP] at h
  | .list _, .dict _, _, h => by simp [bareP] at h
  | .tuple _, .dict _, _, h => by simp [bareP] at h
theorem eqvs_bare : ∀ {p q : List PyData}, barePs p = true → barePs q = true → (PyData.eqvAll p q = true ↔ p = q)
  | [], [], _, _ => by simp [PyData.eqvAll]
  | [], _ :: _, _, _ => by simp [PyData.eqvAll]
  | _ :: _, [], _, _ => by simp [PyData.eqvAll]
  | a :: r, b :: s, h, g => by
    simp only [barePs, Bool.and_eq_true] at h g
    simp only [PyData.eqvAll, Bool.and_eq_true, List.cons.injEq]
    rw [eqv_bare h.1 g.1, eqvs_bare h.2 g.2]
end
mutual
theorem plain_bare : ∀ {p : PyData}, bareP p = true → p.plain = true
  | .none, _ => rfl
  | .int _, _ => rfl
  | .str _, _ => rfl
  | .list xs, h => by simp only [bareP] at h; simp only [PyData.plain]; exact plains_bare h
  | .tuple xs, h => by simp only [bareP] at h; simp only [PyData.plain]; exact plains_bare h
  | .bool _, h => by simp [bareP] at h
  | .dict _, h => by simp [bareP] at h
theorem plains_bare : ∀ {p : List PyData}, barePs p = true → PyData.plainAll p = true
  | [], _ => rfl
  | a :: r, h => by
    simp only [barePs, Bool.and_eq_true] at h
    simp only [PyData.plainAll, plain_bare h.1, plains_bare h.2, Bool.and_self]
end
/-- d stands for p at m, which is bare and not deep -/
structure Ps (k : Nat) (m : M) (d : D) (p : PyData) (n : Nat) : Prop where
  e : pdM k m d = some p
  b : bareP p = true
  d : p.depth ≤ n
structure Pss (k : Nat) (m : M) (ds : List D) (ps : List PyData) (n : Nat) : Prop where
  e : pdM.allS (ds.map (pdM k m)) = some ps
  b : barePs ps = true
  d : PyData.depthAll ps ≤ n
theorem ps_int (k : Nat) (m : M) (i : Int) : Ps k m (.int i) (.int i) 0 := ⟨by cases k <;> rfl, rfl, Nat.le_refl _⟩
theorem ps_str (k : Nat) (m : M) (x : Str) : Ps k m (.str x) (.str x) 0 := ⟨by cases k <;> rfl, rfl, Nat.le_refl _⟩
theorem ps_non (k : Nat) (m : M) : Ps k m .non .none 0 := ⟨by cases k <;> rfl, rfl, Nat.le_refl _⟩
theorem pss_nil (k : Nat) (m : M) : Pss k m [] [] 0 := ⟨rfl, rfl, Nat.le_refl _⟩
theorem pss_cons {k : Nat} {m : M} {d : D} {p : PyData} {ds : List D} {ps : List PyData} {n : Nat} (h : Ps k m d p n) (t : Pss k m ds ps n) : Pss k m (d :: ds) (p :: ps) n := by
  refine ⟨?_, ?_, ?_⟩
  · rw [List.map_cons, h.e]
    simp only [pdM.allS, t.e, Option.map_some]
  · simp only [barePs, h.b, t.b, Bool.and_self]
  · simp only [PyData.depthAll]
    have := h.d
    have := t.d
    omega
theorem pss_map {α : Type} {k : Nat} {m : M} {n : Nat} (l : List α) (f : α → D) (g : α → PyData) (h : ∀ x ∈ l, Ps k m (f x) (g x) n) : Pss k m (l.map f) (l.map g) n := by
  induction l with
  | nil => exact ⟨rfl, rfl, Nat.zero_le _⟩
  | cons a r ih => exact pss_cons (h a List.mem_cons_self) (ih fun x hx => h x (List.mem_cons_of_mem _ hx))
theorem toPs_allS (r : Nat → Option PyData) : ∀ ds : List D, D.toPs r ds = pdM.allS (ds.map (D.toP r))
  | [] => rfl
  | d :: t => by
    rw [List.map_cons]
    simp only [D.toPs]
    rw [toPs_allS r t]
    cases D.toP r d with
    | none => rfl
    | some p => simp only [pdM.allS]; cases pdM.allS (List.map (D.toP r) t) <;> rfl
theorem ps_tup {k : Nat} {m : M} {ds : List D} {ps : List PyData} {n : Nat} (h : Pss k m ds ps n) : Ps k m (.tup ds) (.tuple ps) (n + 1) := by
  refine ⟨?_, by simp only [bareP]; exact h.b, by simp only [PyData.depth]; have := h.d; omega⟩
  have e := h.e
  cases k with
  | zero =>
    show (D.toPs _ ds).map PyData.tuple = _
    rw [toPs_allS]
    show (pdM.allS (ds.map (pdM 0 m))).map PyData.tuple = _
    rw [e]
    rfl
  | succ k =>
    show (D.toPs _ ds).map PyData.tuple = _
    rw [toPs_allS]
    show (pdM.allS (ds.map (pdM (k + 1) m))).map PyData.tuple = _
    rw [e]
    rfl
theorem ps_ref {k : Nat} {m : M} {j : Nat} {ds : List D} {ps : List PyData} {n : Nat} (hj : m[j]? = some (.lst ds)) (h : Pss k m ds ps n) : Ps (k + 1) m (.ref j) (.list ps) (n + 1) := by
  refine ⟨?_, by simp only [bareP]; exact h.b, by simp only [PyData.depth]; have := h.d; omega⟩
  show (match m[j]? with
    | some (.lst ds) => (pdM.allS (ds.map (pdM k m))).map PyData.list
    | _ => none) = _
  rw [hj]
  simp only
  rw [h.e]
  rfl
def pI (n : Nat) : PyData := .int (n : Int)
theorem pI_inj {a b : Nat} (h : pI a = pI b) : a = b := by
  unfold pI at h
  injection h with h
  omega
theorem ps_tI (k : Nat) (m : M) (l : List Nat) : Ps k m (tI l) (.tuple (l.map pI)) 1 := ps_tup (pss_map l iD pI fun x _ => ps_int k m x)
theorem ps_lI {k : Nat} {m : M} {j : Nat} {l : List Nat} (h : m[j]? = some (.lst (l.map iD))) : Ps (k + 1) m (.ref j) (.list (l.map pI)) 1 := ps_ref h (pss_map l iD pI fun x _ => ps_int k m x)
theorem map_inj {α β : Type} {f : α → β} (hf : ∀ {a b}, f a = f b → a = b) : ∀ {l l' : List α}, l.map f = l'.map f → l = l'
  | [], [], _ => rfl
  | [], _ :: _, h => by simp at h
  | _ :: _, [], h => by simp at h
  | a :: r, b :: s, h => by
    simp only [List.map_cons, List.cons.injEq] at h
    rw [hf h.1, map_inj hf h.2]
theorem pIs_inj {l l' : List Nat} (h : l.map pI = l'.map pI) : l = l' := map_inj pI_inj h
theorem gEq_ps {m : M} {a b : D} {p q : PyData} {n k : Nat} (ha : Ps DEEP m a p n) (hb : Ps DEEP m b q k) (hn : n ≤ 60) (hk : k ≤ 60) : ∃ t : Bool, gEq a b m = .ok (.bl t) m ∧ (t = true ↔ p = q) := by
  refine ⟨PyData.eqv p q, ?_, eqv_bare ha.b hb.b⟩
  unfold gEq
  rw [ha.e, hb.e]
  have h1 : flatP p = true := by unfold flatP; rw [plain_bare ha.b, Bool.true_and]; exact decide_eq_true (by have := ha.d; omega)
  have h2 : flatP q = true := by unfold flatP; rw [plain_bare hb.b, Bool.true_and]; exact decide_eq_true (by have := hb.d; omega)
  simp only [h1, h2, Bool.and_self, if_true]
theorem gNe_ps {m : M} {a b : D} {p q : PyData} {n k : Nat} (ha : Ps DEEP m a p n) (hb : Ps DEEP m b q k) (hn : n ≤ 60) (hk : k ≤ 60) : ∃ t : Bool, gNe a b m = .ok (.bl (!t)) m ∧ (t = true ↔ p = q) := by
  refine ⟨PyData.eqv p q, ?_, eqv_bare ha.b hb.b⟩
  unfold gNe
  rw [ha.e, hb.e]
  have h1 : flatP p = true := by unfold flatP; rw [plain_bare ha.b, Bool.true_and]; exact decide_eq_true (by have := ha.d; omega)
  have h2 : flatP q = true := by unfold flatP; rw [plain_bare hb.b, Bool.true_and]; exact decide_eq_true (by have := hb.d; omega)
  simp only [h1, h2, Bool.and_self, if_true]
theorem any_bare {qs : List PyData} {p : PyData} (hq : barePs qs = true) (hp : bareP p = true) : (qs.any fun y => PyData.eqv y p) = true ↔ p ∈ qs := by
  induction qs with
  | nil => simp
  | cons a r ih =>
    simp only [barePs, Bool.and_eq_true] at hq
    rw [List.any_cons, Bool.or_eq_true, eqv_bare hq.1 hp, ih hq.2, List.mem_cons]
    exact ⟨fun h => h.imp (fun e => e.symm) id, fun h => h.imp (fun e => e.symm) id⟩
/-- being in a list or a tuple -/
theorem inS_ps {m : M} {a b : D} {p : PyData} {qs : List PyData} {n k : Nat} (ha : Ps DEEP m a p n) (hb : Ps DEEP m b (.list qs) k ∨ Ps DEEP m b (.tuple qs) k) (hn : n ≤ 60) : ∃ t : Bool, inS m a b = some t ∧ (t = true ↔ p ∈ qs) := by
  have hq : barePs qs = true := by
    rcases hb with hb | hb <;> simpa only [bareP] using hb.b
  refine ⟨qs.any fun y => PyData.eqv y p, ?_, any_bare hq ha.b⟩
  have h1 : (PyData.plainAll qs && (p.plain && decide (p.depth ≤ 60))) = true := by
    rw [plains_bare hq, plain_bare ha.b, Bool.true_and, Bool.true_and]
    exact decide_eq_true (by have := ha.d; omega)
  unfold inS
  rcases hb with hb | hb
  · rw [ha.e, hb.e]
    simp only [h1, if_true]
  · rw [ha.e, hb.e]
    simp only [h1, if_true]
theorem inD_ref {m : M} {a : D} {j : Nat} {ds : List D} (h : m[j]? = some (.lst ds)) : inD m a (.ref j) = inS m a (.ref j) := by
  unfold inD
  simp only [h]
theorem inD_tup {m : M} {a : D} {ds : List D} : inD m a (.tup ds) = inS m a (.tup ds) := rfl
theorem mem_pI {l : List Nat} {x : Nat} : pI x ∈ l.map pI ↔ x ∈ l := by
  rw [List.mem_map]
  exact ⟨fun ⟨y, hy, e⟩ => by rw [← pI_inj e]; exact hy, fun h => ⟨x, h, rfl⟩⟩
theorem bool_dec {t : Bool} {P : Prop} [Decidable P] (h : t = true ↔ P) : t = decide P := by
  cases t with
  | true => exact (decide_eq_true (h.mp rfl)).symm
  | false => exact (decide_eq_false fun p => by have := h.mpr p; cases this).symm
theorem in_lI {m : M} {x j : Nat} {l : List Nat} (h : m[j]? = some (.lst (l.map iD))) : gIn (iD x) (.ref j) m = .ok (.bl (decide (x ∈ l))) m := by
  obtain ⟨t, e, ht⟩ := inS_ps (a := iD x) (b := .ref j) (ps_int DEEP m x) (.inl (ps_lI h)) (Nat.zero_le _)
  unfold gIn
  rw [inD_ref h, e]
  rw [show (PyData.int (x : Int)) = pI x from rfl, mem_pI] at ht
  rw [bool_dec ht]
theorem notIn_lI {m : M} {x j : Nat} {l : List Nat} (h : m[j]? = some (.lst (l.map iD))) : gNotIn (iD x) (.ref j) m = .ok (.bl (!decide (x ∈ l))) m := by
  obtain ⟨t, e, ht⟩ := inS_ps (a := iD x) (b := .ref j) (ps_int DEEP m x) (.inl (ps_lI h)) (Nat.zero_le _)
  unfold gNotIn
  rw [inD_ref h, e]
  rw [show (PyData.int (x : Int)) = pI x from rfl, mem_pI] at ht
  rw [bool_dec ht]

@[simp] theorem at2 {α : Type} (x y z : α) (r : List α) : atI (x :: y :: z :: r) 2 = some z := by
  unfold atI ixN
  rw [if_pos (by omega), if_pos (by simp only [List.length_cons]; omega)]
  rfl
@[simp] theorem at3 {α : Type} (x y z w : α) (r : List α) : atI (x :: y :: z :: w :: r) 3 = some w := by
  unfold atI ixN
  rw [if_pos (by omega), if_pos (by simp only [List.length_cons]; omega)]
  rfl
theorem bls_map {α : Type} (l : List α) (p : α → Bool) : blsD (l.map fun a => D.bl (p a)) = some (l.map p) := by
  induction l with
  | nil => rfl
  | cons a r ih => simp only [List.map_cons, blsD, ih, Option.map_some]
theorem allL_p {α : Type} (l : List α) (p : α → Bool) (m : M) : gAllL (l.map fun a => D.bl (p a)) m = .ok (.bl (l.all p)) m := by
  unfold gAllL
  rw [bls_map]
  simp [List.all_map, Function.comp_def]
theorem anyL_p {α : Type} (l : List α) (p : α → Bool) (m : M) : gAnyL (l.map fun a => D.bl (p a)) m = .ok (.bl (l.any p)) m := by
  unfold gAnyL
  rw [bls_map]
  simp [List.any_map, Function.comp_def]
/-! ### dicts -/
theorem keyOk_int (i : Int) : keyOk false (.int i) = true := rfl
theorem keysD_tI (l : List Nat) : (keysD (l.map iD)).isSome = true := by
  induction l with
  | nil => rfl
  | cons a r ih =>
    rw [List.map_cons]
    cases h : keysD (r.map iD) with
    | none => rw [h] at ih; cases ih
    | some ks => simp [keysD, keyD, h]
theorem keyOk_tI (l : List Nat) : keyOk true (tI l) = true := keysD_tI l
/-- rows of keys and values by plain ones -/
def kvD {α β : Type} (f : α → D) (g : β → D) (l : List (α × β)) : List (D × D) := l.map fun p => (f p.1, g p.2)
section
variable {α β : Type} [DecidableEq α] {f : α → D} {g : β → D}
def lookP (l : List (α × β)) (k : α) : Option β := (l.find? fun p => decide (p.1 = k)).map (·.2)
theorem val_kv (hf : ∀ {a b}, f a = f b → a = b) (l : List (α × β)) (k : α) : valD (kvD f g l) (f k) = (lookP l k).map g := by
  unfold valD kvD lookP
  induction l with
  | nil => rfl
  | cons p r ih =>
    rw [List.map_cons, List.find?_cons, List.find?_cons]
    by_cases e : p.1 = k
    · simp [e]
    · have e' : ¬ f p.1 = f k := fun q => e (hf q)
      simp only [e, e', decide_false]
      exact ih
theorem look_none {l : List (α × β)} {k : α} : lookP l k = none ↔ k ∉ l.map (·.1) := by
  unfold lookP
  rw [Option.map_eq_none_iff, List.find?_eq_none]
  constructor
  · intro h hk
    obtain ⟨p, hp, rfl⟩ := List.mem_map.mp hk
    exact absurd (decide_eq_true rfl) (h p hp)
  · intro h p hp q
    exact h (List.mem_map.mpr ⟨p, hp, of_decide_eq_true q⟩)
theorem look_isSome (l : List (α × β)) (k : α) : (lookP l k).isSome = decide (k ∈ l.map (·.1)) := by
  cases h : lookP l k with
  | none => rw [decide_eq_false (look_none.mp h)]; rfl
  | some x =>
    rw [decide_eq_true]
    · rfl
    · refine Decidable.byContradiction fun q => ?_
      rw [look_none.mpr q] at h
      cases h
theorem look_at {l : List (α × β)} (hn : (l.map (·.1)).Nodup) {i : Nat} {p : α × β} (h : l[i]? = some p) : lookP l p.1 = some p.2 := by
  unfold lookP
  induction l generalizing i with
  | nil => simp at h
  | cons q r ih =>
    rw [List.map_cons, List.nodup_cons] at hn
    rw [List.find?_cons]
    cases i with
    | zero =>
      simp at h
      subst h
      simp
    | succ i =>
      have h' : r[i]? = some p := by simpa using h
      have : q.1 ≠ p.1 := fun e => hn.1 (by rw [e]; exact List.mem_map.mpr ⟨p, List.mem_of_getElem? h', rfl⟩)
      simp only [this, decide_false]
      exact ih hn.2 h'
theorem put_new (hf : ∀ {a b}, f a = f b → a = b) {l : List (α × β)} {k : α} {v : β} (h : k ∉ l.map (·.1)) : putD (kvD f g l) (f k) (g v) = kvD f g (l ++ [(k, v)]) := by
  unfold putD
  have e : ((kvD f g l).any fun kv => decide (kv.1 = f k)) = false := by
    rw [List.any_eq_false]
    intro x hx q
    obtain ⟨p, hp, rfl⟩ := List.mem_map.mp hx
    exact h (List.mem_map.mpr ⟨p, hp, hf (of_decide_eq_true q)⟩)
  rw [e]
  simp [kvD]
theorem in_dct (hf : ∀ {a b}, f a = f b → a = b) {m : M} {n : Nat} {t : Bool} {l : List (α × β)} {k : α} (h : m[n]? = some (.dct t (kvD f g l))) (hk : keyOk t (f k) = true) : inD m (f k) (.ref n) = some (decide (k ∈ l.map (·.1))) := by
  unfold inD
  simp only [h]
  simp only [hk, if_true, val_kv hf, Option.isSome_map, look_isSome]
theorem gIn_dct (hf : ∀ {a b}, f a = f b → a = b) {m : M} {n : Nat} {t : Bool} {l : List (α × β)} {k : α} (h : m[n]? = some (.dct t (kvD f g l))) (hk : keyOk t (f k) = true) : gIn (f k) (.ref n) m = .ok (.bl (decide (k ∈ l.map (·.1)))) m := by
  unfold gIn
  rw [in_dct hf h hk]
theorem gNotIn_dct (hf : ∀ {a b}, f a = f b → a = b) {m : M} {n : Nat} {t : Bool} {l : List (α × β)} {k : α} (h : m[n]? = some (.dct t (kvD f g l))) (hk : keyOk t (f k) = true) : gNotIn (f k) (.ref n) m = .ok (.bl (!decide (k ∈ l.map (·.1)))) m := by
  unfold gNotIn
  rw [in_dct hf h hk]
theorem gIx_dct (hf : ∀ {a b}, f a = f b → a = b) {m : M} {n : Nat} {t : Bool} {l : List (α × β)} {k : α} {v : β} (h : m[n]? = some (.dct t (kvD f g l))) (hk : keyOk t (f k) = true) (hv : lookP l k = some v) : gIx (.ref n) (f k) m = .ok (g v) m := by
  unfold gIx
  simp only [h]
  simp only [hk, if_true, val_kv hf, hv, Option.map_some]
end
theorem iD_inj {a b : Nat} (h : iD a = iD b) : a = b := by
  injection h with h
  omega
theorem tI_inj {a b : List Nat} (h : tI a = tI b) : a = b := by
  unfold tI at h
  injection h with h
  exact map_inj iD_inj h
theorem subD_ok {f fo fi : FE} {ρ : Sl} {m m1 m2 m3 : M} {d k : D} {n : Nat} {t : Bool} {kvs : List (D × D)} (h1 : f ρ m = .ok d m1) (h2 : fo ρ m1 = .ok (.ref n) m2) (h3 : fi ρ m2 = .ok k m3) (h4 : m3[n]? = some (.dct t kvs)) (h5 : keyOk t k = true) (h6 : kvs.length < LIM) :
    sSub f fo fi ρ m = .nx ρ (m3.set n (.dct t (putD kvs k d))) := by
  unfold sSub
  simp only [h1, out_ok, h2, h3]
  cases k <;> simp only [h4] <;> exact if_pos ⟨h5, h6⟩
/-! ### rows by getD -/
theorem tI_getD {l : List Nat} {k : Nat} (h : k < l.length) (m : M) : gIx (tI l) (.int (k : Int)) m = .ok (iD (l.getD k 0)) m := tI_at (by rw [List.getD_eq_getElem?_getD, List.getElem?_eq_getElem h]; rfl) m
theorem tup_getD {α : Type} {l : List α} {f : α → D} {k : Nat} {x : α} (h : l[k]? = some x) (m : M) : gIx (.tup (l.map f)) (.int (k : Int)) m = .ok (f x) m := tup_at (by rw [List.getElem?_map, h]; rfl) m
theorem ref_getD {α : Type} {m : M} {n : Nat} {l : List α} {f : α → D} {k : Nat} {x : α} (hn : m[n]? = some (.lst (l.map f))) (h : l[k]? = some x) : gIx (.ref n) (.int (k : Int)) m = .ok (f x) m := by
  rw [e_ixL _ hn, at_nat (x := f x) (by rw [List.getElem?_map, h]; rfl)]
  rfl
/-- a loop over what gives the same as long as the invariant holds -/
theorem for_s {src : Src} {gt : GT} {body : FS} {ρ : Sl} {m : M} {E : Pst} {k : Nat} {α : Type} (l : List α) (f : α → D) (hk : k = l.length) (S : List Nat) (I : List α → List (Option D) → M → Prop)
    (h0 : I [] (slots ρ S) m) (hs : ∀ pre vs m, I pre vs m → SrcIs src (l.map f) m)
    (hb : ∀ pre a post vs m, l = pre ++ a :: post → I pre vs m → OW (bodyAt gt body (f a) (upd ρ S vs) m) (loopP (fun ρ2 m2 => ∃ vs', ρ2 = upd ρ S vs' ∧ I (pre ++ [a]) vs' m2) E))
    (he : ∀ vs m, I l vs m → E.nx (upd ρ S vs) m) : OW (forL src gt body k 0 ρ m) E := by
  have := for_g (src := src) (gt := gt) (body := body) (ρ := ρ) (E := E) l f S I (fun pre a post vs m hl h => by rw [(hs pre vs m h).get pre.length (by rw [hl]; simp), hl]; simp) hb (fun vs m h => ⟨(hs _ vs m h).fin, he vs m h⟩) l [] (slots ρ S) m k rfl hk h0
  rw [upd_same] at this
  exact this
/-- a loop that looks for the first: found, told; else nothing but its own slots is changed -/
theorem for_find {src : Src} {gt : GT} {body : FS} {ρ : Sl} {m : M} {k : Nat} {α : Type} (l : List α) (f : α → D) (hs : SrcIs src (l.map f) m) (hk : k = l.length) (S : List Nat) (F : α → Option D) (V : List (Option D) → Prop) (h0 : V (slots ρ S))
    (hb : ∀ a ∈ l, ∀ vs, V vs → (∀ d, F a = some d → bodyAt gt body (f a) (upd ρ S vs) m = .rt d m) ∧ (F a = none → ∃ vs', V vs' ∧ bodyAt gt body (f a) (upd ρ S vs) m = .nx (upd ρ S vs') m)) :
    (∀ d, l.findSome? F = some d → forL src gt body k 0 ρ m = .rt d m) ∧ (l.findSome? F = none → ∃ vs', V vs' ∧ forL src gt body k 0 ρ m = .nx (upd ρ S vs') m) := by
  subst hk
  have go : ∀ (post pre : List α) (vs : List (Option D)), l = pre ++ post → V vs → (∀ d, post.findSome? F = some d → forL src gt body post.length pre.length (upd ρ S vs) m = .rt d m) ∧ (post.findSome? F = none → ∃ vs', V vs' ∧ forL src gt body post.length pre.length (upd ρ S vs) m = .nx (upd ρ S vs') m) := by
    intro post
    induction post with
    | nil =>
      intro pre vs hl hv
      refine ⟨fun d h => by simp at h, fun _ => ⟨vs, hv, ?_⟩⟩
      rw [List.length_nil]
      unfold forL
      rw [if_pos hs.fin]
    | cons a r ih =>
      intro pre vs hl hv
      have hg : src.get m pre.length = some (f a) := by rw [hs.get pre.length (by rw [hl]; simp), hl]; simp
      obtain ⟨b1, b2⟩ := hb a (by rw [hl]; simp) vs hv
      have st : forL src gt body (a :: r).length pre.length (upd ρ S vs) m = match bodyAt gt body (f a) (upd ρ S vs) m with
        | .nx ρ2 m2 => forL src gt body r.length (pre.length + 1) ρ2 m2
        | .ct ρ2 m2 => forL src gt body r.length (pre.length + 1) ρ2 m2
        | .bk ρ2 m2 => .nx ρ2 m2
        | o => o := by
        rw [List.length_cons]
        conv => lhs; unfold forL
        rw [hg]
        unfold bodyAt
        simp only
        cases gt (f a) (upd ρ S vs) <;> rfl
      rw [st, List.findSome?_cons]
      cases hF : F a with
      | some d =>
        rw [b1 d hF]
        exact ⟨fun d' h => by simp at h; rw [h], fun h => by simp at h⟩
      | none =>
        obtain ⟨vs', hv', e⟩ := b2 hF
        rw [e]
        have := ih (pre ++ [a]) vs' (by rw [hl]; simp) hv'
        rw [List.length_append, List.length_singleton] at this
        exact this
  have := go l [] (slots ρ S) rfl h0
  rw [upd_same] at this
  exact this
end Dl

/-! PB1: boards that come, with first rows of deeds, plain. -/
namespace Dl
open PySem PyProof.Rows L2
abbrev Br := List (Nat × List Nat)
def ext1 (p : Nat × List Nat) (S : Br) (fd : List Nat × Nat) : Br := if fd.1.getD p.1 0 ∈ S.map (·.1) then S else S ++ [(fd.1.getD p.1 0, p.2 ++ [fd.2])]
def extA (maps : List (List Nat)) (S : Br) (p : Nat × List Nat) : Br := maps.zipIdx.foldl (ext1 p) S
def bfsS (maps : List (List Nat)) (S : Br) (k : Nat) : Br := match S[k]? with
  | some p => extA maps S p
  | none => S
def bfs (maps : List (List Nat)) (s : Nat) : Nat → Br
  | 0 => [(s, [])]
  | k + 1 => bfsS maps (bfs maps s k) k
def led (maps : List (List Nat)) (s : Nat) (row : List Nat) : Nat := row.foldl (fun b d => (maps.getD d []).getD b 0) s
theorem led_snoc (maps : List (List Nat)) (s : Nat) (row : List Nat) (d : Nat) : led maps s (row ++ [d]) = (maps.getD d []).getD (led maps s row) 0 := by simp [led]
/-- what holds of the boards found -/
structure BrOk (maps : List (List Nat)) (s b : Nat) (S : Br) : Prop where
  nd : (S.map (·.1)).Nodup
  lt : ∀ p ∈ S, p.1 < b
  deed : ∀ p ∈ S, ∀ d ∈ p.2, d < maps.length
  len : ∀ (i : Nat) (p : Nat × List Nat), S[i]? = some p → p.2.length ≤ i
  led : ∀ p ∈ S, led maps s p.2 = p.1
theorem BrOk.one {maps : List (List Nat)} {s b : Nat} (h : s < b) : BrOk maps s b [(s, [])] := by
  refine ⟨by simp, fun p hp => ?_, fun p hp => ?_, fun i p hp => ?_, fun p hp => ?_⟩
  · rw [List.mem_singleton.mp hp]; exact h
  · rw [List.mem_singleton.mp hp]; intro d hd; simp at hd
  · cases i with
    | zero => simp at hp; subst hp; exact Nat.le_refl _
    | succ i => simp at hp
  · rw [List.mem_singleton.mp hp]; rfl
theorem nodup_lt : ∀ {b : Nat} {l : List Nat}, l.Nodup → (∀ x ∈ l, x < b) → l.length ≤ b
  | 0, l, _, hl => by
    cases l with
    | nil => exact Nat.le_refl _
    | cons x t => exact absurd (hl x List.mem_cons_self) (Nat.not_lt_zero _)
  | b + 1, l, h, hl => by
    have h1 := nodup_lt (b := b) (l := l.erase b) (h.erase b) fun x hx => by
      obtain ⟨h2, h3⟩ := h.mem_erase_iff.mp hx
      have := hl x h3
      omega
    by_cases hb : b ∈ l
    · rw [List.length_erase_of_mem hb] at h1
      omega
    · rw [List.erase_of_not_mem hb] at h1
      omega
theorem BrOk.le {maps : List (List Nat)} {s b : Nat} {S : Br} (h : BrOk maps s b S) : S.length ≤ b := by
  have := nodup_lt h.nd (b := b) (fun x hx => by
    obtain ⟨p, hp, rfl⟩ := List.mem_map.mp hx
    exact h.lt p hp)
  simpa using this
section
variable {maps : List (List Nat)} {s b : Nat} (hl : ∀ f ∈ maps, f.length = b) (he : ∀ f ∈ maps, ∀ x ∈ f, x < b)
include hl he
theorem map_lt {f : List Nat} (hf : f ∈ maps) {x : Nat} (hx : x < b) : f.getD x 0 < b := by
  rw [List.getD_eq_getElem?_getD, List.getElem?_eq_getElem (by rw [hl f hf]; exact hx)]
  exact he f hf _ (List.getElem_mem _)
theorem ext1_ok {S : Br} (h : BrOk maps s b S) {p : Nat × List Nat} (hp : p ∈ S) {k : Nat} (hk : S[k]? = some p) {f : List Nat} {d : Nat} (hf : maps[d]? = some f) : BrOk maps s b (ext1 p S (f, d)) := by
  unfold ext1
  split
  · exact h
  · rename_i hn
    have hfm := List.mem_of_getElem? hf
    have hdl := (List.getElem?_eq_some_iff.mp hf).1
    have hkl := (List.getElem?_eq_some_iff.mp hk).1
    refine ⟨?_, fun q hq => ?_, fun q hq => ?_, fun i q hq => ?_, fun q hq => ?_⟩
    · rw [List.map_append, List.nodup_append]
      refine ⟨h.nd, by simp, fun x hx y hy => ?_⟩
      intro e
      subst e
      simp at hy
      subst hy
      exact hn hx
    · rcases List.mem_append.mp hq with hq | hq
      · exact h.lt q hq
      · rw [List.mem_singleton.mp hq]; exact map_lt hl he hfm (h.lt p hp)
    · rcases List.mem_append.mp hq with hq | hq
      · exact h.deed q hq
      · rw [List.mem_singleton.mp hq]
        intro x hx
        rcases List.mem_append.mp hx with hx | hx
        · exact h.deed p hp x hx
        · rw [List.mem_singleton.mp hx]; exact hdl
    · by_cases hi : i < S.length
      · rw [List.getElem?_append_left hi] at hq
        exact h.len i q hq
      · rw [List.getElem?_append_right (by omega)] at hq
        have : i - S.length = 0 := by
          have := (List.getElem?_eq_some_iff.mp hq).1
          simp at this
          exact this
        rw [this] at hq
        simp at hq
        subst hq
        have := h.len k p hk
        simp
        omega
    · rcases List.mem_append.mp hq with hq | hq
      · exact h.led q hq
      · rw [List.mem_singleton.mp hq]
        show led maps s (p.2 ++ [d]) = f.getD p.1 0
        rw [led_snoc, h.led p hp, List.getD_eq_getElem?_getD (l := maps), hf]
        rfl
omit hl he in
theorem ext1_pre (p : Nat × List Nat) (S : Br) (fd : List Nat × Nat) : ∃ t, ext1 p S fd = S ++ t := by
  unfold ext1
  split
  · exact ⟨[], by simp⟩
  · exact ⟨_, rfl⟩
/-- the first so many deeds done -/
def extN (maps : List (List Nat)) (S : Br) (p : Nat × List Nat) (j : Nat) : Br := (maps.zipIdx.take j).foldl (ext1 p) S
omit hl he in
theorem extN_pre (S : Br) (p : Nat × List Nat) : ∀ l : List (List Nat × Nat), ∃ t, l.foldl (ext1 p) S = S ++ t := by
  intro l
  induction l generalizing S with
  | nil => exact ⟨[], by simp⟩
  | cons a r ih =>
    obtain ⟨t, e⟩ := ext1_pre p S a
    obtain ⟨t2, e2⟩ := ih (ext1 p S a)
    exact ⟨t ++ t2, by rw [List.foldl_cons, e2, e, List.append_assoc]⟩
theorem fold_ok {S : Br} (h : BrOk maps s b S) {p : Nat × List Nat} {k : Nat} (hk : S[k]? = some p) : ∀ l : List (List Nat × Nat), (∀ q ∈ l, maps[q.2]? = some q.1) → BrOk maps s b (l.foldl (ext1 p) S) := by
  intro l
  induction l generalizing S with
  | nil => intro _; exact h
  | cons a r ih =>
    intro hq
    rw [List.foldl_cons]
    obtain ⟨t, e⟩ := ext1_pre p S a
    refine ih (ext1_ok hl he h (List.mem_of_getElem? hk) hk (hq a List.mem_cons_self)) ?_ fun q hm => hq q (List.mem_cons_of_mem _ hm)
    rw [e, List.getElem?_append_left (List.getElem?_eq_some_iff.mp hk).1]
    exact hk
omit hl he in
theorem zip_get {maps : List (List Nat)} : ∀ q ∈ maps.zipIdx, maps[q.2]? = some q.1 := by
  rintro ⟨f, d⟩ hq
  have := List.mem_zipIdx hq
  simp at this
  obtain ⟨h1, h2⟩ := this
  rw [List.getElem?_eq_getElem h1, h2]
theorem bfsS_ok {S : Br} (h : BrOk maps s b S) (k : Nat) : BrOk maps s b (bfsS maps S k) := by
  unfold bfsS
  cases hk : S[k]? with
  | none => exact h
  | some p => exact fold_ok hl he h hk _ zip_get
theorem bfs_ok (hs : s < b) : ∀ k, BrOk maps s b (bfs maps s k)
  | 0 => BrOk.one hs
  | k + 1 => bfsS_ok hl he (bfs_ok hs k) k
omit hl he in
theorem bfs_stop {k : Nat} (h : (bfs maps s k).length ≤ k) : ∀ j, bfs maps s (k + j) = bfs maps s k
  | 0 => rfl
  | j + 1 => by
    rw [Nat.add_succ]
    show bfsS maps (bfs maps s (k + j)) (k + j) = _
    rw [bfs_stop h j]
    unfold bfsS
    rw [List.getElem?_eq_none (by omega)]
end
end Dl

/-! PL8: what can be told the same, plain. -/
namespace Dl
open PySem PyProof.Rows L2
mutual
def D.smb : D → Bool
  | .non => true
  | .bl _ => true
  | .int _ => true
  | .str _ => true
  | .tup ds => decide (ds.length ≤ 90000) && D.smbs ds
  | .rol _ => false
  | .fix _ => false
  | .ref _ => false
  | .ty _ => false
def D.smbs : List D → Bool
  | [] => true
  | d :: r => D.smb d && D.smbs r
end
theorem smbs_iff {ds : List D} : D.smbs ds = true ↔ ∀ d ∈ ds, d.smb = true := by
  induction ds with
  | nil => simp [D.smbs]
  | cons d r ih => simp [D.smbs, ih]
theorem dep_mem {ds : List D} {d : D} (h : d ∈ ds) : d.dep ≤ D.deps ds := by
  induction ds with
  | nil => simp at h
  | cons x r ih =>
    simp only [D.deps]
    rcases List.mem_cons.mp h with rfl | h
    · omega
    · have := ih h
      omega
theorem kb1 : kitB "NoneType" "tuple" = some false := by decide +kernel
theorem kb2 : kitB "bool" "tuple" = some false := by decide +kernel
theorem kb3 : kitB "int" "tuple" = some false := by decide +kernel
theorem kb4 : kitB "str" "tuple" = some false := by decide +kernel
theorem kb5 : kitB "tuple" "tuple" = some true := by decide +kernel
theorem kb6 : kitB "bool" "bool" = some true := by decide +kernel
theorem kb7 : kitB "str" "bool" = some false := by decide +kernel
theorem kb8 : kitB "str" "int" = some false := by decide +kernel
theorem kb9 : kitB "str" "str" = some true := by decide +kernel
theorem kb10 : kitB "list" "tuple" = some false := by decide +kernel
theorem kb11 : kitB "list" "list" = some true := by decide +kernel
theorem kb12 : kitB "tuple" "list" = some false := by decide +kernel
theorem kb13 : kitB "int" "list" = some false := by decide +kernel
theorem kb14 : kitB "bool" "int" = some true := by decide +kernel
theorem isi_bool : isi2 "bool" "list" "tuple" = some false := by decide +kernel
theorem isi_str : isi2 "str" "list" "tuple" = some false := by decide +kernel
theorem isi_none : isi2 "NoneType" "list" "tuple" = some false := by decide +kernel
@[simp] theorem e_isNT (f : FE) (ρ : Sl) (m : M) : fIsNT f ρ m = (f ρ m).bind fun d m => .ok d.isN m := nrfl rfl
@[simp] theorem e_notNT (f : FE) (ρ : Sl) (m : M) : fNotNT f ρ m = (f ρ m).bind fun d m => .ok (!d.isN) m := nrfl rfl
@[simp] theorem e_un (g : D → M → Res D) (f : FE) (ρ : Sl) (m : M) : fUn g f ρ m = (f ρ m).bind g := nrfl rfl
@[simp] theorem e_isN (d : D) (m : M) : gIsN d m = .ok (.bl d.isN) m := nrfl rfl
@[simp] theorem e_notN (d : D) (m : M) : gNotN d m = .ok (.bl (!d.isN)) m := nrfl rfl
@[simp] theorem isN_non : D.isN .non = true := nrfl rfl
@[simp] theorem isN_bl (b : Bool) : D.isN (.bl b) = false := nrfl rfl
@[simp] theorem isN_int (i : Int) : D.isN (.int i) = false := nrfl rfl
@[simp] theorem isN_str (x : Str) : D.isN (.str x) = false := nrfl rfl
@[simp] theorem isN_tup (ds : List D) : D.isN (.tup ds) = false := nrfl rfl
@[simp] theorem isN_ref (n : Nat) : D.isN (.ref n) = false := nrfl rfl
@[simp] theorem e_isB (a b : Bool) (m : M) : gIsB (.bl a) (.bl b) m = .ok (.bl (decide (a = b))) m := nrfl rfl
@[simp] theorem e_notB (a b : Bool) (m : M) : gNotB (.bl a) (.bl b) m = .ok (.bl (!decide (a = b))) m := nrfl rfl
theorem gEq_bl (b : Bool) (m : M) : gEq (.bl b) (.bl b) m = .ok (.bl true) m := by cases b <;> rfl
theorem gEq_str (x y : Str) (m : M) : gEq (.str x) (.str y) m = .ok (.bl (decide (x = y))) m := by
  obtain ⟨t, e, h⟩ := gEq_ps (ps_str DEEP m x) (ps_str DEEP m y) (Nat.zero_le _) (Nat.zero_le _)
  rw [e]
  have : t = decide (x = y) := bool_dec (h.trans ⟨fun e => by injection e, fun e => by rw [e]⟩)
  rw [this]
theorem gEq_nils {m : M} {i j : Nat} (hi : m[i]? = some (.lst [])) (hj : m[j]? = some (.lst [])) : gEq (.ref i) (.ref j) m = .ok (.bl true) m := by
  obtain ⟨t, e, h⟩ := gEq_ps (ps_ref hi (pss_nil 2 m)) (ps_ref hj (pss_nil 2 m)) (by omega) (by omega)
  rw [e, h.mpr rfl]
theorem num_smb {d : D} : d.num = true → d.dep ≤ 60 → True := fun _ _ => trivial
end Dl

/-! PL9: small steps. -/
namespace Dl
open PySem PyProof.Rows L2
/-- a statement that adds one at the end -/
theorem app_ok {i n : Nat} {f : FE} {ρ : Sl} {m : M} {xs : List D} {y : D} (h1 : ρ[i]? = some (some (.ref n))) (h2 : m[n]? = some (.lst xs)) (h3 : f ρ m = .ok y m) (h4 : xs.length < LIM) : sDrop (fMeth mAppend (fVar i) (fCons f fNil)) ρ m = .nx ρ (m.set n (.lst (xs ++ [y]))) := by
  have e : fMeth mAppend (fVar i) (fCons f fNil) ρ m = .ok .non (m.set n (.lst (xs ++ [y]))) := meth_ok (m1 := m) (m2 := m) (xs0 := xs) (as := [y]) (by rw [e_var, h1]) h2 (by simp [h3]) h2 (append_ok h4)
  rw [s_drop, e]
  rfl
/-- the same for the newest list -/
theorem app_new {i : Nat} {f : FE} {ρ : Sl} {m : M} {xs : List D} {y : D} (h1 : ρ[i]? = some (some (.ref m.length))) (h3 : f ρ (m ++ [.lst xs]) = .ok y (m ++ [.lst xs])) (h4 : xs.length < LIM) : sDrop (fMeth mAppend (fVar i) (fCons f fNil)) ρ (m ++ [.lst xs]) = .nx ρ (m ++ [.lst (xs ++ [y])]) := by
  rw [app_ok h1 (at_snoc m _) h3 h4, set_snoc]
theorem nums_map {α : Type} {f : α → D} (h : ∀ x, (f x).num = true) (l : List α) : (D.tup (l.map f)).num = true := by
  simp only [D.num, nums_iff]
  intro d hd
  obtain ⟨p, _, rfl⟩ := List.mem_map.mp hd
  exact h p
theorem pair_num (a b : Nat) : (D.tup [iD a, iD b]).num = true := rfl
end Dl

/-! PN1: normal histories, plain: boards by vectors (f), numbers by hand (cs). -/
namespace Dl
open PySem PyProof.Rows L2
def stpD (maps : List (List Nat)) (d x : Nat) : Nat := (maps.getD d []).getD x 0
def topV (cs : List Nat) (j : Nat) : List (List Nat) := (vecs cs).filter fun v => v.getD j 0 == cs.getD j 0
def prsF (f : List Nat → Nat) (cs : List Nat) (j : Nat) : List (Nat × Nat) := (topV cs j).map fun v => (f (drp v j), f v)
def dsF (maps : List (List Nat)) (f : List Nat → Nat) (cs : List Nat) (j : Nat) : List Nat := (List.range maps.length).filter fun d => (prsF f cs j).all fun p => stpD maps d p.1 == p.2
def lasF (maps : List (List Nat)) (f : List Nat → Nat) (cs : List Nat) : List (Nat × Nat) := (List.range cs.length).filterMap fun j => if cs.getD j 0 = 0 then none else (dsF maps f cs j).head?.map fun d => (j, d)
def endF (maps : List (List Nat)) (f : List Nat → Nat) (cs : List Nat) : Nat × Nat := (lasF maps f cs).getLastD (0, 0)
def nrmF (maps : List (List Nat)) (f : List Nat → Nat) : Nat → List Nat → Hist
  | 0, _ => []
  | n + 1, cs => nrmF maps f n (drp cs (endF maps f cs).1) ++ [endF maps f cs]
def norm (maps : List (List Nat)) (start hs : Nat) (h : Hist) : Hist := nrmF maps (brd maps start h) h.length (cnt hs h)
theorem getD_at {v : List Nat} {j : Nat} (h : j < v.length) : v[j]? = some (v.getD j 0) := by
  rw [List.getD_eq_getElem?_getD, List.getElem?_eq_getElem h]
  rfl
theorem within_getD {cs v : List Nat} (h : Within cs v) (j : Nat) : v.getD j 0 ≤ cs.getD j 0 := by
  by_cases hj : j < cs.length
  · exact h.2 j _ _ (getD_at hj) (getD_at (by rw [h.1]; exact hj))
  · rw [List.getD_eq_getElem?_getD, List.getElem?_eq_none (by rw [h.1]; omega)]
    exact Nat.zero_le _
theorem within_of {cs v : List Nat} (hl : v.length = cs.length) (h : ∀ j, v.getD j 0 ≤ cs.getD j 0) : Within cs v := by
  refine ⟨hl, fun i n k h1 h2 => ?_⟩
  have := h i
  rw [getD_some h1, getD_some h2] at this
  exact this
theorem drp_len (cs : List Nat) (j : Nat) : (drp cs j).length = cs.length := by simp [drp]
theorem drp_getD (cs : List Nat) (j i : Nat) : (drp cs j).getD i 0 = if j = i then cs.getD i 0 - 1 else cs.getD i 0 := by
  unfold drp
  rw [getD_set]
  by_cases e : j = i
  · subst e
    by_cases hj : j < cs.length
    · simp [hj]
    · rw [if_neg (fun q => hj q.2), if_pos rfl, List.getD_eq_getElem?_getD, List.getElem?_eq_none (by omega)]
      rfl
  · simp [e]
theorem within_drpV {cs v : List Nat} (h : Within cs v) (j : Nat) : Within cs (drp v j) := by
  refine within_of (by rw [drp_len, h.1]) fun i => ?_
  rw [drp_getD]
  have := within_getD h i
  split <;> omega
theorem within_drpC {cs v : List Nat} {j : Nat} (h : Within (drp cs j) v) : Within cs v := by
  refine within_of (by rw [h.1, drp_len]) fun i => ?_
  have := within_getD h i
  rw [drp_getD] at this
  split at this <;> omega
theorem within_self (cs : List Nat) : Within cs cs := within_of rfl fun _ => Nat.le_refl _
theorem mem_topV {cs v : List Nat} {j : Nat} : v ∈ topV cs j ↔ Within cs v ∧ v.getD j 0 = cs.getD j 0 := by
  unfold topV
  rw [List.mem_filter, mem_vecs]
  simp
theorem mem_dsF {maps : List (List Nat)} {f : List Nat → Nat} {cs : List Nat} {j d : Nat} : d ∈ dsF maps f cs j ↔ d < maps.length ∧ ∀ v, Within cs v → v.getD j 0 = cs.getD j 0 → stpD maps d (f (drp v j)) = f v := by
  unfold dsF prsF
  rw [List.mem_filter, List.mem_range, List.all_map, List.all_eq_true]
  simp only [Function.comp_def, beq_iff_eq, mem_topV]
  constructor
  · rintro ⟨h1, h2⟩
    exact ⟨h1, fun v h3 h4 => h2 v ⟨h3, h4⟩⟩
  · rintro ⟨h1, h2⟩
    exact ⟨h1, fun v h3 => h2 v h3.1 h3.2⟩
theorem prsF_congr {f g : List Nat → Nat} {cs : List Nat} (h : ∀ v, Within cs v → f v = g v) (j : Nat) : prsF f cs j = prsF g cs j := by
  unfold prsF
  refine List.map_congr_left fun v hv => ?_
  have := (mem_topV.mp hv).1
  rw [h v this, h _ (within_drpV this j)]
theorem dsF_congr {maps : List (List Nat)} {f g : List Nat → Nat} {cs : List Nat} (h : ∀ v, Within cs v → f v = g v) (j : Nat) : dsF maps f cs j = dsF maps g cs j := by
  unfold dsF
  rw [prsF_congr h]
theorem endF_congr {maps : List (List Nat)} {f g : List Nat → Nat} {cs : List Nat} (h : ∀ v, Within cs v → f v = g v) : endF maps f cs = endF maps g cs := by
  unfold endF lasF
  simp only [dsF_congr h]
theorem nrmF_congr {maps : List (List Nat)} {f g : List Nat → Nat} : ∀ (n : Nat) {cs : List Nat}, (∀ v, Within cs v → f v = g v) → nrmF maps f n cs = nrmF maps g n cs
  | 0, _, _ => rfl
  | n + 1, cs, h => by
    simp only [nrmF, endF_congr h]
    rw [nrmF_congr n fun v hv => h v (within_drpC hv)]
theorem mem_lasF {maps : List (List Nat)} {f : List Nat → Nat} {cs : List Nat} {j d : Nat} : (j, d) ∈ lasF maps f cs ↔ j < cs.length ∧ cs.getD j 0 ≠ 0 ∧ (dsF maps f cs j).head? = some d := by
  unfold lasF
  rw [List.mem_filterMap]
  constructor
  · rintro ⟨i, hi, e⟩
    split at e
    · cases e
    · rename_i hn
      cases hd : (dsF maps f cs i).head? with
      | none => rw [hd] at e; cases e
      | some x =>
        rw [hd] at e
        simp only [Option.map_some, Option.some.injEq, Prod.mk.injEq] at e
        obtain ⟨e1, e2⟩ := e
        subst e1 e2
        exact ⟨List.mem_range.mp hi, hn, hd⟩
  · rintro ⟨h1, h2, h3⟩
    refine ⟨j, List.mem_range.mpr h1, ?_⟩
    rw [if_neg h2, h3]
    rfl
theorem getLastD_mem {α : Type} {l : List α} {x : α} (h : l ≠ []) : l.getLastD x ∈ l := by
  cases l with
  | nil => exact absurd rfl h
  | cons a r =>
    have : (a :: r).getLastD x = (a :: r).getLast (by simp) := by rw [List.getLastD_eq_getLast?, List.getLast?_eq_some_getLast (by simp)]; rfl
    rw [this]
    exact List.getLast_mem _
/-- a history that shows the boards -/
structure Wit (maps : List (List Nat)) (start hs : Nat) (f : List Nat → Nat) (cs : List Nat) (g : Hist) : Prop where
  ok : ∀ p ∈ g, p.1 < hs ∧ p.2 < maps.length
  cn : cnt hs g = cs
  br : ∀ v, Within cs v → brd maps start g v = f v
section
variable {maps : List (List Nat)} {start hs : Nat} {f : List Nat → Nat}
theorem Wit.len {cs : List Nat} {g : Hist} (w : Wit maps start hs f cs g) : cs.length = hs := by rw [← w.cn, cnt_len]
theorem cnt_getD {j : Nat} (h : Hist) (hj : j < hs) : (cnt hs h).getD j 0 = num1 h j := getD_some (cnt_at h hj)
theorem last_at {h : Hist} {j : Nat} (hj : 1 ≤ num1 h j) : ∃ a d b', h = a ++ (j, d) :: b' ∧ num1 b' j = 0 := by
  induction h with
  | nil => rw [num1_nil] at hj; omega
  | cons p t ih =>
    by_cases e : 1 ≤ num1 t j
    · obtain ⟨a, d, b', rfl, hb⟩ := ih e
      exact ⟨p :: a, d, b', rfl, hb⟩
    · rw [num1_cons] at hj
      by_cases e2 : p.1 = j
      · obtain ⟨p1, p2⟩ := p
        subst e2
        exact ⟨[], p2, t, rfl, by omega⟩
      · rw [if_neg e2] at hj
        omega
theorem Wit.gone {cs : List Nat} {a b' : Hist} {j d : Nat} (w : Wit maps start hs f cs (a ++ (j, d) :: b')) (hb : num1 b' j = 0) : Wit maps start hs f (drp cs j) (a ++ b') := by
  have hj : j < hs := (w.ok (j, d) (by simp)).1
  have hc : cnt hs (a ++ b') = drp cs j := by rw [← w.cn]; exact cnt_gone a b' d hj
  refine ⟨fun p hp => w.ok p ?_, hc, fun v hv => ?_⟩
  · rcases List.mem_append.mp hp with q | q
    · exact List.mem_append_left _ q
    · exact List.mem_append_right _ (List.mem_cons_of_mem _ q)
  · rw [← w.br v (within_drpC hv)]
    refine (brd_gone (hs := hs) ?_).symm
    have := within_getD hv j
    rw [← hc, cnt_getD _ hj, num1_app, hb] at this
    omega
theorem Wit.goneE {cs : List Nat} {g : Hist} {j : Nat} (w : Wit maps start hs f cs g) (hj : j < hs) (h1 : cs.getD j 0 ≠ 0) : ∃ g', Wit maps start hs f (drp cs j) g' := by
  rw [← w.cn, cnt_getD g hj] at h1
  obtain ⟨a, d, b', rfl, hb⟩ := last_at (show 1 ≤ num1 g j by omega)
  exact ⟨_, w.gone hb⟩
theorem bmp_drp {cs : List Nat} {j : Nat} (h : cs.getD j 0 ≠ 0) : bmp (drp cs j) j = cs := by
  have hj : j < cs.length := by
    by_cases q : j < cs.length
    · exact q
    · rw [List.getD_eq_getElem?_getD, List.getElem?_eq_none (by omega)] at h
      exact absurd rfl h
  unfold bmp
  rw [drp_getD, if_pos rfl]
  unfold drp
  rw [List.set_set]
  have : cs.getD j 0 - 1 + 1 = cs.getD j 0 := by omega
  rw [this]
  refine List.ext_getElem? fun i => ?_
  rw [List.getElem?_set]
  by_cases e : j = i
  · subst e
    rw [if_pos rfl, if_pos hj, ← getD_at hj]
  · rw [if_neg e]
theorem maps_at {d : Nat} (h : d < maps.length) : maps[d]? = some (maps.getD d []) := by
  rw [List.getD_eq_getElem?_getD, List.getElem?_eq_getElem h]
  rfl
theorem Wit.snoc {cs : List Nat} {x : Hist} {j d : Nat} (w : Wit maps start hs f (drp cs j) x) (hj : j < hs) (h1 : cs.getD j 0 ≠ 0) (hd : d ∈ dsF maps f cs j) : Wit maps start hs f cs (x ++ [(j, d)]) := by
  obtain ⟨hd1, hd2⟩ := mem_dsF.mp hd
  have hc : cnt hs (x ++ [(j, d)]) = cs := by rw [cnt_snoc x d hj, w.cn, bmp_drp h1]
  refine ⟨fun p hp => ?_, hc, fun v hv => ?_⟩
  · rcases List.mem_append.mp hp with q | q
    · exact w.ok p q
    · rw [List.mem_singleton.mp q]
      exact ⟨hj, hd1⟩
  · have hxj : (cnt hs x).getD j 0 = cs.getD j 0 - 1 := by rw [w.cn, drp_getD, if_pos rfl]
    rw [← grow_brd hj (maps_at hd1) (by rw [w.cn, bmp_drp h1]; exact hv)]
    unfold grow
    have hvj := within_getD hv j
    rw [hxj]
    by_cases e : v.getD j 0 < cs.getD j 0 - 1 + 1
    · rw [if_pos e]
      refine w.br v (within_of (by rw [drp_len, hv.1]) fun i => ?_)
      rw [drp_getD]
      have := within_getD hv i
      split
      · subst_vars; omega
      · exact this
    · rw [if_neg e]
      have hv2 : Within (drp cs j) (drp v j) := within_of (by rw [drp_len, drp_len, hv.1]) fun i => by
        rw [drp_getD, drp_getD]
        have := within_getD hv i
        split <;> omega
      have := w.br _ hv2
      have h2 := hd2 v hv (by omega)
      unfold stpD at h2
      rw [← h2, ← this]
      rfl
theorem last_deed {a : Hist} {j d : Nat} (hj : j < hs) (hd : d < maps.length) : d ∈ dsF maps (brd maps start (a ++ [(j, d)])) (cnt hs (a ++ [(j, d)])) j := by
  refine mem_dsF.mpr ⟨hd, fun v hv he => ?_⟩
  rw [cnt_snoc a d hj] at hv he
  have hcj := cnt_getD a hj
  have e2 : (bmp (cnt hs a) j).getD j 0 = num1 a j + 1 := by
    unfold bmp
    rw [getD_set, if_pos ⟨rfl, by rw [cnt_len]; exact hj⟩, hcj]
  rw [e2] at he
  have h1 := grow_brd (start := start) hj (maps_at hd) hv
  unfold grow at h1
  rw [hcj, if_neg (by omega)] at h1
  rw [← h1]
  unfold stpD
  congr 1
  have := brd_gone (hs := hs) (maps := maps) (start := start) (a := a) (b := []) (j := j) (d := d) (v := drp v j) (by rw [drp_getD, if_pos rfl]; omega)
  rw [List.append_nil] at this
  rw [this]
  rfl
theorem Wit.alive {cs : List Nat} {g : Hist} (w : Wit maps start hs f cs g) (hg : g ≠ []) : lasF maps f cs ≠ [] := by
  obtain ⟨a, p, rfl⟩ : ∃ a p, g = a ++ [p] := ⟨g.dropLast, g.getLast hg, (List.dropLast_concat_getLast hg).symm⟩
  obtain ⟨j, d⟩ := p
  obtain ⟨hj, hd⟩ := w.ok (j, d) (by simp)
  have h1 := last_deed (start := start) (a := a) hj hd
  rw [w.cn, dsF_congr w.br] at h1
  have h2 : cs.getD j 0 ≠ 0 := by
    rw [← w.cn, cnt_getD _ hj, num1_app, num1_cons]
    simp
  cases he : (dsF maps f cs j).head? with
  | none =>
    rw [List.head?_eq_none_iff] at he
    rw [he] at h1
    cases h1
  | some x =>
    have : (j, x) ∈ lasF maps f cs := mem_lasF.mpr ⟨by rw [w.len]; exact hj, h2, he⟩
    intro q
    rw [q] at this
    cases this
theorem Wit.end {cs : List Nat} {g : Hist} (w : Wit maps start hs f cs g) (hg : g ≠ []) : ∃ j d, endF maps f cs = (j, d) ∧ j < hs ∧ cs.getD j 0 ≠ 0 ∧ d ∈ dsF maps f cs j := by
  have h := getLastD_mem (x := (0, 0)) (w.alive hg)
  refine ⟨(endF maps f cs).1, (endF maps f cs).2, rfl, ?_⟩
  obtain ⟨h1, h2, h3⟩ := mem_lasF.mp (show ((endF maps f cs).1, (endF maps f cs).2) ∈ lasF maps f cs from h)
  exact ⟨by rw [← w.len]; exact h1, h2, List.mem_of_mem_head? h3⟩
theorem nrmF_len (n : Nat) (cs : List Nat) : (nrmF maps f n cs).length = n := by
  induction n generalizing cs with
  | zero => rfl
  | succ n ih => simp [nrmF, ih]
theorem Wit.num {cs : List Nat} {g g' : Hist} (w : Wit maps start hs f cs g) (w' : Wit maps start hs f cs g') : True := trivial
theorem nrmF_wit : ∀ (n : Nat) {cs : List Nat} {g : Hist}, Wit maps start hs f cs g → g.length = n → Wit maps start hs f cs (nrmF maps f n cs)
  | 0, cs, g, w, hn => by
    have : g = [] := List.length_eq_zero_iff.mp hn
    subst this
    exact w
  | n + 1, cs, g, w, hn => by
    have hg : g ≠ [] := by rintro rfl; cases hn
    obtain ⟨j, d, e, hj, h1, hd⟩ := w.end hg
    simp only [nrmF, e]
    have h2 := h1
    rw [← w.cn, cnt_getD g hj] at h2
    obtain ⟨a, d', b', rfl, hb⟩ := last_at (show 1 ≤ num1 g j by omega)
    have w2 := nrmF_wit n (w.gone hb) (by simp only [List.length_append, List.length_cons] at hn ⊢; omega)
    exact w2.snoc hj h1 hd
theorem wit_self {h : Hist} (ok : ∀ p ∈ h, p.1 < hs ∧ p.2 < maps.length) : Wit maps start hs (brd maps start h) (cnt hs h) h := ⟨ok, rfl, fun _ _ => rfl⟩
theorem norm_wit {h : Hist} (ok : ∀ p ∈ h, p.1 < hs ∧ p.2 < maps.length) : Wit maps start hs (brd maps start h) (cnt hs h) (norm maps start hs h) := nrmF_wit h.length (wit_self ok) rfl
theorem norm_len (h : Hist) : (norm maps start hs h).length = h.length := nrmF_len _ _
theorem norm_norm {h : Hist} (ok : ∀ p ∈ h, p.1 < hs ∧ p.2 < maps.length) : norm maps start hs (norm maps start hs h) = norm maps start hs h := by
  have w := norm_wit (start := start) ok
  show nrmF maps _ (norm maps start hs h).length (cnt hs (norm maps start hs h)) = nrmF maps _ h.length (cnt hs h)
  rw [norm_len, w.cn]
  exact nrmF_congr _ w.br
end
end Dl

/-! PN2: normal histories where all deeds turn, plain. -/
namespace Dl
open PySem PyProof.Rows L2
structure Turns (maps : List (List Nat)) (b : Nat) : Prop where
  lt : ∀ d, d < maps.length → ∀ x, x < b → stpD maps d x < b
  com : ∀ d e, d < maps.length → e < maps.length → ∀ x, x < b → stpD maps d (stpD maps e x) = stpD maps e (stpD maps d x)
  one : ∀ d e, d < maps.length → e < maps.length → ∀ x, x < b → stpD maps d x = stpD maps e x → maps.getD d [] = maps.getD e []
def idxM (maps : List (List Nat)) (d : Nat) : Nat := ((List.range maps.length).filter fun e => maps.getD e [] == maps.getD d []).headD 0
def rowM (maps : List (List Nat)) (g : Hist) (j : Nat) : Hist := (g.filter fun p => p.1 == j).map fun p => (j, idxM maps p.2)
def rowsF (maps : List (List Nat)) (k : Nat) (g : Hist) : Hist := (List.range k).flatMap (rowM maps g)
theorem rows_succ (maps : List (List Nat)) (k : Nat) (g : Hist) : rowsF maps (k + 1) g = rowsF maps k g ++ rowM maps g k := by
  unfold rowsF
  rw [List.range_succ, List.flatMap_append]
  simp
theorem row_none {maps : List (List Nat)} {g : Hist} {j : Nat} (h : num1 g j = 0) : rowM maps g j = [] := by
  unfold rowM
  rw [List.length_eq_zero_iff.mp h]
  rfl
theorem rows_cut {maps : List (List Nat)} {g : Hist} {j : Nat} : ∀ k, (∀ i, j < i → i < j + 1 + k → num1 g i = 0) → rowsF maps (j + 1 + k) g = rowsF maps (j + 1) g
  | 0, _ => rfl
  | k + 1, h => by
    show rowsF maps (j + 1 + k + 1) g = _
    rw [rows_succ, rows_cut k fun i h1 h2 => h i h1 (by omega), row_none (h _ (by omega) (by omega)), List.append_nil]
theorem rows_gone {maps : List (List Nat)} {a b' : Hist} {j d hs : Nat} (hj : j < hs) (hb : num1 b' j = 0) (ht : ∀ i, j < i → i < hs → num1 (a ++ (j, d) :: b') i = 0) : rowsF maps hs (a ++ (j, d) :: b') = rowsF maps hs (a ++ b') ++ [(j, idxM maps d)] := by
  obtain ⟨k, rfl⟩ : ∃ k, hs = j + 1 + k := ⟨hs - (j + 1), by omega⟩
  rw [rows_cut k ht, rows_cut k (fun i h1 h2 => by
    have := ht i h1 h2
    rw [num1_app, num1_cons] at this
    rw [num1_app]
    omega)]
  rw [rows_succ, rows_succ]
  have e1 : rowsF maps j (a ++ (j, d) :: b') = rowsF maps j (a ++ b') := by
    unfold rowsF
    rw [List.flatMap_def, List.flatMap_def]
    refine congrArg List.flatten (List.map_congr_left fun i hi => ?_)
    unfold rowM
    have : ¬ (j == i) = true := by simp; have := List.mem_range.mp hi; omega
    rw [List.filter_append, List.filter_append, List.filter_cons, if_neg this]
  have e2 : rowM maps (a ++ (j, d) :: b') j = rowM maps (a ++ b') j ++ [(j, idxM maps d)] := by
    unfold rowM
    have : b'.filter (fun p => p.1 == j) = [] := List.length_eq_zero_iff.mp hb
    rw [List.filter_append, List.filter_append, List.filter_cons, if_pos (by simp), this]
    simp
  rw [e1, e2, List.append_assoc]
theorem filt_last {α : Type} {F : Nat → Option (Nat × α)} (hF : ∀ i q, F i = some q → q.1 = i) (z : Nat × α) : ∀ n, ∀ p ∈ (List.range n).filterMap F, p.1 ≤ (((List.range n).filterMap F).getLastD z).1
  | 0, p, hp => by simp at hp
  | n + 1, p, hp => by
    rw [List.range_succ, List.filterMap_append] at hp ⊢
    have hle : p.1 ≤ n := by
      rw [← List.filterMap_append, ← List.range_succ] at hp
      obtain ⟨i, hi, e⟩ := List.mem_filterMap.mp hp
      rw [hF i p e]
      have := List.mem_range.mp hi
      omega
    cases hn : F n with
    | none =>
      have e : [n].filterMap F = [] := by simp [hn]
      rw [e, List.append_nil] at hp ⊢
      exact filt_last hF z n p hp
    | some q =>
      have e : [n].filterMap F = [q] := by simp [hn]
      rw [e, List.getLastD_eq_getLast?, List.getLast?_append]
      simp only [List.getLast?_singleton, Option.some_or, Option.getD_some]
      rw [hF n q hn]
      exact hle
theorem stp_comm {maps : List (List Nat)} {b : Nat} (T : Turns maps b) {s : Nat × List Nat} {p q : Nat × Nat} (hb : s.1 < b) (hp : p.2 < maps.length) (hq : q.2 < maps.length) (hne : p.1 ≠ q.1) : stp maps (stp maps s p) q = stp maps (stp maps s q) p := by
  obtain ⟨x, v⟩ := s
  have c := T.com p.2 q.2 hp hq x hb
  unfold stpD at c
  unfold stp
  by_cases e1 : 0 < v.getD p.1 0
  · by_cases e2 : 0 < v.getD q.1 0
    · have g1 : (v.set p.1 (v.getD p.1 0 - 1)).getD q.1 0 = v.getD q.1 0 := by rw [getD_set, if_neg fun z => hne z.1]
      have g2 : (v.set q.1 (v.getD q.1 0 - 1)).getD p.1 0 = v.getD p.1 0 := by rw [getD_set, if_neg fun z => hne z.1.symm]
      simp only [e1, e2, if_true, g1, g2, c, List.set_comm _ _ hne]
    · have g1 : (v.set p.1 (v.getD p.1 0 - 1)).getD q.1 0 = v.getD q.1 0 := by rw [getD_set, if_neg fun z => hne z.1]
      simp only [e1, e2, if_true, if_false, g1]
  · by_cases e2 : 0 < v.getD q.1 0
    · have g2 : (v.set q.1 (v.getD q.1 0 - 1)).getD p.1 0 = v.getD p.1 0 := by rw [getD_set, if_neg fun z => hne z.1.symm]
      simp only [e1, e2, if_true, if_false, g2]
    · simp only [e1, e2, if_false]
theorem stp_lt {maps : List (List Nat)} {b : Nat} (T : Turns maps b) {s : Nat × List Nat} {p : Nat × Nat} (hb : s.1 < b) (hp : p.2 < maps.length) : (stp maps s p).1 < b := by
  unfold stp
  split
  · exact T.lt p.2 hp _ hb
  · exact hb
theorem stF_lt {maps : List (List Nat)} {b : Nat} (T : Turns maps b) : ∀ (h : Hist) (s : Nat × List Nat), s.1 < b → (∀ p ∈ h, p.2 < maps.length) → (stF maps s h).1 < b
  | [], _, hb, _ => hb
  | p :: h, s, hb, ok => by
    rw [stF_cons]
    exact stF_lt T h _ (stp_lt T hb (ok p List.mem_cons_self)) fun q hq => ok q (List.mem_cons_of_mem _ hq)
theorem move_last {maps : List (List Nat)} {b : Nat} (T : Turns maps b) {j d : Nat} (hd : d < maps.length) : ∀ (b' : Hist) (s : Nat × List Nat), s.1 < b → num1 b' j = 0 → (∀ p ∈ b', p.2 < maps.length) → stF maps s ((j, d) :: b') = stF maps s (b' ++ [(j, d)])
  | [], _, _, _, _ => rfl
  | p :: t, s, hb, hn, ok => by
    have hp := ok p List.mem_cons_self
    rw [num1_cons] at hn
    have hne : p.1 ≠ j := fun q => by rw [if_pos q] at hn; omega
    rw [List.cons_append, stF_cons, stF_cons, stF_cons, stp_comm T (p := (j, d)) (q := p) hb hd hp (fun q => hne q.symm), ← stF_cons, move_last T hd t _ (stp_lt T hb hp) (by omega) fun q hq => ok q (List.mem_cons_of_mem _ hq)]
section
variable {maps : List (List Nat)} {start hs b : Nat} {f : List Nat → Nat}
theorem brd_last (T : Turns maps b) (hst : start < b) {a b' : Hist} {j d : Nat} (ok : ∀ p ∈ a ++ (j, d) :: b', p.1 < hs ∧ p.2 < maps.length) (hb : num1 b' j = 0) (v : List Nat) : brd maps start (a ++ (j, d) :: b') v = brd maps start (a ++ b' ++ [(j, d)]) v := by
  unfold brd
  rw [List.append_assoc, stF_app, stF_app, move_last T (ok (j, d) (by simp)).2 b' _ (stF_lt T a _ hst fun p hp => (ok p (List.mem_append_left _ hp)).2) hb fun p hp => (ok p (List.mem_append_right _ (List.mem_cons_of_mem _ hp))).2]
theorem Wit.ds (T : Turns maps b) (hst : start < b) {cs : List Nat} {a b' : Hist} {j d : Nat} (w : Wit maps start hs f cs (a ++ (j, d) :: b')) (hb : num1 b' j = 0) : (dsF maps f cs j).head? = some (idxM maps d) := by
  obtain ⟨hj, hd⟩ := w.ok (j, d) (by simp)
  have h1 : d ∈ dsF maps f cs j := by
    have := last_deed (start := start) (a := a ++ b') hj hd
    have hc : cnt hs (a ++ b' ++ [(j, d)]) = cs := by
      rw [cnt_snoc _ d hj, cnt_gone a b' d hj, w.cn, bmp_drp]
      rw [← w.cn, cnt_getD _ hj, num1_app, num1_cons]
      simp
    rw [hc] at this
    rw [← dsF_congr (f := brd maps start (a ++ b' ++ [(j, d)])) fun v hv => by rw [← brd_last T hst w.ok hb, w.br v hv]]
    exact this
  have hfb : ∀ v, Within cs v → f v < b := fun v hv => by
    rw [← w.br v hv]
    exact stF_lt T _ _ hst fun p hp => (w.ok p hp).2
  have h2 := (mem_dsF.mp h1).2
  have e : dsF maps f cs j = (List.range maps.length).filter fun e => maps.getD e [] == maps.getD d [] := by
    unfold dsF
    refine List.filter_congr fun e he => ?_
    have he := List.mem_range.mp he
    rw [Bool.eq_iff_iff]
    constructor
    · intro h
      have h3 : e ∈ dsF maps f cs j := by
        unfold dsF
        exact List.mem_filter.mpr ⟨List.mem_range.mpr he, h⟩
      have h4 := (mem_dsF.mp h3).2 cs (within_self cs) rfl
      have h5 := h2 cs (within_self cs) rfl
      rw [← h5] at h4
      simp only [beq_iff_eq]
      exact T.one e d he hd _ (hfb _ (within_drpV (within_self cs) j)) h4
    · intro h
      have h : maps.getD e [] = maps.getD d [] := by simpa using h
      have h3 : e ∈ dsF maps f cs j := mem_dsF.mpr ⟨he, fun v hv hq => by
        have := h2 v hv hq
        unfold stpD at this ⊢
        rw [h, this]⟩
      unfold dsF at h3
      exact (List.mem_filter.mp h3).2
  rw [e]
  unfold idxM
  cases hq : (List.range maps.length).filter fun e => maps.getD e [] == maps.getD d [] with
  | nil =>
    have : d ∈ ([] : List Nat) := by
      rw [← hq]
      exact List.mem_filter.mpr ⟨List.mem_range.mpr hd, by simp⟩
    cases this
  | cons x r => rfl
theorem nrmF_rows (T : Turns maps b) (hst : start < b) : ∀ (n : Nat) {cs : List Nat} {g : Hist}, Wit maps start hs f cs g → g.length = n → nrmF maps f n cs = rowsF maps hs g
  | 0, cs, g, w, hn => by
    have : g = [] := List.length_eq_zero_iff.mp hn
    subst this
    unfold rowsF
    show [] = _
    symm
    rw [List.flatMap_eq_nil_iff]
    intro i _
    rfl
  | n + 1, cs, g, w, hn => by
    have hg : g ≠ [] := by rintro rfl; cases hn
    obtain ⟨j, d, e, hj, h1, hd⟩ := w.end hg
    have h2 := h1
    rw [← w.cn, cnt_getD g hj] at h2
    obtain ⟨a, d', b', rfl, hb⟩ := last_at (show 1 ≤ num1 g j by omega)
    have h3 := w.ds T hst hb
    have hd2 : d = idxM maps d' := by
      have := getLastD_mem (x := (0, 0)) (w.alive hg)
      have e2 : (lasF maps f cs).getLastD (0, 0) = (j, d) := e
      rw [e2] at this
      have := (mem_lasF.mp this).2.2
      rw [h3] at this
      exact (Option.some.inj this).symm
    have htop : ∀ i, j < i → i < hs → num1 (a ++ (j, d') :: b') i = 0 := by
      intro i hi1 hi2
      refine Decidable.byContradiction fun q => ?_
      obtain ⟨a2, d2, b2, e2, hb2⟩ := last_at (show 1 ≤ num1 (a ++ (j, d') :: b') i by omega)
      have w2 := w
      rw [e2] at w2
      have h4 := w2.ds T hst hb2
      have h5 : (i, idxM maps d2) ∈ lasF maps f cs := mem_lasF.mpr ⟨by rw [w.len]; exact hi2, by rw [← w.cn, cnt_getD _ hi2]; exact q, h4⟩
      have h6 := filt_last (F := fun j => if cs.getD j 0 = 0 then none else (dsF maps f cs j).head?.map fun d => (j, d)) (fun i q hq => by
        split at hq
        · cases hq
        · cases hz : (dsF maps f cs i).head? with
          | none => rw [hz] at hq; cases hq
          | some y => rw [hz] at hq; cases hq; rfl) (0, 0) cs.length _ h5
      have h7 : i ≤ (endF maps f cs).1 := h6
      rw [e] at h7
      simp only at h7
      omega
    simp only [nrmF, e]
    rw [nrmF_rows T hst n (w.gone hb) (by simp only [List.length_append, List.length_cons] at hn ⊢; omega), rows_gone hj hb htop, hd2]
theorem norm_rows (T : Turns maps b) (hst : start < b) {h : Hist} (ok : ∀ p ∈ h, p.1 < hs ∧ p.2 < maps.length) : norm maps start hs h = rowsF maps hs h := nrmF_rows T hst h.length (wit_self ok) rfl
end
end Dl

/-! PN3: vectors once each; dicts by rows. -/
namespace Dl
open PySem PyProof.Rows L2
theorem stepV_nodup {acc : List (List Nat)} (h : acc.Nodup) (n : Nat) : (stepV acc n).Nodup := by
  unfold stepV List.Nodup
  rw [List.pairwise_flatMap]
  refine ⟨fun v _ => ?_, h.imp fun {a b} hab x hx y hy => ?_⟩
  · rw [List.pairwise_map]
    exact (List.nodup_range (n := n + 1)).imp fun {a b} hab e => hab (by simpa using e)
  · obtain ⟨i, _, rfl⟩ := List.mem_map.mp hx
    obtain ⟨k, _, rfl⟩ := List.mem_map.mp hy
    intro e
    exact hab (List.append_inj' e rfl).1
theorem vecs_nodup (cs : List Nat) : (vecs cs).Nodup := by
  induction cs using revInd with
  | h0 => unfold vecs; simp
  | h1 l a ih => rw [vecs_snoc]; exact stepV_nodup ih a
theorem nums_blws {α : Type} {f : α → D} (h : ∀ x, (f x).num = true) (l : List α) (L : Nat) : D.blws L (l.map f) = true := by
  have := num_blw (nums_map h l) L
  simpa only [D.blw] using this
theorem lst_blw {α : Type} {f : α → D} (h : ∀ x, (f x).num = true) (l : List α) (L : Nat) : O.blw L (.lst (l.map f)) = true := by
  simp only [O.blw]
  exact nums_blws h l L
theorem dct_blw {α β : Type} {f : α → D} {g : β → D} (h : ∀ x, (g x).num = true) (l : List (α × β)) (t : Bool) (L : Nat) : O.blw L (.dct t (kvD f g l)) = true := by
  simp only [O.blw, kvD, List.map_map]
  exact nums_blws (f := fun p : α × β => g p.2) (fun p => h p.2) l L
theorem put_old {α β : Type} [DecidableEq α] {f : α → D} {g : β → D} (hf : ∀ {a b}, f a = f b → a = b) {l : List (α × β)} {k : α} {v : β} (hn : (l.map (·.1)).Nodup) (h : (k, v) ∈ l) : putD (kvD f g l) (f k) (g v) = kvD f g l := by
  unfold putD
  have hany : ((kvD f g l).any fun kv => decide (kv.1 = f k)) = true := by
    rw [List.any_eq_true]
    exact ⟨(f k, g v), List.mem_map.mpr ⟨(k, v), h, rfl⟩, by simp⟩
  rw [if_pos hany]
  unfold kvD
  rw [List.map_map]
  refine List.map_congr_left fun p hp => ?_
  simp only [Function.comp_def]
  by_cases e : f p.1 = f k
  · rw [if_pos e]
    have e1 : p.1 = k := hf e
    obtain ⟨i, hi⟩ := List.getElem?_of_mem hp
    obtain ⟨i', hi'⟩ := List.getElem?_of_mem h
    have a1 := look_at hn hi
    have a2 := look_at hn hi'
    rw [e1] at a1
    rw [a1] at a2
    have e2 : p.2 = v := Option.some.inj a2
    rw [e, e2]
  · rw [if_neg e]
theorem set_two (m : M) (o o' o2 : O) : (m ++ [o, o2]).set m.length o' = m ++ [o', o2] := by simp [List.set_append]
theorem set_three (m : M) (o o' : O) (J : M) : (m ++ (o :: J)).set m.length o' = m ++ (o' :: J) := by simp [List.set_append]
end Dl

/-! The walk, printed. -/
namespace K81
open PySem PySem.Spec PyProof.Rows L2 Dl
def top (i : Nat) : Stmt := PySem.Challenge.pw_ownback_k81_whole_normal_histories_of_tw.main.body.getD i (.Pass ⟨0, 0, 0, 0⟩)
abbrev FnP (K : PySem.W.Frag) (x : Str) (st : Stmt) (f : Addr) (fd : FuncData) : Prop := FunD K x x (defArgs st) (defBody st) (defScope st) [] [] f fd
abbrev s_is_integer : Stmt := top 12
abbrev N_is_integer : List Str := ["value"]
abbrev ps_is_integer : List Str := ["value"]
abbrev s_is_number : Stmt := top 13
abbrev N_is_number : List Str := ["value"]
abbrev ps_is_number : List Str := ["value"]
abbrev s_is_below : Stmt := top 14
abbrev N_is_below : List Str := ["value", "most"]
abbrev ps_is_below : List Str := ["value", "most"]
abbrev s_is_sequence : Stmt := top 16
abbrev N_is_sequence : List Str := ["value"]
abbrev ps_is_sequence : List Str := ["value"]
abbrev s_are_below : Stmt := top 18
abbrev N_are_below : List Str := ["value", "most", "one"]
abbrev ps_are_below : List Str := ["value", "most"]
abbrev s_is_map : Stmt := top 27
abbrev N_is_map : List Str := ["value", "boards"]
abbrev ps_is_map : List Str := ["value", "boards"]
abbrev s_are_deeds : Stmt := top 28
abbrev N_are_deeds : List Str := ["value", "boards", "one"]
abbrev ps_are_deeds : List Str := ["value"]
abbrev s_check_machine : Stmt := top 29
abbrev N_check_machine : List Str := ["value", "one"]
abbrev ps_check_machine : List Str := ["value"]
abbrev s_are_counts : Stmt := top 41
abbrev N_are_counts : List Str := ["value", "many"]
abbrev ps_are_counts : List Str := ["value"]
abbrev s_check_part : Stmt := top 46
abbrev N_check_part : List Str := ["value", "boards", "size", "many", "one"]
abbrev ps_check_part : List Str := ["value", "boards"]
abbrev s_check_table : Stmt := top 47
abbrev N_check_table : List Str := ["machine", "value"]
abbrev ps_check_table : List Str := ["machine", "value"]
abbrev s_need_hand : Stmt := top 48
abbrev N_need_hand : List Str := ["told", "value"]
abbrev ps_need_hand : List Str := ["told", "value"]
abbrev s_need_counts : Stmt := top 42
abbrev N_need_counts : List Str := ["value"]
abbrev ps_need_counts : List Str := ["value"]
abbrev s_vectors : Stmt := top 43
abbrev N_vectors : List Str := ["counts", "found", "many", "vector", "here"]
abbrev ps_vectors : List Str := ["counts"]
abbrev s_is_vector : Stmt := top 44
abbrev N_is_vector : List Str := ["counts", "value", "here", "many"]
abbrev ps_is_vector : List Str := ["counts", "value"]
abbrev s_place_of : Stmt := top 45
abbrev N_place_of : List Str := ["counts", "vector", "told", "found", "here", "many"]
abbrev ps_place_of : List Str := ["counts", "vector"]
abbrev s_part_of : Stmt := top 49
abbrev N_part_of : List Str := ["table", "vector", "told", "one"]
abbrev ps_part_of : List Str := ["table", "vector"]
abbrev s_with_back : Stmt := top 52
abbrev N_with_back : List Str := ["table", "hand", "told", "place", "many"]
abbrev ps_with_back : List Str := ["table", "hand"]
abbrev s_does_all : Stmt := top 56
abbrev N_does_all : List Str := ["step", "pairs", "board", "later"]
abbrev ps_does_all : List Str := ["step", "pairs"]
abbrev s_deeds_doing : Stmt := top 57
abbrev N_deeds_doing : List Str := ["rules", "pairs", "deed", "step"]
abbrev ps_deeds_doing : List Str := ["rules", "pairs"]
abbrev s_lessened : Stmt := top 55
abbrev N_lessened : List Str := ["vector", "hand"]
abbrev ps_lessened : List Str := ["vector", "hand"]
abbrev s_last_pairs : Stmt := top 58
abbrev N_last_pairs : List Str := ["told", "hand", "found", "vector", "less"]
abbrev ps_last_pairs : List Str := ["told", "hand"]
abbrev s_lasts : Stmt := top 59
abbrev N_lasts : List Str := ["machine", "table", "rules", "told", "found", "hand", "many", "some"]
abbrev ps_lasts : List Str := ["machine", "table"]
abbrev s_normal : Stmt := top 61
abbrev N_normal : List Str := ["machine", "table", "rules", "here", "found", "some", "many"]
abbrev ps_normal : List Str := ["machine", "table"]
abbrev s_is_positive : Stmt := top 15
abbrev N_is_positive : List Str := ["value"]
abbrev ps_is_positive : List Str := ["value"]
abbrev s_is_hands : Stmt := top 19
abbrev N_is_hands : List Str := ["value"]
abbrev ps_is_hands : List Str := ["value"]
abbrev s_need_hands : Stmt := top 31
abbrev N_need_hands : List Str := ["value"]
abbrev ps_need_hands : List Str := ["value"]
abbrev s_is_letter : Stmt := top 32
abbrev N_is_letter : List Str := ["value", "hands", "deeds"]
abbrev ps_is_letter : List Str := ["value", "hands", "deeds"]
abbrev s_check_row : Stmt := top 33
abbrev N_check_row : List Str := ["hands", "deeds", "value", "at", "letter"]
abbrev ps_check_row : List Str := ["hands", "deeds", "value"]
abbrev s_check_history : Stmt := top 34
abbrev N_check_history : List Str := ["machine", "hands", "value", "rules"]
abbrev ps_check_history : List Str := ["machine", "hands", "value"]
abbrev s_first_table : Stmt := top 50
abbrev N_first_table : List Str := ["machine", "hands", "told"]
abbrev ps_first_table : List Str := ["machine", "hands"]
abbrev s_grown : Stmt := top 51
abbrev N_grown : List Str := ["machine", "told", "hand", "deed", "counts", "step", "found", "vector", "less", "place", "many"]
abbrev ps_grown : List Str := ["machine", "told", "hand", "deed"]
abbrev s_table_of : Stmt := top 53
abbrev N_table_of : List Str := ["machine", "hands", "history", "rules", "found", "hand", "deed"]
abbrev ps_table_of : List Str := ["machine", "hands", "history"]
abbrev s_normal_of : Stmt := top 62
abbrev N_normal_of : List Str := ["machine", "hands", "history", "rules"]
abbrev ps_normal_of : List Str := ["machine", "hands", "history"]
abbrev s_is_normal : Stmt := top 63
abbrev N_is_normal : List Str := ["machine", "hands", "history", "rules", "told"]
abbrev ps_is_normal : List Str := ["machine", "hands", "history"]
abbrev s__law_box : Stmt := top 66
abbrev N__law_box : List Str := ["script", "k", "cell", "great"]
abbrev ps__law_box : List Str := ["script", "k"]
abbrev s__law_take : Stmt := top 67
abbrev N__law_take : List Str := ["box", "many", "digit", "raw"]
abbrev ps__law_take : List Str := ["box", "many"]
abbrev s__law_pick : Stmt := top 68
abbrev N__law_pick : List Str := ["box", "some"]
abbrev ps__law_pick : List Str := ["box", "some"]
abbrev s__law_map : Stmt := top 69
abbrev N__law_map : List Str := ["box", "many", "form", "by", "board"]
abbrev ps__law_map : List Str := ["box", "many", "form"]
abbrev s__law_machine : Stmt := top 70
abbrev N__law_machine : List Str := ["box", "form", "many", "deeds", "deed"]
abbrev ps__law_machine : List Str := ["box", "form"]
abbrev s__law_vectors : Stmt := top 71
abbrev N__law_vectors : List Str := ["counts", "found", "many", "longer", "vector", "here"]
abbrev ps__law_vectors : List Str := ["counts"]
abbrev s__law_counts : Stmt := top 72
abbrev N__law_counts : List Str := ["hands", "history", "one", "hand", "deed"]
abbrev ps__law_counts : List Str := ["hands", "history"]
abbrev s__law_board : Stmt := top 73
abbrev N__law_board : List Str := ["machine", "history", "vector", "board", "left", "hand", "deed"]
abbrev ps__law_board : List Str := ["machine", "history", "vector"]
abbrev s__law_table : Stmt := top 74
abbrev N__law_table : List Str := ["machine", "hands", "history", "found", "vector"]
abbrev ps__law_table : List Str := ["machine", "hands", "history"]
abbrev s__law_less : Stmt := top 75
abbrev N__law_less : List Str := ["vector", "hand"]
abbrev ps__law_less : List Str := ["vector", "hand"]
abbrev s__law_last : Stmt := top 76
abbrev N__law_last : List Str := ["machine", "table", "here", "hand", "pairs", "others", "vector", "whole", "without", "deed", "one", "many"]
abbrev ps__law_last : List Str := ["machine", "table", "here", "hand"]
abbrev s__law_normal : Stmt := top 77
abbrev N__law_normal : List Str := ["machine", "hands", "history", "form", "found", "one", "table", "here", "turn", "last", "hand", "some", "deed"]
abbrev ps__law_normal : List Str := ["machine", "hands", "history", "form"]
abbrev s__law_shuffled : Stmt := top 79
abbrev N__law_shuffled : List Str := ["box", "hands", "history", "rows", "found", "turn", "row", "hand", "letter"]
abbrev ps__law_shuffled : List Str := ["box", "hands", "history"]
abbrev s_is_string : Stmt := top 17
abbrev N_is_string : List Str := ["value"]
abbrev ps_is_string : List Str := ["value"]
abbrev s_is_press : Stmt := top 24
abbrev N_is_press : List Str := ["value"]
abbrev ps_is_press : List Str := ["value"]
abbrev s_check_press : Stmt := top 25
abbrev N_check_press : List Str := ["value"]
abbrev ps_check_press : List Str := ["value"]
abbrev s_press_here : Stmt := top 35
abbrev N_press_here : List Str := ["machine", "hands", "press", "told"]
abbrev ps_press_here : List Str := ["machine", "hands", "press"]
abbrev s_last_place : Stmt := top 36
abbrev N_last_place : List Str := ["history", "hand", "found", "at", "letter"]
abbrev ps_last_place : List Str := ["history", "hand"]
abbrev s_need_press : Stmt := top 37
abbrev N_need_press : List Str := ["machine", "hands", "history", "press", "told"]
abbrev ps_need_press : List Str := ["machine", "hands", "history", "press"]
abbrev s_behind : Stmt := top 38
abbrev N_behind : List Str := ["history", "press", "at"]
abbrev ps_behind : List Str := ["history", "press"]
abbrev s_pressed : Stmt := top 39
abbrev N_pressed : List Str := ["machine", "hands", "history", "press", "rules", "told"]
abbrev ps_pressed : List Str := ["machine", "hands", "history", "press"]
abbrev s_renewed : Stmt := top 64
abbrev N_renewed : List Str := ["machine", "hands", "history", "press", "rules"]
abbrev ps_renewed : List Str := ["machine", "hands", "history", "press"]
abbrev s__law_back : Stmt := top 78
abbrev N__law_back : List Str := ["history", "hand", "at", "place"]
abbrev ps__law_back : List Str := ["history", "hand"]
abbrev s__law_renewed_right : Stmt := top 80
abbrev N__law_renewed_right : List Str := ["box", "machine", "hands", "form", "due", "letter", "later", "press", "hand", "told"]
abbrev ps__law_renewed_right : List Str := ["box", "machine", "hands", "form", "due"]
abbrev s__law_story : Stmt := top 81
abbrev N__law_story : List Str := ["script", "box", "form", "hands", "way", "machine", "many", "even", "history", "turn", "hand", "due", "table", "counts", "other", "letter", "one"]
abbrev ps__law_story : List Str := ["script"]
abbrev s_law : Stmt := top 82
abbrev N_law : List Str := ["script"]
abbrev ps_law : List Str := ["script"]
def pm_3_2_1_0 {α : Type} : List α → List α := fun l => match l with
  | [a0, a1, a2, a3] => [a3, a2, a1, a0]
  | l => l
def pm_1_0 {α : Type} : List α → List α := fun l => match l with
  | [a0, a1] => [a1, a0]
  | l => l
def pm_2_1_0 {α : Type} : List α → List α := fun l => match l with
  | [a0, a1, a2] => [a2, a1, a0]
  | l => l
def tab_PARTS : List (Str × Int) := [("deed", 3), ("back", 2)]
/-- what the head tells -/
structure Hd (w : World) (K : PySem.W.Frag) (mg : Str → Option Value) : Prop where
  d_is_integer : ∃ fd, FnP K "is_integer" s_is_integer (He.ga K "is_integer") fd
  g_is_integer : mg "is_integer" = some (.ref (He.ga K "is_integer"))
  d_is_number : ∃ fd, FnP K "is_number" s_is_number (He.ga K "is_number") fd
  g_is_number : mg "is_number" = some (.ref (He.ga K "is_number"))
  d_is_below : ∃ fd, FnP K "is_below" s_is_below (He.ga K "is_below") fd
  g_is_below : mg "is_below" = some (.ref (He.ga K "is_below"))
  d_is_sequence : ∃ fd, FnP K "is_sequence" s_is_sequence (He.ga K "is_sequence") fd
  g_is_sequence : mg "is_sequence" = some (.ref (He.ga K "is_sequence"))
  d_are_below : ∃ fd, FnP K "are_below" s_are_below (He.ga K "are_below") fd
  g_are_below : mg "are_below" = some (.ref (He.ga K "are_below"))
  d_is_map : ∃ fd, FnP K "is_map" s_is_map (He.ga K "is_map") fd
  g_is_map : mg "is_map" = some (.ref (He.ga K "is_map"))
  d_are_deeds : ∃ fd, FnP K "are_deeds" s_are_deeds (He.ga K "are_deeds") fd
  g_are_deeds : mg "are_deeds" = some (.ref (He.ga K "are_deeds"))
  d_check_machine : ∃ fd, FnP K "check_machine" s_check_machine (He.ga K "check_machine") fd
  g_check_machine : mg "check_machine" = some (.ref (He.ga K "check_machine"))
  d_are_counts : ∃ fd, FnP K "are_counts" s_are_counts (He.ga K "are_counts") fd
  g_are_counts : mg "are_counts" = some (.ref (He.ga K "are_counts"))
  d_check_part : ∃ fd, FnP K "check_part" s_check_part (He.ga K "check_part") fd
  g_check_part : mg "check_part" = some (.ref (He.ga K "check_part"))
  d_check_table : ∃ fd, FnP K "check_table" s_check_table (He.ga K "check_table") fd
  g_check_table : mg "check_table" = some (.ref (He.ga K "check_table"))
  d_need_hand : ∃ fd, FnP K "need_hand" s_need_hand (He.ga K "need_hand") fd
  g_need_hand : mg "need_hand" = some (.ref (He.ga K "need_hand"))
  d_need_counts : ∃ fd, FnP K "need_counts" s_need_counts (He.ga K "need_counts") fd
  g_need_counts : mg "need_counts" = some (.ref (He.ga K "need_counts"))
  d_vectors : ∃ fd, FnP K "vectors" s_vectors (He.ga K "vectors") fd
  g_vectors : mg "vectors" = some (.ref (He.ga K "vectors"))
  d_is_vector : ∃ fd, FnP K "is_vector" s_is_vector (He.ga K "is_vector") fd
  g_is_vector : mg "is_vector" = some (.ref (He.ga K "is_vector"))
  d_place_of : ∃ fd, FnP K "place_of" s_place_of (He.ga K "place_of") fd
  g_place_of : mg "place_of" = some (.ref (He.ga K "place_of"))
  d_part_of : ∃ fd, FnP K "part_of" s_part_of (He.ga K "part_of") fd
  g_part_of : mg "part_of" = some (.ref (He.ga K "part_of"))
  d_with_back : ∃ fd, FnP K "with_back" s_with_back (He.ga K "with_back") fd
  g_with_back : mg "with_back" = some (.ref (He.ga K "with_back"))
  d_does_all : ∃ fd, FnP K "does_all" s_does_all (He.ga K "does_all") fd
  g_does_all : mg "does_all" = some (.ref (He.ga K "does_all"))
  d_deeds_doing : ∃ fd, FnP K "deeds_doing" s_deeds_doing (He.ga K "deeds_doing") fd
  g_deeds_doing : mg "deeds_doing" = some (.ref (He.ga K "deeds_doing"))
  d_lessened : ∃ fd, FnP K "lessened" s_lessened (He.ga K "lessened") fd
  g_lessened : mg "lessened" = some (.ref (He.ga K "lessened"))
  d_last_pairs : ∃ fd, FnP K "last_pairs" s_last_pairs (He.ga K "last_pairs") fd
  g_last_pairs : mg "last_pairs" = some (.ref (He.ga K "last_pairs"))
  d_lasts : ∃ fd, FnP K "lasts" s_lasts (He.ga K "lasts") fd
  g_lasts : mg "lasts" = some (.ref (He.ga K "lasts"))
  d_normal : ∃ fd, FnP K "normal" s_normal (He.ga K "normal") fd
  g_normal : mg "normal" = some (.ref (He.ga K "normal"))
  d_is_positive : ∃ fd, FnP K "is_positive" s_is_positive (He.ga K "is_positive") fd
  g_is_positive : mg "is_positive" = some (.ref (He.ga K "is_positive"))
  d_is_hands : ∃ fd, FnP K "is_hands" s_is_hands (He.ga K "is_hands") fd
  g_is_hands : mg "is_hands" = some (.ref (He.ga K "is_hands"))
  d_need_hands : ∃ fd, FnP K "need_hands" s_need_hands (He.ga K "need_hands") fd
  g_need_hands : mg "need_hands" = some (.ref (He.ga K "need_hands"))
  d_is_letter : ∃ fd, FnP K "is_letter" s_is_letter (He.ga K "is_letter") fd
  g_is_letter : mg "is_letter" = some (.ref (He.ga K "is_letter"))
  d_check_row : ∃ fd, FnP K "check_row" s_check_row (He.ga K "check_row") fd
  g_check_row : mg "check_row" = some (.ref (He.ga K "check_row"))
  d_check_history : ∃ fd, FnP K "check_history" s_check_history (He.ga K "check_history") fd
  g_check_history : mg "check_history" = some (.ref (He.ga K "check_history"))
  d_first_table : ∃ fd, FnP K "first_table" s_first_table (He.ga K "first_table") fd
  g_first_table : mg "first_table" = some (.ref (He.ga K "first_table"))
  d_grown : ∃ fd, FnP K "grown" s_grown (He.ga K "grown") fd
  g_grown : mg "grown" = some (.ref (He.ga K "grown"))
  d_table_of : ∃ fd, FnP K "table_of" s_table_of (He.ga K "table_of") fd
  g_table_of : mg "table_of" = some (.ref (He.ga K "table_of"))
  d_normal_of : ∃ fd, FnP K "normal_of" s_normal_of (He.ga K "normal_of") fd
  g_normal_of : mg "normal_of" = some (.ref (He.ga K "normal_of"))
  d_is_normal : ∃ fd, FnP K "is_normal" s_is_normal (He.ga K "is_normal") fd
  g_is_normal : mg "is_normal" = some (.ref (He.ga K "is_normal"))
  d__law_box : ∃ fd, FnP K "_law_box" s__law_box (He.ga K "_law_box") fd
  g__law_box : mg "_law_box" = some (.ref (He.ga K "_law_box"))
  d__law_take : ∃ fd, FnP K "_law_take" s__law_take (He.ga K "_law_take") fd
  g__law_take : mg "_law_take" = some (.ref (He.ga K "_law_take"))
  d__law_pick : ∃ fd, FnP K "_law_pick" s__law_pick (He.ga K "_law_pick") fd
  g__law_pick : mg "_law_pick" = some (.ref (He.ga K "_law_pick"))
  d__law_map : ∃ fd, FnP K "_law_map" s__law_map (He.ga K "_law_map") fd
  g__law_map : mg "_law_map" = some (.ref (He.ga K "_law_map"))
  d__law_machine : ∃ fd, FnP K "_law_machine" s__law_machine (He.ga K "_law_machine") fd
  g__law_machine : mg "_law_machine" = some (.ref (He.ga K "_law_machine"))
  d__law_vectors : ∃ fd, FnP K "_law_vectors" s__law_vectors (He.ga K "_law_vectors") fd
  g__law_vectors : mg "_law_vectors" = some (.ref (He.ga K "_law_vectors"))
  d__law_counts : ∃ fd, FnP K "_law_counts" s__law_counts (He.ga K "_law_counts") fd
  g__law_counts : mg "_law_counts" = some (.ref (He.ga K "_law_counts"))
  d__law_board : ∃ fd, FnP K "_law_board" s__law_board (He.ga K "_law_board") fd
  g__law_board : mg "_law_board" = some (.ref (He.ga K "_law_board"))
  d__law_table : ∃ fd, FnP K "_law_table" s__law_table (He.ga K "_law_table") fd
  g__law_table : mg "_law_table" = some (.ref (He.ga K "_law_table"))
  d__law_less : ∃ fd, FnP K "_law_less" s__law_less (He.ga K "_law_less") fd
  g__law_less : mg "_law_less" = some (.ref (He.ga K "_law_less"))
  d__law_last : ∃ fd, FnP K "_law_last" s__law_last (He.ga K "_law_last") fd
  g__law_last : mg "_law_last" = some (.ref (He.ga K "_law_last"))
  d__law_normal : ∃ fd, FnP K "_law_normal" s__law_normal (He.ga K "_law_normal") fd
  g__law_normal : mg "_law_normal" = some (.ref (He.ga K "_law_normal"))
  d__law_shuffled : ∃ fd, FnP K "_law_shuffled" s__law_shuffled (He.ga K "_law_shuffled") fd
  g__law_shuffled : mg "_law_shuffled" = some (.ref (He.ga K "_law_shuffled"))
  d_is_string : ∃ fd, FnP K "is_string" s_is_string (He.ga K "is_string") fd
  g_is_string : mg "is_string" = some (.ref (He.ga K "is_string"))
  d_is_press : ∃ fd, FnP K "is_press" s_is_press (He.ga K "is_press") fd
  g_is_press : mg "is_press" = some (.ref (He.ga K "is_press"))
  d_check_press : ∃ fd, FnP K "check_press" s_check_press (He.ga K "check_press") fd
  g_check_press : mg "check_press" = some (.ref (He.ga K "check_press"))
  d_press_here : ∃ fd, FnP K "press_here" s_press_here (He.ga K "press_here") fd
  g_press_here : mg "press_here" = some (.ref (He.ga K "press_here"))
  d_last_place : ∃ fd, FnP K "last_place" s_last_place (He.ga K "last_place") fd
  g_last_place : mg "last_place" = some (.ref (He.ga K "last_place"))
  d_need_press : ∃ fd, FnP K "need_press" s_need_press (He.ga K "need_press") fd
  g_need_press : mg "need_press" = some (.ref (He.ga K "need_press"))
  d_behind : ∃ fd, FnP K "behind" s_behind (He.ga K "behind") fd
  g_behind : mg "behind" = some (.ref (He.ga K "behind"))
  d_pressed : ∃ fd, FnP K "pressed" s_pressed (He.ga K "pressed") fd
  g_pressed : mg "pressed" = some (.ref (He.ga K "pressed"))
  d_renewed : ∃ fd, FnP K "renewed" s_renewed (He.ga K "renewed") fd
  g_renewed : mg "renewed" = some (.ref (He.ga K "renewed"))
  d__law_back : ∃ fd, FnP K "_law_back" s__law_back (He.ga K "_law_back") fd
  g__law_back : mg "_law_back" = some (.ref (He.ga K "_law_back"))
  d__law_renewed_right : ∃ fd, FnP K "_law_renewed_right" s__law_renewed_right (He.ga K "_law_renewed_right") fd
  g__law_renewed_right : mg "_law_renewed_right" = some (.ref (He.ga K "_law_renewed_right"))
  d__law_story : ∃ fd, FnP K "_law_story" s__law_story (He.ga K "_law_story") fd
  g__law_story : mg "_law_story" = some (.ref (He.ga K "_law_story"))
  d_law : ∃ fd, FnP K "law" s_law (He.ga K "law") fd
  g_law : mg "law" = some (.ref (He.ga K "law"))
  b_abs : mg "abs" = none
  b_all : mg "all" = none
  b_any : mg "any" = none
  b_bool : mg "bool" = none
  b_enumerate : mg "enumerate" = none
  b_int : mg "int" = none
  b_isinstance : mg "isinstance" = none
  b_len : mg "len" = none
  b_list : mg "list" = none
  b_max : mg "max" = none
  b_range : mg "range" = none
  b_repr : mg "repr" = none
  b_str : mg "str" = none
  b_tuple : mg "tuple" = none
  b_zip : mg "zip" = none
  i_MOST_BOARDS : ∃ t, mg "MOST_BOARDS" = some (.int 8 t)
  i_MOST_DEEDS : ∃ t, mg "MOST_DEEDS" = some (.int 6 t)
  i_MOST_HANDS : ∃ t, mg "MOST_HANDS" = some (.int 4 t)
  z_BACK : ∃ t, mg "BACK" = some (.str "back" t)
  z_DEED : ∃ t, mg "DEED" = some (.str "deed" t)
  t_PARTS : ∃ d, mg "PARTS" = some (.ref d) ∧ TabOk K w d tab_PARTS
theorem b_abs {w : World} {K : PySem.W.Frag} {mg : Str → Option Value} (h : Hd w K mg) : mg "abs" = none := h.b_abs
theorem b_all {w : World} {K : PySem.W.Frag} {mg : Str → Option Value} (h : Hd w K mg) : mg "all" = none := h.b_all
theorem b_any {w : World} {K : PySem.W.Frag} {mg : Str → Option Value} (h : Hd w K mg) : mg "any" = none := h.b_any
theorem b_bool {w : World} {K : PySem.W.Frag} {mg : Str → Option Value} (h : Hd w K mg) : mg "bool" = none := h.b_bool
theorem b_enumerate {w : World} {K : PySem.W.Frag} {mg : Str → Option Value} (h : Hd w K mg) : mg "enumerate" = none := h.b_enumerate
theorem b_int {w : World} {K : PySem.W.Frag} {mg : Str → Option Value} (h : Hd w K mg) : mg "int" = none := h.b_int
theorem b_isinstance {w : World} {K : PySem.W.Frag} {mg : Str → Option Value} (h : Hd w K mg) : mg "isinstance" = none := h.b_isinstance
theorem b_len {w : World} {K : PySem.W.Frag} {mg : Str → Option Value} (h : Hd w K mg) : mg "len" = none := h.b_len
theorem b_list {w : World} {K : PySem.W.Frag} {mg : Str → Option Value} (h : Hd w K mg) : mg "list" = none := h.b_list
theorem b_max {w : World} {K : PySem.W.Frag} {mg : Str → Option Value} (h : Hd w K mg) : mg "max" = none := h.b_max
theorem b_range {w : World} {K : PySem.W.Frag} {mg : Str → Option Value} (h : Hd w K mg) : mg "range" = none := h.b_range
theorem b_repr {w : World} {K : PySem.W.Frag} {mg : Str → Option Value} (h : Hd w K mg) : mg "repr" = none := h.b_repr
theorem b_str {w : World} {K : PySem.W.Frag} {mg : Str → Option Value} (h : Hd w K mg) : mg "str" = none := h.b_str
theorem b_tuple {w : World} {K : PySem.W.Frag} {mg : Str → Option Value} (h : Hd w K mg) : mg "tuple" = none := h.b_tuple
theorem b_zip {w : World} {K : PySem.W.Frag} {mg : Str → Option Value} (h : Hd w K mg) : mg "zip" = none := h.b_zip
theorem i_MOST_BOARDS {w : World} {K : PySem.W.Frag} {mg : Str → Option Value} (h : Hd w K mg) : ∃ t, mg "MOST_BOARDS" = some (.int 8 t) := h.i_MOST_BOARDS
theorem i_MOST_DEEDS {w : World} {K : PySem.W.Frag} {mg : Str → Option Value} (h : Hd w K mg) : ∃ t, mg "MOST_DEEDS" = some (.int 6 t) := h.i_MOST_DEEDS
theorem i_MOST_HANDS {w : World} {K : PySem.W.Frag} {mg : Str → Option Value} (h : Hd w K mg) : ∃ t, mg "MOST_HANDS" = some (.int 4 t) := h.i_MOST_HANDS
theorem z_BACK {w : World} {K : PySem.W.Frag} {mg : Str → Option Value} (h : Hd w K mg) : ∃ t, mg "BACK" = some (.str "back" t) := h.z_BACK
theorem z_DEED {w : World} {K : PySem.W.Frag} {mg : Str → Option Value} (h : Hd w K mg) : ∃ t, mg "DEED" = some (.str "deed" t) := h.z_DEED
theorem t_PARTS {w : World} {K : PySem.W.Frag} {mg : Str → Option Value} (h : Hd w K mg) : ∃ d, mg "PARTS" = some (.ref d) ∧ TabOk K w d tab_PARTS := h.t_PARTS
theorem pm_3_2_1_0_ok : Perm pm_3_2_1_0 where
  len := fun l => by unfold pm_3_2_1_0; split <;> rfl
  vals := fun r => by
    cases r with
    | nil => exact .nil
    | cons r0 t =>
      cases t with
      | nil => exact (.cons r0 .nil)
      | cons r1 t =>
        cases t with
        | nil => exact (.cons r0 (.cons r1 .nil))
        | cons r2 t =>
          cases t with
          | nil => exact (.cons r0 (.cons r1 (.cons r2 .nil)))
          | cons r3 t =>
            cases t with
            | nil => exact (.cons r3 (.cons r2 (.cons r1 (.cons r0 .nil))))
            | cons r4 t => exact (.cons r0 (.cons r1 (.cons r2 (.cons r3 (.cons r4 t)))))
  rpa := fun r => by
    cases r with
    | nil => exact .nil
    | cons r0 t =>
      cases t with
      | nil => exact (.cons r0 .nil)
      | cons r1 t =>
        cases t with
        | nil => exact (.cons r0 (.cons r1 .nil))
        | cons r2 t =>
          cases t with
          | nil => exact (.cons r0 (.cons r1 (.cons r2 .nil)))
          | cons r3 t =>
            cases t with
            | nil => exact (.cons r3 (.cons r2 (.cons r1 (.cons r0 .nil))))
            | cons r4 t => exact (.cons r0 (.cons r1 (.cons r2 (.cons r3 (.cons r4 t)))))
theorem pm_1_0_ok : Perm pm_1_0 where
  len := fun l => by unfold pm_1_0; split <;> rfl
  vals := fun r => by
    cases r with
    | nil => exact .nil
    | cons r0 t =>
      cases t with
      | nil => exact (.cons r0 .nil)
      | cons r1 t =>
        cases t with
        | nil => exact (.cons r1 (.cons r0 .nil))
        | cons r2 t => exact (.cons r0 (.cons r1 (.cons r2 t)))
  rpa := fun r => by
    cases r with
    | nil => exact .nil
    | cons r0 t =>
      cases t with
      | nil => exact (.cons r0 .nil)
      | cons r1 t =>
        cases t with
        | nil => exact (.cons r1 (.cons r0 .nil))
        | cons r2 t => exact (.cons r0 (.cons r1 (.cons r2 t)))
theorem pm_2_1_0_ok : Perm pm_2_1_0 where
  len := fun l => by unfold pm_2_1_0; split <;> rfl
  vals := fun r => by
    cases r with
    | nil => exact .nil
    | cons r0 t =>
      cases t with
      | nil => exact (.cons r0 .nil)
      | cons r1 t =>
        cases t with
        | nil => exact (.cons r0 (.cons r1 .nil))
        | cons r2 t =>
          cases t with
          | nil => exact (.cons r2 (.cons r1 (.cons r0 .nil)))
          | cons r3 t => exact (.cons r0 (.cons r1 (.cons r2 (.cons r3 t))))
  rpa := fun r => by
    cases r with
    | nil => exact .nil
    | cons r0 t =>
      cases t with
      | nil => exact (.cons r0 .nil)
      | cons r1 t =>
        cases t with
        | nil => exact (.cons r0 (.cons r1 .nil))
        | cons r2 t =>
          cases t with
          | nil => exact (.cons r2 (.cons r1 (.cons r0 .nil)))
          | cons r3 t => exact (.cons r0 (.cons r1 (.cons r2 (.cons r3 t))))
/-! ### is_integer -/
noncomputable def g_is_integer : FS :=
 (sRet (fAndV (fIsi "int" (fVar 0)) (fNotV (fIsi "bool" (fVar 0)))))
noncomputable def F_is_integer : List D → M → Res D := runF 1 1 g_is_integer
theorem sc_is_integer : FnScope N_is_integer ps_is_integer (defScope s_is_integer) := C8.fnScope_by (by decide +kernel)
theorem fn_is_integer {P : Program} {w : World} {K : PySem.W.Frag} {mg : Str → Option Value} {base : Heap} (h : Hd w K mg) {fd : FuncData} (D0 : FnP K "is_integer" s_is_integer (He.ga K "is_integer") fd) : FnG P w K mg base 1 (He.ga K "is_integer") fd ps_is_integer F_is_integer := by
  refine fng_of (N := N_is_integer) (W := WF) D0 sc_is_integer fun cdv A outer s H room gu => ?_
  exact (pssd_one (psd_ret (pd_and (Dl.b_isi (T := "int") rfl (b_isinstance h) rfl (b_int h) (by decide +kernel) (pd_var 0)) (pd_one (pd_not (Dl.b_isi (T := "bool") rfl (b_isinstance h) rfl (b_bool h) (by decide +kernel) (pd_var 0)))))))
theorem c_is_integer {P : Program} {w : World} {K : PySem.W.Frag} {mg : Str → Option Value} {base : Heap} (h : Hd w K mg) : Cle P w K mg base 1 "is_integer" 1 F_is_integer := by
  obtain ⟨fd, D0⟩ := h.d_is_integer
  exact cle_of D0 h.g_is_integer rfl (fn_is_integer h D0) fun _ _ _ _ _ _ us hl => match us, hl with | [_], _ => rfl
/-! ### is_number -/
noncomputable def g_is_number : FS :=
 (sRet (fAndV (fCall F_is_integer (fCons (fVar 0) fNil)) (fOp gGe (fVar 0) (fC (.int 0)))))
noncomputable def F_is_number : List D → M → Res D := runF 1 1 g_is_number
theorem sc_is_number : FnScope N_is_number ps_is_number (defScope s_is_number) := C8.fnScope_by (by decide +kernel)
theorem fn_is_number {P : Program} {w : World} {K : PySem.W.Frag} {mg : Str → Option Value} {base : Heap} (h : Hd w K mg) {fd : FuncData} (D0 : FnP K "is_number" s_is_number (He.ga K "is_number") fd) : FnG P w K mg base 2 (He.ga K "is_number") fd ps_is_number F_is_number := by
  refine fng_of (N := N_is_number) (W := WF) D0 sc_is_number fun cdv A outer s H room gu => ?_
  exact (pssd_one (psd_ret (pd_and (pd_call (c_is_integer h) nPar_run room (by decide) gu rfl (pad_cons (pd_var 0) pad_nil)) (pd_one (pd_ge (pd_var 0) pd_int)))))
theorem c_is_number {P : Program} {w : World} {K : PySem.W.Frag} {mg : Str → Option Value} {base : Heap} (h : Hd w K mg) : Cle P w K mg base 2 "is_number" 1 F_is_number := by
  obtain ⟨fd, D0⟩ := h.d_is_number
  exact cle_of D0 h.g_is_number rfl (fn_is_number h D0) fun _ _ _ _ _ _ us hl => match us, hl with | [_], _ => rfl
/-! ### is_below -/
noncomputable def g_is_below : FS :=
 (sRet (fAndV (fCall F_is_number (fCons (fVar 0) fNil)) (fOp gLt (fVar 0) (fVar 1))))
noncomputable def F_is_below : List D → M → Res D := runF 2 2 g_is_below
theorem sc_is_below : FnScope N_is_below ps_is_below (defScope s_is_below) := C8.fnScope_by (by decide +kernel)
theorem fn_is_below {P : Program} {w : World} {K : PySem.W.Frag} {mg : Str → Option Value} {base : Heap} (h : Hd w K mg) {fd : FuncData} (D0 : FnP K "is_below" s_is_below (He.ga K "is_below") fd) : FnG P w K mg base 3 (He.ga K "is_below") fd ps_is_below F_is_below := by
  refine fng_of (N := N_is_below) (W := WF) D0 sc_is_below fun cdv A outer s H room gu => ?_
  exact (pssd_one (psd_ret (pd_and (pd_call (c_is_number h) nPar_run room (by decide) gu rfl (pad_cons (pd_var 0) pad_nil)) (pd_one (pd_lt (pd_var 0) (pd_var 1))))))
theorem c_is_below {P : Program} {w : World} {K : PySem.W.Frag} {mg : Str → Option Value} {base : Heap} (h : Hd w K mg) : Cle P w K mg base 3 "is_below" 2 F_is_below := by
  obtain ⟨fd, D0⟩ := h.d_is_below
  exact cle_of D0 h.g_is_below rfl (fn_is_below h D0) fun _ _ _ _ _ _ us hl => match us, hl with | [_, _], _ => rfl
/-! ### is_sequence -/
noncomputable def g_is_sequence : FS :=
 (sRet (fIsi2 "list" "tuple" (fVar 0)))
noncomputable def F_is_sequence : List D → M → Res D := runF 1 1 g_is_sequence
theorem sc_is_sequence : FnScope N_is_sequence ps_is_sequence (defScope s_is_sequence) := C8.fnScope_by (by decide +kernel)
theorem fn_is_sequence {P : Program} {w : World} {K : PySem.W.Frag} {mg : Str → Option Value} {base : Heap} (h : Hd w K mg) {fd : FuncData} (D0 : FnP K "is_sequence" s_is_sequence (He.ga K "is_sequence") fd) : FnG P w K mg base 1 (He.ga K "is_sequence") fd ps_is_sequence F_is_sequence := by
  refine fng_of (N := N_is_sequence) (W := WF) D0 sc_is_sequence fun cdv A outer s H room gu => ?_
  exact (pssd_one (psd_ret (pd_isi2 (T1 := "list") (T2 := "tuple") rfl (b_isinstance h) rfl (b_list h) (by decide +kernel) rfl (b_tuple h) (by decide +kernel) (pd_var 0))))
theorem c_is_sequence {P : Program} {w : World} {K : PySem.W.Frag} {mg : Str → Option Value} {base : Heap} (h : Hd w K mg) : Cle P w K mg base 1 "is_sequence" 1 F_is_sequence := by
  obtain ⟨fd, D0⟩ := h.d_is_sequence
  exact cle_of D0 h.g_is_sequence rfl (fn_is_sequence h D0) fun _ _ _ _ _ _ us hl => match us, hl with | [_], _ => rfl
/-! ### are_below -/
noncomputable def g_are_below : FS :=
 (sRet (fAndV (fCall F_is_sequence (fCons (fVar 0) fNil)) (fCB gAllL (fLc (fWalk (fVar 0)) (gN 2) [2] fYes (fCall F_is_below (fCons (fVar 2) (fCons (fVar 1) fNil)))))))
noncomputable def F_are_below : List D → M → Res D := runF 3 2 g_are_below
theorem sc_are_below : FnScope N_are_below ps_are_below (defScope s_are_below) := C8.fnScope_by (by decide +kernel)
theorem fn_are_below {P : Program} {w : World} {K : PySem.W.Frag} {mg : Str → Option Value} {base : Heap} (h : Hd w K mg) {fd : FuncData} (D0 : FnP K "are_below" s_are_below (He.ga K "are_below") fd) : FnG P w K mg base 4 (He.ga K "are_below") fd ps_are_below F_are_below := by
  refine fng_of (N := N_are_below) (W := WF) D0 sc_are_below fun cdv A outer s H room gu => ?_
  exact (pssd_one (psd_ret (pd_and (pd_call (c_is_sequence h) nPar_run room (by decide) gu rfl (pad_cons (pd_var 0) pad_nil)) (pd_one (Dl.b_allL rfl rfl (b_all h) (pld_lc (own := [("one", 2)]) rfl sc_are_below.nd (pid_seq (pd_var 0)) (blkOk_by (N := N_are_below) (sc := defScope s_are_below) (own := [("one", 2)]) (by decide +kernel)) (fun _ _ _ _ _ => (pgd_name (i := 2) sc_are_below.nd rfl (by first | exact Or.inl rfl | exact Or.inr rfl))) (fun _ _ _ _ _ => ptsd_nil) (fun _ _ _ _ _ => (pd_call (c_is_below h) nPar_run room (by decide) gu rfl (pad_cons (pd_var 2) (pad_cons (pd_var 1) pad_nil)))) (by decide)))))))
theorem c_are_below {P : Program} {w : World} {K : PySem.W.Frag} {mg : Str → Option Value} {base : Heap} (h : Hd w K mg) : Cle P w K mg base 4 "are_below" 2 F_are_below := by
  obtain ⟨fd, D0⟩ := h.d_are_below
  exact cle_of D0 h.g_are_below rfl (fn_are_below h D0) fun _ _ _ _ _ _ us hl => match us, hl with | [_, _], _ => rfl
/-! ### is_map -/
noncomputable def g_is_map : FS :=
 (sRet (fAndV (fCall F_are_below (fCons (fVar 0) (fCons (fVar 1) fNil))) (fOp gEq (fCB gLen (fCons (fVar 0) fNil)) (fVar 1))))
noncomputable def F_is_map : List D → M → Res D := runF 2 2 g_is_map
theorem sc_is_map : FnScope N_is_map ps_is_map (defScope s_is_map) := C8.fnScope_by (by decide +kernel)
theorem fn_is_map {P : Program} {w : World} {K : PySem.W.Frag} {mg : Str → Option Value} {base : Heap} (h : Hd w K mg) {fd : FuncData} (D0 : FnP K "is_map" s_is_map (He.ga K "is_map") fd) : FnG P w K mg base 5 (He.ga K "is_map") fd ps_is_map F_is_map := by
  refine fng_of (N := N_is_map) (W := WF) D0 sc_is_map fun cdv A outer s H room gu => ?_
  exact (pssd_one (psd_ret (pd_and (pd_call (c_are_below h) nPar_run room (by decide) gu rfl (pad_cons (pd_var 0) (pad_cons (pd_var 1) pad_nil))) (pd_one (pd_eq (room_units room) (Dl.b_len rfl (b_len h) (pd_var 0)) (pd_var 1))))))
theorem c_is_map {P : Program} {w : World} {K : PySem.W.Frag} {mg : Str → Option Value} {base : Heap} (h : Hd w K mg) : Cle P w K mg base 5 "is_map" 2 F_is_map := by
  obtain ⟨fd, D0⟩ := h.d_is_map
  exact cle_of D0 h.g_is_map rfl (fn_is_map h D0) fun _ _ _ _ _ _ us hl => match us, hl with | [_, _], _ => rfl
/-! ### are_deeds -/
noncomputable def g_are_deeds : FS :=
 (sSeq (sIf (fOrT (fNotT (fTest (fCall F_is_sequence (fCons (fVar 0) fNil)))) (fOrT (fNotT (fTest (fChain gLe gLe (fC (.int 1)) (fCB gLen (fCons (fVar 0) fNil)) (fC (.int 6))))) (fNotT (fTest (fCall F_is_sequence (fCons (fOp gIx (fVar 0) (fC (.int 0))) fNil))))))
 (sRet (fC (.bl false)))
 sNext)
 (sSeq (sSet 1 (fCB gLen (fCons (fOp gIx (fVar 0) (fC (.int 0))) fNil)))
 (sRet (fAndV (fChain gLe gLe (fC (.int 1)) (fVar 1) (fC (.int 8))) (fCB gAllL (fLc (fWalk (fVar 0)) (gN 2) [2] fYes (fCall F_is_map (fCons (fVar 2) (fCons (fVar 1) fNil)))))))))
noncomputable def F_are_deeds : List D → M → Res D := runF 3 1 g_are_deeds
theorem sc_are_deeds : FnScope N_are_deeds ps_are_deeds (defScope s_are_deeds) := C8.fnScope_by (by decide +kernel)
theorem fn_are_deeds {P : Program} {w : World} {K : PySem.W.Frag} {mg : Str → Option Value} {base : Heap} (h : Hd w K mg) {fd : FuncData} (D0 : FnP K "are_deeds" s_are_deeds (He.ga K "are_deeds") fd) : FnG P w K mg base 6 (He.ga K "are_deeds") fd ps_are_deeds F_are_deeds := by
  refine fng_of (N := N_are_deeds) (W := WF) D0 sc_are_deeds fun cdv A outer s H room gu => ?_
  exact (pssd_cons (psd_if (ptd_w (pwd_or (ptd_not (ptd_val (pd_call (c_is_sequence h) nPar_run room (by decide) gu rfl (pad_cons (pd_var 0) pad_nil)))) (pwd_or (ptd_not (ptd_chain op_le op_le opd_le opd_le pd_int (Dl.b_len rfl (b_len h) (pd_var 0)) (pd_glob rfl (i_MOST_DEEDS h)))) (pwd_or1 (ptd_not (ptd_val (pd_call (c_is_sequence h) nPar_run room (by decide) gu rfl (pad_cons (pd_ix (room_units room) (pd_var 0) pd_int) pad_nil))))))))
 (pssd_one (psd_ret pd_bl))
 pssd_nil)
 (pssd_cons (psd_set (i := 1) sc_are_deeds.nd rfl (by first | exact Or.inl rfl | exact Or.inr rfl) (Dl.b_len rfl (b_len h) (pd_ix (room_units room) (pd_var 0) pd_int)))
 (pssd_one (psd_ret (pd_and (pd_chain op_le op_le opd_le opd_le pd_int (pd_var 1) (pd_glob rfl (i_MOST_BOARDS h))) (pd_one (Dl.b_allL rfl rfl (b_all h) (pld_lc (own := [("one", 2)]) rfl sc_are_deeds.nd (pid_seq (pd_var 0)) (blkOk_by (N := N_are_deeds) (sc := defScope s_are_deeds) (own := [("one", 2)]) (by decide +kernel)) (fun _ _ _ _ _ => (pgd_name (i := 2) sc_are_deeds.nd rfl (by first | exact Or.inl rfl | exact Or.inr rfl))) (fun _ _ _ _ _ => ptsd_nil) (fun _ _ _ _ _ => (pd_call (c_is_map h) nPar_run room (by decide) gu rfl (pad_cons (pd_var 2) (pad_cons (pd_var 1) pad_nil)))) (by decide)))))))))
theorem c_are_deeds {P : Program} {w : World} {K : PySem.W.Frag} {mg : Str → Option Value} {base : Heap} (h : Hd w K mg) : Cle P w K mg base 6 "are_deeds" 1 F_are_deeds := by
  obtain ⟨fd, D0⟩ := h.d_are_deeds
  exact cle_of D0 h.g_are_deeds rfl (fn_are_deeds h D0) fun _ _ _ _ _ _ us hl => match us, hl with | [_], _ => rfl
/-! ### check_machine -/
noncomputable def g_check_machine : FS :=
 (sSeq (sIf (fOrT (fNotT (fTest (fCall F_is_sequence (fCons (fVar 0) fNil)))) (fTest (fOp gNe (fCB gLen (fCons (fVar 0) fNil)) (fC (.int 2)))))
 sNever
 sNext)
 (sSeq (sIf (fNotT (fTest (fCall F_are_deeds (fCons (fOp gIx (fVar 0) (fC (.int 1))) fNil))))
 sNever
 sNext)
 (sSeq (sIf (fNotT (fTest (fCall F_is_below (fCons (fOp gIx (fVar 0) (fC (.int 0))) (fCons (fCB gLen (fCons (fOp gIx (fOp gIx (fVar 0) (fC (.int 1))) (fC (.int 0))) fNil)) fNil)))))
 sNever
 sNext)
 (sRet (fTup (fCons (fOp gIx (fVar 0) (fC (.int 0))) (fCons (fCB gTupleL (fLc (fWalk (fOp gIx (fVar 0) (fC (.int 1)))) (gN 1) [1] fYes (fCB gTuple (fCons (fVar 1) fNil)))) fNil)))))))
noncomputable def F_check_machine : List D → M → Res D := runF 2 1 g_check_machine
theorem sc_check_machine : FnScope N_check_machine ps_check_machine (defScope s_check_machine) := C8.fnScope_by (by decide +kernel)
theorem fn_check_machine {P : Program} {w : World} {K : PySem.W.Frag} {mg : Str → Option Value} {base : Heap} (h : Hd w K mg) {fd : FuncData} (D0 : FnP K "check_machine" s_check_machine (He.ga K "check_machine") fd) : FnG P w K mg base 7 (He.ga K "check_machine") fd ps_check_machine F_check_machine := by
  refine fng_of (N := N_check_machine) (W := WF) D0 sc_check_machine fun cdv A outer s H room gu => ?_
  exact (pssd_cons (psd_if (ptd_w (pwd_or (ptd_not (ptd_val (pd_call (c_is_sequence h) nPar_run room (by decide) gu rfl (pad_cons (pd_var 0) pad_nil)))) (pwd_or1 (ptd_ne (room_units room) (Dl.b_len rfl (b_len h) (pd_var 0)) pd_int))))
 (pssd_one psd_never)
 pssd_nil)
 (pssd_cons (psd_if (ptd_not (ptd_val (pd_call (c_are_deeds h) nPar_run room (by decide) gu rfl (pad_cons (pd_ix (room_units room) (pd_var 0) pd_int) pad_nil))))
 (pssd_one psd_never)
 pssd_nil)
 (pssd_cons (psd_if (ptd_not (ptd_val (pd_call (c_is_below h) nPar_run room (by decide) gu rfl (pad_cons (pd_ix (room_units room) (pd_var 0) pd_int) (pad_cons (Dl.b_len rfl (b_len h) (pd_ix (room_units room) (pd_ix (room_units room) (pd_var 0) pd_int) pd_int)) pad_nil)))))
 (pssd_one psd_never)
 pssd_nil)
 (pssd_one (psd_ret (pd_tup (pad_cons (pd_ix (room_units room) (pd_var 0) pd_int) (pad_cons (Dl.b_tupleL rfl (b_tuple h) (pld_lc (own := [("one", 1)]) rfl sc_check_machine.nd (pid_seq (pd_ix (room_units room) (pd_var 0) pd_int)) (blkOk_by (N := N_check_machine) (sc := defScope s_check_machine) (own := [("one", 1)]) (by decide +kernel)) (fun _ _ _ _ _ => (pgd_name (i := 1) sc_check_machine.nd rfl (by first | exact Or.inl rfl | exact Or.inr rfl))) (fun _ _ _ _ _ => ptsd_nil) (fun _ _ _ _ _ => (Dl.b_tuple rfl (b_tuple h) (pd_var 1))) (by decide))) pad_nil))))))))
theorem c_check_machine {P : Program} {w : World} {K : PySem.W.Frag} {mg : Str → Option Value} {base : Heap} (h : Hd w K mg) : Cle P w K mg base 7 "check_machine" 1 F_check_machine := by
  obtain ⟨fd, D0⟩ := h.d_check_machine
  exact cle_of D0 h.g_check_machine rfl (fn_check_machine h D0) fun _ _ _ _ _ _ us hl => match us, hl with | [_], _ => rfl
/-! ### are_counts -/
noncomputable def g_are_counts : FS :=
 (sRet (fAndV (fCall F_is_sequence (fCons (fVar 0) fNil)) (fAndV (fChain gLe gLe (fC (.int 1)) (fCB gLen (fCons (fVar 0) fNil)) (fC (.int 4))) (fCB gAllL (fLc (fWalk (fVar 0)) (gN 1) [1] fYes (fCall F_is_number (fCons (fVar 1) fNil)))))))
noncomputable def F_are_counts : List D → M → Res D := runF 2 1 g_are_counts
theorem sc_are_counts : FnScope N_are_counts ps_are_counts (defScope s_are_counts) := C8.fnScope_by (by decide +kernel)
theorem fn_are_counts {P : Program} {w : World} {K : PySem.W.Frag} {mg : Str → Option Value} {base : Heap} (h : Hd w K mg) {fd : FuncData} (D0 : FnP K "are_counts" s_are_counts (He.ga K "are_counts") fd) : FnG P w K mg base 3 (He.ga K "are_counts") fd ps_are_counts F_are_counts := by
  refine fng_of (N := N_are_counts) (W := WF) D0 sc_are_counts fun cdv A outer s H room gu => ?_
  exact (pssd_one (psd_ret (pd_and (pd_call (c_is_sequence h) nPar_run room (by decide) gu rfl (pad_cons (pd_var 0) pad_nil)) (pd_and (pd_chain op_le op_le opd_le opd_le pd_int (Dl.b_len rfl (b_len h) (pd_var 0)) (pd_glob rfl (i_MOST_HANDS h))) (pd_one (Dl.b_allL rfl rfl (b_all h) (pld_lc (own := [("many", 1)]) rfl sc_are_counts.nd (pid_seq (pd_var 0)) (blkOk_by (N := N_are_counts) (sc := defScope s_are_counts) (own := [("many", 1)]) (by decide +kernel)) (fun _ _ _ _ _ => (pgd_name (i := 1) sc_are_counts.nd rfl (by first | exact Or.inl rfl | exact Or.inr rfl))) (fun _ _ _ _ _ => ptsd_nil) (fun _ _ _ _ _ => (pd_call (c_is_number h) nPar_run room (by decide) gu rfl (pad_cons (pd_var 1) pad_nil))) (by decide))))))))
theorem c_are_counts {P : Program} {w : World} {K : PySem.W.Frag} {mg : Str → Option Value} {base : Heap} (h : Hd w K mg) : Cle P w K mg base 3 "are_counts" 1 F_are_counts := by
  obtain ⟨fd, D0⟩ := h.d_are_counts
  exact cle_of D0 h.g_are_counts rfl (fn_are_counts h D0) fun _ _ _ _ _ _ us hl => match us, hl with | [_], _ => rfl
/-! ### check_part -/
noncomputable def g_check_part : FS :=
 (sSeq (sIf (fOrT (fNotT (fTest (fCall F_is_sequence (fCons (fVar 0) fNil)))) (fTest (fOp gNe (fCB gLen (fCons (fVar 0) fNil)) (fC (.int 2)))))
 sNever
 sNext)
 (sSeq (sIf (fNotT (fTest (fCall F_are_counts (fCons (fOp gIx (fVar 0) (fC (.int 0))) fNil))))
 sNever
 sNext)
 (sSeq (sSet 2 (fC (.int 1)))
 (sSeq (sFor (fWalk (fOp gIx (fVar 0) (fC (.int 0)))) (gN 3)
 (sAug 2 (fOp gAdd (fVar 3) (fC (.int 1))) gMulI))
 (sSeq (sIf (fOrT (fNotT (fTest (fCall F_is_sequence (fCons (fOp gIx (fVar 0) (fC (.int 1))) fNil)))) (fOrT (fTest (fOp gNe (fCB gLen (fCons (fOp gIx (fVar 0) (fC (.int 1))) fNil)) (fVar 2))) (fNotT (fTest (fCB gAllL (fLc (fWalk (fOp gIx (fVar 0) (fC (.int 1)))) (gN 4) [4] fYes (fCall F_is_below (fCons (fVar 4) (fCons (fVar 1) fNil)))))))))
 sNever
 sNext)
 (sRet (fTup (fCons (fCB gTuple (fCons (fOp gIx (fVar 0) (fC (.int 0))) fNil)) (fCons (fCB gTuple (fCons (fOp gIx (fVar 0) (fC (.int 1))) fNil)) fNil)))))))))
noncomputable def F_check_part : List D → M → Res D := runF 5 2 g_check_part
theorem sc_check_part : FnScope N_check_part ps_check_part (defScope s_check_part) := C8.fnScope_by (by decide +kernel)
theorem fn_check_part {P : Program} {w : World} {K : PySem.W.Frag} {mg : Str → Option Value} {base : Heap} (h : Hd w K mg) {fd : FuncData} (D0 : FnP K "check_part" s_check_part (He.ga K "check_part") fd) : FnG P w K mg base 4 (He.ga K "check_part") fd ps_check_part F_check_part := by
  refine fng_of (N := N_check_part) (W := WF) D0 sc_check_part fun cdv A outer s H room gu => ?_
  exact (pssd_cons (psd_if (ptd_w (pwd_or (ptd_not (ptd_val (pd_call (c_is_sequence h) nPar_run room (by decide) gu rfl (pad_cons (pd_var 0) pad_nil)))) (pwd_or1 (ptd_ne (room_units room) (Dl.b_len rfl (b_len h) (pd_var 0)) pd_int))))
 (pssd_one psd_never)
 pssd_nil)
 (pssd_cons (psd_if (ptd_not (ptd_val (pd_call (c_are_counts h) nPar_run room (by decide) gu rfl (pad_cons (pd_ix (room_units room) (pd_var 0) pd_int) pad_nil))))
 (pssd_one psd_never)
 pssd_nil)
 (pssd_cons (psd_set (i := 2) sc_check_part.nd rfl (by first | exact Or.inl rfl | exact Or.inr rfl) pd_int)
 (pssd_cons (psd_for PassesOwn.never rfl (pid_seq (pd_ix (room_units room) (pd_var 0) pd_int)) (pgd_name (i := 3) sc_check_part.nd rfl (by first | exact Or.inl rfl | exact Or.inr rfl))
 (pssd_one (psd_aug (i := 2) sc_check_part.nd rfl (by first | exact Or.inl rfl | exact Or.inr rfl) (pd_add (pd_var 3) pd_int) iop_mul opd_mul)))
 (pssd_cons (psd_if (ptd_w (pwd_or (ptd_not (ptd_val (pd_call (c_is_sequence h) nPar_run room (by decide) gu rfl (pad_cons (pd_ix (room_units room) (pd_var 0) pd_int) pad_nil)))) (pwd_or (ptd_ne (room_units room) (Dl.b_len rfl (b_len h) (pd_ix (room_units room) (pd_var 0) pd_int)) (pd_var 2)) (pwd_or1 (ptd_not (ptd_val (Dl.b_allL rfl rfl (b_all h) (pld_lc (own := [("one", 4)]) rfl sc_check_part.nd (pid_seq (pd_ix (room_units room) (pd_var 0) pd_int)) (blkOk_by (N := N_check_part) (sc := defScope s_check_part) (own := [("one", 4)]) (by decide +kernel)) (fun _ _ _ _ _ => (pgd_name (i := 4) sc_check_part.nd rfl (by first | exact Or.inl rfl | exact Or.inr rfl))) (fun _ _ _ _ _ => ptsd_nil) (fun _ _ _ _ _ => (pd_call (c_is_below h) nPar_run room (by decide) gu rfl (pad_cons (pd_var 4) (pad_cons (pd_var 1) pad_nil)))) (by decide)))))))))
 (pssd_one psd_never)
 pssd_nil)
 (pssd_one (psd_ret (pd_tup (pad_cons (Dl.b_tuple rfl (b_tuple h) (pd_ix (room_units room) (pd_var 0) pd_int)) (pad_cons (Dl.b_tuple rfl (b_tuple h) (pd_ix (room_units room) (pd_var 0) pd_int)) pad_nil))))))))))
theorem c_check_part {P : Program} {w : World} {K : PySem.W.Frag} {mg : Str → Option Value} {base : Heap} (h : Hd w K mg) : Cle P w K mg base 4 "check_part" 2 F_check_part := by
  obtain ⟨fd, D0⟩ := h.d_check_part
  exact cle_of D0 h.g_check_part rfl (fn_check_part h D0) fun _ _ _ _ _ _ us hl => match us, hl with | [_, _], _ => rfl
/-! ### check_table -/
noncomputable def g_check_table : FS :=
 (sRet (fCall F_check_part (fCons (fVar 1) (fCons (fCB gLen (fCons (fOp gIx (fOp gIx (fCall F_check_machine (fCons (fVar 0) fNil)) (fC (.int 1))) (fC (.int 0))) fNil)) fNil))))
noncomputable def F_check_table : List D → M → Res D := runF 2 2 g_check_table
theorem sc_check_table : FnScope N_check_table ps_check_table (defScope s_check_table) := C8.fnScope_by (by decide +kernel)
theorem fn_check_table {P : Program} {w : World} {K : PySem.W.Frag} {mg : Str → Option Value} {base : Heap} (h : Hd w K mg) {fd : FuncData} (D0 : FnP K "check_table" s_check_table (He.ga K "check_table") fd) : FnG P w K mg base 8 (He.ga K "check_table") fd ps_check_table F_check_table := by
  refine fng_of (N := N_check_table) (W := WF) D0 sc_check_table fun cdv A outer s H room gu => ?_
  exact (pssd_one (psd_ret (pd_call (c_check_part h) nPar_run room (by decide) gu rfl (pad_cons (pd_var 1) (pad_cons (Dl.b_len rfl (b_len h) (pd_ix (room_units room) (pd_ix (room_units room) (pd_call (c_check_machine h) nPar_run room (by decide) gu rfl (pad_cons (pd_var 0) pad_nil)) pd_int) pd_int)) pad_nil)))))
theorem c_check_table {P : Program} {w : World} {K : PySem.W.Frag} {mg : Str → Option Value} {base : Heap} (h : Hd w K mg) : Cle P w K mg base 8 "check_table" 2 F_check_table := by
  obtain ⟨fd, D0⟩ := h.d_check_table
  exact cle_of D0 h.g_check_table rfl (fn_check_table h D0) fun _ _ _ _ _ _ us hl => match us, hl with | [_, _], _ => rfl
/-! ### need_hand -/
noncomputable def g_need_hand : FS :=
 (sSeq (sIf (fNotT (fTest (fCall F_is_below (fCons (fVar 1) (fCons (fCB gLen (fCons (fOp gIx (fVar 0) (fC (.int 0))) fNil)) fNil)))))
 sNever
 sNext)
 (sRet (fVar 1)))
noncomputable def F_need_hand : List D → M → Res D := runF 2 2 g_need_hand
theorem sc_need_hand : FnScope N_need_hand ps_need_hand (defScope s_need_hand) := C8.fnScope_by (by decide +kernel)
theorem fn_need_hand {P : Program} {w : World} {K : PySem.W.Frag} {mg : Str → Option Value} {base : Heap} (h : Hd w K mg) {fd : FuncData} (D0 : FnP K "need_hand" s_need_hand (He.ga K "need_hand") fd) : FnG P w K mg base 4 (He.ga K "need_hand") fd ps_need_hand F_need_hand := by
  refine fng_of (N := N_need_hand) (W := WF) D0 sc_need_hand fun cdv A outer s H room gu => ?_
  exact (pssd_cons (psd_if (ptd_not (ptd_val (pd_call (c_is_below h) nPar_run room (by decide) gu rfl (pad_cons (pd_var 1) (pad_cons (Dl.b_len rfl (b_len h) (pd_ix (room_units room) (pd_var 0) pd_int)) pad_nil)))))
 (pssd_one psd_never)
 pssd_nil)
 (pssd_one (psd_ret (pd_var 1))))
theorem c_need_hand {P : Program} {w : World} {K : PySem.W.Frag} {mg : Str → Option Value} {base : Heap} (h : Hd w K mg) : Cle P w K mg base 4 "need_hand" 2 F_need_hand := by
  obtain ⟨fd, D0⟩ := h.d_need_hand
  exact cle_of D0 h.g_need_hand rfl (fn_need_hand h D0) fun _ _ _ _ _ _ us hl => match us, hl with | [_, _], _ => rfl
/-! ### need_counts -/
noncomputable def g_need_counts : FS :=
 (sSeq (sIf (fNotT (fTest (fCall F_are_counts (fCons (fVar 0) fNil))))
 sNever
 sNext)
 (sRet (fCB gTuple (fCons (fVar 0) fNil))))
noncomputable def F_need_counts : List D → M → Res D := runF 1 1 g_need_counts
theorem sc_need_counts : FnScope N_need_counts ps_need_counts (defScope s_need_counts) := C8.fnScope_by (by decide +kernel)
theorem fn_need_counts {P : Program} {w : World} {K : PySem.W.Frag} {mg : Str → Option Value} {base : Heap} (h : Hd w K mg) {fd : FuncData} (D0 : FnP K "need_counts" s_need_counts (He.ga K "need_counts") fd) : FnG P w K mg base 4 (He.ga K "need_counts") fd ps_need_counts F_need_counts := by
  refine fng_of (N := N_need_counts) (W := WF) D0 sc_need_counts fun cdv A outer s H room gu => ?_
  exact (pssd_cons (psd_if (ptd_not (ptd_val (pd_call (c_are_counts h) nPar_run room (by decide) gu rfl (pad_cons (pd_var 0) pad_nil))))
 (pssd_one psd_never)
 pssd_nil)
 (pssd_one (psd_ret (Dl.b_tuple rfl (b_tuple h) (pd_var 0)))))
theorem c_need_counts {P : Program} {w : World} {K : PySem.W.Frag} {mg : Str → Option Value} {base : Heap} (h : Hd w K mg) : Cle P w K mg base 4 "need_counts" 1 F_need_counts := by
  obtain ⟨fd, D0⟩ := h.d_need_counts
  exact cle_of D0 h.g_need_counts rfl (fn_need_counts h D0) fun _ _ _ _ _ _ us hl => match us, hl with | [_], _ => rfl
/-! ### vectors -/
noncomputable def g_vectors : FS :=
 (sSeq (sSet 1 (fName (fLst (fCons (fTup fNil) fNil))))
 (sSeq (sFor (fWalk (fCall F_need_counts (fCons (fVar 0) fNil))) (gN 2)
 (sSetL 1 (fLc2 (fWalk (fVar 1)) (gN 3) [3, 4] fYes (fRng1 (fOp gAdd (fVar 2) (fC (.int 1)))) (gN 4) [4] fYes (fOp gAdd (fVar 3) (fTup (fCons (fVar 4) fNil))))))
 (sRet (fCB gTuple (fCons (fVar 1) fNil)))))
noncomputable def F_vectors : List D → M → Res D := runF 5 1 g_vectors
theorem sc_vectors : FnScope N_vectors ps_vectors (defScope s_vectors) := C8.fnScope_by (by decide +kernel)
theorem fn_vectors {P : Program} {w : World} {K : PySem.W.Frag} {mg : Str → Option Value} {base : Heap} (h : Hd w K mg) {fd : FuncData} (D0 : FnP K "vectors" s_vectors (He.ga K "vectors") fd) : FnG P w K mg base 5 (He.ga K "vectors") fd ps_vectors F_vectors := by
  refine fng_of (N := N_vectors) (W := WF) D0 sc_vectors fun cdv A outer s H room gu => ?_
  exact (pssd_cons (psd_set (i := 1) sc_vectors.nd rfl (by first | exact Or.inl rfl | exact Or.inr rfl) (pd_name (pld_lst (pad_cons (pd_tup pad_nil) pad_nil))))
 (pssd_cons (psd_for PassesOwn.never rfl (pid_seq (pd_call (c_need_counts h) nPar_run room (by decide) gu rfl (pad_cons (pd_var 0) pad_nil))) (pgd_name (i := 2) sc_vectors.nd rfl (by first | exact Or.inl rfl | exact Or.inr rfl))
 (pssd_one (psd_setLc2 (own := [("vector", 3), ("here", 4)]) (us := [4]) rfl sc_vectors.nd rfl rfl (sw_true rfl rfl rfl (by decide +kernel)) (pid_seq (pd_var 1)) (blkOk_by (N := N_vectors) (sc := defScope s_vectors) (own := [("vector", 3), ("here", 4)]) (by decide +kernel)) (by decide) (fun _ _ _ _ _ => (pgd_name (i := 3) sc_vectors.nd rfl (by first | exact Or.inl rfl | exact Or.inr rfl))) (fun _ _ _ _ _ => ptsd_nil) (fun _ _ _ _ _ => (pid_range1 rfl (b_range h) (pd_add (pd_var 2) pd_int))) (fun _ _ _ _ _ => (pgd_name (i := 4) sc_vectors.nd rfl (by first | exact Or.inl rfl | exact Or.inr rfl))) (fun _ _ _ _ _ => ptsd_nil) (fun _ _ _ _ _ => (pd_add (pd_var 3) (pd_tup (pad_cons (pd_var 4) pad_nil)))) (by decide) (by decide))))
 (pssd_one (psd_ret (Dl.b_tuple rfl (b_tuple h) (pd_var 1))))))
theorem c_vectors {P : Program} {w : World} {K : PySem.W.Frag} {mg : Str → Option Value} {base : Heap} (h : Hd w K mg) : Cle P w K mg base 5 "vectors" 1 F_vectors := by
  obtain ⟨fd, D0⟩ := h.d_vectors
  exact cle_of D0 h.g_vectors rfl (fn_vectors h D0) fun _ _ _ _ _ _ us hl => match us, hl with | [_], _ => rfl
/-! ### is_vector -/
noncomputable def g_is_vector : FS :=
 (sSeq (sIf (fOrT (fNotT (fTest (fCall F_is_sequence (fCons (fVar 1) fNil)))) (fTest (fOp gNe (fCB gLen (fCons (fVar 1) fNil)) (fCB gLen (fCons (fVar 0) fNil)))))
 (sRet (fC (.bl false)))
 sNext)
 (sRet (fCB gAllL (fLc (fZipT (fVar 1) (fVar 0)) (gT 2 (gCons' (gN 2) (gCons' (gN 3) gNil'))) [2, 3] fYes (fCall F_is_below (fCons (fVar 2) (fCons (fOp gAdd (fVar 3) (fC (.int 1))) fNil)))))))
noncomputable def F_is_vector : List D → M → Res D := runF 4 2 g_is_vector
theorem sc_is_vector : FnScope N_is_vector ps_is_vector (defScope s_is_vector) := C8.fnScope_by (by decide +kernel)
theorem fn_is_vector {P : Program} {w : World} {K : PySem.W.Frag} {mg : Str → Option Value} {base : Heap} (h : Hd w K mg) {fd : FuncData} (D0 : FnP K "is_vector" s_is_vector (He.ga K "is_vector") fd) : FnG P w K mg base 4 (He.ga K "is_vector") fd ps_is_vector F_is_vector := by
  refine fng_of (N := N_is_vector) (W := WF) D0 sc_is_vector fun cdv A outer s H room gu => ?_
  exact (pssd_cons (psd_if (ptd_w (pwd_or (ptd_not (ptd_val (pd_call (c_is_sequence h) nPar_run room (by decide) gu rfl (pad_cons (pd_var 1) pad_nil)))) (pwd_or1 (ptd_ne (room_units room) (Dl.b_len rfl (b_len h) (pd_var 1)) (Dl.b_len rfl (b_len h) (pd_var 0))))))
 (pssd_one (psd_ret pd_bl))
 pssd_nil)
 (pssd_one (psd_ret (Dl.b_allL rfl rfl (b_all h) (pld_lc (own := [("here", 2), ("many", 3)]) rfl sc_is_vector.nd (pid_zipT rfl (b_zip h) (pd_var 1) (pd_var 0)) (blkOk_by (N := N_is_vector) (sc := defScope s_is_vector) (own := [("here", 2), ("many", 3)]) (by decide +kernel)) (fun _ _ _ _ _ => (pgd_tup rfl (pgsd_cons (pgd_name (i := 2) sc_is_vector.nd rfl (by first | exact Or.inl rfl | exact Or.inr rfl)) (pgsd_cons (pgd_name (i := 3) sc_is_vector.nd rfl (by first | exact Or.inl rfl | exact Or.inr rfl)) pgsd_nil)))) (fun _ _ _ _ _ => ptsd_nil) (fun _ _ _ _ _ => (pd_call (c_is_below h) nPar_run room (by decide) gu rfl (pad_cons (pd_var 2) (pad_cons (pd_add (pd_var 3) pd_int) pad_nil)))) (by decide))))))
theorem c_is_vector {P : Program} {w : World} {K : PySem.W.Frag} {mg : Str → Option Value} {base : Heap} (h : Hd w K mg) : Cle P w K mg base 4 "is_vector" 2 F_is_vector := by
  obtain ⟨fd, D0⟩ := h.d_is_vector
  exact cle_of D0 h.g_is_vector rfl (fn_is_vector h D0) fun _ _ _ _ _ _ us hl => match us, hl with | [_, _], _ => rfl
/-! ### place_of -/
noncomputable def g_place_of : FS :=
 (sSeq (sSet 2 (fCall F_need_counts (fCons (fVar 0) fNil)))
 (sSeq (sIf (fNotT (fTest (fCall F_is_vector (fCons (fVar 2) (fCons (fVar 1) fNil)))))
 sNever
 sNext)
 (sSeq (sSet 3 (fC (.int 0)))
 (sSeq (sFor (fZipT (fVar 1) (fVar 2)) (gT 2 (gCons' (gN 4) (gCons' (gN 5) gNil')))
 (sSet 3 (fOp gAdd (fOp gMul (fVar 3) (fOp gAdd (fVar 5) (fC (.int 1)))) (fVar 4))))
 (sRet (fVar 3))))))
noncomputable def F_place_of : List D → M → Res D := runF 6 2 g_place_of
theorem sc_place_of : FnScope N_place_of ps_place_of (defScope s_place_of) := C8.fnScope_by (by decide +kernel)
theorem fn_place_of {P : Program} {w : World} {K : PySem.W.Frag} {mg : Str → Option Value} {base : Heap} (h : Hd w K mg) {fd : FuncData} (D0 : FnP K "place_of" s_place_of (He.ga K "place_of") fd) : FnG P w K mg base 5 (He.ga K "place_of") fd ps_place_of F_place_of := by
  refine fng_of (N := N_place_of) (W := WF) D0 sc_place_of fun cdv A outer s H room gu => ?_
  exact (pssd_cons (psd_set (i := 2) sc_place_of.nd rfl (by first | exact Or.inl rfl | exact Or.inr rfl) (pd_call (c_need_counts h) nPar_run room (by decide) gu rfl (pad_cons (pd_var 0) pad_nil)))
 (pssd_cons (psd_if (ptd_not (ptd_val (pd_call (c_is_vector h) nPar_run room (by decide) gu rfl (pad_cons (pd_var 2) (pad_cons (pd_var 1) pad_nil)))))
 (pssd_one psd_never)
 pssd_nil)
 (pssd_cons (psd_set (i := 3) sc_place_of.nd rfl (by first | exact Or.inl rfl | exact Or.inr rfl) pd_int)
 (pssd_cons (psd_for PassesOwn.never rfl (pid_zipT rfl (b_zip h) (pd_var 1) (pd_var 2)) (pgd_tup rfl (pgsd_cons (pgd_name (i := 4) sc_place_of.nd rfl (by first | exact Or.inl rfl | exact Or.inr rfl)) (pgsd_cons (pgd_name (i := 5) sc_place_of.nd rfl (by first | exact Or.inl rfl | exact Or.inr rfl)) pgsd_nil)))
 (pssd_one (psd_set (i := 3) sc_place_of.nd rfl (by first | exact Or.inl rfl | exact Or.inr rfl) (pd_add (pd_mul (pd_var 3) (pd_add (pd_var 5) pd_int)) (pd_var 4)))))
 (pssd_one (psd_ret (pd_var 3)))))))
theorem c_place_of {P : Program} {w : World} {K : PySem.W.Frag} {mg : Str → Option Value} {base : Heap} (h : Hd w K mg) : Cle P w K mg base 5 "place_of" 2 F_place_of := by
  obtain ⟨fd, D0⟩ := h.d_place_of
  exact cle_of D0 h.g_place_of rfl (fn_place_of h D0) fun _ _ _ _ _ _ us hl => match us, hl with | [_, _], _ => rfl
/-! ### part_of -/
noncomputable def g_part_of : FS :=
 (sSeq (sSet 2 (fCall F_check_part (fCons (fVar 0) (fCons (fC (.int 8)) fNil))))
 (sSeq (sDrop (fCall F_place_of (fCons (fOp gIx (fVar 2) (fC (.int 0))) (fCons (fVar 1) fNil))))
 (sRet (fTup (fCons (fCB gTuple (fCons (fVar 1) fNil)) (fCons (fCB gTupleL (fLc (fWalk (fCall F_vectors (fCons (fVar 1) fNil))) (gN 3) [3] fYes (fOp gIx (fOp gIx (fVar 2) (fC (.int 1))) (fCall F_place_of (fCons (fOp gIx (fVar 2) (fC (.int 0))) (fCons (fVar 3) fNil)))))) fNil))))))
noncomputable def F_part_of : List D → M → Res D := runF 4 2 g_part_of
theorem sc_part_of : FnScope N_part_of ps_part_of (defScope s_part_of) := C8.fnScope_by (by decide +kernel)
theorem fn_part_of {P : Program} {w : World} {K : PySem.W.Frag} {mg : Str → Option Value} {base : Heap} (h : Hd w K mg) {fd : FuncData} (D0 : FnP K "part_of" s_part_of (He.ga K "part_of") fd) : FnG P w K mg base 6 (He.ga K "part_of") fd ps_part_of F_part_of := by
  refine fng_of (N := N_part_of) (W := WF) D0 sc_part_of fun cdv A outer s H room gu => ?_
  exact (pssd_cons (psd_set (i := 2) sc_part_of.nd rfl (by first | exact Or.inl rfl | exact Or.inr rfl) (pd_call (c_check_part h) nPar_run room (by decide) gu rfl (pad_cons (pd_var 0) (pad_cons (pd_glob rfl (i_MOST_BOARDS h)) pad_nil))))
 (pssd_cons (psd_expr (pd_call (c_place_of h) nPar_run room (by decide) gu rfl (pad_cons (pd_ix (room_units room) (pd_var 2) pd_int) (pad_cons (pd_var 1) pad_nil))))
 (pssd_one (psd_ret (pd_tup (pad_cons (Dl.b_tuple rfl (b_tuple h) (pd_var 1)) (pad_cons (Dl.b_tupleL rfl (b_tuple h) (pld_lc (own := [("one", 3)]) rfl sc_part_of.nd (pid_seq (pd_call (c_vectors h) nPar_run room (by decide) gu rfl (pad_cons (pd_var 1) pad_nil))) (blkOk_by (N := N_part_of) (sc := defScope s_part_of) (own := [("one", 3)]) (by decide +kernel)) (fun _ _ _ _ _ => (pgd_name (i := 3) sc_part_of.nd rfl (by first | exact Or.inl rfl | exact Or.inr rfl))) (fun _ _ _ _ _ => ptsd_nil) (fun _ _ _ _ _ => (pd_ix (room_units room) (pd_ix (room_units room) (pd_var 2) pd_int) (pd_call (c_place_of h) nPar_run room (by decide) gu rfl (pad_cons (pd_ix (room_units room) (pd_var 2) pd_int) (pad_cons (pd_var 3) pad_nil))))) (by decide))) pad_nil)))))))
theorem c_part_of {P : Program} {w : World} {K : PySem.W.Frag} {mg : Str → Option Value} {base : Heap} (h : Hd w K mg) : Cle P w K mg base 6 "part_of" 2 F_part_of := by
  obtain ⟨fd, D0⟩ := h.d_part_of
  exact cle_of D0 h.g_part_of rfl (fn_part_of h D0) fun _ _ _ _ _ _ us hl => match us, hl with | [_, _], _ => rfl
/-! ### with_back -/
noncomputable def g_with_back : FS :=
 (sSeq (sSet 2 (fCall F_check_part (fCons (fVar 0) (fCons (fC (.int 8)) fNil))))
 (sSeq (sIf (fTest (fOp gEq (fOp gIx (fOp gIx (fVar 2) (fC (.int 0))) (fCall F_need_hand (fCons (fVar 2) (fCons (fVar 1) fNil)))) (fC (.int 0))))
 sNever
 sNext)
 (sRet (fCall F_part_of (fCons (fVar 2) (fCons (fCB gTupleL (fLc (fEnum (fOp gIx (fVar 2) (fC (.int 0)))) (gT 2 (gCons' (gN 3) (gCons' (gN 4) gNil'))) [3, 4] fYes (fIf (fTest (fOp gEq (fVar 3) (fVar 1))) (fOp gSub (fVar 4) (fC (.int 1))) (fVar 4)))) fNil))))))
noncomputable def F_with_back : List D → M → Res D := runF 5 2 g_with_back
theorem sc_with_back : FnScope N_with_back ps_with_back (defScope s_with_back) := C8.fnScope_by (by decide +kernel)
theorem fn_with_back {P : Program} {w : World} {K : PySem.W.Frag} {mg : Str → Option Value} {base : Heap} (h : Hd w K mg) {fd : FuncData} (D0 : FnP K "with_back" s_with_back (He.ga K "with_back") fd) : FnG P w K mg base 7 (He.ga K "with_back") fd ps_with_back F_with_back := by
  refine fng_of (N := N_with_back) (W := WF) D0 sc_with_back fun cdv A outer s H room gu => ?_
  exact (pssd_cons (psd_set (i := 2) sc_with_back.nd rfl (by first | exact Or.inl rfl | exact Or.inr rfl) (pd_call (c_check_part h) nPar_run room (by decide) gu rfl (pad_cons (pd_var 0) (pad_cons (pd_glob rfl (i_MOST_BOARDS h)) pad_nil))))
 (pssd_cons (psd_if (ptd_eq (room_units room) (pd_ix (room_units room) (pd_ix (room_units room) (pd_var 2) pd_int) (pd_call (c_need_hand h) nPar_run room (by decide) gu rfl (pad_cons (pd_var 2) (pad_cons (pd_var 1) pad_nil)))) pd_int)
 (pssd_one psd_never)
 pssd_nil)
 (pssd_one (psd_ret (pd_call (c_part_of h) nPar_run room (by decide) gu rfl (pad_cons (pd_var 2) (pad_cons (Dl.b_tupleL rfl (b_tuple h) (pld_lc (own := [("place", 3), ("many", 4)]) rfl sc_with_back.nd (pid_enum rfl (b_enumerate h) (pd_ix (room_units room) (pd_var 2) pd_int)) (blkOk_by (N := N_with_back) (sc := defScope s_with_back) (own := [("place", 3), ("many", 4)]) (by decide +kernel)) (fun _ _ _ _ _ => (pgd_tup rfl (pgsd_cons (pgd_name (i := 3) sc_with_back.nd rfl (by first | exact Or.inl rfl | exact Or.inr rfl)) (pgsd_cons (pgd_name (i := 4) sc_with_back.nd rfl (by first | exact Or.inl rfl | exact Or.inr rfl)) pgsd_nil)))) (fun _ _ _ _ _ => ptsd_nil) (fun _ _ _ _ _ => (pd_if (ptd_eq (room_units room) (pd_var 3) (pd_var 1)) (pd_sub (pd_var 4) pd_int) (pd_var 4))) (by decide))) pad_nil)))))))
theorem c_with_back {P : Program} {w : World} {K : PySem.W.Frag} {mg : Str → Option Value} {base : Heap} (h : Hd w K mg) : Cle P w K mg base 7 "with_back" 2 F_with_back := by
  obtain ⟨fd, D0⟩ := h.d_with_back
  exact cle_of D0 h.g_with_back rfl (fn_with_back h D0) fun _ _ _ _ _ _ us hl => match us, hl with | [_, _], _ => rfl
/-! ### does_all -/
noncomputable def g_does_all : FS :=
 (sRet (fCB gAllL (fLc (fWalk (fVar 1)) (gT 2 (gCons' (gN 2) (gCons' (gN 3) gNil'))) [2, 3] fYes (fOp gEq (fOp gIx (fVar 0) (fVar 2)) (fVar 3)))))
noncomputable def F_does_all : List D → M → Res D := runF 4 2 g_does_all
theorem sc_does_all : FnScope N_does_all ps_does_all (defScope s_does_all) := C8.fnScope_by (by decide +kernel)
theorem fn_does_all {P : Program} {w : World} {K : PySem.W.Frag} {mg : Str → Option Value} {base : Heap} (h : Hd w K mg) {fd : FuncData} (D0 : FnP K "does_all" s_does_all (He.ga K "does_all") fd) : FnG P w K mg base 1 (He.ga K "does_all") fd ps_does_all F_does_all := by
  refine fng_of (N := N_does_all) (W := WF) D0 sc_does_all fun cdv A outer s H room gu => ?_
  exact (pssd_one (psd_ret (Dl.b_allL rfl rfl (b_all h) (pld_lc (own := [("board", 2), ("later", 3)]) rfl sc_does_all.nd (pid_seq (pd_var 1)) (blkOk_by (N := N_does_all) (sc := defScope s_does_all) (own := [("board", 2), ("later", 3)]) (by decide +kernel)) (fun _ _ _ _ _ => (pgd_tup rfl (pgsd_cons (pgd_name (i := 2) sc_does_all.nd rfl (by first | exact Or.inl rfl | exact Or.inr rfl)) (pgsd_cons (pgd_name (i := 3) sc_does_all.nd rfl (by first | exact Or.inl rfl | exact Or.inr rfl)) pgsd_nil)))) (fun _ _ _ _ _ => ptsd_nil) (fun _ _ _ _ _ => (pd_eq (room_units room) (pd_ix (room_units room) (pd_var 0) (pd_var 2)) (pd_var 3))) (by decide)))))
theorem c_does_all {P : Program} {w : World} {K : PySem.W.Frag} {mg : Str → Option Value} {base : Heap} (h : Hd w K mg) : Cle P w K mg base 1 "does_all" 2 F_does_all := by
  obtain ⟨fd, D0⟩ := h.d_does_all
  exact cle_of D0 h.g_does_all rfl (fn_does_all h D0) fun _ _ _ _ _ _ us hl => match us, hl with | [_, _], _ => rfl
/-! ### deeds_doing -/
noncomputable def g_deeds_doing : FS :=
 (sRet (fCB gTupleL (fLc (fEnum (fOp gIx (fVar 0) (fC (.int 1)))) (gT 2 (gCons' (gN 2) (gCons' (gN 3) gNil'))) [2, 3] (fTest (fCall F_does_all (fCons (fVar 3) (fCons (fVar 1) fNil)))) (fVar 2))))
noncomputable def F_deeds_doing : List D → M → Res D := runF 4 2 g_deeds_doing
theorem sc_deeds_doing : FnScope N_deeds_doing ps_deeds_doing (defScope s_deeds_doing) := C8.fnScope_by (by decide +kernel)
theorem fn_deeds_doing {P : Program} {w : World} {K : PySem.W.Frag} {mg : Str → Option Value} {base : Heap} (h : Hd w K mg) {fd : FuncData} (D0 : FnP K "deeds_doing" s_deeds_doing (He.ga K "deeds_doing") fd) : FnG P w K mg base 2 (He.ga K "deeds_doing") fd ps_deeds_doing F_deeds_doing := by
  refine fng_of (N := N_deeds_doing) (W := WF) D0 sc_deeds_doing fun cdv A outer s H room gu => ?_
  exact (pssd_one (psd_ret (Dl.b_tupleL rfl (b_tuple h) (pld_lc (own := [("deed", 2), ("step", 3)]) rfl sc_deeds_doing.nd (pid_enum rfl (b_enumerate h) (pd_ix (room_units room) (pd_var 0) pd_int)) (blkOk_by (N := N_deeds_doing) (sc := defScope s_deeds_doing) (own := [("deed", 2), ("step", 3)]) (by decide +kernel)) (fun _ _ _ _ _ => (pgd_tup rfl (pgsd_cons (pgd_name (i := 2) sc_deeds_doing.nd rfl (by first | exact Or.inl rfl | exact Or.inr rfl)) (pgsd_cons (pgd_name (i := 3) sc_deeds_doing.nd rfl (by first | exact Or.inl rfl | exact Or.inr rfl)) pgsd_nil)))) (fun _ _ _ _ _ => (ptsd_one (ptd_val (pd_call (c_does_all h) nPar_run room (by decide) gu rfl (pad_cons (pd_var 3) (pad_cons (pd_var 1) pad_nil)))))) (fun _ _ _ _ _ => (pd_var 2)) (by decide)))))
theorem c_deeds_doing {P : Program} {w : World} {K : PySem.W.Frag} {mg : Str → Option Value} {base : Heap} (h : Hd w K mg) : Cle P w K mg base 2 "deeds_doing" 2 F_deeds_doing := by
  obtain ⟨fd, D0⟩ := h.d_deeds_doing
  exact cle_of D0 h.g_deeds_doing rfl (fn_deeds_doing h D0) fun _ _ _ _ _ _ us hl => match us, hl with | [_, _], _ => rfl
/-! ### lessened -/
noncomputable def g_lessened : FS :=
 (sRet (fOp gAdd (fOp gAdd (fCut (fVar 0) fNoPart (fPart (fVar 1))) (fTup (fCons (fOp gSub (fOp gIx (fVar 0) (fVar 1)) (fC (.int 1))) fNil))) (fCut (fVar 0) (fPart (fOp gAdd (fVar 1) (fC (.int 1)))) fNoPart)))
noncomputable def F_lessened : List D → M → Res D := runF 2 2 g_lessened
theorem sc_lessened : FnScope N_lessened ps_lessened (defScope s_lessened) := C8.fnScope_by (by decide +kernel)
theorem fn_lessened {P : Program} {w : World} {K : PySem.W.Frag} {mg : Str → Option Value} {base : Heap} (h : Hd w K mg) {fd : FuncData} (D0 : FnP K "lessened" s_lessened (He.ga K "lessened") fd) : FnG P w K mg base 1 (He.ga K "lessened") fd ps_lessened F_lessened := by
  refine fng_of (N := N_lessened) (W := WF) D0 sc_lessened fun cdv A outer s H room gu => ?_
  exact (pssd_one (psd_ret (pd_add (pd_add (pd_cut (pd_var 0) pod_none (pod_some (pd_var 1))) (pd_tup (pad_cons (pd_sub (pd_ix (room_units room) (pd_var 0) (pd_var 1)) pd_int) pad_nil))) (pd_cut (pd_var 0) (pod_some (pd_add (pd_var 1) pd_int)) pod_none))))
theorem c_lessened {P : Program} {w : World} {K : PySem.W.Frag} {mg : Str → Option Value} {base : Heap} (h : Hd w K mg) : Cle P w K mg base 1 "lessened" 2 F_lessened := by
  obtain ⟨fd, D0⟩ := h.d_lessened
  exact cle_of D0 h.g_lessened rfl (fn_lessened h D0) fun _ _ _ _ _ _ us hl => match us, hl with | [_, _], _ => rfl
/-! ### last_pairs -/
noncomputable def g_last_pairs : FS :=
 (sSeq (sSet 2 (fName (fLst fNil)))
 (sSeq (sFor (fWalk (fCall F_vectors (fCons (fOp gIx (fVar 0) (fC (.int 0))) fNil))) (gN 3)
 (sIf (fTest (fOp gEq (fOp gIx (fVar 3) (fVar 1)) (fOp gIx (fOp gIx (fVar 0) (fC (.int 0))) (fVar 1))))
 (sSeq (sSet 4 (fCall F_place_of (fCons (fOp gIx (fVar 0) (fC (.int 0))) (fCons (fCall F_lessened (fCons (fVar 3) (fCons (fVar 1) fNil))) fNil))))
 (sDrop (fMeth mAppend (fVar 2) (fCons (fTup (fCons (fOp gIx (fOp gIx (fVar 0) (fC (.int 1))) (fVar 4)) (fCons (fOp gIx (fOp gIx (fVar 0) (fC (.int 1))) (fCall F_place_of (fCons (fOp gIx (fVar 0) (fC (.int 0))) (fCons (fVar 3) fNil)))) fNil))) fNil))))
 sNext))
 (sRet (fCB gTuple (fCons (fVar 2) fNil)))))
noncomputable def F_last_pairs : List D → M → Res D := runF 5 2 g_last_pairs
theorem sc_last_pairs : FnScope N_last_pairs ps_last_pairs (defScope s_last_pairs) := C8.fnScope_by (by decide +kernel)
theorem fn_last_pairs {P : Program} {w : World} {K : PySem.W.Frag} {mg : Str → Option Value} {base : Heap} (h : Hd w K mg) {fd : FuncData} (D0 : FnP K "last_pairs" s_last_pairs (He.ga K "last_pairs") fd) : FnG P w K mg base 6 (He.ga K "last_pairs") fd ps_last_pairs F_last_pairs := by
  refine fng_of (N := N_last_pairs) (W := WF) D0 sc_last_pairs fun cdv A outer s H room gu => ?_
  exact (pssd_cons (psd_set (i := 2) sc_last_pairs.nd rfl (by first | exact Or.inl rfl | exact Or.inr rfl) (pd_name (pld_lst pad_nil)))
 (pssd_cons (psd_for PassesOwn.never rfl (pid_seq (pd_call (c_vectors h) nPar_run room (by decide) gu rfl (pad_cons (pd_ix (room_units room) (pd_var 0) pd_int) pad_nil))) (pgd_name (i := 3) sc_last_pairs.nd rfl (by first | exact Or.inl rfl | exact Or.inr rfl))
 (pssd_one (psd_if (ptd_eq (room_units room) (pd_ix (room_units room) (pd_var 3) (pd_var 1)) (pd_ix (room_units room) (pd_ix (room_units room) (pd_var 0) pd_int) (pd_var 1)))
 (pssd_cons (psd_set (i := 4) sc_last_pairs.nd rfl (by first | exact Or.inl rfl | exact Or.inr rfl) (pd_call (c_place_of h) nPar_run room (by decide) gu rfl (pad_cons (pd_ix (room_units room) (pd_var 0) pd_int) (pad_cons (pd_call (c_lessened h) nPar_run room (by decide) gu rfl (pad_cons (pd_var 3) (pad_cons (pd_var 1) pad_nil))) pad_nil))))
 (pssd_one (psd_expr (pd_append (pd_var 2) (pad_cons (pd_tup (pad_cons (pd_ix (room_units room) (pd_ix (room_units room) (pd_var 0) pd_int) (pd_var 4)) (pad_cons (pd_ix (room_units room) (pd_ix (room_units room) (pd_var 0) pd_int) (pd_call (c_place_of h) nPar_run room (by decide) gu rfl (pad_cons (pd_ix (room_units room) (pd_var 0) pd_int) (pad_cons (pd_var 3) pad_nil)))) pad_nil))) pad_nil)))))
 pssd_nil)))
 (pssd_one (psd_ret (Dl.b_tuple rfl (b_tuple h) (pd_var 2))))))
theorem c_last_pairs {P : Program} {w : World} {K : PySem.W.Frag} {mg : Str → Option Value} {base : Heap} (h : Hd w K mg) : Cle P w K mg base 6 "last_pairs" 2 F_last_pairs := by
  obtain ⟨fd, D0⟩ := h.d_last_pairs
  exact cle_of D0 h.g_last_pairs rfl (fn_last_pairs h D0) fun _ _ _ _ _ _ us hl => match us, hl with | [_, _], _ => rfl
/-! ### lasts -/
noncomputable def g_lasts : FS :=
 (sSeq (sSet 2 (fCall F_check_machine (fCons (fVar 0) fNil)))
 (sSeq (sPar 3 4 (fCons (fCall F_check_table (fCons (fVar 2) (fCons (fVar 1) fNil))) (fCons (fName (fLst fNil)) fNil)))
 (sSeq (sFor (fEnum (fOp gIx (fVar 3) (fC (.int 0)))) (gT 2 (gCons' (gN 5) (gCons' (gN 6) gNil')))
 (sSeq (sSet 7 (fIf (fTest (fOp gGt (fVar 6) (fC (.int 0)))) (fCall F_deeds_doing (fCons (fVar 2) (fCons (fCall F_last_pairs (fCons (fVar 3) (fCons (fVar 5) fNil))) fNil))) (fTup fNil)))
 (sIf (fTest (fOp gGt (fCB gLen (fCons (fVar 7) fNil)) (fC (.int 0))))
 (sDrop (fMeth mAppend (fVar 4) (fCons (fTup (fCons (fVar 5) (fCons (fOp gIx (fVar 7) (fC (.int 0))) fNil))) fNil)))
 sNext)))
 (sRet (fCB gTuple (fCons (fVar 4) fNil))))))
noncomputable def F_lasts : List D → M → Res D := runF 8 2 g_lasts
theorem sc_lasts : FnScope N_lasts ps_lasts (defScope s_lasts) := C8.fnScope_by (by decide +kernel)
theorem fn_lasts {P : Program} {w : World} {K : PySem.W.Frag} {mg : Str → Option Value} {base : Heap} (h : Hd w K mg) {fd : FuncData} (D0 : FnP K "lasts" s_lasts (He.ga K "lasts") fd) : FnG P w K mg base 9 (He.ga K "lasts") fd ps_lasts F_lasts := by
  refine fng_of (N := N_lasts) (W := WF) D0 sc_lasts fun cdv A outer s H room gu => ?_
  exact (pssd_cons (psd_set (i := 2) sc_lasts.nd rfl (by first | exact Or.inl rfl | exact Or.inr rfl) (pd_call (c_check_machine h) nPar_run room (by decide) gu rfl (pad_cons (pd_var 0) pad_nil)))
 (pssd_cons (psd_par (i := 3) (j := 4) rfl sc_lasts.nd rfl rfl (by decide) rfl rfl (pad_cons (pd_call (c_check_table h) nPar_run room (by decide) gu rfl (pad_cons (pd_var 2) (pad_cons (pd_var 1) pad_nil))) (pad_cons (pd_name (pld_lst pad_nil)) pad_nil)))
 (pssd_cons (psd_for PassesOwn.never rfl (pid_enum rfl (b_enumerate h) (pd_ix (room_units room) (pd_var 3) pd_int)) (pgd_tup rfl (pgsd_cons (pgd_name (i := 5) sc_lasts.nd rfl (by first | exact Or.inl rfl | exact Or.inr rfl)) (pgsd_cons (pgd_name (i := 6) sc_lasts.nd rfl (by first | exact Or.inl rfl | exact Or.inr rfl)) pgsd_nil)))
 (pssd_cons (psd_set (i := 7) sc_lasts.nd rfl (by first | exact Or.inl rfl | exact Or.inr rfl) (pd_if (ptd_gt (pd_var 6) pd_int) (pd_call (c_deeds_doing h) nPar_run room (by decide) gu rfl (pad_cons (pd_var 2) (pad_cons (pd_call (c_last_pairs h) nPar_run room (by decide) gu rfl (pad_cons (pd_var 3) (pad_cons (pd_var 5) pad_nil))) pad_nil))) (pd_tup pad_nil)))
 (pssd_one (psd_if (ptd_gt (Dl.b_len rfl (b_len h) (pd_var 7)) pd_int)
 (pssd_one (psd_expr (pd_append (pd_var 4) (pad_cons (pd_tup (pad_cons (pd_var 5) (pad_cons (pd_ix (room_units room) (pd_var 7) pd_int) pad_nil))) pad_nil))))
 pssd_nil))))
 (pssd_one (psd_ret (Dl.b_tuple rfl (b_tuple h) (pd_var 4)))))))
theorem c_lasts {P : Program} {w : World} {K : PySem.W.Frag} {mg : Str → Option Value} {base : Heap} (h : Hd w K mg) : Cle P w K mg base 9 "lasts" 2 F_lasts := by
  obtain ⟨fd, D0⟩ := h.d_lasts
  exact cle_of D0 h.g_lasts rfl (fn_lasts h D0) fun _ _ _ _ _ _ us hl => match us, hl with | [_, _], _ => rfl
/-! ### normal -/
noncomputable def g_normal : FS :=
 (sSeq (sSet 2 (fCall F_check_machine (fCons (fVar 0) fNil)))
 (sSeq (sPar 3 4 (fCons (fCall F_check_table (fCons (fVar 2) (fCons (fVar 1) fNil))) (fCons (fName (fLst fNil)) fNil)))
 (sSeq (sWhile (fTest (fCB gAnyL (fLc (fWalk (fOp gIx (fVar 3) (fC (.int 0)))) (gN 6) [6] fYes (fOp gGt (fVar 6) (fC (.int 0))))))
 (sSeq (sSet 5 (fCall F_lasts (fCons (fVar 2) (fCons (fVar 3) fNil))))
 (sSeq (sIf (fTest (fOp gEq (fCB gLen (fCons (fVar 5) fNil)) (fC (.int 0))))
 sNever
 sNext)
 (sSeq (sDrop (fMeth mAppend (fVar 4) (fCons (fOp gIx (fVar 5) (fUn gNeg (fC (.int 1)))) fNil)))
 (sSet 3 (fCall F_with_back (fCons (fVar 3) (fCons (fOp gIx (fOp gIx (fVar 5) (fUn gNeg (fC (.int 1)))) (fC (.int 0))) fNil))))))))
 (sSeq (sIf (fTest (fOp gNe (fOp gIx (fOp gIx (fVar 3) (fC (.int 1))) (fC (.int 0))) (fOp gIx (fVar 2) (fC (.int 0)))))
 sNever
 sNext)
 (sRet (fCB gTuple (fCons (fRevL (fVar 4)) fNil)))))))
noncomputable def F_normal : List D → M → Res D := runF 7 2 g_normal
theorem sc_normal : FnScope N_normal ps_normal (defScope s_normal) := C8.fnScope_by (by decide +kernel)
theorem fn_normal {P : Program} {w : World} {K : PySem.W.Frag} {mg : Str → Option Value} {base : Heap} (h : Hd w K mg) {fd : FuncData} (D0 : FnP K "normal" s_normal (He.ga K "normal") fd) : FnG P w K mg base 10 (He.ga K "normal") fd ps_normal F_normal := by
  refine fng_of (N := N_normal) (W := WF) D0 sc_normal fun cdv A outer s H room gu => ?_
  exact (pssd_cons (psd_set (i := 2) sc_normal.nd rfl (by first | exact Or.inl rfl | exact Or.inr rfl) (pd_call (c_check_machine h) nPar_run room (by decide) gu rfl (pad_cons (pd_var 0) pad_nil)))
 (pssd_cons (psd_par (i := 3) (j := 4) rfl sc_normal.nd rfl rfl (by decide) rfl rfl (pad_cons (pd_call (c_check_table h) nPar_run room (by decide) gu rfl (pad_cons (pd_var 2) (pad_cons (pd_var 1) pad_nil))) (pad_cons (pd_name (pld_lst pad_nil)) pad_nil)))
 (pssd_cons (psd_while PassesOwn.never (ptd_val (Dl.b_anyL rfl rfl (b_any h) (pld_lc (own := [("many", 6)]) rfl sc_normal.nd (pid_seq (pd_ix (room_units room) (pd_var 3) pd_int)) (blkOk_by (N := N_normal) (sc := defScope s_normal) (own := [("many", 6)]) (by decide +kernel)) (fun _ _ _ _ _ => (pgd_name (i := 6) sc_normal.nd rfl (by first | exact Or.inl rfl | exact Or.inr rfl))) (fun _ _ _ _ _ => ptsd_nil) (fun _ _ _ _ _ => (pd_gt (pd_var 6) pd_int)) (by decide))))
 (pssd_cons (psd_set (i := 5) sc_normal.nd rfl (by first | exact Or.inl rfl | exact Or.inr rfl) (pd_call (c_lasts h) nPar_run room (by decide) gu rfl (pad_cons (pd_var 2) (pad_cons (pd_var 3) pad_nil))))
 (pssd_cons (psd_if (ptd_eq (room_units room) (Dl.b_len rfl (b_len h) (pd_var 5)) pd_int)
 (pssd_one psd_never)
 pssd_nil)
 (pssd_cons (psd_expr (pd_append (pd_var 4) (pad_cons (pd_ix (room_units room) (pd_var 5) (pd_neg pd_int)) pad_nil)))
 (pssd_one (psd_set (i := 3) sc_normal.nd rfl (by first | exact Or.inl rfl | exact Or.inr rfl) (pd_call (c_with_back h) nPar_run room (by decide) gu rfl (pad_cons (pd_var 3) (pad_cons (pd_ix (room_units room) (pd_ix (room_units room) (pd_var 5) (pd_neg pd_int)) pd_int) pad_nil)))))))))
 (pssd_cons (psd_if (ptd_ne (room_units room) (pd_ix (room_units room) (pd_ix (room_units room) (pd_var 3) pd_int) pd_int) (pd_ix (room_units room) (pd_var 2) pd_int))
 (pssd_one psd_never)
 pssd_nil)
 (pssd_one (psd_ret (Dl.b_tuple rfl (b_tuple h) (pd_revL (pd_var 4)))))))))
theorem c_normal {P : Program} {w : World} {K : PySem.W.Frag} {mg : Str → Option Value} {base : Heap} (h : Hd w K mg) : Cle P w K mg base 10 "normal" 2 F_normal := by
  obtain ⟨fd, D0⟩ := h.d_normal
  exact cle_of D0 h.g_normal rfl (fn_normal h D0) fun _ _ _ _ _ _ us hl => match us, hl with | [_, _], _ => rfl
theorem ck_normal__table_machine {P : Program} {w : World} {K : PySem.W.Frag} {mg : Str → Option Value} {base : Heap} (h : Hd w K mg) : CleK P w K mg base 10 "normal" 2 F_normal ["table", "machine"] pm_1_0 := by
  obtain ⟨fd, D0⟩ := h.d_normal
  exact clek_of D0 h.g_normal rfl (fn_normal h D0) fun _ _ _ _ _ _ us hl => match us, hl with | [_, _], _ => rfl
/-! ### is_positive -/
noncomputable def g_is_positive : FS :=
 (sRet (fAndV (fCall F_is_integer (fCons (fVar 0) fNil)) (fOp gGe (fVar 0) (fC (.int 1)))))
noncomputable def F_is_positive : List D → M → Res D := runF 1 1 g_is_positive
theorem sc_is_positive : FnScope N_is_positive ps_is_positive (defScope s_is_positive) := C8.fnScope_by (by decide +kernel)
theorem fn_is_positive {P : Program} {w : World} {K : PySem.W.Frag} {mg : Str → Option Value} {base : Heap} (h : Hd w K mg) {fd : FuncData} (D0 : FnP K "is_positive" s_is_positive (He.ga K "is_positive") fd) : FnG P w K mg base 2 (He.ga K "is_positive") fd ps_is_positive F_is_positive := by
  refine fng_of (N := N_is_positive) (W := WF) D0 sc_is_positive fun cdv A outer s H room gu => ?_
  exact (pssd_one (psd_ret (pd_and (pd_call (c_is_integer h) nPar_run room (by decide) gu rfl (pad_cons (pd_var 0) pad_nil)) (pd_one (pd_ge (pd_var 0) pd_int)))))
theorem c_is_positive {P : Program} {w : World} {K : PySem.W.Frag} {mg : Str → Option Value} {base : Heap} (h : Hd w K mg) : Cle P w K mg base 2 "is_positive" 1 F_is_positive := by
  obtain ⟨fd, D0⟩ := h.d_is_positive
  exact cle_of D0 h.g_is_positive rfl (fn_is_positive h D0) fun _ _ _ _ _ _ us hl => match us, hl with | [_], _ => rfl
/-! ### is_hands -/
noncomputable def g_is_hands : FS :=
 (sRet (fAndV (fCall F_is_positive (fCons (fVar 0) fNil)) (fOp gLe (fVar 0) (fC (.int 4)))))
noncomputable def F_is_hands : List D → M → Res D := runF 1 1 g_is_hands
theorem sc_is_hands : FnScope N_is_hands ps_is_hands (defScope s_is_hands) := C8.fnScope_by (by decide +kernel)
theorem fn_is_hands {P : Program} {w : World} {K : PySem.W.Frag} {mg : Str → Option Value} {base : Heap} (h : Hd w K mg) {fd : FuncData} (D0 : FnP K "is_hands" s_is_hands (He.ga K "is_hands") fd) : FnG P w K mg base 3 (He.ga K "is_hands") fd ps_is_hands F_is_hands := by
  refine fng_of (N := N_is_hands) (W := WF) D0 sc_is_hands fun cdv A outer s H room gu => ?_
  exact (pssd_one (psd_ret (pd_and (pd_call (c_is_positive h) nPar_run room (by decide) gu rfl (pad_cons (pd_var 0) pad_nil)) (pd_one (pd_le (pd_var 0) (pd_glob rfl (i_MOST_HANDS h)))))))
theorem c_is_hands {P : Program} {w : World} {K : PySem.W.Frag} {mg : Str → Option Value} {base : Heap} (h : Hd w K mg) : Cle P w K mg base 3 "is_hands" 1 F_is_hands := by
  obtain ⟨fd, D0⟩ := h.d_is_hands
  exact cle_of D0 h.g_is_hands rfl (fn_is_hands h D0) fun _ _ _ _ _ _ us hl => match us, hl with | [_], _ => rfl
/-! ### need_hands -/
noncomputable def g_need_hands : FS :=
 (sSeq (sIf (fNotT (fTest (fCall F_is_hands (fCons (fVar 0) fNil))))
 sNever
 sNext)
 (sRet (fVar 0)))
noncomputable def F_need_hands : List D → M → Res D := runF 1 1 g_need_hands
theorem sc_need_hands : FnScope N_need_hands ps_need_hands (defScope s_need_hands) := C8.fnScope_by (by decide +kernel)
theorem fn_need_hands {P : Program} {w : World} {K : PySem.W.Frag} {mg : Str → Option Value} {base : Heap} (h : Hd w K mg) {fd : FuncData} (D0 : FnP K "need_hands" s_need_hands (He.ga K "need_hands") fd) : FnG P w K mg base 4 (He.ga K "need_hands") fd ps_need_hands F_need_hands := by
  refine fng_of (N := N_need_hands) (W := WF) D0 sc_need_hands fun cdv A outer s H room gu => ?_
  exact (pssd_cons (psd_if (ptd_not (ptd_val (pd_call (c_is_hands h) nPar_run room (by decide) gu rfl (pad_cons (pd_var 0) pad_nil))))
 (pssd_one psd_never)
 pssd_nil)
 (pssd_one (psd_ret (pd_var 0))))
theorem c_need_hands {P : Program} {w : World} {K : PySem.W.Frag} {mg : Str → Option Value} {base : Heap} (h : Hd w K mg) : Cle P w K mg base 4 "need_hands" 1 F_need_hands := by
  obtain ⟨fd, D0⟩ := h.d_need_hands
  exact cle_of D0 h.g_need_hands rfl (fn_need_hands h D0) fun _ _ _ _ _ _ us hl => match us, hl with | [_], _ => rfl
/-! ### is_letter -/
noncomputable def g_is_letter : FS :=
 (sRet (fAndV (fCall F_is_sequence (fCons (fVar 0) fNil)) (fAndV (fOp gEq (fCB gLen (fCons (fVar 0) fNil)) (fC (.int 2))) (fAndV (fCall F_is_below (fCons (fOp gIx (fVar 0) (fC (.int 0))) (fCons (fVar 1) fNil))) (fCall F_is_below (fCons (fOp gIx (fVar 0) (fC (.int 1))) (fCons (fVar 2) fNil)))))))
noncomputable def F_is_letter : List D → M → Res D := runF 3 3 g_is_letter
theorem sc_is_letter : FnScope N_is_letter ps_is_letter (defScope s_is_letter) := C8.fnScope_by (by decide +kernel)
theorem fn_is_letter {P : Program} {w : World} {K : PySem.W.Frag} {mg : Str → Option Value} {base : Heap} (h : Hd w K mg) {fd : FuncData} (D0 : FnP K "is_letter" s_is_letter (He.ga K "is_letter") fd) : FnG P w K mg base 4 (He.ga K "is_letter") fd ps_is_letter F_is_letter := by
  refine fng_of (N := N_is_letter) (W := WF) D0 sc_is_letter fun cdv A outer s H room gu => ?_
  exact (pssd_one (psd_ret (pd_and (pd_call (c_is_sequence h) nPar_run room (by decide) gu rfl (pad_cons (pd_var 0) pad_nil)) (pd_and (pd_eq (room_units room) (Dl.b_len rfl (b_len h) (pd_var 0)) pd_int) (pd_and (pd_call (c_is_below h) nPar_run room (by decide) gu rfl (pad_cons (pd_ix (room_units room) (pd_var 0) pd_int) (pad_cons (pd_var 1) pad_nil))) (pd_one (pd_call (c_is_below h) nPar_run room (by decide) gu rfl (pad_cons (pd_ix (room_units room) (pd_var 0) pd_int) (pad_cons (pd_var 2) pad_nil)))))))))
theorem c_is_letter {P : Program} {w : World} {K : PySem.W.Frag} {mg : Str → Option Value} {base : Heap} (h : Hd w K mg) : Cle P w K mg base 4 "is_letter" 3 F_is_letter := by
  obtain ⟨fd, D0⟩ := h.d_is_letter
  exact cle_of D0 h.g_is_letter rfl (fn_is_letter h D0) fun _ _ _ _ _ _ us hl => match us, hl with | [_, _, _], _ => rfl
/-! ### check_row -/
noncomputable def g_check_row : FS :=
 (sSeq (sDrop (fCall F_need_hands (fCons (fVar 0) fNil)))
 (sSeq (sIf (fNotT (fTest (fCall F_is_sequence (fCons (fVar 2) fNil))))
 sNever
 sNext)
 (sSeq (sFor (fEnum (fVar 2)) (gT 2 (gCons' (gN 3) (gCons' (gN 4) gNil')))
 (sIf (fNotT (fTest (fCall F_is_letter (fCons (fVar 4) (fCons (fVar 0) (fCons (fVar 1) fNil))))))
 sNever
 sNext))
 (sRet (fCB gTupleL (fLc (fWalk (fVar 2)) (gN 4) [4] fYes (fCB gTuple (fCons (fVar 4) fNil))))))))
noncomputable def F_check_row : List D → M → Res D := runF 5 3 g_check_row
theorem sc_check_row : FnScope N_check_row ps_check_row (defScope s_check_row) := C8.fnScope_by (by decide +kernel)
theorem fn_check_row {P : Program} {w : World} {K : PySem.W.Frag} {mg : Str → Option Value} {base : Heap} (h : Hd w K mg) {fd : FuncData} (D0 : FnP K "check_row" s_check_row (He.ga K "check_row") fd) : FnG P w K mg base 5 (He.ga K "check_row") fd ps_check_row F_check_row := by
  refine fng_of (N := N_check_row) (W := WF) D0 sc_check_row fun cdv A outer s H room gu => ?_
  exact (pssd_cons (psd_expr (pd_call (c_need_hands h) nPar_run room (by decide) gu rfl (pad_cons (pd_var 0) pad_nil)))
 (pssd_cons (psd_if (ptd_not (ptd_val (pd_call (c_is_sequence h) nPar_run room (by decide) gu rfl (pad_cons (pd_var 2) pad_nil))))
 (pssd_one psd_never)
 pssd_nil)
 (pssd_cons (psd_for PassesOwn.never rfl (pid_enum rfl (b_enumerate h) (pd_var 2)) (pgd_tup rfl (pgsd_cons (pgd_name (i := 3) sc_check_row.nd rfl (by first | exact Or.inl rfl | exact Or.inr rfl)) (pgsd_cons (pgd_name (i := 4) sc_check_row.nd rfl (by first | exact Or.inl rfl | exact Or.inr rfl)) pgsd_nil)))
 (pssd_one (psd_if (ptd_not (ptd_val (pd_call (c_is_letter h) nPar_run room (by decide) gu rfl (pad_cons (pd_var 4) (pad_cons (pd_var 0) (pad_cons (pd_var 1) pad_nil))))))
 (pssd_one psd_never)
 pssd_nil)))
 (pssd_one (psd_ret (Dl.b_tupleL rfl (b_tuple h) (pld_lc (own := [("letter", 4)]) rfl sc_check_row.nd (pid_seq (pd_var 2)) (blkOk_by (N := N_check_row) (sc := defScope s_check_row) (own := [("letter", 4)]) (by decide +kernel)) (fun _ _ _ _ _ => (pgd_name (i := 4) sc_check_row.nd rfl (by first | exact Or.inl rfl | exact Or.inr rfl))) (fun _ _ _ _ _ => ptsd_nil) (fun _ _ _ _ _ => (Dl.b_tuple rfl (b_tuple h) (pd_var 4))) (by decide))))))))
theorem c_check_row {P : Program} {w : World} {K : PySem.W.Frag} {mg : Str → Option Value} {base : Heap} (h : Hd w K mg) : Cle P w K mg base 5 "check_row" 3 F_check_row := by
  obtain ⟨fd, D0⟩ := h.d_check_row
  exact cle_of D0 h.g_check_row rfl (fn_check_row h D0) fun _ _ _ _ _ _ us hl => match us, hl with | [_, _, _], _ => rfl
/-! ### check_history -/
noncomputable def g_check_history : FS :=
 (sSeq (sSet 3 (fCall F_check_machine (fCons (fVar 0) fNil)))
 (sRet (fCall F_check_row (fCons (fVar 1) (fCons (fCB gLen (fCons (fOp gIx (fVar 3) (fC (.int 1))) fNil)) (fCons (fVar 2) fNil))))))
noncomputable def F_check_history : List D → M → Res D := runF 4 3 g_check_history
theorem sc_check_history : FnScope N_check_history ps_check_history (defScope s_check_history) := C8.fnScope_by (by decide +kernel)
theorem fn_check_history {P : Program} {w : World} {K : PySem.W.Frag} {mg : Str → Option Value} {base : Heap} (h : Hd w K mg) {fd : FuncData} (D0 : FnP K "check_history" s_check_history (He.ga K "check_history") fd) : FnG P w K mg base 8 (He.ga K "check_history") fd ps_check_history F_check_history := by
  refine fng_of (N := N_check_history) (W := WF) D0 sc_check_history fun cdv A outer s H room gu => ?_
  exact (pssd_cons (psd_set (i := 3) sc_check_history.nd rfl (by first | exact Or.inl rfl | exact Or.inr rfl) (pd_call (c_check_machine h) nPar_run room (by decide) gu rfl (pad_cons (pd_var 0) pad_nil)))
 (pssd_one (psd_ret (pd_call (c_check_row h) nPar_run room (by decide) gu rfl (pad_cons (pd_var 1) (pad_cons (Dl.b_len rfl (b_len h) (pd_ix (room_units room) (pd_var 3) pd_int)) (pad_cons (pd_var 2) pad_nil)))))))
theorem c_check_history {P : Program} {w : World} {K : PySem.W.Frag} {mg : Str → Option Value} {base : Heap} (h : Hd w K mg) : Cle P w K mg base 8 "check_history" 3 F_check_history := by
  obtain ⟨fd, D0⟩ := h.d_check_history
  exact cle_of D0 h.g_check_history rfl (fn_check_history h D0) fun _ _ _ _ _ _ us hl => match us, hl with | [_, _, _], _ => rfl
/-! ### first_table -/
noncomputable def g_first_table : FS :=
 (sSeq (sSet 2 (fCall F_check_machine (fCons (fVar 0) fNil)))
 (sSeq (sDrop (fCall F_check_history (fCons (fVar 2) (fCons (fVar 1) (fCons (fTup fNil) fNil)))))
 (sRet (fTup (fCons (fOp gMul (fTup (fCons (fC (.int 0)) fNil)) (fVar 1)) (fCons (fTup (fCons (fOp gIx (fVar 2) (fC (.int 0))) fNil)) fNil))))))
noncomputable def F_first_table : List D → M → Res D := runF 3 2 g_first_table
theorem sc_first_table : FnScope N_first_table ps_first_table (defScope s_first_table) := C8.fnScope_by (by decide +kernel)
theorem fn_first_table {P : Program} {w : World} {K : PySem.W.Frag} {mg : Str → Option Value} {base : Heap} (h : Hd w K mg) {fd : FuncData} (D0 : FnP K "first_table" s_first_table (He.ga K "first_table") fd) : FnG P w K mg base 9 (He.ga K "first_table") fd ps_first_table F_first_table := by
  refine fng_of (N := N_first_table) (W := WF) D0 sc_first_table fun cdv A outer s H room gu => ?_
  exact (pssd_cons (psd_set (i := 2) sc_first_table.nd rfl (by first | exact Or.inl rfl | exact Or.inr rfl) (pd_call (c_check_machine h) nPar_run room (by decide) gu rfl (pad_cons (pd_var 0) pad_nil)))
 (pssd_cons (psd_expr (pd_call (c_check_history h) nPar_run room (by decide) gu rfl (pad_cons (pd_var 2) (pad_cons (pd_var 1) (pad_cons (pd_tup pad_nil) pad_nil)))))
 (pssd_one (psd_ret (pd_tup (pad_cons (pd_mul (pd_tup (pad_cons pd_int pad_nil)) (pd_var 1)) (pad_cons (pd_tup (pad_cons (pd_ix (room_units room) (pd_var 2) pd_int) pad_nil)) pad_nil)))))))
theorem c_first_table {P : Program} {w : World} {K : PySem.W.Frag} {mg : Str → Option Value} {base : Heap} (h : Hd w K mg) : Cle P w K mg base 9 "first_table" 2 F_first_table := by
  obtain ⟨fd, D0⟩ := h.d_first_table
  exact cle_of D0 h.g_first_table rfl (fn_first_table h D0) fun _ _ _ _ _ _ us hl => match us, hl with | [_, _], _ => rfl
/-! ### grown -/
noncomputable def g_grown : FS :=
 (sSeq (sSet 4 (fCB gTupleL (fLc (fEnum (fOp gIx (fVar 1) (fC (.int 0)))) (gT 2 (gCons' (gN 9) (gCons' (gN 10) gNil'))) [9, 10] fYes (fIf (fTest (fOp gEq (fVar 9) (fVar 2))) (fOp gAdd (fVar 10) (fC (.int 1))) (fVar 10)))))
 (sSeq (sPar 5 6 (fCons (fOp gIx (fOp gIx (fVar 0) (fC (.int 1))) (fVar 3)) (fCons (fName (fLst fNil)) fNil)))
 (sSeq (sFor (fWalk (fCall F_vectors (fCons (fVar 4) fNil))) (gN 7)
 (sIf (fTest (fOp gLt (fOp gIx (fVar 7) (fVar 2)) (fOp gIx (fVar 4) (fVar 2))))
 (sDrop (fMeth mAppend (fVar 6) (fCons (fOp gIx (fOp gIx (fVar 1) (fC (.int 1))) (fCall F_place_of (fCons (fOp gIx (fVar 1) (fC (.int 0))) (fCons (fVar 7) fNil)))) fNil)))
 (sSeq (sSet 8 (fOp gAdd (fOp gAdd (fCut (fVar 7) fNoPart (fPart (fVar 2))) (fTup (fCons (fOp gSub (fOp gIx (fVar 7) (fVar 2)) (fC (.int 1))) fNil))) (fCut (fVar 7) (fPart (fOp gAdd (fVar 2) (fC (.int 1)))) fNoPart)))
 (sDrop (fMeth mAppend (fVar 6) (fCons (fOp gIx (fVar 5) (fOp gIx (fOp gIx (fVar 1) (fC (.int 1))) (fCall F_place_of (fCons (fOp gIx (fVar 1) (fC (.int 0))) (fCons (fVar 8) fNil))))) fNil))))))
 (sRet (fTup (fCons (fVar 4) (fCons (fCB gTuple (fCons (fVar 6) fNil)) fNil)))))))
noncomputable def F_grown : List D → M → Res D := runF 11 4 g_grown
theorem sc_grown : FnScope N_grown ps_grown (defScope s_grown) := C8.fnScope_by (by decide +kernel)
theorem fn_grown {P : Program} {w : World} {K : PySem.W.Frag} {mg : Str → Option Value} {base : Heap} (h : Hd w K mg) {fd : FuncData} (D0 : FnP K "grown" s_grown (He.ga K "grown") fd) : FnG P w K mg base 6 (He.ga K "grown") fd ps_grown F_grown := by
  refine fng_of (N := N_grown) (W := WF) D0 sc_grown fun cdv A outer s H room gu => ?_
  exact (pssd_cons (psd_set (i := 4) sc_grown.nd rfl (by first | exact Or.inl rfl | exact Or.inr rfl) (Dl.b_tupleL rfl (b_tuple h) (pld_lc (own := [("place", 9), ("many", 10)]) rfl sc_grown.nd (pid_enum rfl (b_enumerate h) (pd_ix (room_units room) (pd_var 1) pd_int)) (blkOk_by (N := N_grown) (sc := defScope s_grown) (own := [("place", 9), ("many", 10)]) (by decide +kernel)) (fun _ _ _ _ _ => (pgd_tup rfl (pgsd_cons (pgd_name (i := 9) sc_grown.nd rfl (by first | exact Or.inl rfl | exact Or.inr rfl)) (pgsd_cons (pgd_name (i := 10) sc_grown.nd rfl (by first | exact Or.inl rfl | exact Or.inr rfl)) pgsd_nil)))) (fun _ _ _ _ _ => ptsd_nil) (fun _ _ _ _ _ => (pd_if (ptd_eq (room_units room) (pd_var 9) (pd_var 2)) (pd_add (pd_var 10) pd_int) (pd_var 10))) (by decide))))
 (pssd_cons (psd_par (i := 5) (j := 6) rfl sc_grown.nd rfl rfl (by decide) rfl rfl (pad_cons (pd_ix (room_units room) (pd_ix (room_units room) (pd_var 0) pd_int) (pd_var 3)) (pad_cons (pd_name (pld_lst pad_nil)) pad_nil)))
 (pssd_cons (psd_for PassesOwn.never rfl (pid_seq (pd_call (c_vectors h) nPar_run room (by decide) gu rfl (pad_cons (pd_var 4) pad_nil))) (pgd_name (i := 7) sc_grown.nd rfl (by first | exact Or.inl rfl | exact Or.inr rfl))
 (pssd_one (psd_if (ptd_lt (pd_ix (room_units room) (pd_var 7) (pd_var 2)) (pd_ix (room_units room) (pd_var 4) (pd_var 2)))
 (pssd_one (psd_expr (pd_append (pd_var 6) (pad_cons (pd_ix (room_units room) (pd_ix (room_units room) (pd_var 1) pd_int) (pd_call (c_place_of h) nPar_run room (by decide) gu rfl (pad_cons (pd_ix (room_units room) (pd_var 1) pd_int) (pad_cons (pd_var 7) pad_nil)))) pad_nil))))
 (pssd_cons (psd_set (i := 8) sc_grown.nd rfl (by first | exact Or.inl rfl | exact Or.inr rfl) (pd_add (pd_add (pd_cut (pd_var 7) pod_none (pod_some (pd_var 2))) (pd_tup (pad_cons (pd_sub (pd_ix (room_units room) (pd_var 7) (pd_var 2)) pd_int) pad_nil))) (pd_cut (pd_var 7) (pod_some (pd_add (pd_var 2) pd_int)) pod_none)))
 (pssd_one (psd_expr (pd_append (pd_var 6) (pad_cons (pd_ix (room_units room) (pd_var 5) (pd_ix (room_units room) (pd_ix (room_units room) (pd_var 1) pd_int) (pd_call (c_place_of h) nPar_run room (by decide) gu rfl (pad_cons (pd_ix (room_units room) (pd_var 1) pd_int) (pad_cons (pd_var 8) pad_nil))))) pad_nil))))))))
 (pssd_one (psd_ret (pd_tup (pad_cons (pd_var 4) (pad_cons (Dl.b_tuple rfl (b_tuple h) (pd_var 6)) pad_nil))))))))
theorem c_grown {P : Program} {w : World} {K : PySem.W.Frag} {mg : Str → Option Value} {base : Heap} (h : Hd w K mg) : Cle P w K mg base 6 "grown" 4 F_grown := by
  obtain ⟨fd, D0⟩ := h.d_grown
  exact cle_of D0 h.g_grown rfl (fn_grown h D0) fun _ _ _ _ _ _ us hl => match us, hl with | [_, _, _, _], _ => rfl
/-! ### table_of -/
noncomputable def g_table_of : FS :=
 (sSeq (sSet 3 (fCall F_check_machine (fCons (fVar 0) fNil)))
 (sSeq (sSet 4 (fCall F_first_table (fCons (fVar 3) (fCons (fVar 1) fNil))))
 (sSeq (sFor (fWalk (fCall F_check_history (fCons (fVar 3) (fCons (fVar 1) (fCons (fVar 2) fNil))))) (gT 2 (gCons' (gN 5) (gCons' (gN 6) gNil')))
 (sSet 4 (fCall F_grown (fCons (fVar 3) (fCons (fVar 4) (fCons (fVar 5) (fCons (fVar 6) fNil)))))))
 (sRet (fVar 4)))))
noncomputable def F_table_of : List D → M → Res D := runF 7 3 g_table_of
theorem sc_table_of : FnScope N_table_of ps_table_of (defScope s_table_of) := C8.fnScope_by (by decide +kernel)
theorem fn_table_of {P : Program} {w : World} {K : PySem.W.Frag} {mg : Str → Option Value} {base : Heap} (h : Hd w K mg) {fd : FuncData} (D0 : FnP K "table_of" s_table_of (He.ga K "table_of") fd) : FnG P w K mg base 10 (He.ga K "table_of") fd ps_table_of F_table_of := by
  refine fng_of (N := N_table_of) (W := WF) D0 sc_table_of fun cdv A outer s H room gu => ?_
  exact (pssd_cons (psd_set (i := 3) sc_table_of.nd rfl (by first | exact Or.inl rfl | exact Or.inr rfl) (pd_call (c_check_machine h) nPar_run room (by decide) gu rfl (pad_cons (pd_var 0) pad_nil)))
 (pssd_cons (psd_set (i := 4) sc_table_of.nd rfl (by first | exact Or.inl rfl | exact Or.inr rfl) (pd_call (c_first_table h) nPar_run room (by decide) gu rfl (pad_cons (pd_var 3) (pad_cons (pd_var 1) pad_nil))))
 (pssd_cons (psd_for PassesOwn.never rfl (pid_seq (pd_call (c_check_history h) nPar_run room (by decide) gu rfl (pad_cons (pd_var 3) (pad_cons (pd_var 1) (pad_cons (pd_var 2) pad_nil))))) (pgd_tup rfl (pgsd_cons (pgd_name (i := 5) sc_table_of.nd rfl (by first | exact Or.inl rfl | exact Or.inr rfl)) (pgsd_cons (pgd_name (i := 6) sc_table_of.nd rfl (by first | exact Or.inl rfl | exact Or.inr rfl)) pgsd_nil)))
 (pssd_one (psd_set (i := 4) sc_table_of.nd rfl (by first | exact Or.inl rfl | exact Or.inr rfl) (pd_call (c_grown h) nPar_run room (by decide) gu rfl (pad_cons (pd_var 3) (pad_cons (pd_var 4) (pad_cons (pd_var 5) (pad_cons (pd_var 6) pad_nil))))))))
 (pssd_one (psd_ret (pd_var 4))))))
theorem c_table_of {P : Program} {w : World} {K : PySem.W.Frag} {mg : Str → Option Value} {base : Heap} (h : Hd w K mg) : Cle P w K mg base 10 "table_of" 3 F_table_of := by
  obtain ⟨fd, D0⟩ := h.d_table_of
  exact cle_of D0 h.g_table_of rfl (fn_table_of h D0) fun _ _ _ _ _ _ us hl => match us, hl with | [_, _, _], _ => rfl
/-! ### normal_of -/
noncomputable def g_normal_of : FS :=
 (sSeq (sSet 3 (fCall F_check_machine (fCons (fVar 0) fNil)))
 (sRet (fCall F_normal (fCons (fVar 3) (fCons (fCall F_table_of (fCons (fVar 3) (fCons (fVar 1) (fCons (fVar 2) fNil)))) fNil)))))
noncomputable def F_normal_of : List D → M → Res D := runF 4 3 g_normal_of
theorem sc_normal_of : FnScope N_normal_of ps_normal_of (defScope s_normal_of) := C8.fnScope_by (by decide +kernel)
theorem fn_normal_of {P : Program} {w : World} {K : PySem.W.Frag} {mg : Str → Option Value} {base : Heap} (h : Hd w K mg) {fd : FuncData} (D0 : FnP K "normal_of" s_normal_of (He.ga K "normal_of") fd) : FnG P w K mg base 11 (He.ga K "normal_of") fd ps_normal_of F_normal_of := by
  refine fng_of (N := N_normal_of) (W := WF) D0 sc_normal_of fun cdv A outer s H room gu => ?_
  exact (pssd_cons (psd_set (i := 3) sc_normal_of.nd rfl (by first | exact Or.inl rfl | exact Or.inr rfl) (pd_call (c_check_machine h) nPar_run room (by decide) gu rfl (pad_cons (pd_var 0) pad_nil)))
 (pssd_one (psd_ret (pd_call (c_normal h) nPar_run room (by decide) gu rfl (pad_cons (pd_var 3) (pad_cons (pd_call (c_table_of h) nPar_run room (by decide) gu rfl (pad_cons (pd_var 3) (pad_cons (pd_var 1) (pad_cons (pd_var 2) pad_nil)))) pad_nil))))))
theorem c_normal_of {P : Program} {w : World} {K : PySem.W.Frag} {mg : Str → Option Value} {base : Heap} (h : Hd w K mg) : Cle P w K mg base 11 "normal_of" 3 F_normal_of := by
  obtain ⟨fd, D0⟩ := h.d_normal_of
  exact cle_of D0 h.g_normal_of rfl (fn_normal_of h D0) fun _ _ _ _ _ _ us hl => match us, hl with | [_, _, _], _ => rfl
/-! ### is_normal -/
noncomputable def g_is_normal : FS :=
 (sSeq (sSet 3 (fCall F_check_machine (fCons (fVar 0) fNil)))
 (sSeq (sSet 4 (fCall F_check_history (fCons (fVar 3) (fCons (fVar 1) (fCons (fVar 2) fNil)))))
 (sRet (fOp gEq (fCall F_normal_of (fCons (fVar 3) (fCons (fVar 1) (fCons (fVar 4) fNil)))) (fVar 4)))))
noncomputable def F_is_normal : List D → M → Res D := runF 5 3 g_is_normal
theorem sc_is_normal : FnScope N_is_normal ps_is_normal (defScope s_is_normal) := C8.fnScope_by (by decide +kernel)
theorem fn_is_normal {P : Program} {w : World} {K : PySem.W.Frag} {mg : Str → Option Value} {base : Heap} (h : Hd w K mg) {fd : FuncData} (D0 : FnP K "is_normal" s_is_normal (He.ga K "is_normal") fd) : FnG P w K mg base 12 (He.ga K "is_normal") fd ps_is_normal F_is_normal := by
  refine fng_of (N := N_is_normal) (W := WF) D0 sc_is_normal fun cdv A outer s H room gu => ?_
  exact (pssd_cons (psd_set (i := 3) sc_is_normal.nd rfl (by first | exact Or.inl rfl | exact Or.inr rfl) (pd_call (c_check_machine h) nPar_run room (by decide) gu rfl (pad_cons (pd_var 0) pad_nil)))
 (pssd_cons (psd_set (i := 4) sc_is_normal.nd rfl (by first | exact Or.inl rfl | exact Or.inr rfl) (pd_call (c_check_history h) nPar_run room (by decide) gu rfl (pad_cons (pd_var 3) (pad_cons (pd_var 1) (pad_cons (pd_var 2) pad_nil)))))
 (pssd_one (psd_ret (pd_eq (room_units room) (pd_call (c_normal_of h) nPar_run room (by decide) gu rfl (pad_cons (pd_var 3) (pad_cons (pd_var 1) (pad_cons (pd_var 4) pad_nil)))) (pd_var 4))))))
theorem c_is_normal {P : Program} {w : World} {K : PySem.W.Frag} {mg : Str → Option Value} {base : Heap} (h : Hd w K mg) : Cle P w K mg base 12 "is_normal" 3 F_is_normal := by
  obtain ⟨fd, D0⟩ := h.d_is_normal
  exact cle_of D0 h.g_is_normal rfl (fn_is_normal h D0) fun _ _ _ _ _ _ us hl => match us, hl with | [_, _, _], _ => rfl
theorem ck_is_normal__history_hands_machine {P : Program} {w : World} {K : PySem.W.Frag} {mg : Str → Option Value} {base : Heap} (h : Hd w K mg) : CleK P w K mg base 12 "is_normal" 3 F_is_normal ["history", "hands", "machine"] pm_2_1_0 := by
  obtain ⟨fd, D0⟩ := h.d_is_normal
  exact clek_of D0 h.g_is_normal rfl (fn_is_normal h D0) fun _ _ _ _ _ _ us hl => match us, hl with | [_, _, _], _ => rfl
/-! ### _law_box -/
noncomputable def g__law_box : FS :=
 (sSeq (sSet 2 (fOp gAdd (fOp gMul (fC (.int 9241)) (fVar 1)) (fC (.int 3371))))
 (sSeq (sIf (fTest (fOp gLt (fVar 1) (fCB gLen (fCons (fVar 0) fNil))))
 (sSet 2 (fCB gAbs (fCons (fCB gInt (fCons (fOp gIx (fVar 0) (fVar 1)) fNil)) fNil)))
 (sIf (fTest (fOp gGt (fCB gLen (fCons (fVar 0) fNil)) (fC (.int 0))))
 (sSet 2 (fOp gAdd (fVar 2) (fOp gMul (fOp gMod (fCB gInt (fCons (fCB gAbs (fCons (fCB gInt (fCons (fOp gIx (fVar 0) (fOp gMod (fCB gInt (fCons (fVar 1) fNil)) (fCB gLen (fCons (fVar 0) fNil)))) fNil)) fNil)) fNil)) (fC (.int 2147483563))) (fC (.int 52361)))))
 sNext))
 (sSeq (sSet 3 (fIf (fTest (fOp gGe (fVar 2) (fOp gPow (fC (.int 10)) (fC (.int 18))))) (fVar 2) (fC (.int 0))))
 (sRet (fName (fLst (fCons (fVar 3) (fCons (fOp gAdd (fOp gMod (fCB gInt (fCons (fOp gAdd (fOp gMul (fOp gMod (fCB gInt (fCons (fVar 2) fNil)) (fC (.int 2147483563))) (fC (.int 40014))) (fOp gMul (fC (.int 3371)) (fVar 1))) fNil)) (fC (.int 2147483563))) (fC (.int 1))) fNil))))))))
noncomputable def F__law_box : List D → M → Res D := runF 4 2 g__law_box
theorem sc__law_box : FnScope N__law_box ps__law_box (defScope s__law_box) := C8.fnScope_by (by decide +kernel)
theorem fn__law_box {P : Program} {w : World} {K : PySem.W.Frag} {mg : Str → Option Value} {base : Heap} (h : Hd w K mg) {fd : FuncData} (D0 : FnP K "_law_box" s__law_box (He.ga K "_law_box") fd) : FnG P w K mg base 1 (He.ga K "_law_box") fd ps__law_box F__law_box := by
  refine fng_of (N := N__law_box) (W := WF) D0 sc__law_box fun cdv A outer s H room gu => ?_
  exact (pssd_cons (psd_set (i := 2) sc__law_box.nd rfl (by first | exact Or.inl rfl | exact Or.inr rfl) (pd_add (pd_mul pd_int (pd_var 1)) pd_int))
 (pssd_cons (psd_if (ptd_lt (pd_var 1) (Dl.b_len rfl (b_len h) (pd_var 0)))
 (pssd_one (psd_set (i := 2) sc__law_box.nd rfl (by first | exact Or.inl rfl | exact Or.inr rfl) (Dl.b_abs rfl (b_abs h) (Dl.b_int rfl (b_int h) (pd_ix (room_units room) (pd_var 0) (pd_var 1))))))
 (pssd_one (psd_if (ptd_gt (Dl.b_len rfl (b_len h) (pd_var 0)) pd_int)
 (pssd_one (psd_set (i := 2) sc__law_box.nd rfl (by first | exact Or.inl rfl | exact Or.inr rfl) (pd_add (pd_var 2) (pd_mul (pd_mod (Dl.b_int rfl (b_int h) (Dl.b_abs rfl (b_abs h) (Dl.b_int rfl (b_int h) (pd_ix (room_units room) (pd_var 0) (pd_mod (Dl.b_int rfl (b_int h) (pd_var 1)) (Dl.b_len rfl (b_len h) (pd_var 0))))))) pd_int) pd_int))))
 pssd_nil)))
 (pssd_cons (psd_set (i := 3) sc__law_box.nd rfl (by first | exact Or.inl rfl | exact Or.inr rfl) (pd_if (ptd_ge (pd_var 2) (pd_pow pd_int pd_int)) (pd_var 2) pd_int))
 (pssd_one (psd_ret (pd_name (pld_lst (pad_cons (pd_var 3) (pad_cons (pd_add (pd_mod (Dl.b_int rfl (b_int h) (pd_add (pd_mul (pd_mod (Dl.b_int rfl (b_int h) (pd_var 2)) pd_int) pd_int) (pd_mul pd_int (pd_var 1)))) pd_int) pd_int) pad_nil)))))))))
theorem c__law_box {P : Program} {w : World} {K : PySem.W.Frag} {mg : Str → Option Value} {base : Heap} (h : Hd w K mg) : Cle P w K mg base 1 "_law_box" 2 F__law_box := by
  obtain ⟨fd, D0⟩ := h.d__law_box
  exact cle_of D0 h.g__law_box rfl (fn__law_box h D0) fun _ _ _ _ _ _ us hl => match us, hl with | [_, _], _ => rfl
/-! ### _law_take -/
noncomputable def g__law_take : FS :=
 (sSeq (sIf (fTest (fOp gGt (fOp gIx (fVar 0) (fC (.int 0))) (fC (.int 0))))
 (sSeq (sSet 2 (fOp gMod (fCB gInt (fCons (fOp gIx (fVar 0) (fC (.int 0))) fNil)) (fVar 1)))
 (sSeq (sSub (fOp gFdiv (fOp gIx (fVar 0) (fC (.int 0))) (fVar 1)) (fVar 0) (fC (.int 0)))
 (sRet (fVar 2))))
 sNext)
 (sSeq (sSet 3 (fOp gMod (fCB gInt (fCons (fOp gAdd (fOp gMul (fOp gIx (fVar 0) (fC (.int 1))) (fC (.int 39373))) (fC (.int 137))) fNil)) (fC (.int 2147483647))))
 (sSeq (sSub (fOp gAdd (fOp gMod (fCB gInt (fCons (fOp gAdd (fOp gMul (fVar 3) (fC (.int 40692))) (fC (.int 41))) fNil)) (fC (.int 2147483399))) (fC (.int 1))) (fVar 0) (fC (.int 1)))
 (sRet (fOp gMod (fCB gInt (fCons (fOp gFdiv (fOp gAdd (fOp gMul (fVar 3) (fC (.int 2147483629))) (fOp gIx (fVar 0) (fC (.int 1)))) (fC (.int 8209))) fNil)) (fVar 1))))))
noncomputable def F__law_take : List D → M → Res D := runF 4 2 g__law_take
theorem sc__law_take : FnScope N__law_take ps__law_take (defScope s__law_take) := C8.fnScope_by (by decide +kernel)
theorem fn__law_take {P : Program} {w : World} {K : PySem.W.Frag} {mg : Str → Option Value} {base : Heap} (h : Hd w K mg) {fd : FuncData} (D0 : FnP K "_law_take" s__law_take (He.ga K "_law_take") fd) : FnG P w K mg base 1 (He.ga K "_law_take") fd ps__law_take F__law_take := by
  refine fng_of (N := N__law_take) (W := WF) D0 sc__law_take fun cdv A outer s H room gu => ?_
  exact (pssd_cons (psd_if (ptd_gt (pd_ix (room_units room) (pd_var 0) pd_int) pd_int)
 (pssd_cons (psd_set (i := 2) sc__law_take.nd rfl (by first | exact Or.inl rfl | exact Or.inr rfl) (pd_mod (Dl.b_int rfl (b_int h) (pd_ix (room_units room) (pd_var 0) pd_int)) (pd_var 1)))
 (pssd_cons (psd_sub (room_units room) (pd_fdiv (pd_ix (room_units room) (pd_var 0) pd_int) (pd_var 1)) (pd_var 0) pd_int)
 (pssd_one (psd_ret (pd_var 2)))))
 pssd_nil)
 (pssd_cons (psd_set (i := 3) sc__law_take.nd rfl (by first | exact Or.inl rfl | exact Or.inr rfl) (pd_mod (Dl.b_int rfl (b_int h) (pd_add (pd_mul (pd_ix (room_units room) (pd_var 0) pd_int) pd_int) pd_int)) pd_int))
 (pssd_cons (psd_sub (room_units room) (pd_add (pd_mod (Dl.b_int rfl (b_int h) (pd_add (pd_mul (pd_var 3) pd_int) pd_int)) pd_int) pd_int) (pd_var 0) pd_int)
 (pssd_one (psd_ret (pd_mod (Dl.b_int rfl (b_int h) (pd_fdiv (pd_add (pd_mul (pd_var 3) pd_int) (pd_ix (room_units room) (pd_var 0) pd_int)) pd_int)) (pd_var 1)))))))
theorem c__law_take {P : Program} {w : World} {K : PySem.W.Frag} {mg : Str → Option Value} {base : Heap} (h : Hd w K mg) : Cle P w K mg base 1 "_law_take" 2 F__law_take := by
  obtain ⟨fd, D0⟩ := h.d__law_take
  exact cle_of D0 h.g__law_take rfl (fn__law_take h D0) fun _ _ _ _ _ _ us hl => match us, hl with | [_, _], _ => rfl
/-! ### _law_pick -/
noncomputable def g__law_pick : FS :=
 (sRet (fOp gIx (fVar 1) (fCall F__law_take (fCons (fVar 0) (fCons (fCB gLen (fCons (fVar 1) fNil)) fNil)))))
noncomputable def F__law_pick : List D → M → Res D := runF 2 2 g__law_pick
theorem sc__law_pick : FnScope N__law_pick ps__law_pick (defScope s__law_pick) := C8.fnScope_by (by decide +kernel)
theorem fn__law_pick {P : Program} {w : World} {K : PySem.W.Frag} {mg : Str → Option Value} {base : Heap} (h : Hd w K mg) {fd : FuncData} (D0 : FnP K "_law_pick" s__law_pick (He.ga K "_law_pick") fd) : FnG P w K mg base 2 (He.ga K "_law_pick") fd ps__law_pick F__law_pick := by
  refine fng_of (N := N__law_pick) (W := WF) D0 sc__law_pick fun cdv A outer s H room gu => ?_
  exact (pssd_one (psd_ret (pd_ix (room_units room) (pd_var 1) (pd_call (c__law_take h) nPar_run room (by decide) gu rfl (pad_cons (pd_var 0) (pad_cons (Dl.b_len rfl (b_len h) (pd_var 1)) pad_nil))))))
theorem c__law_pick {P : Program} {w : World} {K : PySem.W.Frag} {mg : Str → Option Value} {base : Heap} (h : Hd w K mg) : Cle P w K mg base 2 "_law_pick" 2 F__law_pick := by
  obtain ⟨fd, D0⟩ := h.d__law_pick
  exact cle_of D0 h.g__law_pick rfl (fn__law_pick h D0) fun _ _ _ _ _ _ us hl => match us, hl with | [_, _], _ => rfl
/-! ### _law_map -/
noncomputable def g__law_map : FS :=
 (sSeq (sSet 3 (fCall F__law_pick (fCons (fVar 0) (fCons (fName (fLst (fCons (fC (.int 1)) (fCons (fC (.int 0)) (fCons (fCall F__law_take (fCons (fVar 0) (fCons (fVar 1) fNil))) (fCons (fCall F__law_take (fCons (fVar 0) (fCons (fVar 1) fNil))) fNil)))))) fNil))))
 (sSeq (sIf (fAndT (fTest (fOp gEq (fVar 2) (fC (.int 1)))) (fTest (fOp gEq (fCall F__law_take (fCons (fVar 0) (fCons (fC (.int 2)) fNil))) (fC (.int 0)))))
 (sRet (fOp gMul (fTup (fCons (fCall F__law_take (fCons (fVar 0) (fCons (fVar 1) fNil))) fNil)) (fVar 1)))
 sNext)
 (sSeq (sIf (fTest (fOp gEq (fVar 2) (fC (.int 2))))
 (sRet (fCB gTupleL (fLc (fRng1 (fVar 1)) (gN 4) [4] fYes (fCall F__law_pick (fCons (fVar 0) (fCons (fName (fLst (fCons (fOp gMod (fCB gInt (fCons (fOp gAdd (fVar 4) (fVar 3)) fNil)) (fVar 1)) (fCons (fVar 4) (fCons (fC (.int 0)) (fCons (fCall F__law_take (fCons (fVar 0) (fCons (fVar 1) fNil))) fNil)))))) fNil))))))
 sNext)
 (sRet (fCB gTupleL (fLc (fRng1 (fVar 1)) (gN 4) [4] fYes (fOp gMod (fCB gInt (fCons (fOp gAdd (fVar 4) (fVar 3)) fNil)) (fVar 1))))))))
noncomputable def F__law_map : List D → M → Res D := runF 5 3 g__law_map
theorem sc__law_map : FnScope N__law_map ps__law_map (defScope s__law_map) := C8.fnScope_by (by decide +kernel)
theorem fn__law_map {P : Program} {w : World} {K : PySem.W.Frag} {mg : Str → Option Value} {base : Heap} (h : Hd w K mg) {fd : FuncData} (D0 : FnP K "_law_map" s__law_map (He.ga K "_law_map") fd) : FnG P w K mg base 3 (He.ga K "_law_map") fd ps__law_map F__law_map := by
  refine fng_of (N := N__law_map) (W := WF) D0 sc__law_map fun cdv A outer s H room gu => ?_
  exact (pssd_cons (psd_set (i := 3) sc__law_map.nd rfl (by first | exact Or.inl rfl | exact Or.inr rfl) (pd_call (c__law_pick h) nPar_run room (by decide) gu rfl (pad_cons (pd_var 0) (pad_cons (pd_name (pld_lst (pad_cons pd_int (pad_cons pd_int (pad_cons (pd_call (c__law_take h) nPar_run room (by decide) gu rfl (pad_cons (pd_var 0) (pad_cons (pd_var 1) pad_nil))) (pad_cons (pd_call (c__law_take h) nPar_run room (by decide) gu rfl (pad_cons (pd_var 0) (pad_cons (pd_var 1) pad_nil))) pad_nil)))))) pad_nil))))
 (pssd_cons (psd_if (ptd_w (pwd_and (ptd_eq (room_units room) (pd_var 2) pd_int) (pwd_and1 (ptd_eq (room_units room) (pd_call (c__law_take h) nPar_run room (by decide) gu rfl (pad_cons (pd_var 0) (pad_cons pd_int pad_nil))) pd_int))))
 (pssd_one (psd_ret (pd_mul (pd_tup (pad_cons (pd_call (c__law_take h) nPar_run room (by decide) gu rfl (pad_cons (pd_var 0) (pad_cons (pd_var 1) pad_nil))) pad_nil)) (pd_var 1))))
 pssd_nil)
 (pssd_cons (psd_if (ptd_eq (room_units room) (pd_var 2) pd_int)
 (pssd_one (psd_ret (Dl.b_tupleL rfl (b_tuple h) (pld_lc (own := [("board", 4)]) rfl sc__law_map.nd (pid_range1 rfl (b_range h) (pd_var 1)) (blkOk_by (N := N__law_map) (sc := defScope s__law_map) (own := [("board", 4)]) (by decide +kernel)) (fun _ _ _ _ _ => (pgd_name (i := 4) sc__law_map.nd rfl (by first | exact Or.inl rfl | exact Or.inr rfl))) (fun _ _ _ _ _ => ptsd_nil) (fun _ _ _ _ _ => (pd_call (c__law_pick h) nPar_run room (by decide) gu rfl (pad_cons (pd_var 0) (pad_cons (pd_name (pld_lst (pad_cons (pd_mod (Dl.b_int rfl (b_int h) (pd_add (pd_var 4) (pd_var 3))) (pd_var 1)) (pad_cons (pd_var 4) (pad_cons pd_int (pad_cons (pd_call (c__law_take h) nPar_run room (by decide) gu rfl (pad_cons (pd_var 0) (pad_cons (pd_var 1) pad_nil))) pad_nil)))))) pad_nil)))) (by decide)))))
 pssd_nil)
 (pssd_one (psd_ret (Dl.b_tupleL rfl (b_tuple h) (pld_lc (own := [("board", 4)]) rfl sc__law_map.nd (pid_range1 rfl (b_range h) (pd_var 1)) (blkOk_by (N := N__law_map) (sc := defScope s__law_map) (own := [("board", 4)]) (by decide +kernel)) (fun _ _ _ _ _ => (pgd_name (i := 4) sc__law_map.nd rfl (by first | exact Or.inl rfl | exact Or.inr rfl))) (fun _ _ _ _ _ => ptsd_nil) (fun _ _ _ _ _ => (pd_mod (Dl.b_int rfl (b_int h) (pd_add (pd_var 4) (pd_var 3))) (pd_var 1))) (by decide))))))))
theorem c__law_map {P : Program} {w : World} {K : PySem.W.Frag} {mg : Str → Option Value} {base : Heap} (h : Hd w K mg) : Cle P w K mg base 3 "_law_map" 3 F__law_map := by
  obtain ⟨fd, D0⟩ := h.d__law_map
  exact cle_of D0 h.g__law_map rfl (fn__law_map h D0) fun _ _ _ _ _ _ us hl => match us, hl with | [_, _, _], _ => rfl
/-! ### _law_machine -/
noncomputable def g__law_machine : FS :=
 (sSeq (sSet 2 (fCall F__law_pick (fCons (fVar 0) (fCons (fName (fLst (fCons (fC (.int 8)) (fCons (fC (.int 7)) (fCons (fC (.int 5)) (fCons (fC (.int 3)) (fCons (fC (.int 2)) (fCons (fOp gAdd (fC (.int 1)) (fCall F__law_take (fCons (fVar 0) (fCons (fC (.int 8)) fNil)))) fNil)))))))) fNil))))
 (sSeq (sSet 3 (fCall F__law_pick (fCons (fVar 0) (fCons (fName (fLst (fCons (fC (.int 6)) (fCons (fC (.int 6)) (fCons (fC (.int 4)) (fCons (fC (.int 3)) (fCons (fC (.int 2)) (fCons (fOp gAdd (fC (.int 1)) (fCall F__law_take (fCons (fVar 0) (fCons (fC (.int 6)) fNil)))) fNil)))))))) fNil))))
 (sRet (fTup (fCons (fCall F__law_take (fCons (fVar 0) (fCons (fVar 2) fNil))) (fCons (fCB gTupF (fLc (fRng1 (fVar 3)) (gN 4) [4] fYes (fCall F__law_map (fCons (fVar 0) (fCons (fVar 2) (fCons (fVar 1) fNil)))))) fNil))))))
noncomputable def F__law_machine : List D → M → Res D := runF 5 2 g__law_machine
theorem sc__law_machine : FnScope N__law_machine ps__law_machine (defScope s__law_machine) := C8.fnScope_by (by decide +kernel)
theorem fn__law_machine {P : Program} {w : World} {K : PySem.W.Frag} {mg : Str → Option Value} {base : Heap} (h : Hd w K mg) {fd : FuncData} (D0 : FnP K "_law_machine" s__law_machine (He.ga K "_law_machine") fd) : FnG P w K mg base 4 (He.ga K "_law_machine") fd ps__law_machine F__law_machine := by
  refine fng_of (N := N__law_machine) (W := WF) D0 sc__law_machine fun cdv A outer s H room gu => ?_
  exact (pssd_cons (psd_set (i := 2) sc__law_machine.nd rfl (by first | exact Or.inl rfl | exact Or.inr rfl) (pd_call (c__law_pick h) nPar_run room (by decide) gu rfl (pad_cons (pd_var 0) (pad_cons (pd_name (pld_lst (pad_cons pd_int (pad_cons pd_int (pad_cons pd_int (pad_cons pd_int (pad_cons pd_int (pad_cons (pd_add pd_int (pd_call (c__law_take h) nPar_run room (by decide) gu rfl (pad_cons (pd_var 0) (pad_cons pd_int pad_nil)))) pad_nil)))))))) pad_nil))))
 (pssd_cons (psd_set (i := 3) sc__law_machine.nd rfl (by first | exact Or.inl rfl | exact Or.inr rfl) (pd_call (c__law_pick h) nPar_run room (by decide) gu rfl (pad_cons (pd_var 0) (pad_cons (pd_name (pld_lst (pad_cons pd_int (pad_cons pd_int (pad_cons pd_int (pad_cons pd_int (pad_cons pd_int (pad_cons (pd_add pd_int (pd_call (c__law_take h) nPar_run room (by decide) gu rfl (pad_cons (pd_var 0) (pad_cons pd_int pad_nil)))) pad_nil)))))))) pad_nil))))
 (pssd_one (psd_ret (pd_tup (pad_cons (pd_call (c__law_take h) nPar_run room (by decide) gu rfl (pad_cons (pd_var 0) (pad_cons (pd_var 2) pad_nil))) (pad_cons (Dl.b_tupleF rfl (b_tuple h) (pld_lc (own := [("deed", 4)]) rfl sc__law_machine.nd (pid_range1 rfl (b_range h) (pd_var 3)) (blkOk_by (N := N__law_machine) (sc := defScope s__law_machine) (own := [("deed", 4)]) (by decide +kernel)) (fun _ _ _ _ _ => (pgd_name (i := 4) sc__law_machine.nd rfl (by first | exact Or.inl rfl | exact Or.inr rfl))) (fun _ _ _ _ _ => ptsd_nil) (fun _ _ _ _ _ => (pd_call (c__law_map h) nPar_run room (by decide) gu rfl (pad_cons (pd_var 0) (pad_cons (pd_var 2) (pad_cons (pd_var 1) pad_nil))))) (by decide))) pad_nil)))))))
theorem c__law_machine {P : Program} {w : World} {K : PySem.W.Frag} {mg : Str → Option Value} {base : Heap} (h : Hd w K mg) : Cle P w K mg base 4 "_law_machine" 2 F__law_machine := by
  obtain ⟨fd, D0⟩ := h.d__law_machine
  exact cle_of D0 h.g__law_machine rfl (fn__law_machine h D0) fun _ _ _ _ _ _ us hl => match us, hl with | [_, _], _ => rfl
/-! ### _law_vectors -/
noncomputable def g__law_vectors : FS :=
 (sSeq (sSet 1 (fName (fLst (fCons (fTup fNil) fNil))))
 (sSeq (sFor (fWalk (fVar 0)) (gN 2)
 (sSeq (sSet 3 (fName (fLst fNil)))
 (sSeq (sFor (fWalk (fVar 1)) (gN 4)
 (sDrop (fGc (fMeth mExtend (fVar 3) (fCons (fName (fLc (fRng1 (fOp gAdd (fVar 2) (fC (.int 1)))) (gN 5) [5] fYes (fOp gAdd (fVar 4) (fTup (fCons (fVar 5) fNil))))) fNil)))))
 (sSet 1 (fVar 3)))))
 (sRet (fVar 1))))
noncomputable def F__law_vectors : List D → M → Res D := runF 6 1 g__law_vectors
theorem sc__law_vectors : FnScope N__law_vectors ps__law_vectors (defScope s__law_vectors) := C8.fnScope_by (by decide +kernel)
theorem fn__law_vectors {P : Program} {w : World} {K : PySem.W.Frag} {mg : Str → Option Value} {base : Heap} (h : Hd w K mg) {fd : FuncData} (D0 : FnP K "_law_vectors" s__law_vectors (He.ga K "_law_vectors") fd) : FnG P w K mg base 1 (He.ga K "_law_vectors") fd ps__law_vectors F__law_vectors := by
  refine fng_of (N := N__law_vectors) (W := WF) D0 sc__law_vectors fun cdv A outer s H room gu => ?_
  exact (pssd_cons (psd_set (i := 1) sc__law_vectors.nd rfl (by first | exact Or.inl rfl | exact Or.inr rfl) (pd_name (pld_lst (pad_cons (pd_tup pad_nil) pad_nil))))
 (pssd_cons (psd_for PassesOwn.never rfl (pid_seq (pd_var 0)) (pgd_name (i := 2) sc__law_vectors.nd rfl (by first | exact Or.inl rfl | exact Or.inr rfl))
 (pssd_cons (psd_set (i := 3) sc__law_vectors.nd rfl (by first | exact Or.inl rfl | exact Or.inr rfl) (pd_name (pld_lst pad_nil)))
 (pssd_cons (psd_for PassesOwn.never rfl (pid_seq (pd_var 1)) (pgd_name (i := 4) sc__law_vectors.nd rfl (by first | exact Or.inl rfl | exact Or.inr rfl))
 (pssd_one (psd_expr (pd_gc (pd_extend (pd_var 3) (pad_cons (pd_name (pld_lc (own := [("here", 5)]) rfl sc__law_vectors.nd (pid_range1 rfl (b_range h) (pd_add (pd_var 2) pd_int)) (blkOk_by (N := N__law_vectors) (sc := defScope s__law_vectors) (own := [("here", 5)]) (by decide +kernel)) (fun _ _ _ _ _ => (pgd_name (i := 5) sc__law_vectors.nd rfl (by first | exact Or.inl rfl | exact Or.inr rfl))) (fun _ _ _ _ _ => ptsd_nil) (fun _ _ _ _ _ => (pd_add (pd_var 4) (pd_tup (pad_cons (pd_var 5) pad_nil)))) (by decide))) pad_nil))))))
 (pssd_one (psd_set (i := 1) sc__law_vectors.nd rfl (by first | exact Or.inl rfl | exact Or.inr rfl) (pd_var 3))))))
 (pssd_one (psd_ret (pd_var 1)))))
theorem c__law_vectors {P : Program} {w : World} {K : PySem.W.Frag} {mg : Str → Option Value} {base : Heap} (h : Hd w K mg) : Cle P w K mg base 1 "_law_vectors" 1 F__law_vectors := by
  obtain ⟨fd, D0⟩ := h.d__law_vectors
  exact cle_of D0 h.g__law_vectors rfl (fn__law_vectors h D0) fun _ _ _ _ _ _ us hl => match us, hl with | [_], _ => rfl
/-! ### _law_counts -/
noncomputable def g__law_counts : FS :=
 (sRet (fCB gTupleL (fLc (fRng1 (fVar 0)) (gN 2) [2] fYes (fCB gLenL (fLc (fWalk (fVar 1)) (gT 2 (gCons' (gN 3) (gCons' (gN 4) gNil'))) [3, 4] (fTest (fOp gEq (fVar 3) (fVar 2))) (fC (.int 1)))))))
noncomputable def F__law_counts : List D → M → Res D := runF 5 2 g__law_counts
theorem sc__law_counts : FnScope N__law_counts ps__law_counts (defScope s__law_counts) := C8.fnScope_by (by decide +kernel)
theorem fn__law_counts {P : Program} {w : World} {K : PySem.W.Frag} {mg : Str → Option Value} {base : Heap} (h : Hd w K mg) {fd : FuncData} (D0 : FnP K "_law_counts" s__law_counts (He.ga K "_law_counts") fd) : FnG P w K mg base 1 (He.ga K "_law_counts") fd ps__law_counts F__law_counts := by
  refine fng_of (N := N__law_counts) (W := WF) D0 sc__law_counts fun cdv A outer s H room gu => ?_
  exact (pssd_one (psd_ret (Dl.b_tupleL rfl (b_tuple h) (pld_lc (own := [("one", 2)]) rfl sc__law_counts.nd (pid_range1 rfl (b_range h) (pd_var 0)) (blkOk_by (N := N__law_counts) (sc := defScope s__law_counts) (own := [("one", 2)]) (by decide +kernel)) (fun _ _ _ _ _ => (pgd_name (i := 2) sc__law_counts.nd rfl (by first | exact Or.inl rfl | exact Or.inr rfl))) (fun _ _ _ _ _ => ptsd_nil) (fun _ _ _ _ _ => (Dl.b_lenL rfl (b_len h) (pld_lc (own := [("hand", 3), ("deed", 4)]) rfl sc__law_counts.nd (pid_seq (pd_var 1)) (blkOk_by (own := [("hand", 3), ("deed", 4)]) (by kernel_rfl)) (fun _ _ _ _ _ => (pgd_tup rfl (pgsd_cons (pgd_name (i := 3) sc__law_counts.nd rfl (by first | exact Or.inl rfl | exact Or.inr rfl)) (pgsd_cons (pgd_name (i := 4) sc__law_counts.nd rfl (by first | exact Or.inl rfl | exact Or.inr rfl)) pgsd_nil)))) (fun _ _ _ _ _ => (ptsd_one (ptd_eq (room_units room) (pd_var 3) (pd_var 2)))) (fun _ _ _ _ _ => pd_int) (by decide)))) (by decide)))))
theorem c__law_counts {P : Program} {w : World} {K : PySem.W.Frag} {mg : Str → Option Value} {base : Heap} (h : Hd w K mg) : Cle P w K mg base 1 "_law_counts" 2 F__law_counts := by
  obtain ⟨fd, D0⟩ := h.d__law_counts
  exact cle_of D0 h.g__law_counts rfl (fn__law_counts h D0) fun _ _ _ _ _ _ us hl => match us, hl with | [_, _], _ => rfl
/-! ### _law_board -/
noncomputable def g__law_board : FS :=
 (sSeq (sPar 3 4 (fCons (fOp gIx (fVar 0) (fC (.int 0))) (fCons (fCB gList (fCons (fVar 2) fNil)) fNil)))
 (sSeq (sFor (fWalk (fVar 1)) (gT 2 (gCons' (gN 5) (gCons' (gN 6) gNil')))
 (sIf (fTest (fOp gGt (fOp gIx (fVar 4) (fVar 5)) (fC (.int 0))))
 (sSeq (sSub (fOp gSub (fOp gIx (fVar 4) (fVar 5)) (fC (.int 1))) (fVar 4) (fVar 5))
 (sSet 3 (fOp gIx (fOp gIx (fOp gIx (fVar 0) (fC (.int 1))) (fVar 6)) (fVar 3))))
 sNext))
 (sRet (fVar 3))))
noncomputable def F__law_board : List D → M → Res D := runF 7 3 g__law_board
theorem sc__law_board : FnScope N__law_board ps__law_board (defScope s__law_board) := C8.fnScope_by (by decide +kernel)
theorem fn__law_board {P : Program} {w : World} {K : PySem.W.Frag} {mg : Str → Option Value} {base : Heap} (h : Hd w K mg) {fd : FuncData} (D0 : FnP K "_law_board" s__law_board (He.ga K "_law_board") fd) : FnG P w K mg base 1 (He.ga K "_law_board") fd ps__law_board F__law_board := by
  refine fng_of (N := N__law_board) (W := WF) D0 sc__law_board fun cdv A outer s H room gu => ?_
  exact (pssd_cons (psd_par (i := 3) (j := 4) rfl sc__law_board.nd rfl rfl (by decide) rfl rfl (pad_cons (pd_ix (room_units room) (pd_var 0) pd_int) (pad_cons (Dl.b_list rfl (b_list h) (pd_var 2)) pad_nil)))
 (pssd_cons (psd_for PassesOwn.never rfl (pid_seq (pd_var 1)) (pgd_tup rfl (pgsd_cons (pgd_name (i := 5) sc__law_board.nd rfl (by first | exact Or.inl rfl | exact Or.inr rfl)) (pgsd_cons (pgd_name (i := 6) sc__law_board.nd rfl (by first | exact Or.inl rfl | exact Or.inr rfl)) pgsd_nil)))
 (pssd_one (psd_if (ptd_gt (pd_ix (room_units room) (pd_var 4) (pd_var 5)) pd_int)
 (pssd_cons (psd_sub (room_units room) (pd_sub (pd_ix (room_units room) (pd_var 4) (pd_var 5)) pd_int) (pd_var 4) (pd_var 5))
 (pssd_one (psd_set (i := 3) sc__law_board.nd rfl (by first | exact Or.inl rfl | exact Or.inr rfl) (pd_ix (room_units room) (pd_ix (room_units room) (pd_ix (room_units room) (pd_var 0) pd_int) (pd_var 6)) (pd_var 3)))))
 pssd_nil)))
 (pssd_one (psd_ret (pd_var 3)))))
theorem c__law_board {P : Program} {w : World} {K : PySem.W.Frag} {mg : Str → Option Value} {base : Heap} (h : Hd w K mg) : Cle P w K mg base 1 "_law_board" 3 F__law_board := by
  obtain ⟨fd, D0⟩ := h.d__law_board
  exact cle_of D0 h.g__law_board rfl (fn__law_board h D0) fun _ _ _ _ _ _ us hl => match us, hl with | [_, _, _], _ => rfl
/-! ### _law_table -/
noncomputable def g__law_table : FS :=
 (sSeq (sSet 3 (fDict0 true))
 (sSeq (sFor (fWalk (fCall F__law_vectors (fCons (fCall F__law_counts (fCons (fVar 1) (fCons (fVar 2) fNil))) fNil))) (gN 4)
 (sSub (fCall F__law_board (fCons (fVar 0) (fCons (fVar 2) (fCons (fVar 4) fNil)))) (fVar 3) (fVar 4)))
 (sRet (fVar 3))))
noncomputable def F__law_table : List D → M → Res D := runF 5 3 g__law_table
theorem sc__law_table : FnScope N__law_table ps__law_table (defScope s__law_table) := C8.fnScope_by (by decide +kernel)
theorem fn__law_table {P : Program} {w : World} {K : PySem.W.Frag} {mg : Str → Option Value} {base : Heap} (h : Hd w K mg) {fd : FuncData} (D0 : FnP K "_law_table" s__law_table (He.ga K "_law_table") fd) : FnG P w K mg base 2 (He.ga K "_law_table") fd ps__law_table F__law_table := by
  refine fng_of (N := N__law_table) (W := WF) D0 sc__law_table fun cdv A outer s H room gu => ?_
  exact (pssd_cons (psd_set (i := 3) sc__law_table.nd rfl (by first | exact Or.inl rfl | exact Or.inr rfl) pd_dict0T)
 (pssd_cons (psd_for PassesOwn.never rfl (pid_seq (pd_call (c__law_vectors h) nPar_run room (by decide) gu rfl (pad_cons (pd_call (c__law_counts h) nPar_run room (by decide) gu rfl (pad_cons (pd_var 1) (pad_cons (pd_var 2) pad_nil))) pad_nil))) (pgd_name (i := 4) sc__law_table.nd rfl (by first | exact Or.inl rfl | exact Or.inr rfl))
 (pssd_one (psd_sub (room_units room) (pd_call (c__law_board h) nPar_run room (by decide) gu rfl (pad_cons (pd_var 0) (pad_cons (pd_var 2) (pad_cons (pd_var 4) pad_nil)))) (pd_var 3) (pd_var 4))))
 (pssd_one (psd_ret (pd_var 3)))))
theorem c__law_table {P : Program} {w : World} {K : PySem.W.Frag} {mg : Str → Option Value} {base : Heap} (h : Hd w K mg) : Cle P w K mg base 2 "_law_table" 3 F__law_table := by
  obtain ⟨fd, D0⟩ := h.d__law_table
  exact cle_of D0 h.g__law_table rfl (fn__law_table h D0) fun _ _ _ _ _ _ us hl => match us, hl with | [_, _, _], _ => rfl
/-! ### _law_less -/
noncomputable def g__law_less : FS :=
 (sRet (fOp gAdd (fOp gAdd (fCut (fVar 0) fNoPart (fPart (fVar 1))) (fTup (fCons (fOp gSub (fOp gIx (fVar 0) (fVar 1)) (fC (.int 1))) fNil))) (fCut (fVar 0) (fPart (fOp gAdd (fVar 1) (fC (.int 1)))) fNoPart)))
noncomputable def F__law_less : List D → M → Res D := runF 2 2 g__law_less
theorem sc__law_less : FnScope N__law_less ps__law_less (defScope s__law_less) := C8.fnScope_by (by decide +kernel)
theorem fn__law_less {P : Program} {w : World} {K : PySem.W.Frag} {mg : Str → Option Value} {base : Heap} (h : Hd w K mg) {fd : FuncData} (D0 : FnP K "_law_less" s__law_less (He.ga K "_law_less") fd) : FnG P w K mg base 1 (He.ga K "_law_less") fd ps__law_less F__law_less := by
  refine fng_of (N := N__law_less) (W := WF) D0 sc__law_less fun cdv A outer s H room gu => ?_
  exact (pssd_one (psd_ret (pd_add (pd_add (pd_cut (pd_var 0) pod_none (pod_some (pd_var 1))) (pd_tup (pad_cons (pd_sub (pd_ix (room_units room) (pd_var 0) (pd_var 1)) pd_int) pad_nil))) (pd_cut (pd_var 0) (pod_some (pd_add (pd_var 1) pd_int)) pod_none))))
theorem c__law_less {P : Program} {w : World} {K : PySem.W.Frag} {mg : Str → Option Value} {base : Heap} (h : Hd w K mg) : Cle P w K mg base 1 "_law_less" 2 F__law_less := by
  obtain ⟨fd, D0⟩ := h.d__law_less
  exact cle_of D0 h.g__law_less rfl (fn__law_less h D0) fun _ _ _ _ _ _ us hl => match us, hl with | [_, _], _ => rfl
/-! ### _law_last -/
noncomputable def g__law_last : FS :=
 (sSeq (sAsg (fTup (fCons (fDict0 false) (fCons (fName (fLc (fEnum (fVar 2)) (gT 2 (gCons' (gN 10) (gCons' (gN 11) gNil'))) [10, 11] fYes (fIf (fTest (fOp gEq (fVar 10) (fVar 3))) (fC (.int 0)) (fVar 11)))) fNil))) (gT 2 (gCons' (gN 4) (gCons' (gN 5) gNil'))))
 (sSeq (sFor (fWalk (fCall F__law_vectors (fCons (fVar 5) fNil))) (gN 6)
 (sSeq (sSet 7 (fOp gAdd (fOp gAdd (fCut (fVar 6) fNoPart (fPart (fVar 3))) (fTup (fCons (fOp gIx (fVar 2) (fVar 3)) fNil))) (fCut (fVar 6) (fPart (fOp gAdd (fVar 3) (fC (.int 1)))) fNoPart)))
 (sSeq (sSet 8 (fOp gIx (fVar 1) (fCall F__law_less (fCons (fVar 7) (fCons (fVar 3) fNil)))))
 (sSeq (sIf (fTest (fOp gNe (fGet2 (fVar 4) (fVar 8) (fOp gIx (fVar 1) (fVar 7))) (fOp gIx (fVar 1) (fVar 7))))
 (sRet (fName (fLst fNil)))
 sNext)
 (sSub (fOp gIx (fVar 1) (fVar 7)) (fVar 4) (fVar 8))))))
 (sLock 4 (sRet (fName (fLc (fRng1 (fCB gLen (fCons (fOp gIx (fVar 0) (fC (.int 1))) fNil))) (gN 9) [9] (fGcB (fTest (fOp gEq (fName (fLc (fWalkK (fVar 4)) (gN 10) [10] (fTest (fOp gNe (fOp gIx (fOp gIx (fOp gIx (fVar 0) (fC (.int 1))) (fVar 9)) (fVar 10)) (fOp gIx (fVar 4) (fVar 10)))) (fC (.int 1)))) (fName (fLst fNil))))) (fVar 9)))))))
noncomputable def F__law_last : List D → M → Res D := runF 12 4 g__law_last
theorem sc__law_last : FnScope N__law_last ps__law_last (defScope s__law_last) := C8.fnScope_by (by decide +kernel)
theorem fn__law_last {P : Program} {w : World} {K : PySem.W.Frag} {mg : Str → Option Value} {base : Heap} (h : Hd w K mg) {fd : FuncData} (D0 : FnP K "_law_last" s__law_last (He.ga K "_law_last") fd) : FnG P w K mg base 2 (He.ga K "_law_last") fd ps__law_last F__law_last := by
  refine fng_of (N := N__law_last) (W := WF) D0 sc__law_last fun cdv A outer s H room gu => ?_
  exact (pssd_cons (psd_asg (pd_tup (pad_cons pd_dict0 (pad_cons (pd_name (pld_lc (own := [("one", 10), ("many", 11)]) rfl sc__law_last.nd (pid_enum rfl (b_enumerate h) (pd_var 2)) (blkOk_by (N := N__law_last) (sc := defScope s__law_last) (own := [("one", 10), ("many", 11)]) (by decide +kernel)) (fun _ _ _ _ _ => (pgd_tup rfl (pgsd_cons (pgd_name (i := 10) sc__law_last.nd rfl (by first | exact Or.inl rfl | exact Or.inr rfl)) (pgsd_cons (pgd_name (i := 11) sc__law_last.nd rfl (by first | exact Or.inl rfl | exact Or.inr rfl)) pgsd_nil)))) (fun _ _ _ _ _ => ptsd_nil) (fun _ _ _ _ _ => (pd_if (ptd_eq (room_units room) (pd_var 10) (pd_var 3)) pd_int (pd_var 11))) (by decide))) pad_nil))) (pgd_tup rfl (pgsd_cons (pgd_name (i := 4) sc__law_last.nd rfl (by first | exact Or.inl rfl | exact Or.inr rfl)) (pgsd_cons (pgd_name (i := 5) sc__law_last.nd rfl (by first | exact Or.inl rfl | exact Or.inr rfl)) pgsd_nil))))
 (pssd_cons (psd_for PassesOwn.never rfl (pid_seq (pd_call (c__law_vectors h) nPar_run room (by decide) gu rfl (pad_cons (pd_var 5) pad_nil))) (pgd_name (i := 6) sc__law_last.nd rfl (by first | exact Or.inl rfl | exact Or.inr rfl))
 (pssd_cons (psd_set (i := 7) sc__law_last.nd rfl (by first | exact Or.inl rfl | exact Or.inr rfl) (pd_add (pd_add (pd_cut (pd_var 6) pod_none (pod_some (pd_var 3))) (pd_tup (pad_cons (pd_ix (room_units room) (pd_var 2) (pd_var 3)) pad_nil))) (pd_cut (pd_var 6) (pod_some (pd_add (pd_var 3) pd_int)) pod_none)))
 (pssd_cons (psd_set (i := 8) sc__law_last.nd rfl (by first | exact Or.inl rfl | exact Or.inr rfl) (pd_ix (room_units room) (pd_var 1) (pd_call (c__law_less h) nPar_run room (by decide) gu rfl (pad_cons (pd_var 7) (pad_cons (pd_var 3) pad_nil)))))
 (pssd_cons (psd_if (ptd_ne (room_units room) (pd_get2 (room_units room) (pd_var 4) (pd_var 8) (pd_ix (room_units room) (pd_var 1) (pd_var 7)) ⟨rfl, rfl, rfl, rfl⟩) (pd_ix (room_units room) (pd_var 1) (pd_var 7)))
 (pssd_one (psd_ret (pd_name (pld_lst pad_nil))))
 pssd_nil)
 (pssd_one (psd_sub (room_units room) (pd_ix (room_units room) (pd_var 1) (pd_var 7)) (pd_var 4) (pd_var 8)))))))
 (pssd_one (psd_lock 4 (psd_ret (pd_name (pld_lc (own := [("deed", 9)]) rfl sc__law_last.nd (pid_range1 rfl (b_range h) (Dl.b_len rfl (b_len h) (pd_ix (room_units room) (pd_var 0) pd_int))) (blkOk_by (N := N__law_last) (sc := defScope s__law_last) (own := [("deed", 9)]) (by decide +kernel)) (fun _ _ _ _ _ => (pgd_name (i := 9) sc__law_last.nd rfl (by first | exact Or.inl rfl | exact Or.inr rfl))) (fun _ _ _ _ _ => (ptsd_one (ptd_gc (ptd_eq (room_units room) (pd_name (pld_lc (own := [("one", 10)]) rfl sc__law_last.nd (pid_keys (pd_var 4)) (blkOk_by (own := [("one", 10)]) (by kernel_rfl)) (fun _ _ _ _ _ => (pgd_name (i := 10) sc__law_last.nd rfl (by first | exact Or.inl rfl | exact Or.inr rfl))) (fun _ _ _ _ _ => (ptsd_one (ptd_ne (room_units room) (pd_ix (room_units room) (pd_ix (room_units room) (pd_ix (room_units room) (pd_var 0) pd_int) (pd_var 9)) (pd_var 10)) (pd_ix (room_units room) (pd_var 4) (pd_var 10))))) (fun _ _ _ _ _ => pd_int) (by decide))) (pd_name (pld_lst pad_nil)))))) (fun _ _ _ _ _ => (pd_var 9)) (by decide))))))))
theorem c__law_last {P : Program} {w : World} {K : PySem.W.Frag} {mg : Str → Option Value} {base : Heap} (h : Hd w K mg) : Cle P w K mg base 2 "_law_last" 4 F__law_last := by
  obtain ⟨fd, D0⟩ := h.d__law_last
  exact cle_of D0 h.g__law_last rfl (fn__law_last h D0) fun _ _ _ _ _ _ us hl => match us, hl with | [_, _, _, _], _ => rfl
/-! ### _law_normal -/
noncomputable def g__law_normal : FS :=
 (sSeq (sIf (fTest (fOp gEq (fVar 3) (fC (.int 0))))
 (sSeq (sSet 4 (fName (fLst fNil)))
 (sSeq (sFor (fRng1 (fVar 1)) (gN 5)
 (sDrop (fGc (fMeth mExtend (fVar 4) (fCons (fName (fLc (fWalk (fVar 2)) (gT 2 (gCons' (gN 10) (gCons' (gN 12) gNil'))) [10, 12] (fTest (fOp gEq (fVar 10) (fVar 5))) (fTup (fCons (fVar 5) (fCons (fIdxT (fOp gIx (fVar 0) (fC (.int 1))) (fOp gIx (fOp gIx (fVar 0) (fC (.int 1))) (fVar 12))) fNil))))) fNil)))))
 (sRet (fCB gTuple (fCons (fVar 4) fNil)))))
 sNext)
 (sSeq (sPar3 6 7 4 (fCons (fCall F__law_table (fCons (fVar 0) (fCons (fVar 1) (fCons (fVar 2) fNil)))) (fCons (fCall F__law_counts (fCons (fVar 1) (fCons (fVar 2) fNil))) (fCons (fTup fNil) fNil))))
 (sSeq (sFor (fRng1 (fCB gLen (fCons (fVar 2) fNil))) (gN 8)
 (sSeq (sSet 9 (fTup (fCons (fC (.int 0)) (fCons (fC (.int 0)) fNil))))
 (sSeq (sFor (fRng1 (fVar 1)) (gN 10)
 (sSeq (sSet 11 (fIf (fTest (fOp gGt (fOp gIx (fVar 7) (fVar 10)) (fC (.int 0)))) (fCall F__law_last (fCons (fVar 0) (fCons (fVar 6) (fCons (fVar 7) (fCons (fVar 10) fNil))))) (fName (fLst fNil))))
 (sIf (fGcB (fTest (fOp gNe (fVar 11) (fName (fLst fNil)))))
 (sSet 9 (fTup (fCons (fVar 10) (fCons (fOp gIx (fVar 11) (fC (.int 0))) fNil))))
 sNext)))
 (sPar 7 4 (fCons (fCall F__law_less (fCons (fVar 7) (fCons (fOp gIx (fVar 9) (fC (.int 0))) fNil))) (fCons (fOp gAdd (fTup (fCons (fVar 9) fNil)) (fVar 4)) fNil))))))
 (sRet (fVar 4)))))
noncomputable def F__law_normal : List D → M → Res D := runF 13 4 g__law_normal
theorem sc__law_normal : FnScope N__law_normal ps__law_normal (defScope s__law_normal) := C8.fnScope_by (by decide +kernel)
theorem fn__law_normal {P : Program} {w : World} {K : PySem.W.Frag} {mg : Str → Option Value} {base : Heap} (h : Hd w K mg) {fd : FuncData} (D0 : FnP K "_law_normal" s__law_normal (He.ga K "_law_normal") fd) : FnG P w K mg base 3 (He.ga K "_law_normal") fd ps__law_normal F__law_normal := by
  refine fng_of (N := N__law_normal) (W := WF) D0 sc__law_normal fun cdv A outer s H room gu => ?_
  exact (pssd_cons (psd_if (ptd_eq (room_units room) (pd_var 3) pd_int)
 (pssd_cons (psd_set (i := 4) sc__law_normal.nd rfl (by first | exact Or.inl rfl | exact Or.inr rfl) (pd_name (pld_lst pad_nil)))
 (pssd_cons (psd_for PassesOwn.never rfl (pid_range1 rfl (b_range h) (pd_var 1)) (pgd_name (i := 5) sc__law_normal.nd rfl (by first | exact Or.inl rfl | exact Or.inr rfl))
 (pssd_one (psd_expr (pd_gc (pd_extend (pd_var 4) (pad_cons (pd_name (pld_lc (own := [("hand", 10), ("deed", 12)]) rfl sc__law_normal.nd (pid_seq (pd_var 2)) (blkOk_by (N := N__law_normal) (sc := defScope s__law_normal) (own := [("hand", 10), ("deed", 12)]) (by decide +kernel)) (fun _ _ _ _ _ => (pgd_tup rfl (pgsd_cons (pgd_name (i := 10) sc__law_normal.nd rfl (by first | exact Or.inl rfl | exact Or.inr rfl)) (pgsd_cons (pgd_name (i := 12) sc__law_normal.nd rfl (by first | exact Or.inl rfl | exact Or.inr rfl)) pgsd_nil)))) (fun _ _ _ _ _ => (ptsd_one (ptd_eq (room_units room) (pd_var 10) (pd_var 5)))) (fun _ _ _ _ _ => (pd_tup (pad_cons (pd_var 5) (pad_cons (pd_idxT (room_units65 room) (pd_ix (room_units room) (pd_var 0) pd_int) (pd_ix (room_units room) (pd_ix (room_units room) (pd_var 0) pd_int) (pd_var 12))) pad_nil)))) (by decide))) pad_nil))))))
 (pssd_one (psd_ret (Dl.b_tuple rfl (b_tuple h) (pd_var 4))))))
 pssd_nil)
 (pssd_cons (psd_par3 (i := 6) (j := 7) (l := 4) rfl sc__law_normal.nd rfl rfl rfl (by decide) (by decide) (by decide) rfl rfl rfl (pad_cons (pd_call (c__law_table h) nPar_run room (by decide) gu rfl (pad_cons (pd_var 0) (pad_cons (pd_var 1) (pad_cons (pd_var 2) pad_nil)))) (pad_cons (pd_call (c__law_counts h) nPar_run room (by decide) gu rfl (pad_cons (pd_var 1) (pad_cons (pd_var 2) pad_nil))) (pad_cons (pd_tup pad_nil) pad_nil))))
 (pssd_cons (psd_for PassesOwn.never rfl (pid_range1 rfl (b_range h) (Dl.b_len rfl (b_len h) (pd_var 2))) (pgd_name (i := 8) sc__law_normal.nd rfl (by first | exact Or.inl rfl | exact Or.inr rfl))
 (pssd_cons (psd_set (i := 9) sc__law_normal.nd rfl (by first | exact Or.inl rfl | exact Or.inr rfl) (pd_tup (pad_cons pd_int (pad_cons pd_int pad_nil))))
 (pssd_cons (psd_for PassesOwn.never rfl (pid_range1 rfl (b_range h) (pd_var 1)) (pgd_name (i := 10) sc__law_normal.nd rfl (by first | exact Or.inl rfl | exact Or.inr rfl))
 (pssd_cons (psd_set (i := 11) sc__law_normal.nd rfl (by first | exact Or.inl rfl | exact Or.inr rfl) (pd_if (ptd_gt (pd_ix (room_units room) (pd_var 7) (pd_var 10)) pd_int) (pd_call (c__law_last h) nPar_run room (by decide) gu rfl (pad_cons (pd_var 0) (pad_cons (pd_var 6) (pad_cons (pd_var 7) (pad_cons (pd_var 10) pad_nil))))) (pd_name (pld_lst pad_nil))))
 (pssd_one (psd_if (ptd_gc (ptd_ne (room_units room) (pd_var 11) (pd_name (pld_lst pad_nil))))
 (pssd_one (psd_set (i := 9) sc__law_normal.nd rfl (by first | exact Or.inl rfl | exact Or.inr rfl) (pd_tup (pad_cons (pd_var 10) (pad_cons (pd_ix (room_units room) (pd_var 11) pd_int) pad_nil)))))
 pssd_nil))))
 (pssd_one (psd_par (i := 7) (j := 4) rfl sc__law_normal.nd rfl rfl (by decide) rfl rfl (pad_cons (pd_call (c__law_less h) nPar_run room (by decide) gu rfl (pad_cons (pd_var 7) (pad_cons (pd_ix (room_units room) (pd_var 9) pd_int) pad_nil))) (pad_cons (pd_add (pd_tup (pad_cons (pd_var 9) pad_nil)) (pd_var 4)) pad_nil)))))))
 (pssd_one (psd_ret (pd_var 4))))))
theorem c__law_normal {P : Program} {w : World} {K : PySem.W.Frag} {mg : Str → Option Value} {base : Heap} (h : Hd w K mg) : Cle P w K mg base 3 "_law_normal" 4 F__law_normal := by
  obtain ⟨fd, D0⟩ := h.d__law_normal
  exact cle_of D0 h.g__law_normal rfl (fn__law_normal h D0) fun _ _ _ _ _ _ us hl => match us, hl with | [_, _, _, _], _ => rfl
/-! ### _law_shuffled -/
noncomputable def g__law_shuffled : FS :=
 (sSeq (sPar 3 4 (fCons (fName (fLc (fRng1 (fVar 1)) (gN 7) [7] fYes (fName (fLc (fWalk (fVar 2)) (gN 8) [8] (fTest (fOp gEq (fOp gIx (fVar 8) (fC (.int 0))) (fVar 7))) (fVar 8))))) (fCons (fName (fLst fNil)) fNil)))
 (sSeq (sFor (fRng1 (fCB gLen (fCons (fVar 2) fNil))) (gN 5)
 (sSeq (sSet 6 (fCall F__law_pick (fCons (fVar 0) (fCons (fName (fLc (fWalk (fVar 3)) (gN 6) [6] (fGcB (fTest (fOp gNe (fVar 6) (fName (fLst fNil))))) (fVar 6))) fNil))))
 (sDrop (fMeth mAppend (fVar 4) (fCons (fMeth mPop0 (fVar 6) (fCons (fC (.int 0)) fNil)) fNil)))))
 (sRet (fCB gTuple (fCons (fVar 4) fNil)))))
noncomputable def F__law_shuffled : List D → M → Res D := runF 9 3 g__law_shuffled
theorem sc__law_shuffled : FnScope N__law_shuffled ps__law_shuffled (defScope s__law_shuffled) := C8.fnScope_by (by decide +kernel)
theorem fn__law_shuffled {P : Program} {w : World} {K : PySem.W.Frag} {mg : Str → Option Value} {base : Heap} (h : Hd w K mg) {fd : FuncData} (D0 : FnP K "_law_shuffled" s__law_shuffled (He.ga K "_law_shuffled") fd) : FnG P w K mg base 3 (He.ga K "_law_shuffled") fd ps__law_shuffled F__law_shuffled := by
  refine fng_of (N := N__law_shuffled) (W := WF) D0 sc__law_shuffled fun cdv A outer s H room gu => ?_
  exact (pssd_cons (psd_par (i := 3) (j := 4) rfl sc__law_shuffled.nd rfl rfl (by decide) rfl rfl (pad_cons (pd_name (pld_lc (own := [("hand", 7)]) rfl sc__law_shuffled.nd (pid_range1 rfl (b_range h) (pd_var 1)) (blkOk_by (N := N__law_shuffled) (sc := defScope s__law_shuffled) (own := [("hand", 7)]) (by decide +kernel)) (fun _ _ _ _ _ => (pgd_name (i := 7) sc__law_shuffled.nd rfl (by first | exact Or.inl rfl | exact Or.inr rfl))) (fun _ _ _ _ _ => ptsd_nil) (fun _ _ _ _ _ => (pd_name (pld_lc (own := [("letter", 8)]) rfl sc__law_shuffled.nd (pid_seq (pd_var 2)) (blkOk_by (own := [("letter", 8)]) (by kernel_rfl)) (fun _ _ _ _ _ => (pgd_name (i := 8) sc__law_shuffled.nd rfl (by first | exact Or.inl rfl | exact Or.inr rfl))) (fun _ _ _ _ _ => (ptsd_one (ptd_eq (room_units room) (pd_ix (room_units room) (pd_var 8) pd_int) (pd_var 7)))) (fun _ _ _ _ _ => (pd_var 8)) (by decide)))) (by decide))) (pad_cons (pd_name (pld_lst pad_nil)) pad_nil)))
 (pssd_cons (psd_for PassesOwn.never rfl (pid_range1 rfl (b_range h) (Dl.b_len rfl (b_len h) (pd_var 2))) (pgd_name (i := 5) sc__law_shuffled.nd rfl (by first | exact Or.inl rfl | exact Or.inr rfl))
 (pssd_cons (psd_set (i := 6) sc__law_shuffled.nd rfl (by first | exact Or.inl rfl | exact Or.inr rfl) (pd_call (c__law_pick h) nPar_run room (by decide) gu rfl (pad_cons (pd_var 0) (pad_cons (pd_name (pld_lc (own := [("row", 6)]) rfl sc__law_shuffled.nd (pid_seq (pd_var 3)) (blkOk_by (N := N__law_shuffled) (sc := defScope s__law_shuffled) (own := [("row", 6)]) (by decide +kernel)) (fun _ _ _ _ _ => (pgd_name (i := 6) sc__law_shuffled.nd rfl (by first | exact Or.inl rfl | exact Or.inr rfl))) (fun _ _ _ _ _ => (ptsd_one (ptd_gc (ptd_ne (room_units room) (pd_var 6) (pd_name (pld_lst pad_nil)))))) (fun _ _ _ _ _ => (pd_var 6)) (by decide))) pad_nil))))
 (pssd_one (psd_expr (pd_append (pd_var 4) (pad_cons (pd_pop0 (pd_var 6) (pad_cons pd_int pad_nil)) pad_nil))))))
 (pssd_one (psd_ret (Dl.b_tuple rfl (b_tuple h) (pd_var 4))))))
theorem c__law_shuffled {P : Program} {w : World} {K : PySem.W.Frag} {mg : Str → Option Value} {base : Heap} (h : Hd w K mg) : Cle P w K mg base 3 "_law_shuffled" 3 F__law_shuffled := by
  obtain ⟨fd, D0⟩ := h.d__law_shuffled
  exact cle_of D0 h.g__law_shuffled rfl (fn__law_shuffled h D0) fun _ _ _ _ _ _ us hl => match us, hl with | [_, _, _], _ => rfl
/-! ### is_string -/
noncomputable def g_is_string : FS :=
 (sRet (fIsi "str" (fVar 0)))
noncomputable def F_is_string : List D → M → Res D := runF 1 1 g_is_string
theorem sc_is_string : FnScope N_is_string ps_is_string (defScope s_is_string) := C8.fnScope_by (by decide +kernel)
theorem fn_is_string {P : Program} {w : World} {K : PySem.W.Frag} {mg : Str → Option Value} {base : Heap} (h : Hd w K mg) {fd : FuncData} (D0 : FnP K "is_string" s_is_string (He.ga K "is_string") fd) : FnG P w K mg base 1 (He.ga K "is_string") fd ps_is_string F_is_string := by
  refine fng_of (N := N_is_string) (W := WF) D0 sc_is_string fun cdv A outer s H room gu => ?_
  exact (pssd_one (psd_ret (Dl.b_isi (T := "str") rfl (b_isinstance h) rfl (b_str h) (by decide +kernel) (pd_var 0))))
theorem c_is_string {P : Program} {w : World} {K : PySem.W.Frag} {mg : Str → Option Value} {base : Heap} (h : Hd w K mg) : Cle P w K mg base 1 "is_string" 1 F_is_string := by
  obtain ⟨fd, D0⟩ := h.d_is_string
  exact cle_of D0 h.g_is_string rfl (fn_is_string h D0) fun _ _ _ _ _ _ us hl => match us, hl with | [_], _ => rfl
/-! ### is_press -/
noncomputable def g_is_press : FS :=
 (sSeq (sIf (fOrT (fNotT (fTest (fCall F_is_sequence (fCons (fVar 0) fNil)))) (fOrT (fTest (fOp gEq (fCB gLen (fCons (fVar 0) fNil)) (fC (.int 0)))) (fOrT (fNotT (fTest (fCall F_is_string (fCons (fOp gIx (fVar 0) (fC (.int 0))) fNil)))) (fTabNI tab_PARTS (fOp gIx (fVar 0) (fC (.int 0)))))))
 (sRet (fC (.bl false)))
 sNext)
 (sSeq (sIf (fOrT (fTest (fOp gNe (fCB gLen (fCons (fVar 0) fNil)) (fTabIx tab_PARTS (fOp gIx (fVar 0) (fC (.int 0)))))) (fNotT (fTest (fCall F_is_below (fCons (fOp gIx (fVar 0) (fC (.int 1))) (fCons (fC (.int 4)) fNil))))))
 (sRet (fC (.bl false)))
 sNext)
 (sRet (fOrV (fOp gEq (fOp gIx (fVar 0) (fC (.int 0))) (fC (.str "back"))) (fCall F_is_below (fCons (fOp gIx (fVar 0) (fC (.int 2))) (fCons (fC (.int 6)) fNil)))))))
noncomputable def F_is_press : List D → M → Res D := runF 1 1 g_is_press
theorem sc_is_press : FnScope N_is_press ps_is_press (defScope s_is_press) := C8.fnScope_by (by decide +kernel)
theorem fn_is_press {P : Program} {w : World} {K : PySem.W.Frag} {mg : Str → Option Value} {base : Heap} (h : Hd w K mg) {fd : FuncData} (D0 : FnP K "is_press" s_is_press (He.ga K "is_press") fd) : FnG P w K mg base 4 (He.ga K "is_press") fd ps_is_press F_is_press := by
  refine fng_of (N := N_is_press) (W := WF) D0 sc_is_press fun cdv A outer s H room gu => ?_
  exact (pssd_cons (psd_if (ptd_w (pwd_or (ptd_not (ptd_val (pd_call (c_is_sequence h) nPar_run room (by decide) gu rfl (pad_cons (pd_var 0) pad_nil)))) (pwd_or (ptd_eq (room_units room) (Dl.b_len rfl (b_len h) (pd_var 0)) pd_int) (pwd_or (ptd_not (ptd_val (pd_call (c_is_string h) nPar_run room (by decide) gu rfl (pad_cons (pd_ix (room_units room) (pd_var 0) pd_int) pad_nil)))) (pwd_or1 (ptd_tabNI rfl (t_PARTS h) (pd_ix (room_units room) (pd_var 0) pd_int)))))))
 (pssd_one (psd_ret pd_bl))
 pssd_nil)
 (pssd_cons (psd_if (ptd_w (pwd_or (ptd_ne (room_units room) (Dl.b_len rfl (b_len h) (pd_var 0)) (pd_tabIx rfl (t_PARTS h) (pd_ix (room_units room) (pd_var 0) pd_int))) (pwd_or1 (ptd_not (ptd_val (pd_call (c_is_below h) nPar_run room (by decide) gu rfl (pad_cons (pd_ix (room_units room) (pd_var 0) pd_int) (pad_cons (pd_glob rfl (i_MOST_HANDS h)) pad_nil))))))))
 (pssd_one (psd_ret pd_bl))
 pssd_nil)
 (pssd_one (psd_ret (pd_or (pd_eq (room_units room) (pd_ix (room_units room) (pd_var 0) pd_int) (pd_globS rfl (z_BACK h))) (pd_one (pd_call (c_is_below h) nPar_run room (by decide) gu rfl (pad_cons (pd_ix (room_units room) (pd_var 0) pd_int) (pad_cons (pd_glob rfl (i_MOST_DEEDS h)) pad_nil)))))))))
theorem c_is_press {P : Program} {w : World} {K : PySem.W.Frag} {mg : Str → Option Value} {base : Heap} (h : Hd w K mg) : Cle P w K mg base 4 "is_press" 1 F_is_press := by
  obtain ⟨fd, D0⟩ := h.d_is_press
  exact cle_of D0 h.g_is_press rfl (fn_is_press h D0) fun _ _ _ _ _ _ us hl => match us, hl with | [_], _ => rfl
/-! ### check_press -/
noncomputable def g_check_press : FS :=
 (sSeq (sIf (fNotT (fTest (fCall F_is_press (fCons (fVar 0) fNil))))
 sNever
 sNext)
 (sRet (fCB gTuple (fCons (fVar 0) fNil))))
noncomputable def F_check_press : List D → M → Res D := runF 1 1 g_check_press
theorem sc_check_press : FnScope N_check_press ps_check_press (defScope s_check_press) := C8.fnScope_by (by decide +kernel)
theorem fn_check_press {P : Program} {w : World} {K : PySem.W.Frag} {mg : Str → Option Value} {base : Heap} (h : Hd w K mg) {fd : FuncData} (D0 : FnP K "check_press" s_check_press (He.ga K "check_press") fd) : FnG P w K mg base 5 (He.ga K "check_press") fd ps_check_press F_check_press := by
  refine fng_of (N := N_check_press) (W := WF) D0 sc_check_press fun cdv A outer s H room gu => ?_
  exact (pssd_cons (psd_if (ptd_not (ptd_val (pd_call (c_is_press h) nPar_run room (by decide) gu rfl (pad_cons (pd_var 0) pad_nil))))
 (pssd_one psd_never)
 pssd_nil)
 (pssd_one (psd_ret (Dl.b_tuple rfl (b_tuple h) (pd_var 0)))))
theorem c_check_press {P : Program} {w : World} {K : PySem.W.Frag} {mg : Str → Option Value} {base : Heap} (h : Hd w K mg) : Cle P w K mg base 5 "check_press" 1 F_check_press := by
  obtain ⟨fd, D0⟩ := h.d_check_press
  exact cle_of D0 h.g_check_press rfl (fn_check_press h D0) fun _ _ _ _ _ _ us hl => match us, hl with | [_], _ => rfl
/-! ### press_here -/
noncomputable def g_press_here : FS :=
 (sSeq (sSet 3 (fCall F_check_press (fCons (fVar 2) fNil)))
 (sSeq (sIf (fTest (fOp gGe (fOp gIx (fVar 3) (fC (.int 1))) (fVar 1)))
 sNever
 sNext)
 (sSeq (sIf (fAndT (fTest (fOp gEq (fOp gIx (fVar 3) (fC (.int 0))) (fC (.str "deed")))) (fTest (fOp gGe (fOp gIx (fVar 3) (fC (.int 2))) (fCB gLen (fCons (fOp gIx (fVar 0) (fC (.int 1))) fNil)))))
 sNever
 sNext)
 (sRet (fVar 3)))))
noncomputable def F_press_here : List D → M → Res D := runF 4 3 g_press_here
theorem sc_press_here : FnScope N_press_here ps_press_here (defScope s_press_here) := C8.fnScope_by (by decide +kernel)
theorem fn_press_here {P : Program} {w : World} {K : PySem.W.Frag} {mg : Str → Option Value} {base : Heap} (h : Hd w K mg) {fd : FuncData} (D0 : FnP K "press_here" s_press_here (He.ga K "press_here") fd) : FnG P w K mg base 6 (He.ga K "press_here") fd ps_press_here F_press_here := by
  refine fng_of (N := N_press_here) (W := WF) D0 sc_press_here fun cdv A outer s H room gu => ?_
  exact (pssd_cons (psd_set (i := 3) sc_press_here.nd rfl (by first | exact Or.inl rfl | exact Or.inr rfl) (pd_call (c_check_press h) nPar_run room (by decide) gu rfl (pad_cons (pd_var 2) pad_nil)))
 (pssd_cons (psd_if (ptd_ge (pd_ix (room_units room) (pd_var 3) pd_int) (pd_var 1))
 (pssd_one psd_never)
 pssd_nil)
 (pssd_cons (psd_if (ptd_w (pwd_and (ptd_eq (room_units room) (pd_ix (room_units room) (pd_var 3) pd_int) (pd_globS rfl (z_DEED h))) (pwd_and1 (ptd_ge (pd_ix (room_units room) (pd_var 3) pd_int) (Dl.b_len rfl (b_len h) (pd_ix (room_units room) (pd_var 0) pd_int))))))
 (pssd_one psd_never)
 pssd_nil)
 (pssd_one (psd_ret (pd_var 3))))))
theorem c_press_here {P : Program} {w : World} {K : PySem.W.Frag} {mg : Str → Option Value} {base : Heap} (h : Hd w K mg) : Cle P w K mg base 6 "press_here" 3 F_press_here := by
  obtain ⟨fd, D0⟩ := h.d_press_here
  exact cle_of D0 h.g_press_here rfl (fn_press_here h D0) fun _ _ _ _ _ _ us hl => match us, hl with | [_, _, _], _ => rfl
/-! ### last_place -/
noncomputable def g_last_place : FS :=
 (sSeq (sSet 2 (fUn gNeg (fC (.int 1))))
 (sSeq (sFor (fEnum (fVar 0)) (gT 2 (gCons' (gN 3) (gCons' (gN 4) gNil')))
 (sIf (fTest (fOp gEq (fOp gIx (fVar 4) (fC (.int 0))) (fVar 1)))
 (sSet 2 (fVar 3))
 sNext))
 (sRet (fVar 2))))
noncomputable def F_last_place : List D → M → Res D := runF 5 2 g_last_place
theorem sc_last_place : FnScope N_last_place ps_last_place (defScope s_last_place) := C8.fnScope_by (by decide +kernel)
theorem fn_last_place {P : Program} {w : World} {K : PySem.W.Frag} {mg : Str → Option Value} {base : Heap} (h : Hd w K mg) {fd : FuncData} (D0 : FnP K "last_place" s_last_place (He.ga K "last_place") fd) : FnG P w K mg base 1 (He.ga K "last_place") fd ps_last_place F_last_place := by
  refine fng_of (N := N_last_place) (W := WF) D0 sc_last_place fun cdv A outer s H room gu => ?_
  exact (pssd_cons (psd_set (i := 2) sc_last_place.nd rfl (by first | exact Or.inl rfl | exact Or.inr rfl) (pd_neg pd_int))
 (pssd_cons (psd_for PassesOwn.never rfl (pid_enum rfl (b_enumerate h) (pd_var 0)) (pgd_tup rfl (pgsd_cons (pgd_name (i := 3) sc_last_place.nd rfl (by first | exact Or.inl rfl | exact Or.inr rfl)) (pgsd_cons (pgd_name (i := 4) sc_last_place.nd rfl (by first | exact Or.inl rfl | exact Or.inr rfl)) pgsd_nil)))
 (pssd_one (psd_if (ptd_eq (room_units room) (pd_ix (room_units room) (pd_var 4) pd_int) (pd_var 1))
 (pssd_one (psd_set (i := 2) sc_last_place.nd rfl (by first | exact Or.inl rfl | exact Or.inr rfl) (pd_var 3)))
 pssd_nil)))
 (pssd_one (psd_ret (pd_var 2)))))
theorem c_last_place {P : Program} {w : World} {K : PySem.W.Frag} {mg : Str → Option Value} {base : Heap} (h : Hd w K mg) : Cle P w K mg base 1 "last_place" 2 F_last_place := by
  obtain ⟨fd, D0⟩ := h.d_last_place
  exact cle_of D0 h.g_last_place rfl (fn_last_place h D0) fun _ _ _ _ _ _ us hl => match us, hl with | [_, _], _ => rfl
/-! ### need_press -/
noncomputable def g_need_press : FS :=
 (sSeq (sSet 4 (fCall F_press_here (fCons (fVar 0) (fCons (fVar 1) (fCons (fVar 3) fNil)))))
 (sSeq (sIf (fAndT (fTest (fOp gEq (fOp gIx (fVar 4) (fC (.int 0))) (fC (.str "back")))) (fTest (fOp gLt (fCall F_last_place (fCons (fVar 2) (fCons (fOp gIx (fVar 4) (fC (.int 1))) fNil))) (fC (.int 0)))))
 sNever
 sNext)
 (sRet (fVar 4))))
noncomputable def F_need_press : List D → M → Res D := runF 5 4 g_need_press
theorem sc_need_press : FnScope N_need_press ps_need_press (defScope s_need_press) := C8.fnScope_by (by decide +kernel)
theorem fn_need_press {P : Program} {w : World} {K : PySem.W.Frag} {mg : Str → Option Value} {base : Heap} (h : Hd w K mg) {fd : FuncData} (D0 : FnP K "need_press" s_need_press (He.ga K "need_press") fd) : FnG P w K mg base 7 (He.ga K "need_press") fd ps_need_press F_need_press := by
  refine fng_of (N := N_need_press) (W := WF) D0 sc_need_press fun cdv A outer s H room gu => ?_
  exact (pssd_cons (psd_set (i := 4) sc_need_press.nd rfl (by first | exact Or.inl rfl | exact Or.inr rfl) (pd_call (c_press_here h) nPar_run room (by decide) gu rfl (pad_cons (pd_var 0) (pad_cons (pd_var 1) (pad_cons (pd_var 3) pad_nil)))))
 (pssd_cons (psd_if (ptd_w (pwd_and (ptd_eq (room_units room) (pd_ix (room_units room) (pd_var 4) pd_int) (pd_globS rfl (z_BACK h))) (pwd_and1 (ptd_lt (pd_call (c_last_place h) nPar_run room (by decide) gu rfl (pad_cons (pd_var 2) (pad_cons (pd_ix (room_units room) (pd_var 4) pd_int) pad_nil))) pd_int))))
 (pssd_one psd_never)
 pssd_nil)
 (pssd_one (psd_ret (pd_var 4)))))
theorem c_need_press {P : Program} {w : World} {K : PySem.W.Frag} {mg : Str → Option Value} {base : Heap} (h : Hd w K mg) : Cle P w K mg base 7 "need_press" 4 F_need_press := by
  obtain ⟨fd, D0⟩ := h.d_need_press
  exact cle_of D0 h.g_need_press rfl (fn_need_press h D0) fun _ _ _ _ _ _ us hl => match us, hl with | [_, _, _, _], _ => rfl
/-! ### behind -/
noncomputable def g_behind : FS :=
 (sSeq (sIf (fTest (fOp gEq (fOp gIx (fVar 1) (fC (.int 0))) (fC (.str "deed"))))
 (sRet (fOp gAdd (fVar 0) (fTup (fCons (fTup (fCons (fOp gIx (fVar 1) (fC (.int 1))) (fCons (fOp gIx (fVar 1) (fC (.int 2))) fNil))) fNil))))
 sNext)
 (sSeq (sSet 2 (fCall F_last_place (fCons (fVar 0) (fCons (fOp gIx (fVar 1) (fC (.int 1))) fNil))))
 (sRet (fOp gAdd (fCut (fVar 0) fNoPart (fPart (fVar 2))) (fCut (fVar 0) (fPart (fOp gAdd (fVar 2) (fC (.int 1)))) fNoPart)))))
noncomputable def F_behind : List D → M → Res D := runF 3 2 g_behind
theorem sc_behind : FnScope N_behind ps_behind (defScope s_behind) := C8.fnScope_by (by decide +kernel)
theorem fn_behind {P : Program} {w : World} {K : PySem.W.Frag} {mg : Str → Option Value} {base : Heap} (h : Hd w K mg) {fd : FuncData} (D0 : FnP K "behind" s_behind (He.ga K "behind") fd) : FnG P w K mg base 2 (He.ga K "behind") fd ps_behind F_behind := by
  refine fng_of (N := N_behind) (W := WF) D0 sc_behind fun cdv A outer s H room gu => ?_
  exact (pssd_cons (psd_if (ptd_eq (room_units room) (pd_ix (room_units room) (pd_var 1) pd_int) (pd_globS rfl (z_DEED h)))
 (pssd_one (psd_ret (pd_add (pd_var 0) (pd_tup (pad_cons (pd_tup (pad_cons (pd_ix (room_units room) (pd_var 1) pd_int) (pad_cons (pd_ix (room_units room) (pd_var 1) pd_int) pad_nil))) pad_nil)))))
 pssd_nil)
 (pssd_cons (psd_set (i := 2) sc_behind.nd rfl (by first | exact Or.inl rfl | exact Or.inr rfl) (pd_call (c_last_place h) nPar_run room (by decide) gu rfl (pad_cons (pd_var 0) (pad_cons (pd_ix (room_units room) (pd_var 1) pd_int) pad_nil))))
 (pssd_one (psd_ret (pd_add (pd_cut (pd_var 0) pod_none (pod_some (pd_var 2))) (pd_cut (pd_var 0) (pod_some (pd_add (pd_var 2) pd_int)) pod_none))))))
theorem c_behind {P : Program} {w : World} {K : PySem.W.Frag} {mg : Str → Option Value} {base : Heap} (h : Hd w K mg) : Cle P w K mg base 2 "behind" 2 F_behind := by
  obtain ⟨fd, D0⟩ := h.d_behind
  exact cle_of D0 h.g_behind rfl (fn_behind h D0) fun _ _ _ _ _ _ us hl => match us, hl with | [_, _], _ => rfl
/-! ### pressed -/
noncomputable def g_pressed : FS :=
 (sSeq (sSet 4 (fCall F_check_machine (fCons (fVar 0) fNil)))
 (sSeq (sSet 5 (fCall F_check_history (fCons (fVar 4) (fCons (fVar 1) (fCons (fVar 2) fNil)))))
 (sRet (fCall F_behind (fCons (fVar 5) (fCons (fCall F_need_press (fCons (fVar 4) (fCons (fVar 1) (fCons (fVar 5) (fCons (fVar 3) fNil))))) fNil))))))
noncomputable def F_pressed : List D → M → Res D := runF 6 4 g_pressed
theorem sc_pressed : FnScope N_pressed ps_pressed (defScope s_pressed) := C8.fnScope_by (by decide +kernel)
theorem fn_pressed {P : Program} {w : World} {K : PySem.W.Frag} {mg : Str → Option Value} {base : Heap} (h : Hd w K mg) {fd : FuncData} (D0 : FnP K "pressed" s_pressed (He.ga K "pressed") fd) : FnG P w K mg base 9 (He.ga K "pressed") fd ps_pressed F_pressed := by
  refine fng_of (N := N_pressed) (W := WF) D0 sc_pressed fun cdv A outer s H room gu => ?_
  exact (pssd_cons (psd_set (i := 4) sc_pressed.nd rfl (by first | exact Or.inl rfl | exact Or.inr rfl) (pd_call (c_check_machine h) nPar_run room (by decide) gu rfl (pad_cons (pd_var 0) pad_nil)))
 (pssd_cons (psd_set (i := 5) sc_pressed.nd rfl (by first | exact Or.inl rfl | exact Or.inr rfl) (pd_call (c_check_history h) nPar_run room (by decide) gu rfl (pad_cons (pd_var 4) (pad_cons (pd_var 1) (pad_cons (pd_var 2) pad_nil)))))
 (pssd_one (psd_ret (pd_call (c_behind h) nPar_run room (by decide) gu rfl (pad_cons (pd_var 5) (pad_cons (pd_call (c_need_press h) nPar_run room (by decide) gu rfl (pad_cons (pd_var 4) (pad_cons (pd_var 1) (pad_cons (pd_var 5) (pad_cons (pd_var 3) pad_nil))))) pad_nil)))))))
theorem c_pressed {P : Program} {w : World} {K : PySem.W.Frag} {mg : Str → Option Value} {base : Heap} (h : Hd w K mg) : Cle P w K mg base 9 "pressed" 4 F_pressed := by
  obtain ⟨fd, D0⟩ := h.d_pressed
  exact cle_of D0 h.g_pressed rfl (fn_pressed h D0) fun _ _ _ _ _ _ us hl => match us, hl with | [_, _, _, _], _ => rfl
/-! ### renewed -/
noncomputable def g_renewed : FS :=
 (sSeq (sSet 4 (fCall F_check_machine (fCons (fVar 0) fNil)))
 (sRet (fCall F_normal_of (fCons (fVar 4) (fCons (fVar 1) (fCons (fCall F_pressed (fCons (fVar 4) (fCons (fVar 1) (fCons (fVar 2) (fCons (fVar 3) fNil))))) fNil))))))
noncomputable def F_renewed : List D → M → Res D := runF 5 4 g_renewed
theorem sc_renewed : FnScope N_renewed ps_renewed (defScope s_renewed) := C8.fnScope_by (by decide +kernel)
theorem fn_renewed {P : Program} {w : World} {K : PySem.W.Frag} {mg : Str → Option Value} {base : Heap} (h : Hd w K mg) {fd : FuncData} (D0 : FnP K "renewed" s_renewed (He.ga K "renewed") fd) : FnG P w K mg base 12 (He.ga K "renewed") fd ps_renewed F_renewed := by
  refine fng_of (N := N_renewed) (W := WF) D0 sc_renewed fun cdv A outer s H room gu => ?_
  exact (pssd_cons (psd_set (i := 4) sc_renewed.nd rfl (by first | exact Or.inl rfl | exact Or.inr rfl) (pd_call (c_check_machine h) nPar_run room (by decide) gu rfl (pad_cons (pd_var 0) pad_nil)))
 (pssd_one (psd_ret (pd_call (c_normal_of h) nPar_run room (by decide) gu rfl (pad_cons (pd_var 4) (pad_cons (pd_var 1) (pad_cons (pd_call (c_pressed h) nPar_run room (by decide) gu rfl (pad_cons (pd_var 4) (pad_cons (pd_var 1) (pad_cons (pd_var 2) (pad_cons (pd_var 3) pad_nil))))) pad_nil)))))))
theorem c_renewed {P : Program} {w : World} {K : PySem.W.Frag} {mg : Str → Option Value} {base : Heap} (h : Hd w K mg) : Cle P w K mg base 12 "renewed" 4 F_renewed := by
  obtain ⟨fd, D0⟩ := h.d_renewed
  exact cle_of D0 h.g_renewed rfl (fn_renewed h D0) fun _ _ _ _ _ _ us hl => match us, hl with | [_, _, _, _], _ => rfl
theorem ck_renewed__press_history_hands_machine {P : Program} {w : World} {K : PySem.W.Frag} {mg : Str → Option Value} {base : Heap} (h : Hd w K mg) : CleK P w K mg base 12 "renewed" 4 F_renewed ["press", "history", "hands", "machine"] pm_3_2_1_0 := by
  obtain ⟨fd, D0⟩ := h.d_renewed
  exact clek_of D0 h.g_renewed rfl (fn_renewed h D0) fun _ _ _ _ _ _ us hl => match us, hl with | [_, _, _, _], _ => rfl
/-! ### _law_back -/
noncomputable def g__law_back : FS :=
 (sSeq (sSet 2 (fCB gMaxL (fLc (fRng1 (fCB gLen (fCons (fVar 0) fNil))) (gN 3) [3] (fTest (fOp gEq (fOp gIx (fOp gIx (fVar 0) (fVar 3)) (fC (.int 0))) (fVar 1))) (fVar 3))))
 (sRet (fOp gAdd (fCut (fVar 0) fNoPart (fPart (fVar 2))) (fCut (fVar 0) (fPart (fOp gAdd (fVar 2) (fC (.int 1)))) fNoPart))))
noncomputable def F__law_back : List D → M → Res D := runF 4 2 g__law_back
theorem sc__law_back : FnScope N__law_back ps__law_back (defScope s__law_back) := C8.fnScope_by (by decide +kernel)
theorem fn__law_back {P : Program} {w : World} {K : PySem.W.Frag} {mg : Str → Option Value} {base : Heap} (h : Hd w K mg) {fd : FuncData} (D0 : FnP K "_law_back" s__law_back (He.ga K "_law_back") fd) : FnG P w K mg base 1 (He.ga K "_law_back") fd ps__law_back F__law_back := by
  refine fng_of (N := N__law_back) (W := WF) D0 sc__law_back fun cdv A outer s H room gu => ?_
  exact (pssd_cons (psd_set (i := 2) sc__law_back.nd rfl (by first | exact Or.inl rfl | exact Or.inr rfl) (Dl.b_maxL rfl rfl (b_max h) (pld_lc (own := [("place", 3)]) rfl sc__law_back.nd (pid_range1 rfl (b_range h) (Dl.b_len rfl (b_len h) (pd_var 0))) (blkOk_by (N := N__law_back) (sc := defScope s__law_back) (own := [("place", 3)]) (by decide +kernel)) (fun _ _ _ _ _ => (pgd_name (i := 3) sc__law_back.nd rfl (by first | exact Or.inl rfl | exact Or.inr rfl))) (fun _ _ _ _ _ => (ptsd_one (ptd_eq (room_units room) (pd_ix (room_units room) (pd_ix (room_units room) (pd_var 0) (pd_var 3)) pd_int) (pd_var 1)))) (fun _ _ _ _ _ => (pd_var 3)) (by decide))))
 (pssd_one (psd_ret (pd_add (pd_cut (pd_var 0) pod_none (pod_some (pd_var 2))) (pd_cut (pd_var 0) (pod_some (pd_add (pd_var 2) pd_int)) pod_none)))))
theorem c__law_back {P : Program} {w : World} {K : PySem.W.Frag} {mg : Str → Option Value} {base : Heap} (h : Hd w K mg) : Cle P w K mg base 1 "_law_back" 2 F__law_back := by
  obtain ⟨fd, D0⟩ := h.d__law_back
  exact cle_of D0 h.g__law_back rfl (fn__law_back h D0) fun _ _ _ _ _ _ us hl => match us, hl with | [_, _], _ => rfl
/-! ### _law_renewed_right -/
noncomputable def g__law_renewed_right : FS :=
 (sSeq (sIf (fOrT (fAndT (fTest (fOp gLt (fCB gLen (fCons (fVar 4) fNil)) (fC (.int 12)))) (fTest (fOp gGt (fCall F__law_take (fCons (fVar 0) (fCons (fC (.int 3)) fNil))) (fC (.int 0))))) (fTest (fOp gEq (fVar 4) (fTup fNil))))
 (sSeq (sSet 5 (fTup (fCons (fCall F__law_take (fCons (fVar 0) (fCons (fVar 2) fNil))) (fCons (fCall F__law_take (fCons (fVar 0) (fCons (fCB gLen (fCons (fOp gIx (fVar 1) (fC (.int 1))) fNil)) fNil))) fNil))))
 (sPar 6 7 (fCons (fOp gAdd (fVar 4) (fTup (fCons (fVar 5) fNil))) (fCons (fName (fLst (fCons (fC (.str "deed")) (fCons (fOp gIx (fVar 5) (fC (.int 0))) (fCons (fOp gIx (fVar 5) (fC (.int 1))) fNil))))) fNil))))
 (sSeq (sSet 8 (fOp gIx (fCall F__law_pick (fCons (fVar 0) (fCons (fVar 4) fNil))) (fC (.int 0))))
 (sPar 6 7 (fCons (fCall F__law_back (fCons (fVar 4) (fCons (fVar 8) fNil))) (fCons (fName (fLst (fCons (fC (.str "back")) (fCons (fVar 8) fNil)))) fNil)))))
 (sSeq (sSet 9 (fCall (fun ds m => F_renewed (pm_3_2_1_0 ds) m) (fCons (fVar 7) (fCons (fName (fLc (fWalk (fVar 4)) (gN 5) [5] fYes (fCB gList (fCons (fVar 5) fNil)))) (fCons (fVar 2) (fCons (fVar 1) fNil))))))
 (sRet (fOp gEq (fCB gRepr (fCons (fVar 9) fNil)) (fCB gRepr (fCons (fCall F__law_normal (fCons (fVar 1) (fCons (fVar 2) (fCons (fVar 6) (fCons (fVar 3) fNil))))) fNil))))))
noncomputable def F__law_renewed_right : List D → M → Res D := runF 10 5 g__law_renewed_right
theorem sc__law_renewed_right : FnScope N__law_renewed_right ps__law_renewed_right (defScope s__law_renewed_right) := C8.fnScope_by (by decide +kernel)
theorem fn__law_renewed_right {P : Program} {w : World} {K : PySem.W.Frag} {mg : Str → Option Value} {base : Heap} (h : Hd w K mg) {fd : FuncData} (D0 : FnP K "_law_renewed_right" s__law_renewed_right (He.ga K "_law_renewed_right") fd) : FnG P w K mg base 13 (He.ga K "_law_renewed_right") fd ps__law_renewed_right F__law_renewed_right := by
  refine fng_of (N := N__law_renewed_right) (W := WF) D0 sc__law_renewed_right fun cdv A outer s H room gu => ?_
  exact (pssd_cons (psd_if (ptd_w (pwd_or (ptd_w (pwd_and (ptd_lt (Dl.b_len rfl (b_len h) (pd_var 4)) pd_int) (pwd_and1 (ptd_gt (pd_call (c__law_take h) nPar_run room (by decide) gu rfl (pad_cons (pd_var 0) (pad_cons pd_int pad_nil))) pd_int)))) (pwd_or1 (ptd_eq (room_units room) (pd_var 4) (pd_tup pad_nil)))))
 (pssd_cons (psd_set (i := 5) sc__law_renewed_right.nd rfl (by first | exact Or.inl rfl | exact Or.inr rfl) (pd_tup (pad_cons (pd_call (c__law_take h) nPar_run room (by decide) gu rfl (pad_cons (pd_var 0) (pad_cons (pd_var 2) pad_nil))) (pad_cons (pd_call (c__law_take h) nPar_run room (by decide) gu rfl (pad_cons (pd_var 0) (pad_cons (Dl.b_len rfl (b_len h) (pd_ix (room_units room) (pd_var 1) pd_int)) pad_nil))) pad_nil))))
 (pssd_one (psd_par (i := 6) (j := 7) rfl sc__law_renewed_right.nd rfl rfl (by decide) rfl rfl (pad_cons (pd_add (pd_var 4) (pd_tup (pad_cons (pd_var 5) pad_nil))) (pad_cons (pd_name (pld_lst (pad_cons pd_str (pad_cons (pd_ix (room_units room) (pd_var 5) pd_int) (pad_cons (pd_ix (room_units room) (pd_var 5) pd_int) pad_nil))))) pad_nil)))))
 (pssd_cons (psd_set (i := 8) sc__law_renewed_right.nd rfl (by first | exact Or.inl rfl | exact Or.inr rfl) (pd_ix (room_units room) (pd_call (c__law_pick h) nPar_run room (by decide) gu rfl (pad_cons (pd_var 0) (pad_cons (pd_var 4) pad_nil))) pd_int))
 (pssd_one (psd_par (i := 6) (j := 7) rfl sc__law_renewed_right.nd rfl rfl (by decide) rfl rfl (pad_cons (pd_call (c__law_back h) nPar_run room (by decide) gu rfl (pad_cons (pd_var 4) (pad_cons (pd_var 8) pad_nil))) (pad_cons (pd_name (pld_lst (pad_cons pd_str (pad_cons (pd_var 8) pad_nil)))) pad_nil))))))
 (pssd_cons (psd_set (i := 9) sc__law_renewed_right.nd rfl (by first | exact Or.inl rfl | exact Or.inr rfl) (pd_callK (ck_renewed__press_history_hands_machine h) pm_3_2_1_0_ok nPar_run room (by decide) gu rfl (pkd_cons (pd_var 7) (pkd_cons (pd_name (pld_lc (own := [("letter", 5)]) rfl sc__law_renewed_right.nd (pid_seq (pd_var 4)) (blkOk_by (N := N__law_renewed_right) (sc := defScope s__law_renewed_right) (own := [("letter", 5)]) (by decide +kernel)) (fun _ _ _ _ _ => (pgd_name (i := 5) sc__law_renewed_right.nd rfl (by first | exact Or.inl rfl | exact Or.inr rfl))) (fun _ _ _ _ _ => ptsd_nil) (fun _ _ _ _ _ => (Dl.b_list rfl (b_list h) (pd_var 5))) (by decide))) (pkd_cons (pd_var 2) (pkd_cons (pd_var 1) pkd_nil))))))
 (pssd_one (psd_ret (pd_eq (room_units room) (Dl.b_repr gu (room_units room) rfl (b_repr h) (pd_var 9)) (Dl.b_repr gu (room_units room) rfl (b_repr h) (pd_call (c__law_normal h) nPar_run room (by decide) gu rfl (pad_cons (pd_var 1) (pad_cons (pd_var 2) (pad_cons (pd_var 6) (pad_cons (pd_var 3) pad_nil)))))))))))
theorem c__law_renewed_right {P : Program} {w : World} {K : PySem.W.Frag} {mg : Str → Option Value} {base : Heap} (h : Hd w K mg) : Cle P w K mg base 13 "_law_renewed_right" 5 F__law_renewed_right := by
  obtain ⟨fd, D0⟩ := h.d__law_renewed_right
  exact cle_of D0 h.g__law_renewed_right rfl (fn__law_renewed_right h D0) fun _ _ _ _ _ _ us hl => match us, hl with | [_, _, _, _, _], _ => rfl
/-! ### _law_story -/
noncomputable def g__law_story : FS :=
 (sSeq (sSet 1 (fCall F__law_box (fCons (fVar 0) (fCons (fC (.int 0)) fNil))))
 (sSeq (sPar3 2 3 4 (fCons (fCall F__law_take (fCons (fVar 1) (fCons (fC (.int 3)) fNil))) (fCons (fCall F__law_pick (fCons (fVar 1) (fCons (fName (fLst (fCons (fC (.int 4)) (fCons (fC (.int 3)) (fCons (fC (.int 2)) (fCons (fC (.int 2)) (fCons (fC (.int 3)) (fCons (fC (.int 1)) fNil)))))))) fNil))) (fCons (fCall F__law_take (fCons (fVar 1) (fCons (fC (.int 3)) fNil))) fNil))))
 (sSeq (sSet 5 (fCall F__law_machine (fCons (fVar 1) (fCons (fVar 2) fNil))))
 (sSeq (sSet 1 (fCall F__law_box (fCons (fVar 0) (fCons (fC (.int 1)) fNil))))
 (sSeq (sPar 6 7 (fCons (fCall F__law_pick (fCons (fVar 1) (fCons (fName (fLst (fCons (fC (.int 12)) (fCons (fC (.int 12)) (fCons (fC (.int 9)) (fCons (fC (.int 7)) (fCons (fOp gAdd (fC (.int 5)) (fCall F__law_take (fCons (fVar 1) (fCons (fC (.int 8)) fNil)))) (fCons (fCall F__law_take (fCons (fVar 1) (fCons (fC (.int 13)) fNil))) fNil)))))))) fNil))) (fCons (fCall F__law_take (fCons (fVar 1) (fCons (fC (.int 4)) fNil))) fNil)))
 (sSeq (sSet 8 (fName (fLst fNil)))
 (sSeq (sFor (fRng1 (fVar 6)) (gN 9)
 (sSeq (sSet 10 (fIf (fTest (fOp gEq (fVar 7) (fC (.int 0)))) (fOp gMod (fCB gInt (fCons (fVar 9) fNil)) (fVar 3)) (fCall F__law_take (fCons (fVar 1) (fCons (fVar 3) fNil)))))
 (sDrop (fMeth mAppend (fVar 8) (fCons (fTup (fCons (fVar 10) (fCons (fCall F__law_take (fCons (fVar 1) (fCons (fCB gLen (fCons (fOp gIx (fVar 5) (fC (.int 1))) fNil)) fNil))) fNil))) fNil)))))
 (sSeq (sSet 8 (fCB gTuple (fCons (fVar 8) fNil)))
 (sSeq (sSet 11 (fCall F__law_normal (fCons (fVar 5) (fCons (fVar 3) (fCons (fVar 8) (fCons (fVar 2) fNil))))))
 (sSeq (sIf (fTest (fOp gNe (fCB gRepr (fCons (fCall F_normal_of (fCons (fVar 5) (fCons (fVar 3) (fCons (fName (fLc (fWalk (fVar 8)) (gN 15) [15] fYes (fCB gList (fCons (fVar 15) fNil)))) fNil)))) fNil)) (fCB gRepr (fCons (fVar 11) fNil))))
 (sRet (fC (.bl false)))
 sNext)
 (sSeq (sSet 1 (fCall F__law_box (fCons (fVar 0) (fCons (fC (.int 2)) fNil))))
 (sSeq (sIf (fTest (fOp gEq (fVar 4) (fC (.int 0))))
 (sSeq (sSet 12 (fCall F__law_table (fCons (fVar 5) (fCons (fVar 3) (fCons (fVar 8) fNil)))))
 (sSeq (sSet 13 (fCall F__law_counts (fCons (fVar 3) (fCons (fVar 8) fNil))))
 (sSeq (sIf (fTest (fOp gNe (fCB gRepr (fCons (fCall (fun ds m => F_normal (pm_1_0 ds) m) (fCons (fName (fLst (fCons (fCB gList (fCons (fVar 13) fNil)) (fCons (fName (fLc (fWalk (fCall F__law_vectors (fCons (fVar 13) fNil))) (gN 16) [16] fYes (fOp gIx (fVar 12) (fVar 16)))) fNil)))) (fCons (fVar 5) fNil))) fNil)) (fCB gRepr (fCons (fVar 11) fNil))))
 (sRet (fC (.bl false)))
 sNext)
 (sRet (fOp gEq (fCB gRepr (fCons (fCall F_is_normal (fCons (fVar 5) (fCons (fVar 3) (fCons (fVar 8) fNil)))) fNil)) (fCB gRepr (fCons (fOp gEq (fVar 8) (fVar 11)) fNil)))))))
 sNext)
 (sSeq (sIf (fTest (fOp gEq (fVar 4) (fC (.int 1))))
 (sSeq (sIf (fTest (fOp gNotB (fCall (fun ds m => F_is_normal (pm_2_1_0 ds) m) (fCons (fVar 11) (fCons (fVar 3) (fCons (fVar 5) fNil)))) (fC (.bl true))))
 (sRet (fC (.bl false)))
 sNext)
 (sRet (fCall F__law_renewed_right (fCons (fVar 1) (fCons (fVar 5) (fCons (fVar 3) (fCons (fVar 2) (fCons (fVar 11) fNil))))))))
 sNext)
 (sSeq (sSet 14 (fCall F__law_shuffled (fCons (fVar 1) (fCons (fVar 3) (fCons (fVar 8) fNil)))))
 (sRet (fOp gEq (fCB gRepr (fCons (fCall F_normal_of (fCons (fVar 5) (fCons (fVar 3) (fCons (fVar 14) fNil)))) fNil)) (fCB gRepr (fCons (fCall F__law_normal (fCons (fVar 5) (fCons (fVar 3) (fCons (fVar 14) (fCons (fVar 2) fNil))))) fNil))))))))))))))))))
noncomputable def F__law_story : List D → M → Res D := runF 17 1 g__law_story
theorem sc__law_story : FnScope N__law_story ps__law_story (defScope s__law_story) := C8.fnScope_by (by decide +kernel)
theorem fn__law_story {P : Program} {w : World} {K : PySem.W.Frag} {mg : Str → Option Value} {base : Heap} (h : Hd w K mg) {fd : FuncData} (D0 : FnP K "_law_story" s__law_story (He.ga K "_law_story") fd) : FnG P w K mg base 14 (He.ga K "_law_story") fd ps__law_story F__law_story := by
  refine fng_of (N := N__law_story) (W := WF) D0 sc__law_story fun cdv A outer s H room gu => ?_
  exact (pssd_cons (psd_set (i := 1) sc__law_story.nd rfl (by first | exact Or.inl rfl | exact Or.inr rfl) (pd_call (c__law_box h) nPar_run room (by decide) gu rfl (pad_cons (pd_var 0) (pad_cons pd_int pad_nil))))
 (pssd_cons (psd_par3 (i := 2) (j := 3) (l := 4) rfl sc__law_story.nd rfl rfl rfl (by decide) (by decide) (by decide) rfl rfl rfl (pad_cons (pd_call (c__law_take h) nPar_run room (by decide) gu rfl (pad_cons (pd_var 1) (pad_cons pd_int pad_nil))) (pad_cons (pd_call (c__law_pick h) nPar_run room (by decide) gu rfl (pad_cons (pd_var 1) (pad_cons (pd_name (pld_lst (pad_cons pd_int (pad_cons pd_int (pad_cons pd_int (pad_cons pd_int (pad_cons pd_int (pad_cons pd_int pad_nil)))))))) pad_nil))) (pad_cons (pd_call (c__law_take h) nPar_run room (by decide) gu rfl (pad_cons (pd_var 1) (pad_cons pd_int pad_nil))) pad_nil))))
 (pssd_cons (psd_set (i := 5) sc__law_story.nd rfl (by first | exact Or.inl rfl | exact Or.inr rfl) (pd_call (c__law_machine h) nPar_run room (by decide) gu rfl (pad_cons (pd_var 1) (pad_cons (pd_var 2) pad_nil))))
 (pssd_cons (psd_set (i := 1) sc__law_story.nd rfl (by first | exact Or.inl rfl | exact Or.inr rfl) (pd_call (c__law_box h) nPar_run room (by decide) gu rfl (pad_cons (pd_var 0) (pad_cons pd_int pad_nil))))
 (pssd_cons (psd_par (i := 6) (j := 7) rfl sc__law_story.nd rfl rfl (by decide) rfl rfl (pad_cons (pd_call (c__law_pick h) nPar_run room (by decide) gu rfl (pad_cons (pd_var 1) (pad_cons (pd_name (pld_lst (pad_cons pd_int (pad_cons pd_int (pad_cons pd_int (pad_cons pd_int (pad_cons (pd_add pd_int (pd_call (c__law_take h) nPar_run room (by decide) gu rfl (pad_cons (pd_var 1) (pad_cons pd_int pad_nil)))) (pad_cons (pd_call (c__law_take h) nPar_run room (by decide) gu rfl (pad_cons (pd_var 1) (pad_cons pd_int pad_nil))) pad_nil)))))))) pad_nil))) (pad_cons (pd_call (c__law_take h) nPar_run room (by decide) gu rfl (pad_cons (pd_var 1) (pad_cons pd_int pad_nil))) pad_nil)))
 (pssd_cons (psd_set (i := 8) sc__law_story.nd rfl (by first | exact Or.inl rfl | exact Or.inr rfl) (pd_name (pld_lst pad_nil)))
 (pssd_cons (psd_for PassesOwn.never rfl (pid_range1 rfl (b_range h) (pd_var 6)) (pgd_name (i := 9) sc__law_story.nd rfl (by first | exact Or.inl rfl | exact Or.inr rfl))
 (pssd_cons (psd_set (i := 10) sc__law_story.nd rfl (by first | exact Or.inl rfl | exact Or.inr rfl) (pd_if (ptd_eq (room_units room) (pd_var 7) pd_int) (pd_mod (Dl.b_int rfl (b_int h) (pd_var 9)) (pd_var 3)) (pd_call (c__law_take h) nPar_run room (by decide) gu rfl (pad_cons (pd_var 1) (pad_cons (pd_var 3) pad_nil)))))
 (pssd_one (psd_expr (pd_append (pd_var 8) (pad_cons (pd_tup (pad_cons (pd_var 10) (pad_cons (pd_call (c__law_take h) nPar_run room (by decide) gu rfl (pad_cons (pd_var 1) (pad_cons (Dl.b_len rfl (b_len h) (pd_ix (room_units room) (pd_var 5) pd_int)) pad_nil))) pad_nil))) pad_nil))))))
 (pssd_cons (psd_set (i := 8) sc__law_story.nd rfl (by first | exact Or.inl rfl | exact Or.inr rfl) (Dl.b_tuple rfl (b_tuple h) (pd_var 8)))
 (pssd_cons (psd_set (i := 11) sc__law_story.nd rfl (by first | exact Or.inl rfl | exact Or.inr rfl) (pd_call (c__law_normal h) nPar_run room (by decide) gu rfl (pad_cons (pd_var 5) (pad_cons (pd_var 3) (pad_cons (pd_var 8) (pad_cons (pd_var 2) pad_nil))))))
 (pssd_cons (psd_if (ptd_ne (room_units room) (Dl.b_repr gu (room_units room) rfl (b_repr h) (pd_call (c_normal_of h) nPar_run room (by decide) gu rfl (pad_cons (pd_var 5) (pad_cons (pd_var 3) (pad_cons (pd_name (pld_lc (own := [("letter", 15)]) rfl sc__law_story.nd (pid_seq (pd_var 8)) (blkOk_by (N := N__law_story) (sc := defScope s__law_story) (own := [("letter", 15)]) (by decide +kernel)) (fun _ _ _ _ _ => (pgd_name (i := 15) sc__law_story.nd rfl (by first | exact Or.inl rfl | exact Or.inr rfl))) (fun _ _ _ _ _ => ptsd_nil) (fun _ _ _ _ _ => (Dl.b_list rfl (b_list h) (pd_var 15))) (by decide))) pad_nil))))) (Dl.b_repr gu (room_units room) rfl (b_repr h) (pd_var 11)))
 (pssd_one (psd_ret pd_bl))
 pssd_nil)
 (pssd_cons (psd_set (i := 1) sc__law_story.nd rfl (by first | exact Or.inl rfl | exact Or.inr rfl) (pd_call (c__law_box h) nPar_run room (by decide) gu rfl (pad_cons (pd_var 0) (pad_cons pd_int pad_nil))))
 (pssd_cons (psd_if (ptd_eq (room_units room) (pd_var 4) pd_int)
 (pssd_cons (psd_set (i := 12) sc__law_story.nd rfl (by first | exact Or.inl rfl | exact Or.inr rfl) (pd_call (c__law_table h) nPar_run room (by decide) gu rfl (pad_cons (pd_var 5) (pad_cons (pd_var 3) (pad_cons (pd_var 8) pad_nil)))))
 (pssd_cons (psd_set (i := 13) sc__law_story.nd rfl (by first | exact Or.inl rfl | exact Or.inr rfl) (pd_call (c__law_counts h) nPar_run room (by decide) gu rfl (pad_cons (pd_var 3) (pad_cons (pd_var 8) pad_nil))))
 (pssd_cons (psd_if (ptd_ne (room_units room) (Dl.b_repr gu (room_units room) rfl (b_repr h) (pd_callK (ck_normal__table_machine h) pm_1_0_ok nPar_run room (by decide) gu rfl (pkd_cons (pd_name (pld_lst (pad_cons (Dl.b_list rfl (b_list h) (pd_var 13)) (pad_cons (pd_name (pld_lc (own := [("one", 16)]) rfl sc__law_story.nd (pid_seq (pd_call (c__law_vectors h) nPar_run room (by decide) gu rfl (pad_cons (pd_var 13) pad_nil))) (blkOk_by (N := N__law_story) (sc := defScope s__law_story) (own := [("one", 16)]) (by decide +kernel)) (fun _ _ _ _ _ => (pgd_name (i := 16) sc__law_story.nd rfl (by first | exact Or.inl rfl | exact Or.inr rfl))) (fun _ _ _ _ _ => ptsd_nil) (fun _ _ _ _ _ => (pd_ix (room_units room) (pd_var 12) (pd_var 16))) (by decide))) pad_nil)))) (pkd_cons (pd_var 5) pkd_nil)))) (Dl.b_repr gu (room_units room) rfl (b_repr h) (pd_var 11)))
 (pssd_one (psd_ret pd_bl))
 pssd_nil)
 (pssd_one (psd_ret (pd_eq (room_units room) (Dl.b_repr gu (room_units room) rfl (b_repr h) (pd_call (c_is_normal h) nPar_run room (by decide) gu rfl (pad_cons (pd_var 5) (pad_cons (pd_var 3) (pad_cons (pd_var 8) pad_nil))))) (Dl.b_repr gu (room_units room) rfl (b_repr h) (pd_eq (room_units room) (pd_var 8) (pd_var 11)))))))))
 pssd_nil)
 (pssd_cons (psd_if (ptd_eq (room_units room) (pd_var 4) pd_int)
 (pssd_cons (psd_if (ptd_notB (pd_callK (ck_is_normal__history_hands_machine h) pm_2_1_0_ok nPar_run room (by decide) gu rfl (pkd_cons (pd_var 11) (pkd_cons (pd_var 3) (pkd_cons (pd_var 5) pkd_nil)))) pd_bl)
 (pssd_one (psd_ret pd_bl))
 pssd_nil)
 (pssd_one (psd_ret (pd_call (c__law_renewed_right h) nPar_run room (by decide) gu rfl (pad_cons (pd_var 1) (pad_cons (pd_var 5) (pad_cons (pd_var 3) (pad_cons (pd_var 2) (pad_cons (pd_var 11) pad_nil)))))))))
 pssd_nil)
 (pssd_cons (psd_set (i := 14) sc__law_story.nd rfl (by first | exact Or.inl rfl | exact Or.inr rfl) (pd_call (c__law_shuffled h) nPar_run room (by decide) gu rfl (pad_cons (pd_var 1) (pad_cons (pd_var 3) (pad_cons (pd_var 8) pad_nil)))))
 (pssd_one (psd_ret (pd_eq (room_units room) (Dl.b_repr gu (room_units room) rfl (b_repr h) (pd_call (c_normal_of h) nPar_run room (by decide) gu rfl (pad_cons (pd_var 5) (pad_cons (pd_var 3) (pad_cons (pd_var 14) pad_nil))))) (Dl.b_repr gu (room_units room) rfl (b_repr h) (pd_call (c__law_normal h) nPar_run room (by decide) gu rfl (pad_cons (pd_var 5) (pad_cons (pd_var 3) (pad_cons (pd_var 14) (pad_cons (pd_var 2) pad_nil)))))))))))))))))))))))
theorem c__law_story {P : Program} {w : World} {K : PySem.W.Frag} {mg : Str → Option Value} {base : Heap} (h : Hd w K mg) : Cle P w K mg base 14 "_law_story" 1 F__law_story := by
  obtain ⟨fd, D0⟩ := h.d__law_story
  exact cle_of D0 h.g__law_story rfl (fn__law_story h D0) fun _ _ _ _ _ _ us hl => match us, hl with | [_], _ => rfl
/-! ### law -/
noncomputable def g_law : FS :=
 (sRet (fCall F__law_story (fCons (fVar 0) fNil)))
noncomputable def F_law : List D → M → Res D := runF 1 1 g_law
theorem sc_law : FnScope N_law ps_law (defScope s_law) := C8.fnScope_by (by decide +kernel)
theorem fn_law {P : Program} {w : World} {K : PySem.W.Frag} {mg : Str → Option Value} {base : Heap} (h : Hd w K mg) {fd : FuncData} (D0 : FnP K "law" s_law (He.ga K "law") fd) : FnG P w K mg base 15 (He.ga K "law") fd ps_law F_law := by
  refine fng_of (N := N_law) (W := WF) D0 sc_law fun cdv A outer s H room gu => ?_
  exact (pssd_one (psd_try (pssd_one (psd_ret (pd_call (c__law_story h) nPar_run room (by decide) gu rfl (pad_cons (pd_var 0) pad_nil))))))
theorem c_law {P : Program} {w : World} {K : PySem.W.Frag} {mg : Str → Option Value} {base : Heap} (h : Hd w K mg) : Cle P w K mg base 15 "law" 1 F_law := by
  obtain ⟨fd, D0⟩ := h.d_law
  exact cle_of D0 h.g_law rfl (fn_law h D0) fun _ _ _ _ _ _ us hl => match us, hl with | [_], _ => rfl
/-! ### the head -/
def hd_is_integer : He.DefD := ⟨("is_integer", none), "is_integer", "is_integer", defArgs s_is_integer, defBody s_is_integer, defScope s_is_integer, [], []⟩
def hd_is_number : He.DefD := ⟨("is_number", none), "is_number", "is_number", defArgs s_is_number, defBody s_is_number, defScope s_is_number, [], []⟩
def hd_is_below : He.DefD := ⟨("is_below", none), "is_below", "is_below", defArgs s_is_below, defBody s_is_below, defScope s_is_below, [], []⟩
def hd_is_sequence : He.DefD := ⟨("is_sequence", none), "is_sequence", "is_sequence", defArgs s_is_sequence, defBody s_is_sequence, defScope s_is_sequence, [], []⟩
def hd_are_below : He.DefD := ⟨("are_below", none), "are_below", "are_below", defArgs s_are_below, defBody s_are_below, defScope s_are_below, [], []⟩
def hd_is_map : He.DefD := ⟨("is_map", none), "is_map", "is_map", defArgs s_is_map, defBody s_is_map, defScope s_is_map, [], []⟩
def hd_are_deeds : He.DefD := ⟨("are_deeds", none), "are_deeds", "are_deeds", defArgs s_are_deeds, defBody s_are_deeds, defScope s_are_deeds, [], []⟩
def hd_check_machine : He.DefD := ⟨("check_machine", none), "check_machine", "check_machine", defArgs s_check_machine, defBody s_check_machine, defScope s_check_machine, [], []⟩
def hd_are_counts : He.DefD := ⟨("are_counts", none), "are_counts", "are_counts", defArgs s_are_counts, defBody s_are_counts, defScope s_are_counts, [], []⟩
def hd_check_part : He.DefD := ⟨("check_part", none), "check_part", "check_part", defArgs s_check_part, defBody s_check_part, defScope s_check_part, [], []⟩
def hd_check_table : He.DefD := ⟨("check_table", none), "check_table", "check_table", defArgs s_check_table, defBody s_check_table, defScope s_check_table, [], []⟩
def hd_need_hand : He.DefD := ⟨("need_hand", none), "need_hand", "need_hand", defArgs s_need_hand, defBody s_need_hand, defScope s_need_hand, [], []⟩
def hd_need_counts : He.DefD := ⟨("need_counts", none), "need_counts", "need_counts", defArgs s_need_counts, defBody s_need_counts, defScope s_need_counts, [], []⟩
def hd_vectors : He.DefD := ⟨("vectors", none), "vectors", "vectors", defArgs s_vectors, defBody s_vectors, defScope s_vectors, [], []⟩
def hd_is_vector : He.DefD := ⟨("is_vector", none), "is_vector", "is_vector", defArgs s_is_vector, defBody s_is_vector, defScope s_is_vector, [], []⟩
def hd_place_of : He.DefD := ⟨("place_of", none), "place_of", "place_of", defArgs s_place_of, defBody s_place_of, defScope s_place_of, [], []⟩
def hd_part_of : He.DefD := ⟨("part_of", none), "part_of", "part_of", defArgs s_part_of, defBody s_part_of, defScope s_part_of, [], []⟩
def hd_with_back : He.DefD := ⟨("with_back", none), "with_back", "with_back", defArgs s_with_back, defBody s_with_back, defScope s_with_back, [], []⟩
def hd_does_all : He.DefD := ⟨("does_all", none), "does_all", "does_all", defArgs s_does_all, defBody s_does_all, defScope s_does_all, [], []⟩
def hd_deeds_doing : He.DefD := ⟨("deeds_doing", none), "deeds_doing", "deeds_doing", defArgs s_deeds_doing, defBody s_deeds_doing, defScope s_deeds_doing, [], []⟩
def hd_lessened : He.DefD := ⟨("lessened", none), "lessened", "lessened", defArgs s_lessened, defBody s_lessened, defScope s_lessened, [], []⟩
def hd_last_pairs : He.DefD := ⟨("last_pairs", none), "last_pairs", "last_pairs", defArgs s_last_pairs, defBody s_last_pairs, defScope s_last_pairs, [], []⟩
def hd_lasts : He.DefD := ⟨("lasts", none), "lasts", "lasts", defArgs s_lasts, defBody s_lasts, defScope s_lasts, [], []⟩
def hd_normal : He.DefD := ⟨("normal", none), "normal", "normal", defArgs s_normal, defBody s_normal, defScope s_normal, [], []⟩
def hd_is_positive : He.DefD := ⟨("is_positive", none), "is_positive", "is_positive", defArgs s_is_positive, defBody s_is_positive, defScope s_is_positive, [], []⟩
def hd_is_hands : He.DefD := ⟨("is_hands", none), "is_hands", "is_hands", defArgs s_is_hands, defBody s_is_hands, defScope s_is_hands, [], []⟩
def hd_need_hands : He.DefD := ⟨("need_hands", none), "need_hands", "need_hands", defArgs s_need_hands, defBody s_need_hands, defScope s_need_hands, [], []⟩
def hd_is_letter : He.DefD := ⟨("is_letter", none), "is_letter", "is_letter", defArgs s_is_letter, defBody s_is_letter, defScope s_is_letter, [], []⟩
def hd_check_row : He.DefD := ⟨("check_row", none), "check_row", "check_row", defArgs s_check_row, defBody s_check_row, defScope s_check_row, [], []⟩
def hd_check_history : He.DefD := ⟨("check_history", none), "check_history", "check_history", defArgs s_check_history, defBody s_check_history, defScope s_check_history, [], []⟩
def hd_first_table : He.DefD := ⟨("first_table", none), "first_table", "first_table", defArgs s_first_table, defBody s_first_table, defScope s_first_table, [], []⟩
def hd_grown : He.DefD := ⟨("grown", none), "grown", "grown", defArgs s_grown, defBody s_grown, defScope s_grown, [], []⟩
def hd_table_of : He.DefD := ⟨("table_of", none), "table_of", "table_of", defArgs s_table_of, defBody s_table_of, defScope s_table_of, [], []⟩
def hd_normal_of : He.DefD := ⟨("normal_of", none), "normal_of", "normal_of", defArgs s_normal_of, defBody s_normal_of, defScope s_normal_of, [], []⟩
def hd_is_normal : He.DefD := ⟨("is_normal", none), "is_normal", "is_normal", defArgs s_is_normal, defBody s_is_normal, defScope s_is_normal, [], []⟩
def hd__law_box : He.DefD := ⟨("_law_box", none), "_law_box", "_law_box", defArgs s__law_box, defBody s__law_box, defScope s__law_box, [], []⟩
def hd__law_take : He.DefD := ⟨("_law_take", none), "_law_take", "_law_take", defArgs s__law_take, defBody s__law_take, defScope s__law_take, [], []⟩
def hd__law_pick : He.DefD := ⟨("_law_pick", none), "_law_pick", "_law_pick", defArgs s__law_pick, defBody s__law_pick, defScope s__law_pick, [], []⟩
def hd__law_map : He.DefD := ⟨("_law_map", none), "_law_map", "_law_map", defArgs s__law_map, defBody s__law_map, defScope s__law_map, [], []⟩
def hd__law_machine : He.DefD := ⟨("_law_machine", none), "_law_machine", "_law_machine", defArgs s__law_machine, defBody s__law_machine, defScope s__law_machine, [], []⟩
def hd__law_vectors : He.DefD := ⟨("_law_vectors", none), "_law_vectors", "_law_vectors", defArgs s__law_vectors, defBody s__law_vectors, defScope s__law_vectors, [], []⟩
def hd__law_counts : He.DefD := ⟨("_law_counts", none), "_law_counts", "_law_counts", defArgs s__law_counts, defBody s__law_counts, defScope s__law_counts, [], []⟩
def hd__law_board : He.DefD := ⟨("_law_board", none), "_law_board", "_law_board", defArgs s__law_board, defBody s__law_board, defScope s__law_board, [], []⟩
def hd__law_table : He.DefD := ⟨("_law_table", none), "_law_table", "_law_table", defArgs s__law_table, defBody s__law_table, defScope s__law_table, [], []⟩
def hd__law_less : He.DefD := ⟨("_law_less", none), "_law_less", "_law_less", defArgs s__law_less, defBody s__law_less, defScope s__law_less, [], []⟩
def hd__law_last : He.DefD := ⟨("_law_last", none), "_law_last", "_law_last", defArgs s__law_last, defBody s__law_last, defScope s__law_last, [], []⟩
def hd__law_normal : He.DefD := ⟨("_law_normal", none), "_law_normal", "_law_normal", defArgs s__law_normal, defBody s__law_normal, defScope s__law_normal, [], []⟩
def hd__law_shuffled : He.DefD := ⟨("_law_shuffled", none), "_law_shuffled", "_law_shuffled", defArgs s__law_shuffled, defBody s__law_shuffled, defScope s__law_shuffled, [], []⟩
def hd_is_string : He.DefD := ⟨("is_string", none), "is_string", "is_string", defArgs s_is_string, defBody s_is_string, defScope s_is_string, [], []⟩
def hd_is_press : He.DefD := ⟨("is_press", none), "is_press", "is_press", defArgs s_is_press, defBody s_is_press, defScope s_is_press, [], []⟩
def hd_check_press : He.DefD := ⟨("check_press", none), "check_press", "check_press", defArgs s_check_press, defBody s_check_press, defScope s_check_press, [], []⟩
def hd_press_here : He.DefD := ⟨("press_here", none), "press_here", "press_here", defArgs s_press_here, defBody s_press_here, defScope s_press_here, [], []⟩
def hd_last_place : He.DefD := ⟨("last_place", none), "last_place", "last_place", defArgs s_last_place, defBody s_last_place, defScope s_last_place, [], []⟩
def hd_need_press : He.DefD := ⟨("need_press", none), "need_press", "need_press", defArgs s_need_press, defBody s_need_press, defScope s_need_press, [], []⟩
def hd_behind : He.DefD := ⟨("behind", none), "behind", "behind", defArgs s_behind, defBody s_behind, defScope s_behind, [], []⟩
def hd_pressed : He.DefD := ⟨("pressed", none), "pressed", "pressed", defArgs s_pressed, defBody s_pressed, defScope s_pressed, [], []⟩
def hd_renewed : He.DefD := ⟨("renewed", none), "renewed", "renewed", defArgs s_renewed, defBody s_renewed, defScope s_renewed, [], []⟩
def hd__law_back : He.DefD := ⟨("_law_back", none), "_law_back", "_law_back", defArgs s__law_back, defBody s__law_back, defScope s__law_back, [], []⟩
def hd__law_renewed_right : He.DefD := ⟨("_law_renewed_right", none), "_law_renewed_right", "_law_renewed_right", defArgs s__law_renewed_right, defBody s__law_renewed_right, defScope s__law_renewed_right, [], []⟩
def hd__law_story : He.DefD := ⟨("_law_story", none), "_law_story", "_law_story", defArgs s__law_story, defBody s__law_story, defScope s__law_story, [], []⟩
def hd_law : He.DefD := ⟨("law", none), "law", "law", defArgs s_law, defBody s_law, defScope s_law, [], []⟩
theorem tabvals {K : PySem.W.Frag} {a : Addr} {ks : List (Str × Int)} {ds : List (Str × He.Dv)} (h : He.valsB K a ds = true) (e : ds = ks.map fun p => (p.1, .int p.2) := by rfl) : ∀ p ∈ ks, ∃ u, PySem.W.nsIn K a p.1 = some (some u) ∧ RelV (.int p.2) u := fun p hp => by
  subst e
  exact He.valsB_ok h (q := (p.1, .int p.2)) (List.mem_map.mpr ⟨p, hp, rfl⟩)
def fn : List He.DefD := [hd_is_integer, hd_is_number, hd_is_below, hd_is_sequence, hd_are_below, hd_is_map, hd_are_deeds, hd_check_machine, hd_are_counts, hd_check_part, hd_check_table, hd_need_hand, hd_need_counts, hd_vectors, hd_is_vector, hd_place_of, hd_part_of, hd_with_back, hd_does_all, hd_deeds_doing, hd_lessened, hd_last_pairs, hd_lasts, hd_normal, hd_is_positive, hd_is_hands, hd_need_hands, hd_is_letter, hd_check_row, hd_check_history, hd_first_table, hd_grown, hd_table_of, hd_normal_of, hd_is_normal, hd__law_box, hd__law_take, hd__law_pick, hd__law_map, hd__law_machine, hd__law_vectors, hd__law_counts, hd__law_board, hd__law_table, hd__law_less, hd__law_last, hd__law_normal, hd__law_shuffled, hd_is_string, hd_is_press, hd_check_press, hd_press_here, hd_last_place, hd_need_press, hd_behind, hd_pressed, hd_renewed, hd__law_back, hd__law_renewed_right, hd__law_story, hd_law]
def fa : List He.Fa := [.glo "is_integer", .glo "is_number", .glo "is_below", .glo "is_sequence", .glo "are_below", .glo "is_map", .glo "are_deeds", .glo "check_machine", .glo "are_counts", .glo "check_part", .glo "check_table", .glo "need_hand", .glo "need_counts", .glo "vectors", .glo "is_vector", .glo "place_of", .glo "part_of", .glo "with_back", .glo "does_all", .glo "deeds_doing", .glo "lessened", .glo "last_pairs", .glo "lasts", .glo "normal", .glo "is_positive", .glo "is_hands", .glo "need_hands", .glo "is_letter", .glo "check_row", .glo "check_history", .glo "first_table", .glo "grown", .glo "table_of", .glo "normal_of", .glo "is_normal", .glo "_law_box", .glo "_law_take", .glo "_law_pick", .glo "_law_map", .glo "_law_machine", .glo "_law_vectors", .glo "_law_counts", .glo "_law_board", .glo "_law_table", .glo "_law_less", .glo "_law_last", .glo "_law_normal", .glo "_law_shuffled", .glo "is_string", .glo "is_press", .glo "check_press", .glo "press_here", .glo "last_place", .glo "need_press", .glo "behind", .glo "pressed", .glo "renewed", .glo "_law_back", .glo "_law_renewed_right", .glo "_law_story", .glo "law", .free "abs", .free "all", .free "any", .free "bool", .free "enumerate", .free "int", .free "isinstance", .free "len", .free "list", .free "max", .free "range", .free "repr", .free "str", .free "tuple", .free "zip", .int "MOST_BOARDS" 8, .int "MOST_DEEDS" 6, .int "MOST_HANDS" 4, .str "BACK" "back", .str "DEED" "deed", .glo "PARTS"]
def ts : List He.Tab := [(fun K => He.ga K "PARTS", ["deed", "back"])]
def ex (K : PySem.W.Frag) : Bool := He.valsB K (He.ga K "PARTS") [("deed", .int 3), ("back", .int 2)]
theorem hd_of {w : World} {K : PySem.W.Frag} {h : Heap} {mg : Str → Option Value} (X : K.In h) (G : h.Ns mainGlobals mg) (c : He.SaysD fa fn K) (ct : He.SaysT fa fn ts w K) (cx : ex K = true) : Hd w K mg where
  d_is_integer := c.def_ 0 (d := hd_is_integer) rfl
  g_is_integer := He.glo_ok X G (c.fact 0 (f := .glo "is_integer") rfl)
  d_is_number := c.def_ 1 (d := hd_is_number) rfl
  g_is_number := He.glo_ok X G (c.fact 1 (f := .glo "is_number") rfl)
  d_is_below := c.def_ 2 (d := hd_is_below) rfl
  g_is_below := He.glo_ok X G (c.fact 2 (f := .glo "is_below") rfl)
  d_is_sequence := c.def_ 3 (d := hd_is_sequence) rfl
  g_is_sequence := He.glo_ok X G (c.fact 3 (f := .glo "is_sequence") rfl)
  d_are_below := c.def_ 4 (d := hd_are_below) rfl
  g_are_below := He.glo_ok X G (c.fact 4 (f := .glo "are_below") rfl)
  d_is_map := c.def_ 5 (d := hd_is_map) rfl
  g_is_map := He.glo_ok X G (c.fact 5 (f := .glo "is_map") rfl)
  d_are_deeds := c.def_ 6 (d := hd_are_deeds) rfl
  g_are_deeds := He.glo_ok X G (c.fact 6 (f := .glo "are_deeds") rfl)
  d_check_machine := c.def_ 7 (d := hd_check_machine) rfl
  g_check_machine := He.glo_ok X G (c.fact 7 (f := .glo "check_machine") rfl)
  d_are_counts := c.def_ 8 (d := hd_are_counts) rfl
  g_are_counts := He.glo_ok X G (c.fact 8 (f := .glo "are_counts") rfl)
  d_check_part := c.def_ 9 (d := hd_check_part) rfl
  g_check_part := He.glo_ok X G (c.fact 9 (f := .glo "check_part") rfl)
  d_check_table := c.def_ 10 (d := hd_check_table) rfl
  g_check_table := He.glo_ok X G (c.fact 10 (f := .glo "check_table") rfl)
  d_need_hand := c.def_ 11 (d := hd_need_hand) rfl
  g_need_hand := He.glo_ok X G (c.fact 11 (f := .glo "need_hand") rfl)
  d_need_counts := c.def_ 12 (d := hd_need_counts) rfl
  g_need_counts := He.glo_ok X G (c.fact 12 (f := .glo "need_counts") rfl)
  d_vectors := c.def_ 13 (d := hd_vectors) rfl
  g_vectors := He.glo_ok X G (c.fact 13 (f := .glo "vectors") rfl)
  d_is_vector := c.def_ 14 (d := hd_is_vector) rfl
  g_is_vector := He.glo_ok X G (c.fact 14 (f := .glo "is_vector") rfl)
  d_place_of := c.def_ 15 (d := hd_place_of) rfl
  g_place_of := He.glo_ok X G (c.fact 15 (f := .glo "place_of") rfl)
  d_part_of := c.def_ 16 (d := hd_part_of) rfl
  g_part_of := He.glo_ok X G (c.fact 16 (f := .glo "part_of") rfl)
  d_with_back := c.def_ 17 (d := hd_with_back) rfl
  g_with_back := He.glo_ok X G (c.fact 17 (f := .glo "with_back") rfl)
  d_does_all := c.def_ 18 (d := hd_does_all) rfl
  g_does_all := He.glo_ok X G (c.fact 18 (f := .glo "does_all") rfl)
  d_deeds_doing := c.def_ 19 (d := hd_deeds_doing) rfl
  g_deeds_doing := He.glo_ok X G (c.fact 19 (f := .glo "deeds_doing") rfl)
  d_lessened := c.def_ 20 (d := hd_lessened) rfl
  g_lessened := He.glo_ok X G (c.fact 20 (f := .glo "lessened") rfl)
  d_last_pairs := c.def_ 21 (d := hd_last_pairs) rfl
  g_last_pairs := He.glo_ok X G (c.fact 21 (f := .glo "last_pairs") rfl)
  d_lasts := c.def_ 22 (d := hd_lasts) rfl
  g_lasts := He.glo_ok X G (c.fact 22 (f := .glo "lasts") rfl)
  d_normal := c.def_ 23 (d := hd_normal) rfl
  g_normal := He.glo_ok X G (c.fact 23 (f := .glo "normal") rfl)
  d_is_positive := c.def_ 24 (d := hd_is_positive) rfl
  g_is_positive := He.glo_ok X G (c.fact 24 (f := .glo "is_positive") rfl)
  d_is_hands := c.def_ 25 (d := hd_is_hands) rfl
  g_is_hands := He.glo_ok X G (c.fact 25 (f := .glo "is_hands") rfl)
  d_need_hands := c.def_ 26 (d := hd_need_hands) rfl
  g_need_hands := He.glo_ok X G (c.fact 26 (f := .glo "need_hands") rfl)
  d_is_letter := c.def_ 27 (d := hd_is_letter) rfl
  g_is_letter := He.glo_ok X G (c.fact 27 (f := .glo "is_letter") rfl)
  d_check_row := c.def_ 28 (d := hd_check_row) rfl
  g_check_row := He.glo_ok X G (c.fact 28 (f := .glo "check_row") rfl)
  d_check_history := c.def_ 29 (d := hd_check_history) rfl
  g_check_history := He.glo_ok X G (c.fact 29 (f := .glo "check_history") rfl)
  d_first_table := c.def_ 30 (d := hd_first_table) rfl
  g_first_table := He.glo_ok X G (c.fact 30 (f := .glo "first_table") rfl)
  d_grown := c.def_ 31 (d := hd_grown) rfl
  g_grown := He.glo_ok X G (c.fact 31 (f := .glo "grown") rfl)
  d_table_of := c.def_ 32 (d := hd_table_of) rfl
  g_table_of := He.glo_ok X G (c.fact 32 (f := .glo "table_of") rfl)
  d_normal_of := c.def_ 33 (d := hd_normal_of) rfl
  g_normal_of := He.glo_ok X G (c.fact 33 (f := .glo "normal_of") rfl)
  d_is_normal := c.def_ 34 (d := hd_is_normal) rfl
  g_is_normal := He.glo_ok X G (c.fact 34 (f := .glo "is_normal") rfl)
  d__law_box := c.def_ 35 (d := hd__law_box) rfl
  g__law_box := He.glo_ok X G (c.fact 35 (f := .glo "_law_box") rfl)
  d__law_take := c.def_ 36 (d := hd__law_take) rfl
  g__law_take := He.glo_ok X G (c.fact 36 (f := .glo "_law_take") rfl)
  d__law_pick := c.def_ 37 (d := hd__law_pick) rfl
  g__law_pick := He.glo_ok X G (c.fact 37 (f := .glo "_law_pick") rfl)
  d__law_map := c.def_ 38 (d := hd__law_map) rfl
  g__law_map := He.glo_ok X G (c.fact 38 (f := .glo "_law_map") rfl)
  d__law_machine := c.def_ 39 (d := hd__law_machine) rfl
  g__law_machine := He.glo_ok X G (c.fact 39 (f := .glo "_law_machine") rfl)
  d__law_vectors := c.def_ 40 (d := hd__law_vectors) rfl
  g__law_vectors := He.glo_ok X G (c.fact 40 (f := .glo "_law_vectors") rfl)
  d__law_counts := c.def_ 41 (d := hd__law_counts) rfl
  g__law_counts := He.glo_ok X G (c.fact 41 (f := .glo "_law_counts") rfl)
  d__law_board := c.def_ 42 (d := hd__law_board) rfl
  g__law_board := He.glo_ok X G (c.fact 42 (f := .glo "_law_board") rfl)
  d__law_table := c.def_ 43 (d := hd__law_table) rfl
  g__law_table := He.glo_ok X G (c.fact 43 (f := .glo "_law_table") rfl)
  d__law_less := c.def_ 44 (d := hd__law_less) rfl
  g__law_less := He.glo_ok X G (c.fact 44 (f := .glo "_law_less") rfl)
  d__law_last := c.def_ 45 (d := hd__law_last) rfl
  g__law_last := He.glo_ok X G (c.fact 45 (f := .glo "_law_last") rfl)
  d__law_normal := c.def_ 46 (d := hd__law_normal) rfl
  g__law_normal := He.glo_ok X G (c.fact 46 (f := .glo "_law_normal") rfl)
  d__law_shuffled := c.def_ 47 (d := hd__law_shuffled) rfl
  g__law_shuffled := He.glo_ok X G (c.fact 47 (f := .glo "_law_shuffled") rfl)
  d_is_string := c.def_ 48 (d := hd_is_string) rfl
  g_is_string := He.glo_ok X G (c.fact 48 (f := .glo "is_string") rfl)
  d_is_press := c.def_ 49 (d := hd_is_press) rfl
  g_is_press := He.glo_ok X G (c.fact 49 (f := .glo "is_press") rfl)
  d_check_press := c.def_ 50 (d := hd_check_press) rfl
  g_check_press := He.glo_ok X G (c.fact 50 (f := .glo "check_press") rfl)
  d_press_here := c.def_ 51 (d := hd_press_here) rfl
  g_press_here := He.glo_ok X G (c.fact 51 (f := .glo "press_here") rfl)
  d_last_place := c.def_ 52 (d := hd_last_place) rfl
  g_last_place := He.glo_ok X G (c.fact 52 (f := .glo "last_place") rfl)
  d_need_press := c.def_ 53 (d := hd_need_press) rfl
  g_need_press := He.glo_ok X G (c.fact 53 (f := .glo "need_press") rfl)
  d_behind := c.def_ 54 (d := hd_behind) rfl
  g_behind := He.glo_ok X G (c.fact 54 (f := .glo "behind") rfl)
  d_pressed := c.def_ 55 (d := hd_pressed) rfl
  g_pressed := He.glo_ok X G (c.fact 55 (f := .glo "pressed") rfl)
  d_renewed := c.def_ 56 (d := hd_renewed) rfl
  g_renewed := He.glo_ok X G (c.fact 56 (f := .glo "renewed") rfl)
  d__law_back := c.def_ 57 (d := hd__law_back) rfl
  g__law_back := He.glo_ok X G (c.fact 57 (f := .glo "_law_back") rfl)
  d__law_renewed_right := c.def_ 58 (d := hd__law_renewed_right) rfl
  g__law_renewed_right := He.glo_ok X G (c.fact 58 (f := .glo "_law_renewed_right") rfl)
  d__law_story := c.def_ 59 (d := hd__law_story) rfl
  g__law_story := He.glo_ok X G (c.fact 59 (f := .glo "_law_story") rfl)
  d_law := c.def_ 60 (d := hd_law) rfl
  g_law := He.glo_ok X G (c.fact 60 (f := .glo "law") rfl)
  b_abs := He.free_ok X G (c.fact 61 (f := .free "abs") rfl)
  b_all := He.free_ok X G (c.fact 62 (f := .free "all") rfl)
  b_any := He.free_ok X G (c.fact 63 (f := .free "any") rfl)
  b_bool := He.free_ok X G (c.fact 64 (f := .free "bool") rfl)
  b_enumerate := He.free_ok X G (c.fact 65 (f := .free "enumerate") rfl)
  b_int := He.free_ok X G (c.fact 66 (f := .free "int") rfl)
  b_isinstance := He.free_ok X G (c.fact 67 (f := .free "isinstance") rfl)
  b_len := He.free_ok X G (c.fact 68 (f := .free "len") rfl)
  b_list := He.free_ok X G (c.fact 69 (f := .free "list") rfl)
  b_max := He.free_ok X G (c.fact 70 (f := .free "max") rfl)
  b_range := He.free_ok X G (c.fact 71 (f := .free "range") rfl)
  b_repr := He.free_ok X G (c.fact 72 (f := .free "repr") rfl)
  b_str := He.free_ok X G (c.fact 73 (f := .free "str") rfl)
  b_tuple := He.free_ok X G (c.fact 74 (f := .free "tuple") rfl)
  b_zip := He.free_ok X G (c.fact 75 (f := .free "zip") rfl)
  i_MOST_BOARDS := He.int_ok X G (c.fact 76 (f := .int "MOST_BOARDS" 8) rfl)
  i_MOST_DEEDS := He.int_ok X G (c.fact 77 (f := .int "MOST_DEEDS" 6) rfl)
  i_MOST_HANDS := He.int_ok X G (c.fact 78 (f := .int "MOST_HANDS" 4) rfl)
  z_BACK := He.str_ok X G (c.fact 79 (f := .str "BACK" "back") rfl)
  z_DEED := He.str_ok X G (c.fact 80 (f := .str "DEED" "deed") rfl)
  t_PARTS := ⟨_, He.glo_ok X G (c.fact 81 (f := .glo "PARTS") rfl), ct.tab 0 rfl, tabvals cx⟩
end K81

namespace K81
open PySem PyProof.Rows L2 Dl

/-! ### small words -/
theorem is_integer_ok (i : Int) (m : M) : F_is_integer [.int i] m = .ok (.bl true) m := runF_rt rfl (by simp [g_is_integer, tyD, kit_int_int, kit_int_bool])
theorem is_number_ok {i : Int} (h : 0 ≤ i) (m : M) : F_is_number [.int i] m = .ok (.bl true) m := runF_rt rfl (by simp [g_is_number, is_integer_ok, h])
theorem is_below_ok {i n : Int} (h : 0 ≤ i) (h1 : i < n) (m : M) : F_is_below [.int i, .int n] m = .ok (.bl true) m := runF_rt rfl (by simp [g_is_below, is_number_ok, h, h1])
theorem is_sequence_tup (xs : List D) (m : M) : F_is_sequence [.tup xs] m = .ok (.bl true) m := runF_rt rfl (by simp [g_is_sequence, tyD, isi_tuple])
theorem is_sequence_ref {n : Nat} {xs : List D} {m : M} (h : m[n]? = some (.lst xs)) : F_is_sequence [.ref n] m = .ok (.bl true) m := runF_rt rfl (by simp [g_is_sequence, tyD, isi_list, h])
theorem is_below_nat {a n : Nat} (h : a < n) (m : M) : F_is_below [.int (a : Int), .int (n : Int)] m = .ok (.bl true) m := is_below_ok (by omega) (by omega) m
theorem is_number_nat (a : Nat) (m : M) : F_is_number [.int (a : Int)] m = .ok (.bl true) m := is_number_ok (by omega) m
theorem are_below_ok {l : List Nat} {n : Nat} (h : ∀ x ∈ l, x < n) (hl : l.length ≤ LIM) (m : M) : F_are_below [tI l, .int n] m = .ok (.bl true) m := runF_rt rfl (by
  simp [g_are_below, tI, is_sequence_tup]
  rw [fLc_all (xs := l.map iD) (src := srcT (l.map iD)) (fun _ => .bl true) (by simp) (isT _ _) (fun x hx => ?_) (by simpa using hl)]
  · simp [allL_ok]
  · obtain ⟨a, ha, rfl⟩ := List.mem_map.mp hx
    refine ⟨_, rfl, ?_⟩
    simp [wipeD, is_below_nat (h a ha)])
theorem is_map_ok {l : List Nat} {n : Nat} (h : ∀ x ∈ l, x < n) (hl : l.length = n) (hn : n ≤ LIM) (m : M) : F_is_map [tI l, .int n] m = .ok (.bl true) m := runF_rt rfl (by
  have := are_below_ok h (by omega) m
  simp only [tI] at this
  simp [g_is_map, tI, this, hl])
/-! ### machines -/
structure Mach where
  start : Nat
  maps : List (List Nat)
structure Mach.Ok (M : Mach) (b : Nat) : Prop where
  b1 : 1 ≤ b
  b8 : b ≤ 8
  st : M.start < b
  n1 : 1 ≤ M.maps.length
  n6 : M.maps.length ≤ 6
  len : ∀ f ∈ M.maps, f.length = b
  ent : ∀ f ∈ M.maps, ∀ x ∈ f, x < b
def mapsD (M : Mach) : D := .tup (M.maps.map tI)
def machD (M : Mach) : D := .tup [iD M.start, mapsD M]
theorem head_of {M : Mach} {b : Nat} (h : M.Ok b) : ∃ f r, M.maps = f :: r ∧ f.length = b := by
  obtain ⟨s, ms⟩ := M
  cases ms with
  | nil => exact absurd h.n1 (by simp)
  | cons f r => exact ⟨f, r, rfl, h.len f (by simp)⟩
theorem are_deeds_ok {mc : Mach} {b : Nat} (h : mc.Ok b) (m : M) : F_are_deeds [mapsD mc] m = .ok (.bl true) m := runF_rt rfl (by
  obtain ⟨f, r, e, hf⟩ := head_of h
  obtain ⟨s, ms⟩ := mc
  subst e
  have l1 := h.n1
  have l6 := h.n6
  have b1 := h.b1
  have b8 := h.b8
  simp only [List.length_cons] at l1 l6
  have c1 : (1 : Int) ≤ (r.length : Int) + 1 := by omega
  have c2 : (r.length : Int) + 1 ≤ 6 := by omega
  have c3 : (1 : Int) ≤ (f.length : Int) := by omega
  have c4 : (f.length : Int) ≤ 8 := by omega
  have seqT : ∀ l : List Nat, F_is_sequence [tI l] m = .ok (.bl true) m := fun l => is_sequence_tup _ m
  simp [g_are_deeds, mapsD, is_sequence_tup, seqT, c1, c2]
  simp [tI, c3, c4]
  rw [fLc_all (xs := (f :: r).map tI) (src := srcT ((f :: r).map tI)) (fun _ => .bl true) (by simp [tI]) (isT _ _) (fun x hx => ?_) (by simp [LIM_eq]; omega)]
  · simp [allL_ok]
  · obtain ⟨a, ha, rfl⟩ := List.mem_map.mp hx
    have := is_map_ok (h.ent a ha) (h.len a ha) (by rw [LIM_eq]; omega) m
    refine ⟨_, rfl, ?_⟩
    simp [wipeD, hf, this])
theorem check_machine_ok {mc : Mach} {b : Nat} (h : mc.Ok b) (m : M) : F_check_machine [machD mc] m = .ok (machD mc) m := runF_rt rfl (by
  have hd := are_deeds_ok h m
  obtain ⟨f, r, e, hf⟩ := head_of h
  obtain ⟨s, ms⟩ := mc
  subst e
  have l6 := h.n6
  simp only [List.length_cons] at l6
  have hs : F_is_below [iD s, .int (f.length : Int)] m = .ok (.bl true) m := is_below_nat (by rw [hf]; exact h.st) m
  simp only [mapsD, List.map_cons] at hd
  simp [g_check_machine, machD, mapsD, is_sequence_tup, hd]
  simp [tI, hs]
  rw [fLc_all (xs := (f :: r).map tI) (src := srcT ((f :: r).map tI)) id (by simp [tI]) (isT _ _) (fun x hx => ?_) (by simp [LIM_eq]; omega)]
  · simp [LIM_eq, tI]
  · obtain ⟨a, ha, rfl⟩ := List.mem_map.mp hx
    refine ⟨_, rfl, ?_⟩
    simp [wipeD, tI])
/-! ### histories -/
def letD (p : Nat × Nat) : D := .tup [iD p.1, iD p.2]
def histD (h : Hist) : D := .tup (h.map letD)
structure HOk (hs ds : Nat) (h : Hist) : Prop where
  hand : ∀ p ∈ h, p.1 < hs
  deed : ∀ p ∈ h, p.2 < ds
theorem is_hands_ok {k : Nat} (h1 : 1 ≤ k) (h4 : k ≤ 4) (m : M) : F_need_hands [iD k] m = .ok (iD k) m := runF_rt rfl (by
  have c1 : (1 : Int) ≤ (k : Int) := by omega
  have c2 : (k : Int) ≤ 4 := by omega
  have a : F_is_positive [iD k] m = .ok (.bl true) m := runF_rt rfl (by simp [g_is_positive, is_integer_ok, c1])
  have b : F_is_hands [iD k] m = .ok (.bl true) m := runF_rt rfl (by simp [g_is_hands, a, c2])
  simp [g_need_hands, b])
theorem is_letter_ok {p : Nat × Nat} {hs ds : Nat} (h1 : p.1 < hs) (h2 : p.2 < ds) (m : M) : F_is_letter [letD p, iD hs, iD ds] m = .ok (.bl true) m := runF_rt rfl (by
  simp [g_is_letter, letD, is_sequence_tup, is_below_nat h1, is_below_nat h2])
theorem is_letter_ref {p : Nat × Nat} {hs ds n : Nat} {m : M} (h1 : p.1 < hs) (h2 : p.2 < ds) (hm : m[n]? = some (.lst [iD p.1, iD p.2])) : F_is_letter [.ref n, iD hs, iD ds] m = .ok (.bl true) m := runF_rt rfl (by
  simp [g_is_letter, is_sequence_ref hm, hm, e_ixL _ hm, is_below_nat h1, is_below_nat h2])
/-- a history as the program may take it: rows that stand for it -/
structure IsHist (m : M) (d : D) (h : Hist) : Prop where
  seq : F_is_sequence [d] m = .ok (.bl true) m
  it : ∃ xs src esrc, itemsD m d = some xs ∧ srcK m d = .ok src m ∧ SrcIs src xs m ∧ enumK m d = .ok esrc m ∧ SrcIs esrc (xs.zipIdx.map fun p => .tup [.int (p.2 : Nat), p.1]) m ∧ xs.length = h.length ∧
    ∀ (i : Nat) (p : Nat × Nat), h[i]? = some p → ∃ x, xs[i]? = some x ∧ itemsD m x = some [iD p.1, iD p.2] ∧ tupOf [iD p.1, iD p.2] x = letD p ∧ ∀ hs ds : Nat, p.1 < hs → p.2 < ds → F_is_letter [x, iD hs, iD ds] m = .ok (.bl true) m
theorem isHist_t (m : M) (h : Hist) : IsHist m (histD h) h := by
  refine ⟨is_sequence_tup _ m, h.map letD, srcT _, srcTE _, rfl, by simp [histD], isT _ _, by simp [histD], isTE _ _, by simp, fun i p hp => ⟨letD p, by simp [hp], rfl, rfl, fun hs ds h1 h2 => is_letter_ok h1 h2 m⟩⟩
theorem check_row_ok {hs ds : Nat} {m : M} {d : D} {h : Hist} (h1 : 1 ≤ hs) (h4 : hs ≤ 4) (hd : IsHist m d h) (ok : HOk hs ds h) (hl : h.length ≤ LIM) : F_check_row [iD hs, iD ds, d] m = .ok (histD h) m := runF_rt rfl (by
  obtain ⟨xs, src, esrc, i1, i2, i3, i4, i5, i6, i7⟩ := hd.it
  simp [g_check_row, is_hands_ok h1 h4, hd.seq, i2, i4]
  have hn : esrc.n = xs.length := by rw [i5.n]; simp
  obtain ⟨ρ', m', e, rfl, a, b, rfl⟩ := forL_inv (src := esrc) (n := xs.length) (gt := gT 2 (gCons' (gN 3) (gCons' (gN 4) gNil'))) (body := (sIf (fNotT (fTest (fCall F_is_letter (fCons (fVar 4) (fCons (fVar 0) (fCons (fVar 1) fNil)))))) sNever sNext)) (fun i ρ m' => m' = m ∧ ∃ a b, ρ = [some (iD hs), some (iD ds), some d, a, b]) hn
    (fun i ρ m' hi ⟨e1, a, b, e2⟩ => by
      subst e1 e2
      have hi2 : i < h.length := by omega
      obtain ⟨x, hx, _, _, hx2⟩ := i7 i h[i] (by simp [hi2])
      have ok1 := ok.hand h[i] (List.getElem_mem hi2)
      have ok2 := ok.deed h[i] (List.getElem_mem hi2)
      refine ⟨.tup [.int i, x], [some (iD hs), some (iD ds), some d, some (.int i), some x], [some (iD hs), some (iD ds), some d, some (.int i), some x], m', ?_, by simp, ?_, rfl, _, _, rfl⟩
      · rw [i5.get i (by simpa using hi)]
        simp [hx]
      · simp [hx2 hs ds ok1 ok2])
    (fun ρ m' ⟨e1, _⟩ => by rw [e1]; exact i5.fin) xs.length 0 [some (iD hs), some (iD ds), some d, none, none] m (by omega) ⟨rfl, none, none, rfl⟩
  rw [hn, e]
  have fin : xs.map (fun x => match itemsD m' x with
    | some l => D.tup l
    | none => .non) = h.map letD := by
    refine List.ext_getElem? fun i => ?_
    rw [List.getElem?_map, List.getElem?_map]
    cases hp : h[i]? with
    | none =>
      have : ¬ i < h.length := fun q => by rw [List.getElem?_eq_getElem q] at hp; cases hp
      rw [List.getElem?_eq_none (by omega)]
      rfl
    | some p =>
      obtain ⟨x, hx, hx1, _⟩ := i7 i p hp
      rw [hx]
      simp [hx1, letD]
  simp
  rw [fLc_all (xs := xs) (src := src) (fun x => match itemsD m' x with
    | some l => D.tup l
    | none => .non) (by simp [i2]) i3 (fun x hx => ?_) (by omega)]
  · simp [fin, histD]
  · obtain ⟨i, hi⟩ := List.getElem?_of_mem hx
    have hil := (List.getElem?_eq_some_iff.mp hi).1
    obtain ⟨y, hy, hy1, hy3, _⟩ := i7 i h[i] (by simp [show i < h.length by omega])
    rw [hi] at hy
    cases hy
    refine ⟨_, rfl, ?_⟩
    simp only [letD] at hy3
    simp [wipeD, hy1, hy3])
theorem check_history_ok {mc : Mach} {b hs : Nat} {m : M} {d : D} {h : Hist} (hm : mc.Ok b) (h1 : 1 ≤ hs) (h4 : hs ≤ 4) (hd : IsHist m d h) (ok : HOk hs mc.maps.length h) (hl : h.length ≤ LIM) : F_check_history [machD mc, iD hs, d] m = .ok (histD h) m := runF_rt rfl (by
  have e := check_row_ok h1 h4 hd ok hl
  simp [g_check_history, check_machine_ok hm]
  simp [machD, mapsD, e])
/-! ### tables -/
theorem first_table_ok {mc : Mach} {b hs : Nat} (hm : mc.Ok b) (h1 : 1 ≤ hs) (h4 : hs ≤ 4) (m : M) : F_first_table [machD mc, iD hs] m = .ok (.tup [tI (List.replicate hs 0), tI [mc.start]]) m := runF_rt rfl (by
  have e := check_history_ok (d := .tup []) (h := []) hm h1 h4 (isHist_t m []) ⟨fun p hp => by simp at hp, fun p hp => by simp at hp⟩ (Nat.zero_le _)
  have hr : gMul (.tup [.int 0]) (.int (hs : Int)) m = .ok (tI (List.replicate hs 0)) m := by
    have : hs = 1 ∨ hs = 2 ∨ hs = 3 ∨ hs = 4 := by omega
    rcases this with rfl | rfl | rfl | rfl <;> rfl
  simp [g_first_table, check_machine_ok hm, e, LIM_eq, hr]
  simp [machD, LIM_eq, tI])
end K81

namespace K81
open PySem PyProof.Rows L2 Dl
theorem tI_num (l : List Nat) : (tI l).num = true := by
  simp only [tI, D.num, nums_iff]
  intro d hd
  obtain ⟨a, _, rfl⟩ := List.mem_map.mp hd
  rfl
theorem tI_blw (l : List Nat) (L : Nat) : (tI l).blw L = true := num_blw (tI_num l) L
theorem are_counts_ok {cs : List Nat} (h1 : 1 ≤ cs.length) (h4 : cs.length ≤ 4) (m : M) : F_are_counts [tI cs] m = .ok (.bl true) m := runF_rt rfl (by
  have c1 : (1 : Int) ≤ (cs.length : Int) := by omega
  have c2 : (cs.length : Int) ≤ 4 := by omega
  simp [g_are_counts, tI, is_sequence_tup, c1, c2]
  rw [fLc_all (xs := cs.map iD) (src := srcT (cs.map iD)) (fun _ => .bl true) (by simp) (isT _ _) (fun x hx => ?_) (by simp [LIM_eq]; omega)]
  · simp [allL_ok]
  · obtain ⟨a, ha, rfl⟩ := List.mem_map.mp hx
    refine ⟨_, rfl, ?_⟩
    simp [wipeD, is_number_nat])
theorem need_counts_ok {cs : List Nat} (h1 : 1 ≤ cs.length) (h4 : cs.length ≤ 4) (m : M) : F_need_counts [tI cs] m = .ok (tI cs) m := runF_rt rfl (by
  simp [g_need_counts, are_counts_ok h1 h4]
  simp [tI])
theorem listM_blw {l : List (List Nat)} (L : Nat) : O.blw L (.lst (l.map tI)) = true := by
  simp only [O.blw]
  induction l with
  | nil => rfl
  | cons a r ih => simp only [List.map_cons, D.blws, tI_blw, ih, Bool.and_self]
noncomputable def bdV : FS := sSetL 1 (fLc2 (fWalk (fVar 1)) (gN 3) [3, 4] fYes (fRng1 (fOp gAdd (fVar 2) (fC (.int 1)))) (gN 4) [4] fYes (fOp gAdd (fVar 3) (fTup (fCons (fVar 4) fNil))))
def extV (n : Nat) : D → List D := fun x => match x with
  | .tup ds => ((List.range (n + 1)).map iD).map fun y => .tup (ds ++ [y])
  | _ => []
theorem extV_vecs (cs : List Nat) (n : Nat) : ((vecs cs).map tI).flatMap (extV n) = (vecs (cs ++ [n])).map tI := by
  rw [vecs_snoc]
  unfold stepV
  rw [List.flatMap_map, List.map_flatMap]
  congr 1
  funext v
  simp [extV, tI, Function.comp_def]
theorem vec_comp {cs : List Nat} {n k : Nat} {mm : M} {a b : Option D} (hc : cs.length ≤ 4) (hp : prd (cs ++ [n]) ≤ 30000) (hk : mm[k]? = some (.lst ((vecs cs).map tI))) (x : Option D) :
    fLc2 (fWalk (fVar 1)) (gN 3) [3, 4] fYes (fRng1 (fOp gAdd (fVar 2) (fC (.int 1)))) (gN 4) [4] fYes (fOp gAdd (fVar 3) (fTup (fCons (fVar 4) fNil))) [x, some (.ref k), some (iD n), a, b] mm = .ok ((vecs (cs ++ [n])).map tI) mm := by
  have hn : n + 1 ≤ 30000 := by
    rw [prd_snoc] at hp
    exact Nat.le_trans (Nat.le_mul_of_pos_left _ (prd_pos _)) hp
  have hl : (((vecs cs).map tI).flatMap (extV n)).length ≤ LIM := by
    rw [extV_vecs, List.length_map, vecs_len, LIM_eq]
    omega
  have hr := rngK_n (k := n + 1) (by rw [LIM_eq]; omega) mm
  rw [fLc2_all (xs := (vecs cs).map tI) (src := srcL k ((vecs cs).map tI).length) (extV n) (by simp [srcK_l hk]) (isL hk rfl) (fun x hx => ?_) hl, extV_vecs]
  obtain ⟨v, hv, rfl⟩ := List.mem_map.mp hx
  have hvl : v.length + 1 ≤ LIM := by
    have := (mem_vecs.mp hv).1
    rw [LIM_eq]
    omega
  refine ⟨_, srcR 0 (n + 1), (List.range (n + 1)).map iD, rfl, ?_, isR _ _, fun y => .tup (v.map iD ++ [y]), fun y hy => ⟨_, rfl, ?_⟩, rfl⟩
  · have e : (n : Int) + 1 = ((n + 1 : Nat) : Int) := by omega
    simp [wipeD]
    rw [e, hr]
  · have h1 : 1 ≤ LIM := by rw [LIM_eq]; omega
    simp [wipeD, tI, h1, hvl]
theorem vec_loop {cs : List Nat} (h4 : cs.length ≤ 4) (hp : prd cs ≤ 30000) {m : M} (x : Option D) : ∃ (j : M) (k : Nat) (a : Option D), (m ++ j)[k]? = some (.lst ((vecs cs).map tI)) ∧
    forL (srcT (cs.map iD)) (gN 2) bdV cs.length 0 [x, some (.ref m.length), none, none, none] (m ++ [.lst [.tup []]]) = .nx [x, some (.ref k), a, none, none] (m ++ j) := by
  let I : Nat → Sl → M → Prop := fun i ρ mm => ∃ (j : M) (k : Nat) (a : Option D), mm = m ++ j ∧ ρ = [x, some (.ref k), a, none, none] ∧ mm[k]? = some (.lst ((vecs (cs.take i)).map tI))
  have step : ∀ i ρ mm, i < cs.length → I i ρ mm → ∃ d ρ' ρ2 m2, (srcT (cs.map iD)).get mm i = some d ∧ gN 2 d ρ = some ρ' ∧ bdV ρ' mm = .nx ρ2 m2 ∧ I (i + 1) ρ2 m2 := by
    rintro i ρ mm hi ⟨j, k, a, e1, rfl, e3⟩
    have ht : cs.take (i + 1) = cs.take i ++ [cs[i]] := by rw [List.take_append_getElem]
    refine ⟨iD cs[i], [x, some (.ref k), some (iD cs[i]), none, none], [x, some (.ref mm.length), some (iD cs[i]), none, none], mm ++ [.lst ((vecs (cs.take (i + 1))).map tI)], by simp [srcT, hi], rfl, ?_, j ++ [.lst ((vecs (cs.take (i + 1))).map tI)], mm.length, some (iD cs[i]), by rw [e1, List.append_assoc], rfl, by simp⟩
    have hbig := Nat.le_trans (prd_take cs (i + 1)) hp
    rw [ht] at hbig ⊢
    have e5 := vec_comp (a := none) (b := none) (by rw [List.length_take]; omega) hbig e3 x
    simp [bdV, e5]
  obtain ⟨ρ', m', e, j, k, a, rfl, rfl, hk⟩ := forL_inv (src := srcT (cs.map iD)) (n := cs.length) (gt := gN 2) (body := bdV) I (by simp [srcT]) step (fun _ _ _ => rfl) cs.length 0 [x, some (.ref m.length), none, none, none] (m ++ [.lst [.tup []]]) (by omega) ⟨[.lst [.tup []]], m.length, none, rfl, rfl, by simp [vecs, tI]⟩
  rw [List.take_length] at hk
  exact ⟨j, k, a, hk, e⟩
theorem vectors_ok {cs : List Nat} (h1 : 1 ≤ cs.length) (h4 : cs.length ≤ 4) (hp : prd cs ≤ 30000) {m : M} (hw : Wf m) : F_vectors [tI cs] m = .ok (.tup ((vecs cs).map tI)) m := by
  obtain ⟨j, k, a, hk, e⟩ := vec_loop h4 hp (m := m) (some (tI cs))
  refine runF_rtJ (j := j) rfl ?_ rfl hw ?_
  · have hs : srcK (m ++ [O.lst [D.tup []]]) (tI cs) = .ok (srcT (cs.map iD)) (m ++ [O.lst [D.tup []]]) := rfl
    have hn : (srcT (cs.map iD)).n = cs.length := by simp [srcT]
    have h1 : 1 ≤ LIM := by rw [LIM_eq]; omega
    simp [g_vectors, h1, need_counts_ok (by assumption) h4, hs, hn]
    rw [show (sSetL 1 (fLc2 (fWalk (fVar 1)) (gN 3) [3, 4] fYes (fRng1 (fOp gAdd (fVar 2) (fC (.int 1)))) (gN 4) [4] fYes (fOp gAdd (fVar 3) (fTup (fCons (fVar 4) fNil))))) = bdV from rfl, e]
    simp [hk]
  · simp only [D.blw]
    have := listM_blw (l := vecs cs) m.length
    simpa only [O.blw] using this
theorem zip_src (v cs : List Nat) (m : M) : SrcIs (srcZ (v.map iD) (cs.map iD)) ((v.zip cs).map fun p => .tup [iD p.1, iD p.2]) m := by
  have h := isZ (v.map iD) (cs.map iD) m
  have e : ((v.map iD).zip (cs.map iD)).map (fun p => D.tup [p.1, p.2]) = (v.zip cs).map fun p => .tup [iD p.1, iD p.2] := by
    rw [List.zip_map, List.map_map]
    rfl
  rw [e] at h
  exact h
theorem within_zip {cs v : List Nat} (h : Within cs v) : ∀ p ∈ v.zip cs, p.1 ≤ p.2 := by
  intro p hp
  obtain ⟨i, hi⟩ := List.getElem?_of_mem hp
  rw [List.getElem?_zip_eq_some] at hi
  exact h.2 i p.2 p.1 hi.2 hi.1
theorem is_vector_ok {cs v : List Nat} (h : Within cs v) (hl : cs.length ≤ 4) (m : M) : F_is_vector [tI cs, tI v] m = .ok (.bl true) m := runF_rt rfl (by
  have hv := h.1
  simp [g_is_vector, tI, is_sequence_tup, hv]
  rw [fLc_all (xs := (v.zip cs).map fun p => .tup [iD p.1, iD p.2]) (src := srcZ (v.map iD) (cs.map iD)) (fun _ => .bl true) (by simp) (zip_src v cs m) (fun x hx => ?_) (by simp [LIM_eq]; omega)]
  · simp only [bind_ok]
    rw [allL_ok (fun d hd => by obtain ⟨_, _, rfl⟩ := List.mem_map.mp hd; rfl)]
    simp
  · obtain ⟨p, hp, rfl⟩ := List.mem_map.mp hx
    have hle := within_zip h p hp
    have e : (p.2 : Int) + 1 = ((p.2 + 1 : Nat) : Int) := by omega
    refine ⟨_, by simp; rfl, ?_⟩
    simp [wipeD]
    rw [e, is_below_nat (by omega)]
    simp)
theorem place_of_ok {cs v : List Nat} (h : Within cs v) (h1 : 1 ≤ cs.length) (h4 : cs.length ≤ 4) (hb : ∀ n ∈ cs, n ≤ 30000) (m : M) : F_place_of [tI cs, tI v] m = .ok (iD (plc cs v)) m := runF_rt rfl (by
  have hn : (srcZ (v.map iD) (cs.map iD)).n = (v.zip cs).length := by simp [srcZ]
  let bd : FS := sSet 3 (fOp gAdd (fOp gMul (fVar 3) (fOp gAdd (fVar 5) (fC (.int 1)))) (fVar 4))
  let I : Nat → Sl → M → Prop := fun i ρ mm => mm = m ∧ ∃ a b, ρ = [some (tI cs), some (tI v), some (tI cs), some (iD (((v.zip cs).take i).foldl (fun a p => a * (p.2 + 1) + p.1) 0)), a, b]
  have step : ∀ i ρ mm, i < (v.zip cs).length → I i ρ mm → ∃ d ρ' ρ2 m2, (srcZ (v.map iD) (cs.map iD)).get mm i = some d ∧ gT 2 (gCons' (gN 4) (gCons' (gN 5) gNil')) d ρ = some ρ' ∧ bd ρ' mm = .nx ρ2 m2 ∧ I (i + 1) ρ2 m2 := by
    rintro i ρ mm hi ⟨rfl, a, b, rfl⟩
    have ht : (v.zip cs).take (i + 1) = (v.zip cs).take i ++ [(v.zip cs)[i]] := by rw [List.take_append_getElem]
    generalize hp : (v.zip cs)[i] = p at ht
    generalize hq : ((v.zip cs).take i).foldl (fun a p => a * (p.2 + 1) + p.1) 0 = q
    have hpm : p ∈ v.zip cs := by rw [← hp]; exact List.getElem_mem hi
    have hp2 : p.2 ≤ 30000 := hb _ (List.of_mem_zip (a := p.1) (b := p.2) hpm).2
    have hc : cMul (q : Int) ((p.2 : Int) + 1) = true := cMul_iff.mpr (.inr ⟨by omega, by omega⟩)
    have e : ((v.zip cs).take (i + 1)).foldl (fun a p => a * (p.2 + 1) + p.1) 0 = q * (p.2 + 1) + p.1 := by
      rw [ht, List.foldl_append, hq]
      rfl
    refine ⟨.tup [iD p.1, iD p.2], [some (tI cs), some (tI v), some (tI cs), some (iD q), some (iD p.1), some (iD p.2)], [some (tI cs), some (tI v), some (tI cs), some (iD (q * (p.2 + 1) + p.1)), some (iD p.1), some (iD p.2)], mm, ?_, by simp, ?_, rfl, _, _, by rw [e]⟩
    · rw [(zip_src v cs mm).get i (by simpa using hi), List.getElem?_map, List.getElem?_eq_getElem hi, hp]
      rfl
    · simp [bd, hc]
  obtain ⟨ρ', m', e, rfl, a, b, rfl⟩ := forL_inv (src := srcZ (v.map iD) (cs.map iD)) (n := (v.zip cs).length) (gt := gT 2 (gCons' (gN 4) (gCons' (gN 5) gNil'))) (body := bd) I hn step (fun _ _ _ => rfl) (v.zip cs).length 0 [some (tI cs), some (tI v), some (tI cs), some (iD 0), none, none] m (by omega) ⟨rfl, none, none, rfl⟩
  rw [List.take_length] at e
  simp [g_place_of, need_counts_ok h1 h4, is_vector_ok h h4]
  have hz : zipK m' (tI v) (tI cs) = .ok (srcZ (v.map iD) (cs.map iD)) m' := rfl
  simp only [hz, hn, out_ok]
  rw [show (sSet 3 (fOp gAdd (fOp gMul (fVar 3) (fOp gAdd (fVar 5) (fC (.int 1)))) (fVar 4))) = bd from rfl, show (D.int 0) = iD 0 from rfl, e]
  simp [plc])
end K81

namespace K81
open PySem PyProof.Rows L2 Dl
/-! ### tables -/
theorem check_part_ok {cs es : List Nat} {n : Nat} (h1 : 1 ≤ cs.length) (h4 : cs.length ≤ 4) (hp : prd cs ≤ 30000) (hl : es.length = prd cs) (he : ∀ e ∈ es, e < n) (m : M) : F_check_part [.tup [tI cs, tI es], iD n] m = .ok (.tup [tI cs, tI es]) m := runF_rt rfl (by
  have hb : ∀ k ∈ cs, k ≤ 30000 := fun k hk => by
    have : k + 1 ≤ prd cs := by
      obtain ⟨as, bs, rfl⟩ := List.append_of_mem hk
      rw [prd_app]
      have h2 : prd (k :: bs) = (k + 1) * prd bs := by unfold prd; simp
      rw [h2]
      have := prd_pos as
      have := prd_pos bs
      exact Nat.le_trans (Nat.le_mul_of_pos_right (k + 1) (prd_pos bs)) (Nat.le_mul_of_pos_left _ (prd_pos as))
    omega
  let bd : FS := sAug 2 (fOp gAdd (fVar 3) (fC (.int 1))) gMulI
  let I : Nat → Sl → M → Prop := fun i ρ mm => mm = m ∧ ∃ a : Option D, ρ = [some (.tup [tI cs, tI es]), some (iD n), some (iD (prd (cs.take i))), a, none]
  have step : ∀ i ρ mm, i < cs.length → I i ρ mm → ∃ d ρ' ρ2 m2, (srcT (cs.map iD)).get mm i = some d ∧ gN 3 d ρ = some ρ' ∧ bd ρ' mm = .nx ρ2 m2 ∧ I (i + 1) ρ2 m2 := by
    rintro i ρ mm hi ⟨rfl, a, rfl⟩
    have ht : cs.take (i + 1) = cs.take i ++ [cs[i]] := by rw [List.take_append_getElem]
    have hk := hb _ (List.getElem_mem hi)
    have hc : cMul (prd (cs.take i) : Int) ((cs[i] : Int) + 1) = true := cMul_iff.mpr (.inr ⟨by omega, by omega⟩)
    refine ⟨iD cs[i], _, [some (.tup [tI cs, tI es]), some (iD n), some (iD (prd (cs.take (i + 1)))), some (iD cs[i]), none], mm, by simp [srcT, hi], rfl, ?_, rfl, _, rfl⟩
    refine (aug_ok (x := iD (prd (cs.take i))) (y := .int ((cs[i] : Int) + 1)) (z := .int ((prd (cs.take i) : Int) * ((cs[i] : Int) + 1))) (m1 := mm) (m2 := mm) rfl (by simp) (by simp [hc])).trans ?_
    rw [ht, prd_snoc]
    simp
  obtain ⟨ρ', m', e, rfl, a, rfl⟩ := forL_inv (src := srcT (cs.map iD)) (n := cs.length) (gt := gN 3) (body := bd) I (by simp [srcT]) step (fun _ _ _ => rfl) cs.length 0 [some (.tup [tI cs, tI es]), some (iD n), some (.int 1), none, none] m (by omega) ⟨rfl, none, rfl⟩
  rw [List.take_length] at e
  have hs : srcK m' (tI cs) = .ok (srcT (cs.map iD)) m' := rfl
  have hn : (srcT (cs.map iD)).n = cs.length := by simp [srcT]
  have seqT : ∀ l : List Nat, F_is_sequence [tI l] m' = .ok (.bl true) m' := fun l => is_sequence_tup _ m'
  have hit : ∀ l : List Nat, itemsD m' (tI l) = some (l.map iD) := fun l => rfl
  simp [g_check_part, is_sequence_tup, are_counts_ok h1 h4, hs, hn]
  rw [show (sAug 2 (fOp gAdd (fVar 3) (fC (.int 1))) gMulI) = bd from rfl, e]
  simp [seqT, hit, hl]
  rw [fLc_all (xs := es.map iD) (src := srcT (es.map iD)) (fun _ => .bl true) (by simp [tI]) (isT _ _) (fun x hx => ?_) (by simp [LIM_eq]; omega)]
  · simp [allL_ok, hit, LIM_eq]
    simp [tI]
  · obtain ⟨k, hk, rfl⟩ := List.mem_map.mp hx
    refine ⟨_, rfl, ?_⟩
    simp [wipeD, is_below_nat (he k hk)])
theorem check_table_ok {mc : Mach} {b : Nat} (hm : mc.Ok b) {cs es : List Nat} (h1 : 1 ≤ cs.length) (h4 : cs.length ≤ 4) (hp : prd cs ≤ 30000) (hl : es.length = prd cs) (he : ∀ e ∈ es, e < b) (m : M) :
    F_check_table [machD mc, .tup [tI cs, tI es]] m = .ok (.tup [tI cs, tI es]) m := runF_rt rfl (by
  have hc := check_machine_ok hm m
  have hq := check_part_ok h1 h4 hp hl he m
  obtain ⟨f, r, e, hf⟩ := head_of hm
  obtain ⟨s, ms⟩ := mc
  subst e
  have hit : ∀ l : List Nat, itemsD m (tI l) = some (l.map iD) := fun l => rfl
  simp [g_check_table, hc]
  simp [machD, mapsD, hit, hf, hq])
theorem need_hand_ok {cs : List Nat} {x : D} {j : Nat} (h : j < cs.length) (m : M) : F_need_hand [.tup [tI cs, x], iD j] m = .ok (iD j) m := runF_rt rfl (by
  have hit : ∀ l : List Nat, itemsD m (tI l) = some (l.map iD) := fun l => rfl
  simp [g_need_hand, hit, is_below_nat h])
def atJ (j : Nat) (k : Int → Int) : D → D := fun x => match x with
  | .tup [.int i, .int n] => .int (if i = j then k n else n)
  | _ => .non
theorem enum_map (cs : List Nat) (j : Nat) (k : Int → Int) (k' : Nat → Nat) (hk : ∀ n : Nat, cs[j]? = some n → k n = ((k' n : Nat) : Int)) :
    (((cs.map iD).zipIdx.map fun p => D.tup [.int (p.2 : Nat), p.1])).map (atJ j k) = (cs.set j (k' (cs.getD j 0))).map iD := by
  refine List.ext_getElem? fun i => ?_
  simp only [List.getElem?_map, List.getElem?_zipIdx, List.getElem?_set]
  cases h : cs[i]? with
  | none =>
    have hi : ¬ i < cs.length := fun q => by rw [List.getElem?_eq_getElem q] at h; cases h
    by_cases e : j = i
    · subst e
      simp [hi]
    · simp [e]
  | some n =>
    have hi := (List.getElem?_eq_some_iff.mp h).1
    by_cases e : j = i
    · subst e
      have hk' := hk n h
      have hn2 : cs[j]'hi = n := by
        rw [List.getElem?_eq_getElem hi] at h
        exact Option.some.inj h
      simp [atJ, hi, hk']
      rw [hn2]
    · have e' : ¬ ((i : Int) = (j : Int)) := by omega
      simp [atJ, e, e', iD]
theorem bump_len (cs : List Nat) (j : Nat) : (bmp cs j).length = cs.length := by simp [bmp]
theorem counts_more {cs : List Nat} {j : Nat} (hl : cs.length ≤ 4) (a b c d e f g h i : Option D) (x : D) (m : M) :
    fLc (fEnum (fOp gIx (fVar 1) (fC (.int 0)))) (gT 2 (gCons' (gN 9) (gCons' (gN 10) gNil'))) [9, 10] fYes (fIf (fTest (fOp gEq (fVar 9) (fVar 2))) (fOp gAdd (fVar 10) (fC (.int 1))) (fVar 10)) [a, some (.tup [tI cs, x]), some (iD j), b, c, d, e, f, g, h, i] m = .ok ((bmp cs j).map iD) m := by
  have hE : enumK m (tI cs) = .ok (srcTE (cs.map iD)) m := rfl
  rw [fLc_all (src := srcTE (cs.map iD)) (atJ j (· + 1)) (by simp [hE]) (isTE _ _) (fun x hx => ?_) (by simp [LIM_eq]; omega), enum_map cs j (· + 1) (· + 1) (fun n _ => by omega)]
  · rfl
  · obtain ⟨⟨y, i⟩, hp, rfl⟩ := List.mem_map.mp hx
    have hy : y ∈ cs.map iD := List.fst_mem_of_mem_zipIdx hp
    obtain ⟨n, _, rfl⟩ := List.mem_map.mp hy
    refine ⟨_, by simp; rfl, ?_⟩
    by_cases e : i = j
    · simp [wipeD, atJ, e]
    · have e' : ¬ ((i : Int) = (j : Int)) := by omega
      simp [wipeD, atJ, e']
theorem within_bump {cs v : List Nat} {j : Nat} (h : Within (bmp cs j) v) (hj : j < cs.length) (hlt : v.getD j 0 < cs.getD j 0 + 1) : Within cs v := by
  refine ⟨by rw [h.1, bump_len], fun i n k hn hk => ?_⟩
  by_cases e : j = i
  · subst e
    rw [List.getD_eq_getElem?_getD, List.getD_eq_getElem?_getD, hn, hk] at hlt
    simp at hlt
    omega
  · refine h.2 i n k ?_ hk
    unfold bmp
    rw [List.getElem?_set_ne e]
    exact hn
theorem within_less {cs v : List Nat} {j : Nat} (h : Within (bmp cs j) v) (hj : j < cs.length) : Within cs (v.set j (v.getD j 0 - 1)) := by
  refine ⟨by rw [List.length_set, h.1, bump_len], fun i n k hn hk => ?_⟩
  by_cases e : j = i
  · subst e
    have hv : j < v.length := by rw [h.1, bump_len]; exact hj
    rw [List.getElem?_set_self hv] at hk
    have h2 := h.2 j (n + 1) (v[j]) (by unfold bmp; rw [List.getElem?_set_self hj, List.getD_eq_getElem?_getD, hn]; rfl) (List.getElem?_eq_getElem hv)
    rw [List.getD_eq_getElem?_getD, List.getElem?_eq_getElem hv] at hk
    simp at hk
    omega
  · rw [List.getElem?_set_ne e] at hk
    refine h.2 i n k ?_ hk
    unfold bmp
    rw [List.getElem?_set_ne e]
    exact hn
theorem grown_ok {mc : Mach} {b : Nat} (hm : mc.Ok b) {cs : List Nat} {f : List Nat → Nat} {j dd : Nat} {st : List Nat} (h1 : 1 ≤ cs.length) (h4 : cs.length ≤ 4) (hp : prd (bmp cs j) ≤ 30000) (hf : ∀ v, Within cs v → f v < b) (hj : j < cs.length)
    (hst : mc.maps[dd]? = some st) {m : M} (hw : Wf m) (hb : ∀ n ∈ cs, n ≤ 30000) :
    F_grown [machD mc, .tup [tI cs, tI ((vecs cs).map f)], iD j, iD dd] m = .ok (.tup [tI (bmp cs j), tI ((vecs (bmp cs j)).map (grow cs j st f))]) m := by
  have hbl := bump_len cs j
  have hstl : st.length = b := hm.len st (List.mem_of_getElem? hst)
  have hvl := vecs_len (bmp cs j)
  let cs' := bmp cs j
  let g := grow cs j st f
  let told : D := .tup [tI cs, tI ((vecs cs).map f)]
  let ins : FE := fOp gIx (fOp gIx (fVar 1) (fC (.int 1))) (fCall F_place_of (fCons (fOp gIx (fVar 1) (fC (.int 0))) (fCons (fVar 7) fNil)))
  let bd : FS := (sIf (fTest (fOp gLt (fOp gIx (fVar 7) (fVar 2)) (fOp gIx (fVar 4) (fVar 2))))
 (sDrop (fMeth mAppend (fVar 6) (fCons (fOp gIx (fOp gIx (fVar 1) (fC (.int 1))) (fCall F_place_of (fCons (fOp gIx (fVar 1) (fC (.int 0))) (fCons (fVar 7) fNil)))) fNil)))
 (sSeq (sSet 8 (fOp gAdd (fOp gAdd (fCut (fVar 7) fNoPart (fPart (fVar 2))) (fTup (fCons (fOp gSub (fOp gIx (fVar 7) (fVar 2)) (fC (.int 1))) fNil))) (fCut (fVar 7) (fPart (fOp gAdd (fVar 2) (fC (.int 1)))) fNoPart)))
 (sDrop (fMeth mAppend (fVar 6) (fCons (fOp gIx (fVar 5) (fOp gIx (fOp gIx (fVar 1) (fC (.int 1))) (fCall F_place_of (fCons (fOp gIx (fVar 1) (fC (.int 0))) (fCons (fVar 8) fNil))))) fNil)))))
  let I : Nat → Sl → M → Prop := fun i ρ mm => mm = m ++ [.lst (((vecs cs').take i).map fun v => iD (g v))] ∧ ∃ a c : Option D, ρ = [some (machD mc), some told, some (iD j), some (iD dd), some (tI cs'), some (tI st), some (.ref m.length), a, c, none, none]
  have step : ∀ i ρ mm, i < (vecs cs').length → I i ρ mm → ∃ d ρ' ρ2 m2, (srcT ((vecs cs').map tI)).get mm i = some d ∧ gN 7 d ρ = some ρ' ∧ bd ρ' mm = .nx ρ2 m2 ∧ I (i + 1) ρ2 m2 := by
    rintro i ρ mm hi ⟨rfl, a, c, rfl⟩
    have ht : (vecs cs').take (i + 1) = (vecs cs').take i ++ [(vecs cs')[i]] := by rw [List.take_append_getElem]
    have hwv : Within cs' (vecs cs')[i] := mem_vecs.mp (List.getElem_mem hi)
    generalize hv : (vecs cs')[i] = v at ht hwv
    have hvlen : v.length = cs.length := by rw [hwv.1]; exact hbl
    have hjv : j < v.length := by omega
    have hlim : (((vecs cs').take i).map fun v => iD (g v)).length < LIM := by
      rw [List.length_map, List.length_take, LIM_eq]
      have : (vecs cs').length ≤ 30000 := by rw [vecs_len]; exact hp
      omega
    generalize hmm : m ++ [O.lst (((vecs cs').take i).map fun v => iD (g v))] = mm
    have hmL : mm[m.length]? = some (.lst (((vecs cs').take i).map fun v => iD (g v))) := by rw [← hmm]; exact at_snoc _ _
    have hset : ∀ y : Nat, y = g v → mm.set m.length (.lst ((((vecs cs').take i).map fun v => iD (g v)) ++ [iD y])) = m ++ [.lst (((vecs cs').take (i + 1)).map fun v => iD (g v))] := by
      intro y hy
      rw [← hmm, set_snoc, ht, List.map_append, hy]
      rfl
    have hvj : v[j]? = some (v.getD j 0) := by rw [List.getD_eq_getElem?_getD, List.getElem?_eq_getElem hjv]; rfl
    have hcj : cs'[j]? = some (cs.getD j 0 + 1) := by
      show (bmp cs j)[j]? = _
      unfold bmp
      rw [List.getElem?_set_self hj]
    have ix1 := tI_at hvj mm
    have ix2 := tI_at hcj mm
    have hat : ∀ u, Within cs u → gIx (tI ((vecs cs).map f)) (.int (plc cs u : Int)) mm = .ok (iD (f u)) mm := fun u hu => tI_at (by rw [List.getElem?_map, vecs_at hu]; rfl) mm
    by_cases hlt : v.getD j 0 < cs.getD j 0 + 1
    · have hwu := within_bump hwv hj hlt
      have hlt' : ((v.getD j 0 : Nat) : Int) < ((cs.getD j 0 + 1 : Nat) : Int) := by omega
      refine ⟨tI v, _, [some (machD mc), some told, some (iD j), some (iD dd), some (tI cs'), some (tI st), some (.ref m.length), some (tI v), c, none, none], mm.set m.length (.lst ((((vecs cs').take i).map fun v => iD (g v)) ++ [iD (f v)])), by simp [srcT, hi, hv], rfl, ?_, ?_, _, _, rfl⟩
      · have e1 := meth_ok (g := mAppend) (fo := fVar 6) (fa := fCons (fOp gIx (fOp gIx (fVar 1) (fC (.int 1))) (fCall F_place_of (fCons (fOp gIx (fVar 1) (fC (.int 0))) (fCons (fVar 7) fNil)))) fNil)
          (ρ := [some (machD mc), some told, some (iD j), some (iD dd), some (tI cs'), some (tI st), some (.ref m.length), some (tI v), c, none, none]) (m := mm) (m1 := mm) (m2 := mm) (n := m.length) (as := [iD (f v)]) rfl hmL
          (by simp [told, place_of_ok hwu h1 h4 hb, hat v hwu]) hmL (append_ok hlim)
        have et : (fTest (fOp gLt (fOp gIx (fVar 7) (fVar 2)) (fOp gIx (fVar 4) (fVar 2)))) [some (machD mc), some told, some (iD j), some (iD dd), some (tI cs'), some (tI st), some (.ref m.length), some (tI v), c, none, none] mm = .ok true mm := by
          simp only [e_test, e_op, e_var, List.getElem?_cons_zero, List.getElem?_cons_succ, bind_ok, ix1, ix2, e_lt, decide_eq_true hlt', e_asB]
        show bd [some (machD mc), some told, some (iD j), some (iD dd), some (tI cs'), some (tI st), some (.ref m.length), some (tI v), c, none, none] mm = _
        simp only [bd, s_if, et, out_ok, if_true, s_drop, e1]
      · exact hset (f v) (by show f v = grow cs j st f v; unfold grow; rw [if_pos hlt])
    · have hwu := within_less hwv hj
      have hlt' : ¬ ((v.getD j 0 : Nat) : Int) < ((cs.getD j 0 + 1 : Nat) : Int) := by omega
      have hvj1 : 1 ≤ v.getD j 0 := by omega
      obtain ⟨u, hu⟩ : ∃ u, u = v.set j (v.getD j 0 - 1) := ⟨_, rfl⟩
      rw [← hu] at hwu
      have hfu : f u < b := hf u hwu
      have ix3 := tI_at (l := st) (k := f u) (x := st.getD (f u) 0) (by rw [List.getD_eq_getElem?_getD, List.getElem?_eq_getElem (by omega)]; rfl) mm
      refine ⟨tI v, _, [some (machD mc), some told, some (iD j), some (iD dd), some (tI cs'), some (tI st), some (.ref m.length), some (tI v), some (tI u), none, none], mm.set m.length (.lst ((((vecs cs').take i).map fun v => iD (g v)) ++ [iD (st.getD (f u) 0)])), by simp [srcT, hi, hv], rfl, ?_, ?_, _, _, rfl⟩
      · have et : (fTest (fOp gLt (fOp gIx (fVar 7) (fVar 2)) (fOp gIx (fVar 4) (fVar 2)))) [some (machD mc), some told, some (iD j), some (iD dd), some (tI cs'), some (tI st), some (.ref m.length), some (tI v), c, none, none] mm = .ok false mm := by
          simp only [e_test, e_op, e_var, List.getElem?_cons_zero, List.getElem?_cons_succ, bind_ok, ix1, ix2, e_lt, decide_eq_false hlt', e_asB]
        have eu : tI u = .tup (((v.map iD).take j ++ [iD (v.getD j 0 - 1)]) ++ (v.map iD).drop (j + 1)) := by
          rw [hu]
          show D.tup ((v.set j (v.getD j 0 - 1)).map iD) = _
          rw [set_parts hjv]
          simp
        have e8 : (fOp gAdd (fOp gAdd (fCut (fVar 7) fNoPart (fPart (fVar 2))) (fTup (fCons (fOp gSub (fOp gIx (fVar 7) (fVar 2)) (fC (.int 1))) fNil))) (fCut (fVar 7) (fPart (fOp gAdd (fVar 2) (fC (.int 1)))) fNoPart)) [some (machD mc), some told, some (iD j), some (iD dd), some (tI cs'), some (tI st), some (.ref m.length), some (tI v), c, none, none] mm = .ok (tI u) mm := by
          have c1 := cut_take (xs := v.map iD) (k := j) (by simp; omega)
          have c2 := cut_drop (xs := v.map iD) (k := j + 1) (by simp; omega)
          have gv : ∀ lo hi, gCut lo hi (tI v) mm = .ok (.tup (cutD (v.map iD) lo hi)) mm := fun _ _ => rfl
          have hl1 : 1 ≤ LIM := by rw [LIM_eq]; omega
          have hi1 : ((v.getD j 0 : Nat) : Int) - 1 = ((v.getD j 0 - 1 : Nat) : Int) := by omega
          have hj1 : (j : Int) + 1 = ((j + 1 : Nat) : Int) := by omega
          have la : ((v.map iD).take j).length + [iD (v.getD j 0 - 1)].length ≤ LIM := by rw [LIM_eq]; simp; omega
          have lb : ((v.map iD).take j ++ [iD (v.getD j 0 - 1)]).length + ((v.map iD).drop (j + 1)).length ≤ LIM := by rw [LIM_eq]; simp; omega
          simp only [e_op, e_cut, e_var, List.getElem?_cons_zero, List.getElem?_cons_succ, bind_ok, e_noPart, e_part, gv, c1, e_tup, e_cons, ix1, e_c, e_sub, hi1, e_nil, List.length_cons, List.length_nil, Nat.zero_add, hl1, if_true, e_add, hj1, c2]
          rw [e_addT, if_pos (by simpa using la)]
          simp only [bind_ok, gv, c2]
          rw [e_addT, if_pos (by simpa using lb), eu]
        have e1 := meth_ok (g := mAppend) (fo := fVar 6) (fa := fCons (fOp gIx (fVar 5) (fOp gIx (fOp gIx (fVar 1) (fC (.int 1))) (fCall F_place_of (fCons (fOp gIx (fVar 1) (fC (.int 0))) (fCons (fVar 8) fNil))))) fNil)
          (ρ := [some (machD mc), some told, some (iD j), some (iD dd), some (tI cs'), some (tI st), some (.ref m.length), some (tI v), some (tI u), none, none]) (m := mm) (m1 := mm) (m2 := mm) (n := m.length) (as := [iD (st.getD (f u) 0)]) rfl hmL
          (by simp [told, place_of_ok hwu h1 h4 hb, hat u hwu, ix3]) hmL (append_ok hlim)
        show bd [some (machD mc), some told, some (iD j), some (iD dd), some (tI cs'), some (tI st), some (.ref m.length), some (tI v), c, none, none] mm = _
        simp only [bd, s_if, et, out_ok, Bool.false_eq_true, if_false, s_seq, s_set, e8, seqK_nx, List.set, s_drop, e1]
      · exact hset (st.getD (f u) 0) (by show st.getD (f u) 0 = grow cs j st f v; unfold grow; rw [if_neg hlt, hu])
  obtain ⟨ρ', m', e, rfl, a, c, rfl⟩ := forL_inv (src := srcT ((vecs cs').map tI)) (n := (vecs cs').length) (gt := gN 7) (body := bd) I (by simp [srcT]) step (fun _ _ _ => rfl) (vecs cs').length 0 [some (machD mc), some told, some (iD j), some (iD dd), some (tI cs'), some (tI st), some (.ref m.length), none, none, none, none] (m ++ [.lst []]) (by omega) ⟨by simp, none, none, rfl⟩
  rw [List.take_length] at e
  have hst2 : gIx (mapsD mc) (.int (dd : Int)) m = .ok (tI st) m := tup_at (by rw [List.getElem?_map, hst]; rfl) m
  have hw2 : Wf (m ++ [O.lst []]) := hw.app rfl
  have hvec := vectors_ok (cs := cs') (by rw [hbl]; exact h1) (by rw [hbl]; exact h4) hp hw2
  have hn : (srcT ((vecs cs').map tI)).n = (vecs cs').length := by simp [srcT]
  have hmc : gIx (machD mc) (.int 1) m = .ok (mapsD mc) m := rfl
  refine runF_rtJ (j := [O.lst ((vecs cs').map fun v => iD (g v))]) rfl ?_ rfl hw ?_
  · have hcm := counts_more (cs := cs) (j := j) h4 (some (machD mc)) (some (iD dd)) none none none none none none none (tI ((vecs cs).map f)) m
    have hT : D.tup ((bmp cs j).map iD) = tI cs' := rfl
    have hl0 : 0 ≤ LIM := Nat.zero_le _
    have hl2 : 2 ≤ LIM := by rw [LIM_eq]; omega
    simp [g_grown, hcm, hmc, hst2, hT, hvec, hn]
    rw [show (sIf (fTest (fOp gLt (fOp gIx (fVar 7) (fVar 2)) (fOp gIx (fVar 4) (fVar 2))))
 (sDrop (fMeth mAppend (fVar 6) (fCons (fOp gIx (fOp gIx (fVar 1) (fC (.int 1))) (fCall F_place_of (fCons (fOp gIx (fVar 1) (fC (.int 0))) (fCons (fVar 7) fNil)))) fNil)))
 (sSeq (sSet 8 (fOp gAdd (fOp gAdd (fCut (fVar 7) fNoPart (fPart (fVar 2))) (fTup (fCons (fOp gSub (fOp gIx (fVar 7) (fVar 2)) (fC (.int 1))) fNil))) (fCut (fVar 7) (fPart (fOp gAdd (fVar 2) (fC (.int 1)))) fNoPart)))
 (sDrop (fMeth mAppend (fVar 6) (fCons (fOp gIx (fVar 5) (fOp gIx (fOp gIx (fVar 1) (fC (.int 1))) (fCall F_place_of (fCons (fOp gIx (fVar 1) (fC (.int 0))) (fCons (fVar 8) fNil))))) fNil))))) = bd from rfl]
    rw [show D.tup [tI cs, tI ((vecs cs).map f)] = told from rfl, e]
    simp [hl2]
    simp [tI, g, cs']
  · simp only [D.blw, D.blws, tI_blw, Bool.and_self]
end K81

namespace K81
open PySem PyProof.Rows L2 Dl
/-- the row of numbers back -/
def unI : D → List Nat
  | .tup ds => ds.map fun d => match d with
    | .int i => i.toNat
    | _ => 0
  | _ => []
theorem unI_tI (u : List Nat) : unI (tI u) = u := by
  show (u.map iD).map _ = u
  rw [List.map_map]
  conv => rhs; rw [← List.map_id u]
  exact List.map_congr_left fun x _ => by simp [iD]
/-- the table of a history -/
def tab (mc : Mach) (hs : Nat) (h : Hist) : D := .tup [tI (cnt hs h), tI ((vecs (cnt hs h)).map (brd mc.maps mc.start h))]
structure Set' (mc : Mach) (b hs : Nat) : Prop where
  m : mc.Ok b
  h1 : 1 ≤ hs
  h4 : hs ≤ 4
section
variable {mc : Mach} {b hs : Nat} (S : Set' mc b hs)
include S
theorem brd_ok {h : Hist} (ok : HOk hs mc.maps.length h) (v : List Nat) : brd mc.maps mc.start h v < b := brd_lt S.m.len S.m.ent h _ ok.deed S.m.st
theorem prd_cnt {h : Hist} (hl : h.length ≤ 12) : prd (cnt hs h) ≤ 30000 := prd_le (by rw [cnt_len]; exact S.h4) (cnt_le hl)
theorem check_tab {h : Hist} (ok : HOk hs mc.maps.length h) (hl : h.length ≤ 12) (m : M) : F_check_table [machD mc, tab mc hs h] m = .ok (tab mc hs h) m :=
  check_table_ok S.m (by rw [cnt_len]; exact S.h1) (by rw [cnt_len]; exact S.h4) (prd_cnt S hl) (by rw [List.length_map, vecs_len]) (fun e he => by obtain ⟨v, _, rfl⟩ := List.mem_map.mp he; exact brd_ok S ok v) m
theorem grown_tab {h : Hist} {j d : Nat} (ok : HOk hs mc.maps.length h) (hl : h.length + 1 ≤ 12) (hj : j < hs) (hd : d < mc.maps.length) {m : M} (hw : Wf m) : F_grown [machD mc, tab mc hs h, iD j, iD d] m = .ok (tab mc hs (h ++ [(j, d)])) m := by
  have hst : mc.maps[d]? = some mc.maps[d] := List.getElem?_eq_getElem hd
  have hc : cnt hs (h ++ [(j, d)]) = bmp (cnt hs h) j := cnt_snoc h d hj
  have := grown_ok (f := brd mc.maps mc.start h) S.m (cs := cnt hs h) (j := j) (by rw [cnt_len]; exact S.h1) (by rw [cnt_len]; exact S.h4) (by rw [← hc]; exact prd_cnt S (by simpa using hl)) (fun v _ => brd_ok S ok v) (by rw [cnt_len]; exact hj) hst hw
    (fun n hn => Nat.le_trans (cnt_le (k := 12) (by omega) n hn) (by decide))
  unfold tab
  rw [this, hc]
  congr 4
  refine congrArg tI (List.map_congr_left fun v hv => ?_)
  exact grow_brd hj hst (mem_vecs.mp hv)
theorem part_of_ok {h : Hist} {v : List Nat} (ok : HOk hs mc.maps.length h) (hl : h.length ≤ 12) (hv : Within (cnt hs h) v) {m : M} (hw : Wf m) : F_part_of [tab mc hs h, tI v] m = .ok (.tup [tI v, tI ((vecs v).map (brd mc.maps mc.start h))]) m := runF_rt rfl (by
  have c1 : 1 ≤ (cnt hs h).length := by rw [cnt_len]; exact S.h1
  have c4 : (cnt hs h).length ≤ 4 := by rw [cnt_len]; exact S.h4
  have hb : ∀ n ∈ cnt hs h, n ≤ 30000 := fun n hn => Nat.le_trans (cnt_le hl n hn) (by decide)
  have e1 : F_check_part [tab mc hs h, .int 8] m = .ok (tab mc hs h) m := check_part_ok (n := 8) c1 c4 (prd_cnt S hl) (by rw [List.length_map, vecs_len]) (fun e he => by
    obtain ⟨v, _, rfl⟩ := List.mem_map.mp he
    exact Nat.lt_of_lt_of_le (brd_ok S ok v) S.m.b8) m
  have e2 := place_of_ok hv c1 c4 hb m
  have hvl : v.length = hs := by rw [hv.1, cnt_len]
  have hv12 : ∀ n ∈ v, n ≤ 12 := by
    intro n hn
    obtain ⟨i, hi⟩ := List.getElem?_of_mem hn
    have hil : i < (cnt hs h).length := by
      have := (List.getElem?_eq_some_iff.mp hi).1
      have := hv.1
      omega
    exact Nat.le_trans (hv.2 i _ n (List.getElem?_eq_getElem hil) hi) (cnt_le hl _ (List.getElem_mem hil))
  have hpv := prd_le (by rw [hvl]; exact S.h4) hv12
  have e3 := vectors_ok (cs := v) (by rw [hvl]; exact S.h1) (by rw [hvl]; exact S.h4) hpv hw
  have e4 : gIx (tab mc hs h) (.int 0) m = .ok (tI (cnt hs h)) m := rfl
  have e5 : gIx (tab mc hs h) (.int 1) m = .ok (tI ((vecs (cnt hs h)).map (brd mc.maps mc.start h))) m := rfl
  have e6 : itemsD m (tI v) = some (v.map iD) := rfl
  simp [g_part_of, e1, e4, e2, e6]
  rw [fLc_all (xs := (vecs v).map tI) (src := srcT ((vecs v).map tI)) (fun x => iD (brd mc.maps mc.start h (unI x))) (by simp [e3]) (isT _ _) (fun x hx => ?_) (by rw [List.length_map, vecs_len, LIM_eq]; omega)]
  · have hl2 : 2 ≤ LIM := by rw [LIM_eq]; omega
    simp [hl2]
    refine ⟨rfl, ?_⟩
    simp only [tI, D.tup.injEq, List.map_map]
    refine List.map_congr_left fun u _ => ?_
    show iD (brd mc.maps mc.start h (unI (tI u))) = _
    rw [unI_tI]
    rfl
  · obtain ⟨u, hu, rfl⟩ := List.mem_map.mp hx
    have hwu := mem_vecs.mp hu
    have hwc : Within (cnt hs h) u := ⟨by rw [hwu.1, hv.1], fun i n k hn hk => by
      have hiv : i < v.length := by
        have := (List.getElem?_eq_some_iff.mp hk).1
        rw [hwu.1] at this
        exact this
      exact Nat.le_trans (hwu.2 i v[i] k (List.getElem?_eq_getElem hiv) hk) (hv.2 i n v[i] hn (List.getElem?_eq_getElem hiv))⟩
    have e7 := place_of_ok hwc c1 c4 hb m
    have e8 : gIx (tI ((vecs (cnt hs h)).map (brd mc.maps mc.start h))) (.int (plc (cnt hs h) u : Int)) m = .ok (iD (brd mc.maps mc.start h u)) m := tI_at (by rw [List.getElem?_map, vecs_at hwc]; rfl) m
    refine ⟨_, rfl, ?_⟩
    simp [wipeD, e4, e5, e7, e8, unI_tI])
omit S in
theorem counts_less {cs : List Nat} {j : Nat} (hl : cs.length ≤ 4) (hj : 1 ≤ cs.getD j 0) (a : Option D) (x : D) (m : M) :
    fLc (fEnum (fOp gIx (fVar 2) (fC (.int 0)))) (gT 2 (gCons' (gN 3) (gCons' (gN 4) gNil'))) [3, 4] fYes (fIf (fTest (fOp gEq (fVar 3) (fVar 1))) (fOp Dl.gSub (fVar 4) (fC (.int 1))) (fVar 4)) [a, some (iD j), some (.tup [tI cs, x]), none, none] m = .ok ((drp cs j).map iD) m := by
  have hE : enumK m (tI cs) = .ok (srcTE (cs.map iD)) m := rfl
  rw [fLc_all (src := srcTE (cs.map iD)) (atJ j (· - 1)) (by simp [hE]) (isTE _ _) (fun x hx => ?_) (by simp [LIM_eq]; omega), enum_map cs j (· - 1) (· - 1) (fun n hn => ?_)]
  · rfl
  · rw [getD_some hn] at hj
    omega
  · obtain ⟨⟨y, i⟩, hp, rfl⟩ := List.mem_map.mp hx
    have hy : y ∈ cs.map iD := List.fst_mem_of_mem_zipIdx hp
    obtain ⟨n, _, rfl⟩ := List.mem_map.mp hy
    refine ⟨_, by simp; rfl, ?_⟩
    by_cases e : i = j
    · simp [wipeD, atJ, e]
    · have e' : ¬ ((i : Int) = (j : Int)) := by omega
      simp [wipeD, atJ, e']
omit S in
/-- the last deed of a hand stands somewhere -/
theorem last_of {h : Hist} {j : Nat} (hj : 1 ≤ num1 h j) : ∃ a d b', h = a ++ (j, d) :: b' ∧ num1 b' j = 0 := by
  induction h with
  | nil => rw [num1_nil] at hj; omega
  | cons p t ih =>
    by_cases ht : 1 ≤ num1 t j
    · obtain ⟨a, d, b', e, h0⟩ := ih ht
      exact ⟨p :: a, d, b', by rw [e]; rfl, h0⟩
    · rw [num1_cons] at hj
      have hp : p.1 = j := by
        refine Decidable.byContradiction fun q => ?_
        rw [if_neg q] at hj
        omega
      exact ⟨[], p.2, t, by rw [← hp]; rfl, by omega⟩
theorem with_back_ok {a b' : Hist} {j d : Nat} (ok : HOk hs mc.maps.length (a ++ (j, d) :: b')) (hl : (a ++ (j, d) :: b').length ≤ 12) (hb : num1 b' j = 0) {m : M} (hw : Wf m) : F_with_back [tab mc hs (a ++ (j, d) :: b'), iD j] m = .ok (tab mc hs (a ++ b')) m := runF_rt rfl (by
  let h := a ++ (j, d) :: b'
  have hj : j < hs := ok.hand (j, d) (by simp)
  have c1 : 1 ≤ (cnt hs h).length := by rw [cnt_len]; exact S.h1
  have c4 : (cnt hs h).length ≤ 4 := by rw [cnt_len]; exact S.h4
  have e1 : F_check_part [tab mc hs h, .int 8] m = .ok (tab mc hs h) m := check_part_ok (n := 8) c1 c4 (prd_cnt S hl) (by rw [List.length_map, vecs_len]) (fun e he => by
    obtain ⟨v, _, rfl⟩ := List.mem_map.mp he
    exact Nat.lt_of_lt_of_le (brd_ok S ok v) S.m.b8) m
  have e2 : F_need_hand [tab mc hs h, iD j] m = .ok (iD j) m := need_hand_ok (by rw [cnt_len]; exact hj) m
  have hn : num1 h j = num1 a j + 1 := by
    show num1 (a ++ (j, d) :: b') j = _
    rw [num1_app, num1_cons, hb]
    simp
  have e3 : gIx (tab mc hs h) (.int 0) m = .ok (tI (cnt hs h)) m := rfl
  have e4 : gIx (tI (cnt hs h)) (.int (j : Int)) m = .ok (iD (num1 h j)) m := tI_at (cnt_at h hj) m
  have hz : ¬ (num1 h j = 0) := by omega
  have hc : cnt hs (a ++ b') = drp (cnt hs h) j := cnt_gone a b' d hj
  have hg : (cnt hs h).getD j 0 = num1 h j := getD_some (cnt_at h hj)
  have e5 := counts_less (cs := cnt hs h) (j := j) c4 (by rw [hg]; omega) (some (tab mc hs h)) (tI ((vecs (cnt hs h)).map (brd mc.maps mc.start h))) m
  have hwi : Within (cnt hs h) (cnt hs (a ++ b')) := by
    refine ⟨by rw [cnt_len, cnt_len], fun i n k hn' hk => ?_⟩
    have hi : i < hs := by
      have := (List.getElem?_eq_some_iff.mp hk).1
      rw [cnt_len] at this
      exact this
    rw [cnt_at _ hi] at hn' hk
    cases hn'
    cases hk
    show num1 (a ++ b') i ≤ num1 (a ++ (j, d) :: b') i
    rw [num1_app, num1_app, num1_cons]
    omega
  have e6 := part_of_ok S ok hl hwi hw
  have e7 : D.tup ((drp (cnt hs h) j).map iD) = tI (cnt hs (a ++ b')) := by rw [hc]; rfl
  show g_with_back (startD 5 [tab mc hs h, iD j]) m = _
  have e5' : fLc (fEnum (fOp gIx (fVar 2) (fC (.int 0)))) (gT 2 (gCons' (gN 3) (gCons' (gN 4) gNil'))) [3, 4] fYes (fIf (fTest (fOp gEq (fVar 3) (fVar 1))) (fOp Dl.gSub (fVar 4) (fC (.int 1))) (fVar 4)) [some (tab mc hs h), some (iD j), some (tab mc hs h), none, none] m = .ok ((drp (cnt hs h) j).map iD) m := e5
  simp [g_with_back, e1, e2, e3, e4, hz, e5', e7]
  have e6' : F_part_of [tab mc hs h, tI (cnt hs (a ++ b'))] m = _ := e6
  simp [e6']
  unfold tab
  congr 4
  refine List.map_congr_left fun v hv => ?_
  have hwv := mem_vecs.mp hv
  refine brd_gone (hs := hs) ?_
  have hjv : j < v.length := by rw [hwv.1, cnt_len]; exact hj
  have := hwv.2 j (num1 (a ++ b') j) v[j] (cnt_at _ hj) (List.getElem?_eq_getElem hjv)
  rw [num1_app, hb] at this
  rw [List.getD_eq_getElem?_getD, List.getElem?_eq_getElem hjv]
  simpa using this)
/-! ### table_of, alike -/
theorem first_tab (m : M) : F_first_table [machD mc, iD hs] m = .ok (tab mc hs []) m := by
  have e := first_table_ok S.m S.h1 S.h4 m
  rw [e]
  have e1 : Dl.cnt hs [] = List.replicate hs 0 := by
    refine List.ext_getElem? fun i => ?_
    by_cases hi : i < hs
    · rw [cnt_at _ hi, List.getElem?_replicate, if_pos hi]; rfl
    · rw [List.getElem?_eq_none (by rw [cnt_len]; omega), List.getElem?_replicate, if_neg hi]
  have e2 : ∀ n, vecs (List.replicate n 0) = [List.replicate n 0] := by
    intro n
    induction n with
    | zero => rfl
    | succ n ih =>
      rw [List.replicate_succ', vecs_snoc, ih]
      rfl
  unfold tab
  rw [e1, e2]
  rfl
theorem table_of_ok {h : Hist} {d : D} {m : M} (hd : IsHist m d h) (ok : HOk hs mc.maps.length h) (hl : h.length ≤ 12) (hw : Wf m) : F_table_of [machD mc, iD hs, d] m = .ok (tab mc hs h) m := runF_rt rfl (by
  have e1 := check_machine_ok S.m m
  have e2 := first_tab S m
  have e3 := check_history_ok S.m S.h1 S.h4 hd ok (by rw [LIM_eq]; omega)
  let bd : FS := sSet 4 (fCall F_grown (fCons (fVar 3) (fCons (fVar 4) (fCons (fVar 5) (fCons (fVar 6) fNil)))))
  let I : Nat → Sl → M → Prop := fun i ρ mm => mm = m ∧ ∃ a c : Option D, ρ = [some (machD mc), some (iD hs), some d, some (machD mc), some (tab mc hs (h.take i)), a, c]
  have step : ∀ i ρ mm, i < h.length → I i ρ mm → ∃ x ρ' ρ2 m2, (srcT (h.map letD)).get mm i = some x ∧ gT 2 (gCons' (gN 5) (gCons' (gN 6) gNil')) x ρ = some ρ' ∧ bd ρ' mm = .nx ρ2 m2 ∧ I (i + 1) ρ2 m2 := by
    rintro i ρ mm hi ⟨rfl, a, c, rfl⟩
    have ht : h.take (i + 1) = h.take i ++ [h[i]] := by rw [List.take_append_getElem]
    have hm := List.getElem_mem hi
    have hx : (srcT (h.map letD)).get mm i = some (letD h[i]) := by simp [srcT, hi]
    generalize h[i] = p at ht hm hx
    obtain ⟨j, dd⟩ := p
    have okt : HOk hs mc.maps.length (h.take i) := ⟨fun p hp => ok.hand p (List.mem_of_mem_take hp), fun p hp => ok.deed p (List.mem_of_mem_take hp)⟩
    have e4 := grown_tab S okt (j := j) (d := dd) (by rw [List.length_take]; omega) (ok.hand _ hm) (ok.deed _ hm) hw
    refine ⟨letD (j, dd), [some (machD mc), some (iD hs), some d, some (machD mc), some (tab mc hs (h.take i)), some (iD j), some (iD dd)], [some (machD mc), some (iD hs), some d, some (machD mc), some (tab mc hs (h.take (i + 1))), some (iD j), some (iD dd)], mm, hx, by simp [letD], ?_, rfl, _, _, rfl⟩
    rw [ht]
    simp [bd, e4]
  obtain ⟨ρ', m', e, rfl, a, c, rfl⟩ := forL_inv (src := srcT (h.map letD)) (n := h.length) (gt := gT 2 (gCons' (gN 5) (gCons' (gN 6) gNil'))) (body := bd) I (by simp [srcT]) step (fun _ _ _ => rfl) h.length 0 [some (machD mc), some (iD hs), some d, some (machD mc), some (tab mc hs []), none, none] m (by omega) ⟨rfl, none, none, rfl⟩
  rw [List.take_length] at e
  have hs' : srcK m' (histD h) = .ok (srcT (h.map letD)) m' := rfl
  have hn : (srcT (h.map letD)).n = h.length := by simp [srcT]
  simp [g_table_of, e1, e2, e3, hs', hn]
  rw [show (sSet 4 (fCall F_grown (fCons (fVar 3) (fCons (fVar 4) (fCons (fVar 5) (fCons (fVar 6) fNil)))))) = bd from rfl, e]
  simp)
end
theorem tab_num (mc : Mach) (hs : Nat) (h : Hist) : (tab mc hs h).num = true := by simp only [tab, D.num, D.nums, tI_num, Bool.and_self]
theorem tI_dep (l : List Nat) : (tI l).dep ≤ 1 := by
  simp only [tI, D.dep]
  have := deps_le (ds := l.map iD) (k := 0) (fun d hd => by obtain ⟨_, _, rfl⟩ := List.mem_map.mp hd; exact Nat.le_refl _)
  omega
theorem tab_dep (mc : Mach) (hs : Nat) (h : Hist) : (tab mc hs h).dep ≤ 64 := by
  have h1 := tI_dep (cnt hs h)
  have h2 := tI_dep ((vecs (cnt hs h)).map (brd mc.maps mc.start h))
  simp only [tab, D.dep, D.deps]
  omega
end K81

namespace K81
open PySem PyProof.Rows L2 Dl
/-! ### tables by boards and numbers -/
def tabF (cs : List Nat) (f : List Nat → Nat) : D := .tup [tI cs, tI ((vecs cs).map f)]
theorem tab_eq (mc : Mach) (hs : Nat) (h : Hist) : tab mc hs h = tabF (cnt hs h) (brd mc.maps mc.start h) := rfl
structure TF (cs : List Nat) (f : List Nat → Nat) (b : Nat) : Prop where
  l1 : 1 ≤ cs.length
  l4 : cs.length ≤ 4
  n12 : ∀ n ∈ cs, n ≤ 12
  fb : ∀ v, f v < b
theorem TF.prd {cs f b} (T : TF cs f b) : prd cs ≤ 30000 := prd_le T.l4 T.n12
theorem TF.n3 {cs f b} (T : TF cs f b) : ∀ n ∈ cs, n ≤ 30000 := fun n hn => Nat.le_trans (T.n12 n hn) (by decide)
theorem TF.less {cs v : List Nat} {f b} (T : TF cs f b) (h : Within cs v) : TF v f b := by
  refine ⟨by rw [h.1]; exact T.l1, by rw [h.1]; exact T.l4, fun n hn => ?_, T.fb⟩
  obtain ⟨i, hi⟩ := List.getElem?_of_mem hn
  have hil : i < cs.length := by
    have := (List.getElem?_eq_some_iff.mp hi).1
    have := h.1
    omega
  exact Nat.le_trans (h.2 i _ n (List.getElem?_eq_getElem hil) hi) (T.n12 _ (List.getElem_mem hil))
theorem within_drpS (cs : List Nat) (j : Nat) : Within cs (drp cs j) := within_drpV (within_self cs) j
theorem TF.drp {cs : List Nat} {f b} (T : TF cs f b) (j : Nat) : TF (drp cs j) f b := T.less (within_drpS cs j)
theorem check_partF {cs : List Nat} {f b n} (T : TF cs f b) (hb : b ≤ n) (m : M) : F_check_part [tabF cs f, iD n] m = .ok (tabF cs f) m := check_part_ok T.l1 T.l4 T.prd (by rw [List.length_map, vecs_len]) (fun e he => by
  obtain ⟨v, _, rfl⟩ := List.mem_map.mp he
  exact Nat.lt_of_lt_of_le (T.fb v) hb) m
theorem check_tableF {mc : Mach} {b : Nat} (hm : mc.Ok b) {cs : List Nat} {f} (T : TF cs f b) (m : M) : F_check_table [machD mc, tabF cs f] m = .ok (tabF cs f) m := check_table_ok hm T.l1 T.l4 T.prd (by rw [List.length_map, vecs_len]) (fun e he => by
  obtain ⟨v, _, rfl⟩ := List.mem_map.mp he
  exact T.fb v) m
theorem tab_counts (cs : List Nat) (f : List Nat → Nat) (m : M) : gIx (tabF cs f) (.int 0) m = .ok (tI cs) m := rfl
theorem tab_boards (cs : List Nat) (f : List Nat → Nat) (m : M) : gIx (tabF cs f) (.int 1) m = .ok (tI ((vecs cs).map f)) m := rfl
theorem tab_at {cs v : List Nat} {f : List Nat → Nat} (h : Within cs v) (m : M) : gIx (tI ((vecs cs).map f)) (.int (plc cs v : Int)) m = .ok (iD (f v)) m := tI_at (by rw [List.getElem?_map, vecs_at h]; rfl) m
theorem within_trans {a b c : List Nat} (h : Within b a) (h2 : Within c b) : Within c a := within_of (by rw [h.1, h2.1]) fun j => Nat.le_trans (within_getD h j) (within_getD h2 j)
theorem part_ofF {cs v : List Nat} {f b} (T : TF cs f b) (hb8 : b ≤ 8) (hv : Within cs v) {m : M} (hw : Wf m) : F_part_of [tabF cs f, tI v] m = .ok (tabF v f) m := runF_rt rfl (by
  have e1 : F_check_part [tabF cs f, .int 8] m = .ok (tabF cs f) m := check_partF (n := 8) T hb8 m
  have e2 := place_of_ok hv T.l1 T.l4 T.n3 m
  have Tv := T.less hv
  have e3 := vectors_ok (cs := v) Tv.l1 Tv.l4 Tv.prd hw
  have e6 : itemsD m (tI v) = some (v.map iD) := rfl
  have hp := Tv.prd
  simp [-List.getD_eq_getElem?_getD, g_part_of, e1, tab_counts, e2, e6]
  rw [fLc_y (vecs v) tI (fun u => iD (f u)) (by simp [-List.getD_eq_getElem?_getD, e3]) (isT _ _) (by rw [vecs_len, LIM_eq]; omega) fun u hu => ?_]
  · have hl2 : 2 ≤ LIM := by rw [LIM_eq]; omega
    simp [-List.getD_eq_getElem?_getD, hl2, tabF, tI, tupOf, Function.comp_def]
  · have hwc := within_trans (mem_vecs.mp hu) hv
    exact ⟨_, rfl, by simp [-List.getD_eq_getElem?_getD, wipeD, tab_counts, tab_boards, place_of_ok hwc T.l1 T.l4 T.n3 m, tab_at hwc]⟩)
theorem with_backF {cs : List Nat} {f b j} (T : TF cs f b) (hb8 : b ≤ 8) (hj : j < cs.length) (h1 : cs.getD j 0 ≠ 0) {m : M} (hw : Wf m) : F_with_back [tabF cs f, iD j] m = .ok (tabF (drp cs j) f) m := runF_rt rfl (by
  have e1 : F_check_part [tabF cs f, .int 8] m = .ok (tabF cs f) m := check_partF (n := 8) T hb8 m
  have e2 : F_need_hand [tabF cs f, iD j] m = .ok (iD j) m := need_hand_ok hj m
  have e4 := tI_getD hj m
  have e5 := counts_less (cs := cs) (j := j) T.l4 (by omega) (some (tabF cs f)) (tI ((vecs cs).map f)) m
  have e6 := part_ofF T hb8 (within_drpS cs j) hw
  have e7 : D.tup ((Dl.drp cs j).map iD) = tI (Dl.drp cs j) := rfl
  have e5' : fLc (fEnum (fOp gIx (fVar 2) (fC (.int 0)))) (gT 2 (gCons' (gN 3) (gCons' (gN 4) gNil'))) [3, 4] fYes (fIf (fTest (fOp gEq (fVar 3) (fVar 1))) (fOp Dl.gSub (fVar 4) (fC (.int 1))) (fVar 4)) [some (tabF cs f), some (iD j), some (tabF cs f), none, none] m = .ok ((Dl.drp cs j).map iD) m := e5
  show g_with_back (startD 5 [tabF cs f, iD j]) m = _
  simp [-List.getD_eq_getElem?_getD, g_with_back, e1, e2, tab_counts, e4, h1, e5', e7, e6])
/-! ### deeds that lead pairs -/
def prD (p : Nat × Nat) : D := .tup [iD p.1, iD p.2]
def prsD (l : List (Nat × Nat)) : D := .tup (l.map prD)
theorem does_all_ok {st : List Nat} {l : List (Nat × Nat)} (h : ∀ p ∈ l, p.1 < st.length) (hl : l.length ≤ LIM) (m : M) : F_does_all [tI st, prsD l] m = .ok (.bl (l.all fun p => st.getD p.1 0 == p.2)) m := runF_rt rfl (by
  simp [-List.getD_eq_getElem?_getD, g_does_all]
  rw [fLc_y l prD (fun p => .bl (st.getD p.1 0 == p.2)) (by simp; rfl) (isT _ _) hl fun p hp => ?_]
  · simp [-List.getD_eq_getElem?_getD, allL_p]
  · refine ⟨_, rfl, ?_⟩
    simp [-List.getD_eq_getElem?_getD, wipeD, tI_getD (h p hp), Int.natCast_inj, beq_iff_eq]
    by_cases e : st.getD p.1 0 = p.2 <;> simp [-List.getD_eq_getElem?_getD, e])
theorem maps_src (mc : Mach) (m : M) : SrcIs (srcTE (mc.maps.map tI)) (mc.maps.zipIdx.map fun p => .tup [.int (p.2 : Nat), tI p.1]) m := by
  have := isTE (mc.maps.map tI) m
  rw [List.zipIdx_map, List.map_map] at this
  exact this
theorem doing_rows {maps : List (List Nat)} {l : List (Nat × Nat)} : ((maps.zipIdx.filter fun q => l.all fun p => q.1.getD p.1 0 == p.2).map fun q => iD q.2) = ((List.range maps.length).filter fun d => l.all fun p => stpD maps d p.1 == p.2).map iD := by
  have e : maps.zipIdx = (List.range maps.length).map fun d => (maps.getD d [], d) := by
    refine List.ext_getElem? fun i => ?_
    rw [List.getElem?_zipIdx, List.getElem?_map]
    by_cases hi : i < maps.length
    · rw [List.getElem?_range hi, maps_at hi]
      simp
    · rw [List.getElem?_eq_none (by omega), List.getElem?_eq_none (by simpa using hi)]
      rfl
  rw [e, List.filter_map, List.map_map]
  rfl
theorem deeds_doing_ok {mc : Mach} {b : Nat} (hm : mc.Ok b) {l : List (Nat × Nat)} (h : ∀ p ∈ l, p.1 < b) (hl : l.length ≤ LIM) (m : M) : F_deeds_doing [machD mc, prsD l] m = .ok (tI ((List.range mc.maps.length).filter fun d => l.all fun p => stpD mc.maps d p.1 == p.2)) m := runF_rt rfl (by
  have l6 := hm.n6
  simp [-List.getD_eq_getElem?_getD, g_deeds_doing]
  rw [fLc_t mc.maps.zipIdx (fun p => .tup [.int (p.2 : Nat), tI p.1]) (fun q => l.all fun p => q.1.getD p.1 0 == p.2) (fun q => iD q.2) (by simp [-List.getD_eq_getElem?_getD, machD, mapsD]) (maps_src mc m) (by simp [-List.getD_eq_getElem?_getD, LIM_eq]; omega) fun q hq => ?_]
  · simp [-List.getD_eq_getElem?_getD, doing_rows, tI]
  · refine ⟨_, rfl, ?_, fun _ => by simp [-List.getD_eq_getElem?_getD, wipeD]⟩
    have hf : q.1 ∈ mc.maps := List.fst_mem_of_mem_zipIdx hq
    have := does_all_ok (st := q.1) (fun p hp => by rw [hm.len _ hf]; exact h p hp) hl m
    simp [-List.getD_eq_getElem?_getD, wipeD, this])
theorem lessened_ok {v : List Nat} {j : Nat} (hj : j < v.length) (h1 : v.getD j 0 ≠ 0) (hl : v.length ≤ 4) (m : M) : F_lessened [tI v, iD j] m = .ok (tI (drp v j)) m := runF_rt rfl (by
  have c1 : cutD (v.map iD) none (some (j : Int)) = (v.take j).map iD := by rw [cut_take (by simp; omega), tI_take]
  have c2 : cutD (v.map iD) (some ((j : Int) + 1)) none = (v.drop (j + 1)).map iD := by
    rw [show (j : Int) + 1 = ((j + 1 : Nat) : Int) by omega, cut_drop (by simp; omega), List.map_drop]
  have e : atI (v.map iD) (j : Int) = some (iD (v.getD j 0)) := at_nat (by rw [List.getElem?_map, getD_at hj]; rfl)
  have hs : ((v.getD j 0 : Int) - 1) = ((v.getD j 0 - 1 : Nat) : Int) := by omega
  have l1 : 1 ≤ LIM := by rw [LIM_eq]; omega
  have l2 : (v.take j).length + 1 ≤ LIM := by rw [List.length_take, LIM_eq]; omega
  have l3 : (v.take j).length + 1 + (v.drop (j + 1)).length ≤ LIM := by rw [List.length_take, List.length_drop, LIM_eq]; omega
  simp only [List.length_take, List.length_drop] at l2 l3
  simp [-List.getD_eq_getElem?_getD, g_lessened, tI, c1, c2, e, l1, hs, l2, l3]
  unfold drp
  rw [set_parts hj]
  simp)
theorem topV_len {cs : List Nat} {j : Nat} (hp : prd cs ≤ 30000) : (topV cs j).length ≤ 30000 := by
  have h1 : (topV cs j).length ≤ (vecs cs).length := List.length_filter_le _ _
  rw [vecs_len] at h1
  omega
theorem prD_num (p : Nat × Nat) : (prD p).num = true := rfl
theorem prsD_num (l : List (Nat × Nat)) : (prsD l).num = true := nums_map prD_num l
def prsO (f : List Nat → Nat) (cs : List Nat) (j : Nat) (pre : List (List Nat)) : List (Nat × Nat) := (pre.filter fun v => v.getD j 0 == cs.getD j 0).map fun v => (f (Dl.drp v j), f v)
theorem prsO_len {f cs j pre post} (h : vecs cs = pre ++ post) (hp : Dl.prd cs ≤ 30000) : (prsO f cs j pre).length < LIM := by
  have h1 := List.length_filter_le (fun v : List Nat => v.getD j 0 == cs.getD j 0) pre
  have h2 : pre.length ≤ (vecs cs).length := by rw [h, List.length_append]; omega
  rw [vecs_len] at h2
  unfold prsO
  rw [List.length_map, LIM_eq]
  omega
theorem last_pairs_ok {cs : List Nat} {f b j} (T : TF cs f b) (hj : j < cs.length) (h1 : cs.getD j 0 ≠ 0) {m : M} (hw : Wf m) : F_last_pairs [tabF cs f, iD j] m = .ok (prsD (prsF f cs j)) m := by
  have hp := T.prd
  refine RW.eq (run_w rfl ?_)
  let I : List (List Nat) → List (Option D) → M → Prop := fun pre vs m2 => ∃ a c, vs = [a, c] ∧ m2 = m ++ [.lst ((prsO f cs j pre).map prD)]
  have hvs := vectors_ok T.l1 T.l4 T.prd (m := m ++ [.lst []]) (hw.app rfl)
  simp [g_last_pairs, startD, tab_counts, hvs]
  refine for_c (vecs cs) tI (cT _) (by simp [srcT]) [3, 4] I ⟨none, none, rfl, rfl⟩ ?_ ?_
  · rintro pre v post vs m2 hl ⟨a, c, rfl, rfl⟩
    have hvm : v ∈ vecs cs := by rw [hl]; simp
    have hwv := mem_vecs.mp hvm
    have hjv : j < v.length := by rw [hwv.1]; exact hj
    have e1 := tI_getD hjv
    have e2 := tI_getD hj
    let ρ : Sl := [some (tabF cs f), some (iD j), some (.ref m.length), some (tI v), c]
    have et : ∀ mm : M, fTest (fOp gEq (fOp gIx (fVar 3) (fVar 1)) (fOp gIx (fOp gIx (fVar 0) (fC (.int 0))) (fVar 1))) ρ mm = .ok (decide (v.getD j 0 = cs.getD j 0)) mm := fun mm => by
      simp [-List.getD_eq_getElem?_getD, ρ, e1, e2, tab_counts, Int.natCast_inj]
    show OW (sIf _ _ _ ρ _) _
    rw [s_if, et]
    by_cases e : v.getD j 0 = cs.getD j 0
    · have e3 := lessened_ok hjv (by omega) (by rw [hwv.1]; exact T.l4)
      have hwd := within_drpV hwv j
      have e4 := place_of_ok hwd T.l1 T.l4 T.n3
      have e5 := place_of_ok hwv T.l1 T.l4 T.n3
      have e6 : prsO f cs j (pre ++ [v]) = prsO f cs j pre ++ [(f (drp v j), f v)] := by
        unfold prsO
        rw [List.filter_append, List.filter_cons_of_pos (by simpa using e)]
        simp
      have e0 : ∀ mm : M, sSet 4 (fCall F_place_of (fCons (fOp gIx (fVar 0) (fC (.int 0))) (fCons (fCall F_lessened (fCons (fVar 3) (fCons (fVar 1) fNil))) fNil))) ρ mm = .nx [some (tabF cs f), some (iD j), some (.ref m.length), some (tI v), some (iD (plc cs (drp v j)))] mm := fun mm => by
        simp [-List.getD_eq_getElem?_getD, ρ, tab_counts, e3, e4]
      have ea := app_new (i := 2) (f := fTup (fCons (fOp gIx (fOp gIx (fVar 0) (fC (.int 1))) (fVar 4)) (fCons (fOp gIx (fOp gIx (fVar 0) (fC (.int 1))) (fCall F_place_of (fCons (fOp gIx (fVar 0) (fC (.int 0))) (fCons (fVar 3) fNil)))) fNil))) (ρ := [some (tabF cs f), some (iD j), some (.ref m.length), some (tI v), some (iD (plc cs (drp v j)))]) (m := m) (xs := (prsO f cs j pre).map prD) (y := prD (f (drp v j), f v)) rfl (by
        simp [-List.getD_eq_getElem?_getD, tab_counts, tab_boards, e5, tab_at hwd, tab_at hwv, LIM_eq, prD]) (by rw [List.length_map]; exact prsO_len hl hp)
      simp only [out_ok, decide_eq_true e, if_true, s_seq, e0, OW_seqK, OW_nx, thenP_nx, ea]
      exact ⟨_, rfl, _, _, rfl, by rw [e6]; simp⟩
    · simp only [out_ok, decide_eq_false e, Bool.false_eq_true, if_false, s_next, OW_nx]
      refine ⟨_, rfl, _, _, rfl, ?_⟩
      unfold prsO
      rw [List.filter_append, List.filter_cons_of_neg (by simpa using e)]
      simp
  · rintro vs m2 ⟨a, c, rfl, rfl⟩
    have := gc_j (L := m.length) (d := prsD (prsF f cs j)) (j := [O.lst ((prsO f cs j (vecs cs)).map prD)]) rfl hw (num_blw (prsD_num _) _)
    simp [-List.getD_eq_getElem?_getD]
    have e : prsD (prsF f cs j) = .tup ((prsO f cs j (vecs cs)).map prD) := rfl
    rw [e] at this ⊢
    rw [this]
    exact ⟨rfl, rfl⟩
end K81

namespace K81
open PySem PyProof.Rows L2 Dl
theorem at_last {α : Type} (xs : List α) (x : α) : atI (xs ++ [x]) (-1) = some x := by
  unfold atI ixN
  rw [if_neg (by omega), if_pos (by simp; omega)]
  show (xs ++ [x])[((xs ++ [x]).length + (-1 : Int)).toNat]? = some x
  have : ((xs ++ [x]).length + (-1 : Int)).toNat = xs.length := by simp; omega
  rw [this]
  simp
/-! ### lasts -/
theorem counts_src (cs : List Nat) : SrcC (srcTE (cs.map iD)) ((List.range cs.length).map fun j => .tup [iD j, iD (cs.getD j 0)]) := by
  have := cTE (cs.map iD)
  have e : (cs.map iD).zipIdx.map (fun p => D.tup [.int (p.2 : Nat), p.1]) = (List.range cs.length).map fun j => .tup [iD j, iD (cs.getD j 0)] := by
    refine List.ext_getElem? fun i => ?_
    rw [List.getElem?_map, List.getElem?_map, List.getElem?_zipIdx, List.getElem?_map]
    by_cases hi : i < cs.length
    · rw [List.getElem?_range hi, getD_at hi]
      simp [iD]
    · rw [List.getElem?_eq_none (by omega), List.getElem?_eq_none (by simpa using hi)]
      rfl
  rw [e] at this
  exact this
theorem prsF_lt {cs f b} (T : TF cs f b) (j : Nat) : ∀ p ∈ prsF f cs j, p.1 < b := by
  intro p hp
  unfold prsF at hp
  obtain ⟨v, _, rfl⟩ := List.mem_map.mp hp
  exact T.fb _
theorem prsF_len {cs f b} (T : TF cs f b) (j : Nat) : (prsF f cs j).length ≤ LIM := by
  have := topV_len (j := j) T.prd
  unfold prsF
  rw [List.length_map, LIM_eq]
  omega
def lasO (maps : List (List Nat)) (f : List Nat → Nat) (cs : List Nat) (pre : List Nat) : Hist := pre.filterMap fun j => if cs.getD j 0 = 0 then none else (dsF maps f cs j).head?.map fun d => (j, d)
theorem lasts_ok {mc : Mach} {b : Nat} (hm : mc.Ok b) {cs : List Nat} {f} (T : TF cs f b) {m : M} (hw : Wf m) : F_lasts [machD mc, tabF cs f] m = .ok (histD (lasF mc.maps f cs)) m := by
  refine RW.eq (run_w rfl ?_)
  have c1 := check_machine_ok hm
  have c2 := check_tableF hm T
  let I : List Nat → List (Option D) → M → Prop := fun pre vs m2 => ∃ a c d, vs = [a, c, d] ∧ m2 = m ++ [.lst ((lasO mc.maps f cs pre).map letD)]
  simp [g_lasts, startD, c1, c2, tab_counts, LIM_eq]
  show OW (forL (srcTE (cs.map iD)) _ _ _ _ _ _) _
  refine for_c (List.range cs.length) (fun j => .tup [iD j, iD (cs.getD j 0)]) (counts_src cs) (by simp [srcTE]) [5, 6, 7] I ⟨none, none, none, rfl, rfl⟩ ?_ ?_
  · rintro pre j post vs m2 hl ⟨a, c, d, rfl, rfl⟩
    have hj : j < cs.length := by
      have : j ∈ List.range cs.length := by rw [hl]; simp
      exact List.mem_range.mp this
    have hlen : (lasO mc.maps f cs pre).length ≤ 4 := by
      have h1 : (lasO mc.maps f cs pre).length ≤ pre.length := List.length_filterMap_le _ _
      have h2 : pre.length ≤ (List.range cs.length).length := by rw [hl, List.length_append]; omega
      rw [List.length_range] at h2
      have := T.l4
      omega
    let mm : M := m ++ [.lst ((lasO mc.maps f cs pre).map letD)]
    have hwm : Wf mm := hw.app (by
      simp only [O.blw]
      have := num_blw (nums_map (f := letD) (fun _ => rfl) (lasO mc.maps f cs pre)) (m.length + 1)
      simpa only [D.blw] using this)
    let ρ : Sl := [some (machD mc), some (tabF cs f), some (machD mc), some (tabF cs f), some (.ref m.length), some (iD j), some (iD (cs.getD j 0)), d]
    show OW (sSeq _ _ ρ mm) _
    have e0 : sSet 7 (fIf (fTest (fOp gGt (fVar 6) (fC (.int 0)))) (fCall F_deeds_doing (fCons (fVar 2) (fCons (fCall F_last_pairs (fCons (fVar 3) (fCons (fVar 5) fNil))) fNil))) (fTup fNil)) ρ mm = .nx (ρ.set 7 (some (tI (if cs.getD j 0 = 0 then [] else dsF mc.maps f cs j)))) mm := by
      by_cases e : cs.getD j 0 = 0
      · have e2 : ¬ (0 : Int) < ((cs.getD j 0 : Nat) : Int) := by omega
        simp [-List.getD_eq_getElem?_getD, ρ, e, tI]
      · have e2 : 0 < cs.getD j 0 := by omega
        have e3 := last_pairs_ok T hj e hwm
        have e4 := deeds_doing_ok hm (prsF_lt T j) (prsF_len T j) mm
        simp [-List.getD_eq_getElem?_getD, ρ, e2, e, e3, e4]
        rfl
    simp only [s_seq, e0, OW_seqK, OW_nx, thenP_nx]
    show OW (sIf _ _ _ _ _) _
    rw [s_if]
    have key : ∀ o : Option Nat, (if cs.getD j 0 = 0 then ([] : List Nat) else dsF mc.maps f cs j).head? = o → lasO mc.maps f cs (pre ++ [j]) = lasO mc.maps f cs pre ++ (o.map fun d => (j, d)).toList := by
      intro o ho
      unfold lasO
      rw [List.filterMap_append]
      congr 1
      by_cases e : cs.getD j 0 = 0
      · rw [if_pos e] at ho
        subst ho
        simp [-List.getD_eq_getElem?_getD, e]
      · rw [if_neg e] at ho
        simp only [List.filterMap_cons, List.filterMap_nil, if_neg e, ho]
        cases o <;> rfl
    cases hd : (if cs.getD j 0 = 0 then ([] : List Nat) else dsF mc.maps f cs j) with
    | nil =>
      have k := key none (by rw [hd]; rfl)
      have et : fTest (fOp gGt (fCB gLen (fCons (fVar 7) fNil)) (fC (.int 0))) (ρ.set 7 (some (tI []))) mm = .ok false mm := by simp [ρ, tI]
      rw [et]
      exact ⟨_, rfl, _, _, _, rfl, by rw [k]; simp [mm]⟩
    | cons x r =>
      have k := key (some x) (by rw [hd]; rfl)
      have et : fTest (fOp gGt (fCB gLen (fCons (fVar 7) fNil)) (fC (.int 0))) (ρ.set 7 (some (tI (x :: r)))) mm = .ok true mm := by
        have : (0 : Int) < (r.length : Int) + 1 := by omega
        simp [ρ, tI, this]
      rw [et]
      have ea := app_new (i := 4) (f := fTup (fCons (fVar 5) (fCons (fOp gIx (fVar 7) (fC (.int 0))) fNil))) (ρ := ρ.set 7 (some (tI (x :: r)))) (m := m) (xs := (lasO mc.maps f cs pre).map letD) (y := letD (j, x)) rfl (by
        simp [ρ, tI, LIM_eq, letD]) (by rw [List.length_map, LIM_eq]; omega)
      show OW (sDrop _ _ (m ++ _)) _
      rw [ea]
      exact ⟨_, rfl, _, _, _, rfl, by rw [k]; simp⟩
  · rintro vs m2 ⟨a, c, d, rfl, rfl⟩
    have := gc_j (L := m.length) (d := histD (lasF mc.maps f cs)) (j := [O.lst ((lasO mc.maps f cs (List.range cs.length)).map letD)]) rfl hw (num_blw (nums_map (f := letD) (fun _ => rfl) _) _)
    simp
    have e : histD (lasF mc.maps f cs) = .tup ((lasO mc.maps f cs (List.range cs.length)).map letD) := rfl
    rw [e] at this ⊢
    rw [this]
    exact ⟨rfl, rfl⟩
end K81

namespace K81
open PySem PyProof.Rows L2 Dl
theorem prd_zero (hs : Nat) : Dl.prd (cnt hs []) = 1 := by
  unfold Dl.prd Dl.cnt
  induction hs with
  | zero => rfl
  | succ n ih =>
    rw [List.range_succ, List.map_append, List.map_append, List.prod_append, ih]
    rfl
theorem any_pos {maps start hs f} {cs : List Nat} {g : Hist} (w : Wit maps start hs f cs g) : (cs.any fun n => decide (0 < n)) = decide (g ≠ []) := by
  rw [Bool.eq_iff_iff, List.any_eq_true]
  simp only [decide_eq_true_eq]
  constructor
  · rintro ⟨n, hn, hp⟩ rfl
    rw [← w.cn] at hn
    unfold Dl.cnt at hn
    obtain ⟨j, _, rfl⟩ := List.mem_map.mp hn
    rw [num1_nil] at hp
    omega
  · intro hg
    obtain ⟨p, t, rfl⟩ := List.exists_cons_of_ne_nil hg
    have hp := (w.ok p List.mem_cons_self).1
    refine ⟨num1 (p :: t) p.1, ?_, by rw [num1_cons]; simp; omega⟩
    rw [← w.cn]
    exact List.mem_map.mpr ⟨p.1, List.mem_range.mpr hp, rfl⟩
theorem normal_ok {mc : Mach} {b hs : Nat} (hm : mc.Ok b) {mD d : D} {cs : List Nat} {f : List Nat → Nat} {g : Hist} (T : TF cs f b) (w : Wit mc.maps mc.start hs f cs g) (hl : g.length ≤ 12) {m : M} (hw : Wf m)
    (c1 : F_check_machine [mD] m = .ok (machD mc) m) (c2 : F_check_table [machD mc, d] m = .ok (tabF cs f) m) : F_normal [mD, d] m = .ok (histD (nrmF mc.maps f g.length cs)) m := by
  refine RW.eq (run_w rfl ?_)
  simp [g_normal, startD, c1, c2, LIM_eq]
  let I : Nat → List (Option D) → M → Prop := fun k vs m2 => ∃ (cs' : List Nat) (g' found : Hist) (c : Option D), vs = [some (tabF cs' f), c] ∧ m2 = m ++ [.lst (found.map letD)] ∧ TF cs' f b ∧ Wit mc.maps mc.start hs f cs' g' ∧ g'.length = k ∧ k + found.length = g.length ∧ nrmF mc.maps f k cs' ++ found.reverse = nrmF mc.maps f g.length cs
  refine while_w [3, 5] g.length I (by omega) ⟨cs, g, [], none, rfl, rfl, T, w, rfl, rfl, by simp⟩ ?_
  rintro k vs m2 ⟨cs', g', found, c, rfl, rfl, T', w', hk, hf, he⟩
  let mm : M := m ++ [.lst (found.map letD)]
  have hwm : Wf mm := hw.app (by
    simp only [O.blw]
    have := num_blw (nums_map (f := letD) (fun _ => rfl) found) (m.length + 1)
    simpa only [D.blw] using this)
  let ρ : Sl := [some mD, some d, some (machD mc), some (tabF cs' f), some (.ref m.length), c, none]
  have et : fTest (fCB gAnyL (fLc (fWalk (fOp gIx (fVar 3) (fC (.int 0)))) (gN 6) [6] fYes (fOp gGt (fVar 6) (fC (.int 0))))) ρ mm = .ok (decide (g' ≠ [])) mm := by
    have h4 := T'.l4
    have e : fLc (fWalk (fOp gIx (fVar 3) (fC (.int 0)))) (gN 6) [6] fYes (fOp gGt (fVar 6) (fC (.int 0))) ρ mm = .ok (cs'.map fun n => .bl (decide (0 < n))) mm := by
      refine fLc_y cs' iD (fun n => .bl (decide (0 < n))) (src := srcT (cs'.map iD)) ?_ (isT _ _) (by rw [LIM_eq]; omega) fun n hn => ⟨_, rfl, ?_⟩
      · simp [ρ, tab_counts]
        rfl
      · simp [wipeD, ρ]
    simp only [e_test, e_cb, e, bind_ok, anyL_p, e_asB]
    rw [any_pos w']
  show RW (fTest _ ρ mm) _
  rw [et]
  simp only [RW_ok]
  by_cases hg : g' = []
  · subst hg
    have hk0 : k = 0 := by rw [← hk]; rfl
    subst hk0
    simp only [ne_eq, not_true_eq_false, decide_false, Bool.false_eq_true, if_false]
    have hfound : found.reverse = nrmF mc.maps f g.length cs := by simpa [nrmF] using he
    have hz : (vecs cs')[0]? = some cs' := by
      have h1 := vecs_at (within_self cs')
      have h2 := (List.getElem?_eq_some_iff.mp h1).1
      rw [vecs_len] at h2
      have h3 := prd_zero hs
      rw [w'.cn] at h3
      have h4 : plc cs' cs' = 0 := by omega
      rw [h4] at h1
      exact h1
    have hst : f cs' = mc.start := (w'.br cs' (within_self cs')).symm
    have e1 : gIx (tI ((vecs cs').map f)) (.int 0) mm = .ok (iD mc.start) mm := by
      have := tI_at (l := (vecs cs').map f) (k := 0) (x := f cs') (by rw [List.getElem?_map, hz]; rfl) mm
      rw [hst] at this
      exact this
    have e2 : gIx (machD mc) (.int 0) mm = .ok (iD mc.start) mm := rfl
    have e3 : gNe (iD mc.start) (iD mc.start) mm = .ok (.bl false) mm := by simp
    have hlen : found.length ≤ LIM := by rw [LIM_eq]; omega
    have e4 : mm[m.length]? = some (.lst (found.map letD)) := by simp [mm]
    show OW (sSeq _ _ ρ mm) _
    have e5 : sIf (fTest (fOp gNe (fOp gIx (fOp gIx (fVar 3) (fC (.int 1))) (fC (.int 0))) (fOp gIx (fVar 2) (fC (.int 0))))) sNever sNext ρ mm = .nx ρ mm := by
      simp only [s_if, e_test, e_op, e_var, e_c, ρ, List.getElem?_cons_succ, List.getElem?_cons_zero, bind_ok, tab_boards, e1, e2, e3, e_asB, out_ok]
      rfl
    rw [s_seq, e5]
    have e6 : fCB gTuple (fCons (fRevL (fVar 4)) fNil) ρ mm = .ok (histD (nrmF mc.maps f g.length cs)) (mm ++ [.lst (found.map letD).reverse]) := by
      simp only [e_cb, e_cons, e_nil, fRevL, e_var, ρ, List.getElem?_cons_succ, List.getElem?_cons_zero, bind_ok, e4]
      rw [← hfound]
      have : (mm ++ [O.lst (found.map letD).reverse])[mm.length]? = some (O.lst (found.map letD).reverse) := at_snoc _ _
      simp only [gTuple, itemsD, this]
      simp only [histD, List.map_reverse]
      rfl
    show OW (sRet _ ρ mm) _
    rw [s_ret, e6]
    have := gc_j (L := m.length) (d := histD (nrmF mc.maps f g.length cs)) (j := [O.lst (found.map letD), .lst (found.map letD).reverse]) rfl hw (num_blw (nums_map (f := letD) (fun _ => rfl) _) _)
    show (gc m.length _ (m ++ [_] ++ [_])).1 = _ ∧ _
    rw [List.append_assoc, List.singleton_append, this]
    exact ⟨rfl, rfl⟩
  · rw [decide_eq_true hg]
    simp only [if_true]
    obtain ⟨k', rfl⟩ : ∃ k', k = k' + 1 := ⟨k - 1, by have := List.length_pos_iff.mpr hg; omega⟩
    obtain ⟨j, x, e, hj, h1, hd⟩ := w'.end hg
    have hne := w'.alive hg
    obtain ⟨ll, hll⟩ : ∃ ll, lasF mc.maps f cs' = ll ++ [(j, x)] := by
      refine ⟨(lasF mc.maps f cs').dropLast, ?_⟩
      have h2 : (lasF mc.maps f cs').getLast hne = (j, x) := by
        have : endF mc.maps f cs' = (lasF mc.maps f cs').getLast hne := by
          unfold endF
          rw [List.getLastD_eq_getLast?, List.getLast?_eq_some_getLast hne]
          rfl
        rw [← this, e]
      rw [← h2]
      exact (List.dropLast_concat_getLast hne).symm
    have e1 := lasts_ok hm T' hwm
    have hj' : j < cs'.length := by rw [w'.len]; exact hj
    let L : D := histD (lasF mc.maps f cs')
    have eL : ∀ mm : M, gIx L (.int (-1)) mm = .ok (letD (j, x)) mm := fun mm => by
      show gIx (.tup ((lasF mc.maps f cs').map letD)) (.int (-1)) mm = _
      rw [hll, List.map_append]
      show getK (atI _ _) mm = _
      rw [show [(j, x)].map letD = [letD (j, x)] from rfl, at_last]
      rfl
    have eN : ∀ mm : M, gNeg (.int 1) mm = .ok (.int (-1)) mm := fun _ => rfl
    have s1 : sSet 5 (fCall F_lasts (fCons (fVar 2) (fCons (fVar 3) fNil))) ρ mm = .nx (ρ.set 5 (some L)) mm := by
      simp [ρ, e1, L]
    have s2 : sIf (fTest (fOp gEq (fCB gLen (fCons (fVar 5) fNil)) (fC (.int 0)))) sNever sNext (ρ.set 5 (some L)) mm = .nx (ρ.set 5 (some L)) mm := by
      have : ¬ (((ll.length : Nat) : Int) + 1 = 0) := by omega
      simp [ρ, L, histD, hll, this]
    have s3 := app_new (i := 4) (f := fOp gIx (fVar 5) (fUn gNeg (fC (.int 1)))) (ρ := ρ.set 5 (some L)) (m := m) (xs := found.map letD) (y := letD (j, x)) rfl (by
      simp [ρ, eN, eL]) (by rw [List.length_map, LIM_eq]; omega)
    have hwm2 : Wf (m ++ [.lst (found.map letD ++ [letD (j, x)])]) := hw.app (by
      simp only [O.blw]
      have := num_blw (nums_map (f := letD) (fun _ => rfl) (found ++ [(j, x)])) (m.length + 1)
      simpa only [D.blw, List.map_append, List.map_cons, List.map_nil] using this)
    have e8 := with_backF T' hm.b8 hj' h1 hwm2
    have s4 : sSet 3 (fCall F_with_back (fCons (fVar 3) (fCons (fOp gIx (fOp gIx (fVar 5) (fUn gNeg (fC (.int 1)))) (fC (.int 0))) fNil))) (ρ.set 5 (some L)) (m ++ [.lst (found.map letD ++ [letD (j, x)])]) = .nx ((ρ.set 5 (some L)).set 3 (some (tabF (drp cs' j) f))) (m ++ [.lst (found.map letD ++ [letD (j, x)])]) := by
      simp only [s_set, e_call, e_cons, e_nil, e_op, e_un, e_c, e_var, ρ, List.set, List.getElem?_cons_succ, List.getElem?_cons_zero, bind_ok, eN, eL]
      have : gIx (letD (j, x)) (.int 0) (m ++ [.lst (found.map letD ++ [letD (j, x)])]) = .ok (iD j) (m ++ [.lst (found.map letD ++ [letD (j, x)])]) := rfl
      simp only [this, bind_ok, e8]
      simp
    show OW (sSeq _ _ ρ mm) _
    simp only [s_seq, s1, s2, OW_seqK, OW_nx, thenP_nx]
    show OW (sDrop _ _ (m ++ [_])) _
    rw [s3]
    simp only [s_seq, OW_seqK, OW_nx, thenP_nx, s4]
    have h2 := h1
    rw [← w'.cn, cnt_getD g' hj] at h2
    obtain ⟨a, d', b', rfl, hb⟩ := last_at (show 1 ≤ num1 g' j by omega)
    refine ⟨k', [some (tabF (drp cs' j) f), some L], by omega, rfl, drp cs' j, a ++ b', found ++ [(j, x)], some L, rfl, by simp, T'.drp j, w'.gone hb, ?_, ?_, ?_⟩
    · simp only [List.length_append, List.length_cons] at hk ⊢
      omega
    · rw [List.length_append]
      simp only [List.length_cons, List.length_nil]
      omega
    · rw [← he]
      simp [nrmF, e]
end K81

namespace K81
open PySem PyProof.Rows L2 Dl
/-! ### machines whose deeds are a tuple that is known to have no dict -/
def machF (mc : Mach) : D := .tup [iD mc.start, .fix (mc.maps.map tI)]
theorem is_sequence_fix (xs : List D) (m : M) : F_is_sequence [.fix xs] m = .ok (.bl true) m := runF_rt rfl (by simp [g_is_sequence, tyD, isi_tuple])
theorem are_deeds_fix {mc : Mach} {b : Nat} (h : mc.Ok b) (m : M) : F_are_deeds [.fix (mc.maps.map tI)] m = .ok (.bl true) m := runF_rt rfl (by
  obtain ⟨f, r, e, hf⟩ := head_of h
  obtain ⟨s, ms⟩ := mc
  subst e
  have l1 := h.n1
  have l6 := h.n6
  have b1 := h.b1
  have b8 := h.b8
  simp only [List.length_cons] at l1 l6
  have c1 : (1 : Int) ≤ (r.length : Int) + 1 := by omega
  have c2 : (r.length : Int) + 1 ≤ 6 := by omega
  have c3 : (1 : Int) ≤ (f.length : Int) := by omega
  have c4 : (f.length : Int) ≤ 8 := by omega
  have seqT : ∀ l : List Nat, F_is_sequence [tI l] m = .ok (.bl true) m := fun l => is_sequence_tup _ m
  simp [g_are_deeds, is_sequence_fix, seqT, c1, c2]
  simp [tI, c3, c4]
  rw [fLc_all (xs := (f :: r).map tI) (src := srcT ((f :: r).map tI)) (fun _ => .bl true) (by simp [tI]) (isT _ _) (fun x hx => ?_) (by simp [LIM_eq]; omega)]
  · simp [allL_ok]
  · obtain ⟨a, ha, rfl⟩ := List.mem_map.mp hx
    have := is_map_ok (h.ent a ha) (h.len a ha) (by rw [LIM_eq]; omega) m
    refine ⟨_, rfl, ?_⟩
    simp [wipeD, hf, this])
theorem check_machine_fix {mc : Mach} {b : Nat} (h : mc.Ok b) (m : M) : F_check_machine [machF mc] m = .ok (machD mc) m := runF_rt rfl (by
  have hd := are_deeds_fix h m
  obtain ⟨f, r, e, hf⟩ := head_of h
  obtain ⟨s, ms⟩ := mc
  subst e
  have l6 := h.n6
  simp only [List.length_cons] at l6
  have hs : F_is_below [iD s, .int (f.length : Int)] m = .ok (.bl true) m := is_below_nat (by rw [hf]; exact h.st) m
  simp only [List.map_cons] at hd
  simp [g_check_machine, machF, is_sequence_tup, hd]
  simp [tI, hs]
  rw [fLc_all (xs := (f :: r).map tI) (src := srcT ((f :: r).map tI)) id (by simp [tI]) (isT _ _) (fun x hx => ?_) (by simp [LIM_eq]; omega)]
  · simp [LIM_eq, tI, machD, mapsD]
  · obtain ⟨a, ha, rfl⟩ := List.mem_map.mp hx
    refine ⟨_, rfl, ?_⟩
    simp [wipeD, tI])
/-- what stands for a machine -/
def IsM (mc : Mach) (d : D) : Prop := ∀ m, F_check_machine [d] m = .ok (machD mc) m
section
variable {mc : Mach} {b hs : Nat} (S : Set' mc b hs)
include S
theorem isM_D : IsM mc (machD mc) := check_machine_ok S.m
theorem isM_F : IsM mc (machF mc) := check_machine_fix S.m
theorem tf_of {h : Hist} (ok : HOk hs mc.maps.length h) (hl : h.length ≤ 12) : TF (Dl.cnt hs h) (brd mc.maps mc.start h) b := ⟨by rw [cnt_len]; exact S.h1, by rw [cnt_len]; exact S.h4, cnt_le hl, fun v => brd_ok S ok v⟩
omit S in
theorem ok2 {h : Hist} (ok : HOk hs mc.maps.length h) : ∀ p ∈ h, p.1 < hs ∧ p.2 < mc.maps.length := fun p hp => ⟨ok.hand p hp, ok.deed p hp⟩
def nrm (mc : Mach) (hs : Nat) (h : Hist) : Hist := norm mc.maps mc.start hs h
omit S in
theorem nrm_ok {h : Hist} (ok : HOk hs mc.maps.length h) : HOk hs mc.maps.length (nrm mc hs h) := ⟨fun p hp => ((norm_wit (start := mc.start) (ok2 ok)).ok p hp).1, fun p hp => ((norm_wit (start := mc.start) (ok2 ok)).ok p hp).2⟩
theorem normal_of_ok {h : Hist} {mD d : D} {m : M} (hM : IsM mc mD) (hd : IsHist m d h) (ok : HOk hs mc.maps.length h) (hl : h.length ≤ 12) (hw : Wf m) : F_normal_of [mD, iD hs, d] m = .ok (histD (nrm mc hs h)) m := runF_rt rfl (by
  have e1 := table_of_ok S hd ok hl hw
  have e2 := normal_ok S.m (mD := machD mc) (d := tab mc hs h) (tf_of S ok hl) (wit_self (ok2 ok)) hl hw (check_machine_ok S.m m) (check_tab S ok hl m)
  simp [g_normal_of, hM m, e1, e2]
  rfl)
theorem is_normal_ok {h : Hist} {mD d : D} {m : M} (hM : IsM mc mD) (hd : IsHist m d h) (ok : HOk hs mc.maps.length h) (hl : h.length ≤ 12) (hw : Wf m) : F_is_normal [mD, iD hs, d] m = .ok (.bl (decide (nrm mc hs h = h))) m := runF_rt rfl (by
  have e1 := check_history_ok S.m S.h1 S.h4 hd ok (by rw [LIM_eq]; omega)
  have e2 := normal_of_ok S (isM_D S) (isHist_t m h) ok hl hw
  have dp : ∀ h : Hist, (histD h).dep ≤ 64 := fun h => by
    simp only [histD, D.dep]
    have := deps_le (ds := h.map letD) (k := 2) fun d hd => by
      obtain ⟨p, _, rfl⟩ := List.mem_map.mp hd
      simp [letD, D.dep, D.deps]
    omega
  have e3 := gEq_num (a := histD (nrm mc hs h)) (b := histD h) (nums_map (fun _ => rfl) _) (nums_map (fun _ => rfl) _) (dp _) (dp _) m
  have e4 : (histD (nrm mc hs h) = histD h) ↔ (nrm mc hs h = h) := by
    constructor
    · intro q
      simp only [histD, D.tup.injEq] at q
      refine map_inj (f := letD) (fun {a c} hq => ?_) q
      obtain ⟨a1, a2⟩ := a
      obtain ⟨c1, c2⟩ := c
      simp only [letD, D.tup.injEq, List.cons.injEq, D.int.injEq, and_true] at hq
      obtain ⟨q1, q2⟩ := hq
      simp only [Prod.mk.injEq]
      omega
    · intro q
      rw [q]
  simp [g_is_normal, hM m, e1, e2, e3, e4])
end
/-! ### tables handed in as lists -/
theorem are_counts_ref {cs : List Nat} {n : Nat} {m : M} (hn : m[n]? = some (.lst (cs.map iD))) (h1 : 1 ≤ cs.length) (h4 : cs.length ≤ 4) : F_are_counts [.ref n] m = .ok (.bl true) m := runF_rt rfl (by
  have c1 : (1 : Int) ≤ (cs.length : Int) := by omega
  have c2 : (cs.length : Int) ≤ 4 := by omega
  have hs := is_sequence_ref hn
  simp [g_are_counts, hs, hn, c1, c2]
  rw [fLc_y (src := srcL n cs.length) cs iD (fun _ => .bl true) (by simp [srcK_l hn]) (isL hn (by simp)) (by simp [LIM_eq]; omega) fun a ha => ⟨_, rfl, ?_⟩]
  · simp only [bind_ok]
    rw [allL_ok (fun d hd => by obtain ⟨_, _, rfl⟩ := List.mem_map.mp hd; rfl)]
    simp
  · simp [wipeD, is_number_nat])
theorem check_part_ref {cs es : List Nat} {n t p q : Nat} {m : M} (ht : m[t]? = some (.lst [.ref p, .ref q])) (hp' : m[p]? = some (.lst (cs.map iD))) (hq : m[q]? = some (.lst (es.map iD))) (h1 : 1 ≤ cs.length) (h4 : cs.length ≤ 4) (hp : Dl.prd cs ≤ 30000) (hl : es.length = Dl.prd cs) (he : ∀ e ∈ es, e < n) (h8 : ∀ n ∈ cs, n ≤ 12) : F_check_part [.ref t, iD n] m = .ok (.tup [tI cs, tI es]) m := by
  refine RW.eq (run_w rfl ?_)
  have i0 : gIx (.ref t) (.int 0) m = .ok (.ref p) m := by rw [e_ixL _ ht]; rfl
  have i1 : gIx (.ref t) (.int 1) m = .ok (.ref q) m := by rw [e_ixL _ ht]; rfl
  have ea := are_counts_ref hp' h1 h4
  have s1 := is_sequence_ref ht
  have s2 := is_sequence_ref hq
  simp [g_check_part, startD, s1, ht, i0, ea, srcK_l hp']
  let I : List Nat → List (Option D) → M → Prop := fun pre vs m2 => ∃ c, vs = [some (iD (Dl.prd pre)), c] ∧ m2 = m
  refine for_l cs iD rfl rfl [2, 3] I ⟨none, rfl, rfl⟩ (fun pre vs m2 h => by obtain ⟨_, _, rfl⟩ := h; exact hp') ?_ ?_
  · rintro pre a post vs m2 hl ⟨c, rfl, rfl⟩
    have ha : a ≤ 12 := h8 a (by rw [hl]; simp)
    have hc : cMul (Dl.prd pre : Int) ((a : Int) + 1) = true := cMul_iff.mpr (.inr ⟨by omega, by omega⟩)
    have e : Dl.prd (pre ++ [a]) = Dl.prd pre * (a + 1) := prd_snoc pre a
    have ea := aug_ok (i := 2) (f := fOp gAdd (fVar 3) (fC (.int 1))) (g := gMulI) (ρ := [some (.ref t), some (iD n), some (iD (Dl.prd pre)), some (iD a), none]) (m := m2) (m1 := m2) (m2 := m2) (x := iD (Dl.prd pre)) (y := .int ((a : Int) + 1)) (z := iD (Dl.prd (pre ++ [a]))) rfl (by simp) (by rw [e]; simp [hc])
    rw [bodyAt_n]
    show OW (sAug 2 _ _ [some (.ref t), some (iD n), some (iD (Dl.prd pre)), some (iD a), none] m2) _
    rw [ea]
    exact ⟨_, rfl, _, rfl, rfl⟩
  · rintro vs m2 ⟨c, rfl, rfl⟩
    have eall : fLc (fWalk (fOp gIx (fVar 0) (fC (.int 1)))) (gN 4) [4] fYes (fCall F_is_below (fCons (fVar 4) (fCons (fVar 1) fNil))) [some (.ref t), some (iD n), some (iD (Dl.prd cs)), c, none] m2 = .ok (es.map fun _ => .bl true) m2 := by
      refine fLc_y (src := srcL q es.length) es iD (fun _ => .bl true) (by simp [i1, srcK_l hq]) (isL hq (by simp)) (by rw [hl, LIM_eq]; omega) fun x hx => ⟨_, rfl, ?_⟩
      simp [wipeD, is_below_nat (he x hx)]
    have hn : gNe (.int (es.length : Int)) (iD (Dl.prd cs)) m2 = .ok (.bl false) m2 := by rw [hl]; simp
    have hlen : ((es.map iD).length : Int) = (es.length : Int) := by simp
    simp [i1, s2, hq, hl, eall, allL_ok, i0, hp']
    rw [if_pos (by rw [LIM_eq]; omega), gc_len rfl]
    exact ⟨rfl, rfl⟩
end K81

namespace K81
open PySem PyProof.Rows L2 Dl
/-! ### presses -/
def deedL (j x : Nat) : List D := [.str "deed", iD j, iD x]
def backL (j : Nat) : List D := [.str "back", iD j]
theorem is_string_ok (z : Str) (m : M) : F_is_string [.str z] m = .ok (.bl true) m := runF_rt rfl (by simp [g_is_string, tyD, kb9])
theorem db : ¬ (("deed" : Str) = ("back" : Str)) := by decide
theorem bd : ¬ (("back" : Str) = ("deed" : Str)) := by decide
theorem is_below_lit {a : Nat} {n : Int} (h : (a : Int) < n) (m : M) : F_is_below [iD a, .int n] m = .ok (.bl true) m := is_below_ok (by omega) h m
theorem is_press_deed {j x k : Nat} {m : M} (hk : m[k]? = some (.lst (deedL j x))) (hj : j < 4) (hx : x < 6) : F_is_press [.ref k] m = .ok (.bl true) m := runF_rt rfl (by
  have s1 := is_sequence_ref hk
  have i0 : gIx (.ref k) (.int 0) m = .ok (.str "deed") m := by rw [e_ixL _ hk]; rfl
  have i1 : gIx (.ref k) (.int 1) m = .ok (iD j) m := by rw [e_ixL _ hk]; rfl
  have i2 : gIx (.ref k) (.int 2) m = .ok (iD x) m := by rw [e_ixL _ hk]; rfl
  have b1 := is_below_lit (a := j) (n := 4) (by omega) m
  have b2 := is_below_lit (a := x) (n := 6) (by omega) m
  have t1 : tabV tab_PARTS "deed" = some 3 := by decide
  simp [g_is_press, s1, hk, deedL, i0, i1, i2, is_string_ok, fTabNI, fTabIx, t1, b1, b2, gEq_str, db])
theorem is_press_back {j k : Nat} {m : M} (hk : m[k]? = some (.lst (backL j))) (hj : j < 4) : F_is_press [.ref k] m = .ok (.bl true) m := runF_rt rfl (by
  have s1 := is_sequence_ref hk
  have i0 : gIx (.ref k) (.int 0) m = .ok (.str "back") m := by rw [e_ixL _ hk]; rfl
  have i1 : gIx (.ref k) (.int 1) m = .ok (iD j) m := by rw [e_ixL _ hk]; rfl
  have b1 := is_below_lit (a := j) (n := 4) (by omega) m
  have t1 : tabV tab_PARTS "back" = some 2 := by decide
  simp [g_is_press, s1, hk, backL, i0, i1, is_string_ok, fTabNI, fTabIx, t1, b1, gEq_str])
theorem check_press_deed {j x k : Nat} {m : M} (hk : m[k]? = some (.lst (deedL j x))) (hj : j < 4) (hx : x < 6) : F_check_press [.ref k] m = .ok (.tup (deedL j x)) m := runF_rt rfl (by
  simp [g_check_press, is_press_deed hk hj hx, hk])
theorem check_press_back {j k : Nat} {m : M} (hk : m[k]? = some (.lst (backL j))) (hj : j < 4) : F_check_press [.ref k] m = .ok (.tup (backL j)) m := runF_rt rfl (by
  simp [g_check_press, is_press_back hk hj, hk])
/-! ### the last place -/
def lpS (j : Nat) (acc : Int) (p : (Nat × Nat) × Nat) : Int := if p.1.1 = j then (p.2 : Int) else acc
def lpZ (j : Nat) (l : List ((Nat × Nat) × Nat)) : Int := l.foldl (lpS j) (-1)
theorem lp_none {j : Nat} : ∀ (b' : Hist) (n : Nat) (acc : Int), num1 b' j = 0 → (b'.zipIdx n).foldl (lpS j) acc = acc
  | [], _, _, _ => rfl
  | p :: t, n, acc, h => by
    rw [num1_cons] at h
    have hne : ¬ p.1 = j := fun q => by rw [if_pos q] at h; omega
    rw [List.zipIdx_cons, List.foldl_cons]
    have : lpS j acc (p, n) = acc := if_neg hne
    rw [this]
    exact lp_none t _ _ (by omega)
theorem lp_at {a b' : Hist} {j d : Nat} (hb : num1 b' j = 0) : lpZ j (a ++ (j, d) :: b').zipIdx = (a.length : Int) := by
  unfold lpZ
  rw [List.zipIdx_append, List.foldl_append, List.zipIdx_cons, List.foldl_cons, lp_none b' _ _ hb]
  simp [lpS]
theorem hist_srcE (h : Hist) : SrcC (srcTE (h.map letD)) (h.zipIdx.map fun p => .tup [.int (p.2 : Nat), letD p.1]) := by
  have := cTE (h.map letD)
  rw [List.zipIdx_map, List.map_map] at this
  exact this
theorem letD_0 (p : Nat × Nat) (m : M) : gIx (letD p) (.int 0) m = .ok (iD p.1) m := rfl
theorem letD_1 (p : Nat × Nat) (m : M) : gIx (letD p) (.int 1) m = .ok (iD p.2) m := rfl
theorem last_place_ok (h : Hist) (j : Nat) (m : M) : F_last_place [histD h, iD j] m = .ok (.int (lpZ j h.zipIdx)) m := by
  refine RW.eq (run_w rfl ?_)
  have eN : gNeg (.int 1) m = .ok (.int (-1)) m := rfl
  let I : List ((Nat × Nat) × Nat) → List (Option D) → M → Prop := fun pre vs m2 => ∃ a c, vs = [some (.int (lpZ j pre)), a, c] ∧ m2 = m
  simp [g_last_place, startD, eN]
  show OW (forL (srcTE (h.map letD)) _ _ _ _ _ _) _
  refine for_c h.zipIdx (fun p => .tup [.int (p.2 : Nat), letD p.1]) (hist_srcE h) (by simp [srcTE]) [2, 3, 4] I ⟨none, none, rfl, rfl⟩ ?_ ?_
  · rintro pre p post vs m2 hl ⟨a, c, rfl, rfl⟩
    have e : lpZ j (pre ++ [p]) = if p.1.1 = j then (p.2 : Int) else lpZ j pre := by
      unfold lpZ
      rw [List.foldl_append]
      rfl
    rw [bodyAt_t2]
    show OW (sIf _ _ _ [some (histD h), some (iD j), some (.int (lpZ j pre)), some (.int (p.2 : Nat)), some (letD p.1)] m2) _
    by_cases q : p.1.1 = j
    · rw [if_pos q] at e
      simp [letD_0, q]
      exact ⟨_, rfl, _, _, by rw [e], rfl⟩
    · rw [if_neg q] at e
      have q' : ¬ ((p.1.1 : Int) = (j : Int)) := by omega
      simp [letD_0, q, q']
      exact ⟨_, rfl, _, _, by rw [e], rfl⟩
  · rintro vs m2 ⟨a, c, rfl, rfl⟩
    simp [gc_len]
theorem cut_hist {a b' : Hist} {p : Nat × Nat} : cutD ((a ++ p :: b').map letD) none (some (a.length : Int)) = a.map letD ∧ cutD ((a ++ p :: b').map letD) (some ((a.length : Int) + 1)) none = b'.map letD := by
  constructor
  · rw [cut_take (by simp)]
    simp
  · rw [show (a.length : Int) + 1 = ((a.length + 1 : Nat) : Int) by omega, cut_drop (by simp), List.map_append, List.map_cons]
    rw [show a.length + 1 = (a.map letD ++ [letD p]).length by simp, show a.map letD ++ letD p :: b'.map letD = (a.map letD ++ [letD p]) ++ b'.map letD by simp, List.drop_left]
theorem behind_deed {h : Hist} (j x : Nat) (hl : h.length ≤ 1000) (m : M) : F_behind [histD h, .tup (deedL j x)] m = .ok (histD (h ++ [(j, x)])) m := runF_rt rfl (by
  have l1 : h.length + 1 ≤ LIM := by rw [LIM_eq]; omega
  have l2 : 1 ≤ LIM := by rw [LIM_eq]; omega
  have l3 : 2 ≤ LIM := by rw [LIM_eq]; omega
  simp [g_behind, deedL, gEq_str, histD, l1, l2, l3, letD])
theorem behind_back {a b' : Hist} {j d : Nat} (hb : num1 b' j = 0) (hl : (a ++ (j, d) :: b').length ≤ 1000) (m : M) : F_behind [histD (a ++ (j, d) :: b'), .tup (backL j)] m = .ok (histD (a ++ b')) m := runF_rt rfl (by
  have e := last_place_ok (a ++ (j, d) :: b') j m
  rw [lp_at hb] at e
  obtain ⟨c1, c2⟩ := cut_hist (a := a) (b' := b') (p := (j, d))
  have l1 : a.length + b'.length ≤ LIM := by
    rw [List.length_append, List.length_cons] at hl
    rw [LIM_eq]
    omega
  simp only [histD] at e
  simp only [List.map_append, List.map_cons] at c1 c2 e
  simp [g_behind, backL, gEq_str, bd, histD, e, c1, c2, l1])
theorem press_here_deed {mc : Mach} {j x k hs : Nat} {m : M} (hk : m[k]? = some (.lst (deedL j x))) (hj4 : j < 4) (hx6 : x < 6) (hj : j < hs) (hx : x < mc.maps.length) : F_press_here [machD mc, iD hs, .ref k] m = .ok (.tup (deedL j x)) m := runF_rt rfl (by
  have e := check_press_deed hk hj4 hx6
  have n1 : ¬ ((hs : Int) ≤ (j : Int)) := by omega
  have n2 : ¬ ((mc.maps.length : Int) ≤ (x : Int)) := by omega
  have n1' : ¬ (hs ≤ j) := by omega
  have n2' : ¬ (mc.maps.length ≤ x) := by omega
  simp only [deedL] at e
  simp [g_press_here, e, deedL, gEq_str, n1', machD, mapsD, n2'])
theorem press_here_back {mc : Mach} {j k hs : Nat} {m : M} (hk : m[k]? = some (.lst (backL j))) (hj4 : j < 4) (hj : j < hs) : F_press_here [machD mc, iD hs, .ref k] m = .ok (.tup (backL j)) m := runF_rt rfl (by
  have e := check_press_back hk hj4
  have n1' : ¬ (hs ≤ j) := by omega
  simp only [backL] at e
  simp [g_press_here, e, backL, gEq_str, n1', bd])
theorem need_press_deed {mc : Mach} {j x k hs : Nat} {h : Hist} {m : M} (hk : m[k]? = some (.lst (deedL j x))) (hj4 : j < 4) (hx6 : x < 6) (hj : j < hs) (hx : x < mc.maps.length) : F_need_press [machD mc, iD hs, histD h, .ref k] m = .ok (.tup (deedL j x)) m := runF_rt rfl (by
  have e := press_here_deed hk hj4 hx6 hj hx
  simp only [deedL] at e
  simp [g_need_press, e, deedL, gEq_str, db])
theorem need_press_back {mc : Mach} {a b' : Hist} {j d k hs : Nat} {m : M} (hk : m[k]? = some (.lst (backL j))) (hj4 : j < 4) (hj : j < hs) (hb : num1 b' j = 0) : F_need_press [machD mc, iD hs, histD (a ++ (j, d) :: b'), .ref k] m = .ok (.tup (backL j)) m := runF_rt rfl (by
  have e := press_here_back (mc := mc) hk hj4 hj
  have e2 := last_place_ok (a ++ (j, d) :: b') j m
  rw [lp_at hb] at e2
  have n1 : ¬ ((a.length : Int) < 0) := by omega
  simp only [backL] at e
  simp [g_need_press, e, backL, gEq_str, e2, n1])
/-- a press and what stands behind it -/
def Press (m : M) (k hs n : Nat) (h h' : Hist) : Prop := (∃ j x, m[k]? = some (.lst (deedL j x)) ∧ j < hs ∧ x < n ∧ h' = h ++ [(j, x)]) ∨ (∃ a j d b', m[k]? = some (.lst (backL j)) ∧ num1 b' j = 0 ∧ h = a ++ (j, d) :: b' ∧ h' = a ++ b')
section
variable {mc : Mach} {b hs : Nat} (S : Set' mc b hs)
include S
theorem pressed_ok {mD d : D} {k : Nat} {h h' : Hist} {m : M} (hM : IsM mc mD) (hd : IsHist m d h) (ok : HOk hs mc.maps.length h) (hl : h.length ≤ 12) (hp : Press m k hs mc.maps.length h h') : F_pressed [mD, iD hs, d, .ref k] m = .ok (histD h') m := runF_rt rfl (by
  have e1 := check_history_ok S.m S.h1 S.h4 hd ok (by rw [LIM_eq]; omega)
  have h4 := S.h4
  have n6 := S.m.n6
  rcases hp with ⟨j, x, hk, hj, hx, rfl⟩ | ⟨a, j, dd, b', hk, hb, rfl, rfl⟩
  · have e2 := need_press_deed (mc := mc) (h := h) hk (by omega) (by omega) hj hx
    simp [g_pressed, hM m, e1, e2, behind_deed j x (show h.length ≤ 1000 by omega) m]
  · have hj := ok.hand (j, dd) (by simp)
    have e2 := need_press_back (mc := mc) (a := a) (d := dd) hk (by omega) hj hb
    simp [g_pressed, hM m, e1, e2, behind_back hb (Nat.le_trans hl (by decide)) m])
end
end K81

namespace K81
open PySem PyProof.Rows L2 Dl
theorem fLc_inv {fi : FI} {gt : GT} {vs : List Nat} {t : FT} {e : FE} {ρ : Sl} {m : M} {src : Src} {n : Nat} (I : Nat → List D → M → Prop) (h1 : fi ρ m = .ok src m) (hn : src.n = n)
    (hs : ∀ i acc m, i < n → I i acc m → ∃ d ρ', src.get m i = some d ∧ gt d (wipeD ρ vs) = some ρ' ∧ ((∃ m1, t ρ' m = .ok false m1 ∧ I (i + 1) acc m1) ∨ ∃ m1 y m2, t ρ' m = .ok true m1 ∧ e ρ' m1 = .ok y m2 ∧ acc.length < LIM ∧ I (i + 1) (acc ++ [y]) m2))
    (hf : ∀ acc m, I n acc m → src.fin m = true) (h0 : I 0 [] m) : ∃ acc' m', fLc fi gt vs t e ρ m = .ok acc' m' ∧ I n acc' m' := by
  unfold fLc
  rw [h1]
  simp only [bind_ok]
  subst hn
  exact lcL_inv I rfl hs hf src.n 0 [] m (by omega) h0
theorem seq_assoc (A B C : FS) (ρ : Sl) (m : M) : sSeq A (sSeq B C) ρ m = seqK (sSeq A B ρ m) C := by
  rw [s_seq, s_seq]
  cases A ρ m with
  | nx ρ' m' => rw [seqK_nx, seqK_nx, s_seq]
  | rt d m' => rfl
  | bk ρ' m' => rfl
  | ct ρ' m' => rfl
  | exc ρ' e m' => rfl
  | bad => rfl
theorem gc_new {m : M} {o : O} (hb : o.blw m.length = true) : gc m.length (.ref m.length) (m ++ [o]) = (.ref m.length, m ++ [o]) := by
  unfold gc
  split
  · rw [if_neg (by simp [D.blw])]
    simp only [at_snoc, hb, if_true]
    rw [List.take_append_of_le_length (Nat.le_refl _), List.take_length]
  · rfl
theorem runF_new {N np : Nat} {g : FS} {ds : List D} {m : M} {o : O} (hl : ds.length = np) (h : g (startD N ds) m = .rt (.ref m.length) (m ++ [o])) (hb : o.blw m.length = true) : runF N np g ds m = .ok (.ref m.length) (m ++ [o]) := by
  unfold runF
  rw [if_pos hl, h]
  show Res.ok (gc m.length (.ref m.length) (m ++ [o])).1 (gc m.length (.ref m.length) (m ++ [o])).2 = _
  rw [gc_new hb]
def bx (g z : Int) : O := .lst [.int g, .int z]
theorem bx_blw (g z : Int) (L : Nat) : (bx g z).blw L = true := rfl
theorem cPow_lit : cPow 10 18 = true := by
  unfold cPow
  rw [BIG_eq, BIG_eq]
  decide
theorem mulR {i j : Int} (h : -(2 ^ 64) < j ∧ j < 2 ^ 64) : cMul i j = true := cMul_iff.mpr (.inr h)
theorem mulL {i j : Int} (h : -(2 ^ 64) < i ∧ i < 2 ^ 64) : cMul i j = true := cMul_iff.mpr (.inl h)
theorem e_pow (i j : Int) (m : M) : gPow (.int i) (.int j) m = if cPow i j then .ok (.int (i ^ j.toNat)) m else .bad := rfl
theorem box_ok (ns : List Int) (hl : ns.length ≤ 63) (k : Nat) (hk : k ≤ 10) (m : M) : ∃ g z, F__law_box [scriptD ns, iD k] m = .ok (.ref m.length) (m ++ [bx g z]) := by
  have hit : itemsD m (scriptD ns) = some (ns.map D.int) := rfl
  have m1 : ∀ x : Int, cMul 9241 x = true := fun x => mulL (by decide)
  have m2 : ∀ x : Int, cMul x 52361 = true := fun x => mulR (by decide)
  have m3 : ∀ x : Int, cMul x 40014 = true := fun x => mulR (by decide)
  have m4 : ∀ x : Int, cMul 3371 x = true := fun x => mulL (by decide)
  have c1 : cMod (0 : Int) 2147483563 = true := by decide
  have cm : ∀ x : Int, cMod x 2147483563 = true := fun x => decide_eq_true (by decide)
  have h1 : ∃ c : Int, (sSeq (sSet 2 (fOp gAdd (fOp gMul (fC (.int 9241)) (fVar 1)) (fC (.int 3371))))
 (sIf (fTest (fOp gLt (fVar 1) (fCB gLen (fCons (fVar 0) fNil))))
 (sSet 2 (fCB gAbs (fCons (fCB gInt (fCons (fOp gIx (fVar 0) (fVar 1)) fNil)) fNil)))
 (sIf (fTest (fOp gGt (fCB gLen (fCons (fVar 0) fNil)) (fC (.int 0))))
 (sSet 2 (fOp gAdd (fVar 2) (fOp gMul (fOp gMod (fCB gInt (fCons (fCB gAbs (fCons (fCB gInt (fCons (fOp gIx (fVar 0) (fOp gMod (fCB gInt (fCons (fVar 1) fNil)) (fCB gLen (fCons (fVar 0) fNil)))) fNil)) fNil)) fNil)) (fC (.int 2147483563))) (fC (.int 52361)))))
 sNext))) [some (scriptD ns), some (iD k), none, none] m = .nx [some (scriptD ns), some (iD k), some (.int c), none] m := by
    by_cases hkl : k < ns.length
    · have hx : gIx (scriptD ns) (.int (k : Int)) m = .ok (.int ns[k]) m := by
        show getK (atI (ns.map D.int) (k : Int)) m = _
        rw [at_nat (x := .int ns[k]) (by simp [hkl])]
        rfl
      exact ⟨_, by simp [m1, hit, hkl, hx]; rfl⟩
    · by_cases h0 : 0 < ns.length
      · have hr : (k % ns.length) < ns.length := Nat.mod_lt _ h0
        have hc : cMod (k : Int) (ns.length : Int) = true := decide_eq_true (by omega)
        have he : (k : Int) % (ns.length : Int) = ((k % ns.length : Nat) : Int) := by omega
        have hx : gIx (scriptD ns) (.int ((k % ns.length : Nat) : Int)) m = .ok (.int ns[k % ns.length]) m := by
          show getK (atI (ns.map D.int) ((k % ns.length : Nat) : Int)) m = _
          rw [at_nat (x := .int ns[k % ns.length]) (by simp [hr])]
          rfl
        rw [← he] at hx
        exact ⟨_, by simp [m1, hit, hkl, h0, hc, hx, cm, m2]; rfl⟩
      · have h0' : ns.length = 0 := by omega
        exact ⟨_, by simp [m1, hit, h0']; rfl⟩
  obtain ⟨c, hc⟩ := h1
  have h2 : ∃ g : Int, (fIf (fTest (fOp gGe (fVar 2) (fOp gPow (fC (.int 10)) (fC (.int 18))))) (fVar 2) (fC (.int 0))) [some (scriptD ns), some (iD k), some (.int c), none] m = .ok (.int g) m := by
    simp only [e_if, e_test, e_op, e_var, List.getElem?_cons_zero, List.getElem?_cons_succ, bind_ok, e_c, e_pow, cPow_lit, if_true, e_ge, e_asB]
    by_cases q : (10 : Int) ^ (18 : Int).toNat ≤ c
    · exact ⟨c, by rw [decide_eq_true q]; rfl⟩
    · exact ⟨0, by rw [decide_eq_false q]; rfl⟩
  obtain ⟨g, hg⟩ := h2
  have h3 : ∃ z, g__law_box (startD 4 [scriptD ns, iD k]) m = .rt (.ref m.length) (m ++ [bx g z]) := by
    unfold g__law_box
    rw [seq_assoc]
    have hc' := hc
    simp only [startD_eq, List.map_cons, List.map_nil, List.length_cons, List.length_nil, List.cons_append, List.nil_append]
    rw [show List.replicate (4 - (0 + 1 + 1)) (none : Option D) = [none, none] from rfl, hc]
    have l2 : 2 ≤ LIM := by rw [LIM_eq]; omega
    refine ⟨(c % 2147483563 * 40014 + 3371 * k) % 2147483563 + 1, ?_⟩
    simp only [seqK_nx, s_seq, s_set, hg, out_ok, List.set]
    simp [cm, m3, m4, l2, bx]
  obtain ⟨z, hz⟩ := h3
  exact ⟨g, z, runF_new rfl hz (bx_blw g z _)⟩
/-! ### draws -/
theorem take_ok {n k : Nat} {m : M} {g z : Int} (hb : m[n]? = some (bx g z)) (hk : 1 ≤ k) (hk2 : k < 1000000) : ∃ (r : Nat) (g' z' : Int), r < k ∧ F__law_take [.ref n, iD k] m = .ok (iD r) (m.set n (bx g' z')) := by
  have hb' : m[n]? = some (.lst [.int g, .int z]) := hb
  have i0 : ∀ mm : M, ∀ a c : Int, mm[n]? = some (.lst [.int a, .int c]) → gIx (.ref n) (.int 0) mm = .ok (.int a) mm := fun mm a c h => by rw [e_ixL _ h, at0]; rfl
  have i1 : ∀ mm : M, ∀ a c : Int, mm[n]? = some (.lst [.int a, .int c]) → gIx (.ref n) (.int 1) mm = .ok (.int c) mm := fun mm a c h => by rw [e_ixL _ h, at1]; rfl
  have hn : n < m.length := (List.getElem?_eq_some_iff.mp hb).1
  have cm : cMod g (k : Int) = true := decide_eq_true (by omega)
  have cd : cDiv g (k : Int) = true := cDiv_iff.mpr (by omega)
  have set0 : ∀ x : Int, ixN [D.int g, D.int z].length 0 = some 0 := fun _ => rfl
  have emod : ∀ x : Int, ∃ r : Nat, r < k ∧ x % (k : Int) = (r : Int) := fun x => by
    have h1 := Int.emod_nonneg x (b := (k : Int)) (by omega)
    have h2 := Int.emod_lt_of_pos x (b := (k : Int)) (by omega)
    exact ⟨(x % (k : Int)).toNat, by omega, by omega⟩
  by_cases h0 : 0 < g
  · obtain ⟨r, hr, er⟩ := emod g
    refine ⟨r, g / k, z, hr, runF_rtS rfl ?_ (by simp)⟩
    have e1 := sub_ok (f := fOp gFdiv (fOp gIx (fVar 0) (fC (.int 0))) (fVar 1)) (fo := fVar 0) (fi := fC (.int 0)) (ρ := [some (.ref n), some (iD k), some (iD r), none]) (m := m) (m1 := m) (m2 := m) (m3 := m) (d := .int (g / k)) (n := n) (j := 0) (k := 0) (xs := [.int g, .int z])
      (by simp [i0 m g z hb', cd]) rfl rfl hb' rfl
    simp [g__law_take, i0 m g z hb', h0, cm, er, e1]
    rfl
  · have ha : cMul z 39373 = true := mulR (by decide)
    have hm1 : ∀ x : Int, cMod x 2147483647 = true := fun x => decide_eq_true (by decide)
    have hm2 : ∀ x : Int, cMod x 2147483399 = true := fun x => decide_eq_true (by decide)
    have hm3 : ∀ x : Int, cMul x 40692 = true := fun x => mulR (by decide)
    have hm4 : ∀ x : Int, cMul x 2147483629 = true := fun x => mulR (by decide)
    have hd : ∀ x : Int, cDiv x 8209 = true := fun x => cDiv_iff.mpr (by decide)
    have hck : ∀ x : Int, cMod x (k : Int) = true := fun x => decide_eq_true (by omega)
    let raw : Int := (z * 39373 + 137) % 2147483647
    let z' : Int := (raw * 40692 + 41) % 2147483399 + 1
    obtain ⟨r, hr, er⟩ := emod ((raw * 2147483629 + z') / 8209)
    refine ⟨r, g, z', hr, runF_rtS rfl ?_ (by simp)⟩
    have e1 := sub_ok (f := (fOp gAdd (fOp gMod (fCB gInt (fCons (fOp gAdd (fOp gMul (fVar 3) (fC (.int 40692))) (fC (.int 41))) fNil)) (fC (.int 2147483399))) (fC (.int 1)))) (fo := fVar 0) (fi := fC (.int 1)) (ρ := [some (.ref n), some (iD k), none, some (.int raw)]) (m := m) (m1 := m) (m2 := m) (m3 := m) (d := .int z') (n := n) (j := 1) (k := 1) (xs := [.int g, .int z])
      (by simp [hm3, hm2, z']) rfl rfl hb' rfl
    have e2 : gIx (.ref n) (.int 1) (m.set n (bx g z')) = .ok (.int z') (m.set n (bx g z')) := i1 _ g z' (by simp [hn, bx])
    have hraw : (z * 39373 + 137) % 2147483647 = raw := rfl
    have e1' : sSub (fOp gAdd (fOp gMod (fCB gInt (fCons (fOp gAdd (fOp gMul (fVar 3) (fC (.int 40692))) (fC (.int 41))) fNil)) (fC (.int 2147483399))) (fC (.int 1))) (fVar 0) (fC (.int 1)) [some (.ref n), some (iD k), none, some (.int raw)] m = .nx [some (.ref n), some (iD k), none, some (.int raw)] (m.set n (bx g z')) := e1
    simp only [g__law_take, s_seq, s_if, e_test, e_op, e_var, startD_eq, List.map_cons, List.map_nil, List.length_cons, List.length_nil, List.cons_append, List.nil_append]
    simp [i0 m g z hb', h0, i1 m g z hb', ha, hm1, hraw, e1', e2, hm4, hd, hck, er]
end K81

namespace K81
open PySem PyProof.Rows L2 Dl
/-- a box stands at n -/
def Box (n : Nat) (m : M) : Prop := ∃ g z, m[n]? = some (bx g z)
/-- m with another box at n -/
def Up (n : Nat) (m m' : M) : Prop := ∃ g z, m' = m.set n (bx g z)
theorem Up.box {n : Nat} {m m' : M} (h : Box n m) (u : Up n m m') : Box n m' := by
  obtain ⟨g, z, hb⟩ := h
  obtain ⟨g', z', rfl⟩ := u
  exact ⟨g', z', by rw [List.getElem?_set_self (List.getElem?_eq_some_iff.mp hb).1]⟩
theorem Up.trans {n : Nat} {m m' m'' : M} (u : Up n m m') (v : Up n m' m'') : Up n m m'' := by
  obtain ⟨g, z, rfl⟩ := u
  obtain ⟨g', z', rfl⟩ := v
  exact ⟨g', z', by rw [List.set_set]⟩
theorem Up.len {n : Nat} {m m' : M} (u : Up n m m') : m'.length = m.length := by
  obtain ⟨g, z, rfl⟩ := u
  simp
theorem Up.wf {n : Nat} {m m' : M} (u : Up n m m') (h : Wf m) : Wf m' := by
  obtain ⟨g, z, rfl⟩ := u
  exact h.set (bx_blw g z _)
theorem Up.other {n k : Nat} {m m' : M} (u : Up n m m') (h : k ≠ n) : m'[k]? = m[k]? := by
  obtain ⟨g, z, rfl⟩ := u
  rw [List.getElem?_set_ne (Ne.symm h)]
theorem Up.refl {n : Nat} {m : M} (h : Box n m) : Up n m m := by
  obtain ⟨g, z, hb⟩ := h
  obtain ⟨hn, he⟩ := List.getElem?_eq_some_iff.mp hb
  refine ⟨g, z, ?_⟩
  rw [← he]
  simp
theorem Up.app {n : Nat} {m m' : M} {j : M} (u : Up n m m') (hn : n < m.length) : Up n (m ++ j) (m' ++ j) := by
  obtain ⟨g, z, rfl⟩ := u
  exact ⟨g, z, by rw [List.set_append_left _ _ hn]⟩
theorem Box.lt {n : Nat} {m : M} (h : Box n m) : n < m.length := by
  obtain ⟨g, z, hb⟩ := h
  exact (List.getElem?_eq_some_iff.mp hb).1
theorem Box.app {n : Nat} {m : M} (h : Box n m) (j : M) : Box n (m ++ j) := by
  obtain ⟨g, z, hb⟩ := h
  exact ⟨g, z, by rw [List.getElem?_append_left (List.getElem?_eq_some_iff.mp hb).1]; exact hb⟩
theorem take_up {n k : Nat} {m : M} (h : Box n m) (hk : 1 ≤ k) (hk2 : k < 1000000) : ∃ r m', r < k ∧ Up n m m' ∧ F__law_take [.ref n, iD k] m = .ok (iD r) m' := by
  obtain ⟨g, z, hb⟩ := h
  obtain ⟨r, g', z', hr, e⟩ := take_ok hb hk hk2
  exact ⟨r, _, hr, ⟨g', z', rfl⟩, e⟩
theorem gcR_up {n : Nat} {m m' : M} (u : Up n m m') (d : D) : gcR m.length (.ok d m') = .ok d m' := gcR_same' d u.len.symm
theorem pick_tup {n : Nat} {m : M} {xs : List D} (h : Box n m) (h1 : xs ≠ []) (h2 : xs.length < 1000000) : ∃ x m', x ∈ xs ∧ Up n m m' ∧ F__law_pick [.ref n, .tup xs] m = .ok x m' := by
  have h0 : 1 ≤ xs.length := List.length_pos_iff.mpr h1
  obtain ⟨r, m', hr, u, e⟩ := take_up h h0 h2
  have hx : gIx (.tup xs) (.int (r : Int)) m' = .ok xs[r] m' := tup_at (List.getElem?_eq_getElem hr) m'
  refine ⟨xs[r], m', List.getElem_mem hr, u, runF_rtS rfl ?_ u.len.symm⟩
  simp [g__law_pick, e, gcR_up u, hx]
theorem pick_list {n k : Nat} {m : M} {xs : List D} (h : Box n m) (hk : k ≠ n) (hx : m[k]? = some (.lst xs)) (h1 : xs ≠ []) (h2 : xs.length < 1000000) : ∃ x m', x ∈ xs ∧ Up n m m' ∧ F__law_pick [.ref n, .ref k] m = .ok x m' := by
  have h0 : 1 ≤ xs.length := List.length_pos_iff.mpr h1
  obtain ⟨r, m', hr, u, e⟩ := take_up h h0 h2
  have hx' : m'[k]? = some (.lst xs) := by rw [u.other hk]; exact hx
  have hg : gIx (.ref k) (.int (r : Int)) m' = .ok xs[r] m' := by
    rw [e_ixL _ hx', at_nat (List.getElem?_eq_getElem hr)]
    rfl
  refine ⟨xs[r], m', List.getElem_mem hr, u, runF_rtS rfl ?_ u.len.symm⟩
  simp [g__law_pick, hx, e, gcR_up u, hg]
/-- a pick out of a new list -/
theorem pick_new {n : Nat} {ρ : Sl} {m m1 : M} {xs : List D} {fa : FA} (hf : fa ρ m = .ok [.ref n, .ref m1.length] (m1 ++ [.lst xs])) (hm : Up n m m1) (hb : Box n m) (hw : Wf m) (h1 : xs ≠ []) (h2 : xs.length < 1000000) (hx : ∀ x ∈ xs, x.blw m.length = true) :
    ∃ x m', x ∈ xs ∧ Up n m m' ∧ fCall F__law_pick fa ρ m = .ok x m' := by
  have hb1 := hm.box hb
  have hw1 := hm.wf hw
  obtain ⟨x, m2, hxm, u2, e⟩ := pick_list (n := n) (k := m1.length) (m := m1 ++ [.lst xs]) (hb1.app _) (by have := hb1.lt; omega) (at_snoc _ _) h1 h2
  obtain ⟨g, z, rfl⟩ := u2
  rw [List.set_append_left _ _ hb1.lt] at e
  have u1 : Up n m1 (m1.set n (bx g z)) := ⟨g, z, rfl⟩
  refine ⟨x, m1.set n (bx g z), hxm, hm.trans u1, ?_⟩
  simp only [e_call, hf, bind_ok, e]
  refine gcR_junk (by rw [u1.len, hm.len]) (u1.wf hw1) ?_
  rw [u1.len, hm.len]
  exact hx x hxm
/-! ### machines drawn -/
def rotL (many by' : Nat) : List Nat := (List.range many).map fun b => (b + by') % many
/-- drawn board by board -/
theorem map_drawn {n many by' : Nat} {a : Option D} {m : M} (h : Box n m) (hw : Wf m) (h1 : 1 ≤ many) (h8 : many ≤ 8) :
    ∃ (f : List Nat) (m' : M), f.length = many ∧ (∀ x ∈ f, x < many) ∧ Up n m m' ∧ fLc (fRng1 (fVar 1)) (gN 4) [4] fYes (fCall F__law_pick (fCons (fVar 0) (fCons (fName (fLst (fCons (fOp gMod (fCB gInt (fCons (fOp gAdd (fVar 4) (fVar 3)) fNil)) (fVar 1)) (fCons (fVar 4) (fCons (fC (.int 0)) (fCons (fCall F__law_take (fCons (fVar 0) (fCons (fVar 1) fNil))) fNil)))))) fNil)))
      [some (.ref n), some (iD many), a, some (iD by'), none] m = .ok (f.map iD) m' := by
  have l4 : 4 ≤ LIM := by rw [LIM_eq]; omega
  obtain ⟨acc, m', e, u, f, rfl, hl, hf⟩ := fLc_inv (fi := fRng1 (fVar 1)) (gt := gN 4) (vs := [4]) (t := fYes) (e := (fCall F__law_pick (fCons (fVar 0) (fCons (fName (fLst (fCons (fOp gMod (fCB gInt (fCons (fOp gAdd (fVar 4) (fVar 3)) fNil)) (fVar 1)) (fCons (fVar 4) (fCons (fC (.int 0)) (fCons (fCall F__law_take (fCons (fVar 0) (fCons (fVar 1) fNil))) fNil)))))) fNil))))
    (ρ := [some (.ref n), some (iD many), a, some (iD by'), none]) (m := m) (src := srcR 0 many) (n := many) (fun i acc mm => Up n m mm ∧ ∃ l : List Nat, acc = l.map iD ∧ l.length = i ∧ ∀ x ∈ l, x < many) (by simp [rngK_n (k := many) (by rw [LIM_eq]; omega)]) rfl
    (by
      rintro i acc mm hi ⟨u, l, rfl, hl, hlt⟩
      have hb1 := u.box h
      obtain ⟨t1, ma, ht1, ua, ea⟩ := take_up (k := many) hb1 h1 (by omega)
      let ρ' : Sl := [some (.ref n), some (iD many), a, some (iD by'), some (iD i)]
      have hc : cMod ((i : Int) + by') (many : Int) = true := decide_eq_true (by omega)
      have hmod : ((i : Int) + by') % (many : Int) = (((i + by') % many : Nat) : Int) := by simp
      have hfa : (fCons (fVar 0) (fCons (fName (fLst (fCons (fOp gMod (fCB gInt (fCons (fOp gAdd (fVar 4) (fVar 3)) fNil)) (fVar 1)) (fCons (fVar 4) (fCons (fC (.int 0)) (fCons (fCall F__law_take (fCons (fVar 0) (fCons (fVar 1) fNil))) fNil)))))) fNil)) ρ' mm = .ok [.ref n, .ref ma.length] (ma ++ [.lst [iD ((i + by') % many), iD i, iD 0, iD t1]]) := by
        simp [ρ', hc, ea, gcR_up ua, l4]
      obtain ⟨x, m2, hx, u2, e2⟩ := pick_new hfa ua hb1 (u.wf hw) (by simp) (by simp) (fun x hx => by
        simp at hx
        rcases hx with rfl | rfl | rfl | rfl <;> rfl)
      have hxn : ∃ y : Nat, x = iD y ∧ y < many := by
        simp only [List.mem_cons, List.not_mem_nil, or_false] at hx
        rcases hx with rfl | rfl | rfl | rfl
        · exact ⟨_, rfl, Nat.mod_lt _ (by omega)⟩
        · exact ⟨i, rfl, hi⟩
        · exact ⟨0, rfl, by omega⟩
        · exact ⟨t1, rfl, ht1⟩
      obtain ⟨y, rfl, hy⟩ := hxn
      refine ⟨iD i, ρ', by simp [srcR], rfl, .inr ⟨mm, iD y, m2, rfl, e2, by rw [List.length_map, LIM_eq]; omega, u.trans u2, l ++ [y], by simp, by simp [hl], fun x hx => ?_⟩⟩
      rcases List.mem_append.mp hx with hx | hx
      · exact hlt x hx
      · have : x = y := by simpa using hx
        omega)
    (fun _ _ _ => rfl) ⟨Up.refl h, [], rfl, rfl, fun x hx => by simp at hx⟩
  exact ⟨f, m', hl, hf, u, e⟩
theorem map_ok {n many form : Nat} {m : M} (h : Box n m) (hw : Wf m) (h1 : 1 ≤ many) (h8 : many ≤ 8) : ∃ f m', f.length = many ∧ (∀ x ∈ f, x < many) ∧ (form = 0 → ∃ by', f = rotL many by') ∧ Up n m m' ∧ F__law_map [.ref n, iD many, iD form] m = .ok (tI f) m' := by
  have l4 : 4 ≤ LIM := by rw [LIM_eq]; omega
  have l1 : 1 ≤ LIM := by rw [LIM_eq]; omega
  have pb : ∃ (by' : Nat) (m1 : M), Up n m m1 ∧ (fCall F__law_pick (fCons (fVar 0) (fCons (fName (fLst (fCons (fC (.int 1)) (fCons (fC (.int 0)) (fCons (fCall F__law_take (fCons (fVar 0) (fCons (fVar 1) fNil))) (fCons (fCall F__law_take (fCons (fVar 0) (fCons (fVar 1) fNil))) fNil)))))) fNil))) [some (.ref n), some (iD many), some (iD form), none, none] m = .ok (iD by') m1 := by
    obtain ⟨t1, ma, ht1, ua, ea⟩ := take_up (k := many) h h1 (by omega)
    obtain ⟨t2, mb, ht2, ub, eb⟩ := take_up (k := many) (ua.box h) h1 (by omega)
    have hfa : (fCons (fVar 0) (fCons (fName (fLst (fCons (fC (.int 1)) (fCons (fC (.int 0)) (fCons (fCall F__law_take (fCons (fVar 0) (fCons (fVar 1) fNil))) (fCons (fCall F__law_take (fCons (fVar 0) (fCons (fVar 1) fNil))) fNil)))))) fNil)) [some (.ref n), some (iD many), some (iD form), none, none] m = .ok [.ref n, .ref mb.length] (mb ++ [.lst [iD 1, iD 0, iD t1, iD t2]]) := by
      simp [ea, gcR_up ua, eb, gcR_up ub, l4]
    obtain ⟨x, m2, hx, u2, e2⟩ := pick_new hfa (ua.trans ub) h hw (by simp) (by simp) (fun x hx => by
      simp only [List.mem_cons, List.not_mem_nil, or_false] at hx
      rcases hx with rfl | rfl | rfl | rfl <;> rfl)
    have : ∃ y : Nat, x = iD y := by
      simp only [List.mem_cons, List.not_mem_nil, or_false] at hx
      rcases hx with rfl | rfl | rfl | rfl <;> exact ⟨_, rfl⟩
    obtain ⟨y, rfl⟩ := this
    exact ⟨y, m2, u2, e2⟩
  obtain ⟨by', m2, u12, e1⟩ := pb
  have b2 := u12.box h
  have w2 := u12.wf hw
  have rot : ∀ mm, fLc (fRng1 (fVar 1)) (gN 4) [4] fYes (fOp gMod (fCB gInt (fCons (fOp gAdd (fVar 4) (fVar 3)) fNil)) (fVar 1)) [some (.ref n), some (iD many), some (iD form), some (iD by'), none] mm = .ok ((rotL many by').map iD) mm := fun mm => by
    rw [fLc_all (xs := (List.range many).map iD) (src := srcR 0 many) (fun x => match x with
      | .int i => .int ((i + by') % many)
      | _ => .non) (by simp [rngK_n (k := many) (by rw [LIM_eq]; omega)]) (isR _ _) (fun x hx => ?_) (by simp [LIM_eq]; omega)]
    · congr 1
      unfold rotL
      rw [List.map_map, List.map_map]
      refine List.map_congr_left fun x _ => ?_
      simp [iD]
    · obtain ⟨i, hi, rfl⟩ := List.mem_map.mp hx
      have hc : cMod ((i : Int) + by') (many : Int) = true := decide_eq_true (by omega)
      refine ⟨_, rfl, ?_⟩
      simp [wipeD, hc]
  have rotlt : ∀ x ∈ rotL many by', x < many := by
    intro x hx
    obtain ⟨i, _, rfl⟩ := List.mem_map.mp hx
    exact Nat.mod_lt _ (by omega)
  have s0 : sSet 3 (fCall F__law_pick (fCons (fVar 0) (fCons (fName (fLst (fCons (fC (.int 1)) (fCons (fC (.int 0)) (fCons (fCall F__law_take (fCons (fVar 0) (fCons (fVar 1) fNil))) (fCons (fCall F__law_take (fCons (fVar 0) (fCons (fVar 1) fNil))) fNil)))))) fNil))) (startD 5 [.ref n, iD many, iD form]) m = .nx [some (.ref n), some (iD many), some (iD form), some (iD by'), none] m2 := by
    show ((fCall F__law_pick (fCons (fVar 0) (fCons (fName (fLst (fCons (fC (.int 1)) (fCons (fC (.int 0)) (fCons (fCall F__law_take (fCons (fVar 0) (fCons (fVar 1) fNil))) (fCons (fCall F__law_take (fCons (fVar 0) (fCons (fVar 1) fNil))) fNil)))))) fNil))) [some (.ref n), some (iD many), some (iD form), none, none] m).out _ _ = _
    rw [e1]
    rfl
  by_cases f1 : form = 1
  · subst f1
    obtain ⟨r, m3, hr, u3, e3⟩ := take_up (k := 2) b2 (by omega) (by omega)
    have e3' : F__law_take [.ref n, .int 2] m2 = .ok (iD r) m3 := e3
    have u := u12.trans u3
    by_cases hr0 : r = 0
    · subst hr0
      obtain ⟨ot, m4, ho, u4, e4⟩ := take_up (k := many) (u.box h) h1 (by omega)
      have hmul : gMul (.tup [iD ot]) (.int (many : Int)) m4 = .ok (tI (List.replicate many ot)) m4 := by
        have : many = 1 ∨ many = 2 ∨ many = 3 ∨ many = 4 ∨ many = 5 ∨ many = 6 ∨ many = 7 ∨ many = 8 := by omega
        rcases this with rfl | rfl | rfl | rfl | rfl | rfl | rfl | rfl <;> rfl
      have uu := u.trans u4
      refine ⟨List.replicate many ot, m4, by simp, fun x hx => by rw [List.eq_of_mem_replicate hx]; exact ho, fun q => by omega, uu, runF_rtS rfl ?_ uu.len.symm⟩
      unfold g__law_map
      rw [s_seq, s0]
      simp [e3', gcR_up u3, e4, gcR_up u4, l1, hmul]
    · refine ⟨rotL many by', m3, by simp [rotL], rotlt, fun _ => ⟨by', rfl⟩, u, runF_rtS rfl ?_ u.len.symm⟩
      unfold g__law_map
      rw [s_seq, s0]
      simp [e3', gcR_up u3, hr0]
      rw [rot m3]
      simp [tI]
  · have n1 : ¬ ((form : Int) = 1) := by omega
    by_cases f2 : form = 2
    · obtain ⟨f, m3, hl, hf, u3, e3⟩ := map_drawn (by' := by') (a := some (iD form)) b2 w2 h1 h8
      have u := u12.trans u3
      refine ⟨f, m3, hl, hf, fun q => by omega, u, runF_rtS rfl ?_ u.len.symm⟩
      subst f2
      have e3' := e3
      simp only [iD] at e3'
      unfold g__law_map
      rw [s_seq, s0]
      simp [e3']
      rfl
    · have n2 : ¬ ((form : Int) = 2) := by omega
      refine ⟨rotL many by', m2, by simp [rotL], rotlt, fun _ => ⟨by', rfl⟩, u12, runF_rtS rfl ?_ u12.len.symm⟩
      unfold g__law_map
      rw [s_seq, s0]
      simp [n2, n1]
      rw [rot m2]
      simp [tI]
theorem range_lst (xs : List Nat) : (xs.map iD).length = xs.length := by simp
theorem machine_ok {n form : Nat} {m : M} (h : Box n m) (hw : Wf m) : ∃ (mc : Mach) (b : Nat) (m' : M), mc.Ok b ∧ (form = 0 → ∀ f ∈ mc.maps, ∃ by', f = rotL b by') ∧ Up n m m' ∧ F__law_machine [.ref n, iD form] m = .ok (machF mc) m' := by
  have l8 : 8 ≤ LIM := by rw [LIM_eq]; omega
  have l7 : 7 ≤ LIM := by rw [LIM_eq]; omega
  have l6 : 6 ≤ LIM := by rw [LIM_eq]; omega
  have l2 : 2 ≤ LIM := by rw [LIM_eq]; omega
  -- the boards
  obtain ⟨t1, m1, ht1, u1, e1⟩ := take_up (k := 8) h (by omega) (by omega)
  have e1' : F__law_take [.ref n, .int 8] m = .ok (iD t1) m1 := e1
  have p1 : ∃ (b : Nat) (m2 : M), 1 ≤ b ∧ b ≤ 8 ∧ Up n m m2 ∧ fCall F__law_pick (fCons (fVar 0) (fCons (fName (fLst (fCons (fC (.int 8)) (fCons (fC (.int 7)) (fCons (fC (.int 5)) (fCons (fC (.int 3)) (fCons (fC (.int 2)) (fCons (fOp gAdd (fC (.int 1)) (fCall F__law_take (fCons (fVar 0) (fCons (fC (.int 8)) fNil)))) fNil)))))))) fNil)) [some (.ref n), some (iD form), none, none, none] m = .ok (iD b) m2 := by
    have hfa : (fCons (fVar 0) (fCons (fName (fLst (fCons (fC (.int 8)) (fCons (fC (.int 7)) (fCons (fC (.int 5)) (fCons (fC (.int 3)) (fCons (fC (.int 2)) (fCons (fOp gAdd (fC (.int 1)) (fCall F__law_take (fCons (fVar 0) (fCons (fC (.int 8)) fNil)))) fNil)))))))) fNil)) [some (.ref n), some (iD form), none, none, none] m = .ok [.ref n, .ref m1.length] (m1 ++ [.lst [iD 8, iD 7, iD 5, iD 3, iD 2, iD (1 + t1)]]) := by
      simp [e1', gcR_up u1, l7, l6, iD]
    obtain ⟨x, m2, hx, u2, e2⟩ := pick_new hfa u1 h hw (by simp) (by simp) (fun x hx => by
      simp only [List.mem_cons, List.not_mem_nil, or_false] at hx
      rcases hx with rfl | rfl | rfl | rfl | rfl | rfl <;> rfl)
    have : ∃ b : Nat, x = iD b ∧ 1 ≤ b ∧ b ≤ 8 := by
      simp only [List.mem_cons, List.not_mem_nil, or_false] at hx
      rcases hx with rfl | rfl | rfl | rfl | rfl | rfl
      · exact ⟨8, rfl, by omega, by omega⟩
      · exact ⟨7, rfl, by omega, by omega⟩
      · exact ⟨5, rfl, by omega, by omega⟩
      · exact ⟨3, rfl, by omega, by omega⟩
      · exact ⟨2, rfl, by omega, by omega⟩
      · exact ⟨1 + t1, by simp [iD], by omega, by omega⟩
    obtain ⟨b, rfl, hb1, hb8⟩ := this
    exact ⟨b, m2, hb1, hb8, u2, e2⟩
  obtain ⟨b, m2, hb1, hb8, u2, e2⟩ := p1
  have b2 := u2.box h
  have w2 := u2.wf hw
  -- the deeds
  obtain ⟨t2, m3, ht2, u3, e3⟩ := take_up (k := 6) b2 (by omega) (by omega)
  have e3' : F__law_take [.ref n, .int 6] m2 = .ok (iD t2) m3 := e3
  have p2 : ∃ (c : Nat) (m4 : M), 1 ≤ c ∧ c ≤ 6 ∧ Up n m2 m4 ∧ fCall F__law_pick (fCons (fVar 0) (fCons (fName (fLst (fCons (fC (.int 6)) (fCons (fC (.int 6)) (fCons (fC (.int 4)) (fCons (fC (.int 3)) (fCons (fC (.int 2)) (fCons (fOp gAdd (fC (.int 1)) (fCall F__law_take (fCons (fVar 0) (fCons (fC (.int 6)) fNil)))) fNil)))))))) fNil)) [some (.ref n), some (iD form), some (iD b), none, none] m2 = .ok (iD c) m4 := by
    have hfa : (fCons (fVar 0) (fCons (fName (fLst (fCons (fC (.int 6)) (fCons (fC (.int 6)) (fCons (fC (.int 4)) (fCons (fC (.int 3)) (fCons (fC (.int 2)) (fCons (fOp gAdd (fC (.int 1)) (fCall F__law_take (fCons (fVar 0) (fCons (fC (.int 6)) fNil)))) fNil)))))))) fNil)) [some (.ref n), some (iD form), some (iD b), none, none] m2 = .ok [.ref n, .ref m3.length] (m3 ++ [.lst [iD 6, iD 6, iD 4, iD 3, iD 2, iD (1 + t2)]]) := by
      simp [e3', gcR_up u3, l6, iD]
    obtain ⟨x, m4, hx, u4, e4⟩ := pick_new hfa u3 b2 w2 (by simp) (by simp) (fun x hx => by
      simp only [List.mem_cons, List.not_mem_nil, or_false] at hx
      rcases hx with rfl | rfl | rfl | rfl | rfl | rfl <;> rfl)
    have : ∃ c : Nat, x = iD c ∧ 1 ≤ c ∧ c ≤ 6 := by
      simp only [List.mem_cons, List.not_mem_nil, or_false] at hx
      rcases hx with rfl | rfl | rfl | rfl | rfl | rfl
      · exact ⟨6, rfl, by omega, by omega⟩
      · exact ⟨6, rfl, by omega, by omega⟩
      · exact ⟨4, rfl, by omega, by omega⟩
      · exact ⟨3, rfl, by omega, by omega⟩
      · exact ⟨2, rfl, by omega, by omega⟩
      · exact ⟨1 + t2, by simp [iD], by omega, by omega⟩
    obtain ⟨c, rfl, hc1, hc6⟩ := this
    exact ⟨c, m4, hc1, hc6, u4, e4⟩
  obtain ⟨c, m4, hc1, hc6, u4, e4⟩ := p2
  have b4 := u4.box b2
  have w4 := u4.wf w2
  obtain ⟨st, m5, hst, u5, e5⟩ := take_up (k := b) b4 hb1 (by omega)
  have b5 := u5.box b4
  have w5 := u5.wf w4
  obtain ⟨acc, m6, e6, u6, fs, rfl, hfl, hf1, hf2, hf3⟩ := fLc_inv (fi := fRng1 (fVar 3)) (gt := gN 4) (vs := [4]) (t := fYes) (e := (fCall F__law_map (fCons (fVar 0) (fCons (fVar 2) (fCons (fVar 1) fNil)))))
    (ρ := [some (.ref n), some (iD form), some (iD b), some (iD c), none]) (m := m5) (src := srcR 0 c) (n := c) (fun i acc mm => Up n m5 mm ∧ ∃ fs : List (List Nat), acc = fs.map tI ∧ fs.length = i ∧ (∀ f ∈ fs, f.length = b) ∧ (∀ f ∈ fs, ∀ x ∈ f, x < b) ∧ (form = 0 → ∀ f ∈ fs, ∃ by', f = rotL b by'))
    (by simp [rngK_n (k := c) (by rw [LIM_eq]; omega)]) rfl
    (by
      rintro i acc mm hi ⟨u, fs, rfl, hl, h1, h2, h3⟩
      obtain ⟨f, m7, g1, g2, g3, u7, e7⟩ := map_ok (form := form) (u.box b5) (u.wf w5) hb1 hb8
      refine ⟨iD i, [some (.ref n), some (iD form), some (iD b), some (iD c), some (iD i)], by simp [srcR], rfl, .inr ⟨mm, tI f, m7, rfl, by simp [e7, gcR_up u7], by rw [List.length_map, LIM_eq]; omega, u.trans u7, fs ++ [f], by simp, by simp [hl], ?_, ?_, ?_⟩⟩
      · intro x hx
        rcases List.mem_append.mp hx with hx | hx
        · exact h1 x hx
        · rw [List.mem_singleton.mp hx]; exact g1
      · intro x hx
        rcases List.mem_append.mp hx with hx | hx
        · exact h2 x hx
        · rw [List.mem_singleton.mp hx]; exact g2
      · intro q x hx
        rcases List.mem_append.mp hx with hx | hx
        · exact h3 q x hx
        · rw [List.mem_singleton.mp hx]; exact g3 q)
    (fun _ _ _ => rfl) ⟨Up.refl b5, [], rfl, rfl, fun x hx => by simp at hx, fun x hx => by simp at hx, fun _ x hx => by simp at hx⟩
  have u := ((u2.trans u4).trans u5).trans u6
  refine ⟨⟨st, fs⟩, b, m6, ⟨hb1, hb8, hst, by show 1 ≤ fs.length; omega, by show fs.length ≤ 6; omega, hf1, hf2⟩, hf3, u, runF_rtS rfl ?_ u.len.symm⟩
  simp only [g__law_machine, s_seq, s_set, startD_eq, List.map_cons, List.map_nil, List.length_cons, List.length_nil, List.cons_append, List.nil_append]
  rw [show List.replicate (5 - (0 + 1 + 1)) (none : Option D) = [none, none, none] from rfl, e2]
  simp only [out_ok, seqK_nx, List.set, s_seq, s_set]
  rw [e4]
  simp only [out_ok, seqK_nx, List.set]
  have eF : gTupF (fs.map tI) m6 = .ok (.fix (fs.map tI)) m6 := rfl
  simp [e5, gcR_up u5, e6, l2, machF, eF]
end K81

namespace K81
open PySem PyProof.Rows L2 Dl
theorem fLc_all' {fi : FI} {gt : GT} {vs : List Nat} {e : FE} {ρ : Sl} {m m' : M} {src : Src} {xs : List D} (F : D → D) (h1 : fi ρ m = .ok src m') (hs : SrcIs src xs m')
    (hx : ∀ x ∈ xs, ∃ ρ', gt x (wipeD ρ vs) = some ρ' ∧ e ρ' m' = .ok (F x) m') (hl : xs.length ≤ LIM) : fLc fi gt vs fYes e ρ m = .ok (xs.map F) m' := by
  unfold fLc
  rw [h1]
  simp only [bind_ok]
  rw [hs.n, lcL_map (fun x => some (F x)) hs (fun x hm => ?_) xs.length 0 [] (by omega) (by simpa using hl)]
  · simp [List.filterMap_eq_map']
  · obtain ⟨ρ', a, b⟩ := hx x hm
    exact ⟨ρ', a, .inr ⟨F x, rfl, b, rfl⟩⟩
/-! ### the law's own table -/
def isJ (j : Nat) : D → Option D := fun x => match x with
  | .tup [.int i, _] => if i = j then some (.int 1) else none
  | _ => none
theorem isJ_len (h : Hist) (j : Nat) : ((h.map letD).filterMap (isJ j)).length = num1 h j := by
  induction h with
  | nil => rfl
  | cons p t ih =>
    rw [num1_cons, List.map_cons, List.filterMap_cons]
    by_cases e : p.1 = j
    · subst e
      simp [isJ, letD, iD]
      have := ih
      simp [isJ] at this
      omega
    · have e' : ¬ ((p.1 : Int) = (j : Int)) := by omega
      simp only [isJ, letD, iD, e', if_false, e]
      have := ih
      simp [isJ] at this ⊢
      omega
theorem counts_ok {hs : Nat} {h : Hist} (h4 : hs ≤ 4) (hl : h.length ≤ 1000) (m : M) : F__law_counts [iD hs, histD h] m = .ok (tI (cnt hs h)) m := runF_rt rfl (by
  have hw : ∀ mm, srcK mm (histD h) = .ok (srcT (h.map letD)) mm := fun _ => rfl
  have inner : ∀ j : Nat, ∀ a : Option D, fLc (fWalk (fVar 1)) (gT 2 (gCons' (gN 3) (gCons' (gN 4) gNil'))) [3, 4] (fTest (fOp gEq (fVar 3) (fVar 2))) (fC (.int 1)) [a, some (histD h), some (iD j), none, none] m = .ok ((h.map letD).filterMap (isJ j)) m := by
    intro j a
    refine fLc_map (isJ j) (src := srcT (h.map letD)) (by simp [hw]) (isT _ _) (fun x hx => ?_) (by rw [List.length_map, LIM_eq]; omega)
    obtain ⟨p, _, rfl⟩ := List.mem_map.mp hx
    refine ⟨[a, some (histD h), some (iD j), some (iD p.1), some (iD p.2)], by simp [letD, wipeD], ?_⟩
    by_cases e : p.1 = j
    · exact .inr ⟨.int 1, by simp [e], rfl, by simp [isJ, letD, e]⟩
    · have e' : ¬ ((p.1 : Int) = (j : Int)) := by omega
      exact .inl ⟨by simp; exact e', by simp [isJ, letD]; exact e'⟩
  simp [g__law_counts]
  rw [fLc_all (xs := (List.range hs).map iD) (src := srcR 0 hs) (fun x => match x with
      | .int i => iD (num1 h i.toNat)
      | _ => .non) (by simp [rngK_n (k := hs) (by rw [LIM_eq]; omega)]) (isR _ _) (fun x hx => ?_) (by simp [LIM_eq]; omega)]
  · simp [tI, Dl.cnt, Function.comp_def]
  · obtain ⟨j, _, rfl⟩ := List.mem_map.mp hx
    refine ⟨_, rfl, ?_⟩
    have := inner j (some (iD hs))
    simp only [iD] at this
    have h2 := isJ_len h j
    simp [wipeD, this]
    rw [← h2, List.filterMap_map])
/-- longer by one hand -/
theorem extend_ok {cs : List Nat} {n k L : Nat} {v : List Nat} {mm : M} {acc : List (List Nat)} {ρ : Sl} {a0 a1 : Option D} (hL : mm[L]? = some (.lst (acc.map tI))) (hw : Wf mm) (hn : n + 1 ≤ 30000) (hv : v.length ≤ 4) (hacc : acc.length + (n + 1) ≤ 60000) (hρ : ρ = [a0, a1, some (iD n), some (.ref L), some (tI v), none]) :
    fGc (fMeth mExtend (fVar 3) (fCons (fName (fLc (fRng1 (fOp gAdd (fVar 2) (fC (.int 1)))) (gN 5) [5] fYes (fOp gAdd (fVar 4) (fTup (fCons (fVar 5) fNil))))) fNil)) ρ mm = .ok .non (mm.set L (.lst ((acc ++ (List.range (n + 1)).map fun k => v ++ [k]).map tI))) := by
  subst hρ
  let new : List D := ((List.range (n + 1)).map fun k => v ++ [k]).map tI
  have hLl : L < mm.length := (List.getElem?_eq_some_iff.mp hL).1
  have e1 : fLc (fRng1 (fOp gAdd (fVar 2) (fC (.int 1)))) (gN 5) [5] fYes (fOp gAdd (fVar 4) (fTup (fCons (fVar 5) fNil))) [a0, a1, some (iD n), some (.ref L), some (tI v), none] mm = .ok new mm := by
    have hr := rngK_n (k := n + 1) (by rw [LIM_eq]; omega) mm
    have l1 : 1 ≤ LIM := by rw [LIM_eq]; omega
    have lv : v.length + 1 ≤ LIM := by rw [LIM_eq]; omega
    have e : (n : Int) + 1 = ((n + 1 : Nat) : Int) := by omega
    rw [fLc_all (xs := (List.range (n + 1)).map iD) (src := srcR 0 (n + 1)) (fun x => .tup (v.map iD ++ [x])) (by simp; rw [e, hr]) (isR _ _) (fun x hx => ?_) (by simp [LIM_eq]; omega)]
    · simp [new, tI, Function.comp_def]
    · refine ⟨_, rfl, ?_⟩
      simp [wipeD, tI, l1, lv]
  have hm : fMeth mExtend (fVar 3) (fCons (fName (fLc (fRng1 (fOp gAdd (fVar 2) (fC (.int 1)))) (gN 5) [5] fYes (fOp gAdd (fVar 4) (fTup (fCons (fVar 5) fNil))))) fNil) [a0, a1, some (iD n), some (.ref L), some (tI v), none] mm
      = .ok .non ((mm ++ [O.lst new]).set L (.lst (acc.map tI ++ new))) := by
    refine meth_ok (m1 := mm) (m2 := mm ++ [O.lst new]) (n := L) (xs0 := acc.map tI) (xs := acc.map tI) (as := [.ref mm.length]) (ys := acc.map tI ++ new) rfl hL (by simp [e1]) (by rw [List.getElem?_append_left hLl]; exact hL) ?_
    have hlen : (acc.map tI).length + new.length ≤ LIM := by
      rw [List.length_map, LIM_eq]
      simp [new]
      omega
    simp only [mExtend, at_snoc, if_pos hlen]
  rw [e_gc, hm, List.set_append_left _ _ hLl]
  have hset : (mm.set L (.lst (acc.map tI ++ new))) = mm.set L (.lst ((acc ++ (List.range (n + 1)).map fun k => v ++ [k]).map tI)) := by
    rw [List.map_append]
  rw [hset]
  exact gcR_junk (by simp) (hw.set (listM_blw _)) rfl
theorem law_vec_inner {cs : List Nat} {n k : Nat} {mm : M} {a0 a2 : Option D} (hw : Wf mm) (hk : mm[k]? = some (.lst ((vecs cs).map tI))) (hc : cs.length ≤ 4) (hp : prd (cs ++ [n]) ≤ 30000) (a4 : Option D) :
    ∃ a4' : Option D, forL (srcL k ((vecs cs).map tI).length) (gN 4) (sDrop (fGc (fMeth mExtend (fVar 3) (fCons (fName (fLc (fRng1 (fOp gAdd (fVar 2) (fC (.int 1)))) (gN 5) [5] fYes (fOp gAdd (fVar 4) (fTup (fCons (fVar 5) fNil))))) fNil)))) ((vecs cs).map tI).length 0 [a0, some (.ref k), some (iD n), some (.ref mm.length), a4, none] (mm ++ [.lst []])
      = .nx [a0, some (.ref k), some (iD n), some (.ref mm.length), a4', none] (mm ++ [.lst ((vecs (cs ++ [n])).map tI)]) := by
  have hkl : k < mm.length := (List.getElem?_eq_some_iff.mp hk).1
  let bd : FS := sDrop (fGc (fMeth mExtend (fVar 3) (fCons (fName (fLc (fRng1 (fOp gAdd (fVar 2) (fC (.int 1)))) (gN 5) [5] fYes (fOp gAdd (fVar 4) (fTup (fCons (fVar 5) fNil))))) fNil)))
  let I : Nat → Sl → M → Prop := fun i ρ m2 => m2 = mm ++ [.lst ((stepV ((vecs cs).take i) n).map tI)] ∧ ∃ a : Option D, ρ = [a0, some (.ref k), some (iD n), some (.ref mm.length), a, none]
  have hlen : ((vecs cs).map tI).length = (vecs cs).length := by simp
  have hkk : ∀ o : O, (mm ++ [o])[k]? = some (.lst ((vecs cs).map tI)) := fun o => by rw [List.getElem?_append_left hkl]; exact hk
  rw [prd_snoc] at hp
  have hn1 : n + 1 ≤ 30000 := Nat.le_trans (Nat.le_mul_of_pos_left _ (prd_pos _)) hp
  have step : ∀ i ρ m2, i < (vecs cs).length → I i ρ m2 → ∃ d ρ' ρ2 m3, (srcL k ((vecs cs).map tI).length).get m2 i = some d ∧ gN 4 d ρ = some ρ' ∧ bd ρ' m2 = .nx ρ2 m3 ∧ I (i + 1) ρ2 m3 := by
    rintro i ρ m2 hi ⟨rfl, a, rfl⟩
    have ht : (vecs cs).take (i + 1) = (vecs cs).take i ++ [(vecs cs)[i]] := by rw [List.take_append_getElem]
    have hv : (vecs cs)[i].length ≤ 4 := by
      have := (mem_vecs.mp (List.getElem_mem hi)).1
      omega
    have hac : (stepV ((vecs cs).take i) n).length + (n + 1) ≤ 60000 := by
      rw [stepV_len, List.length_take]
      have h1 : min i (vecs cs).length * (n + 1) ≤ (vecs cs).length * (n + 1) := Nat.mul_le_mul_right _ (Nat.min_le_right _ _)
      rw [vecs_len] at h1
      rw [vecs_len]
      omega
    have e := extend_ok (cs := cs) (k := k) (n := n) (L := mm.length) (v := (vecs cs)[i]) (mm := mm ++ [.lst ((stepV ((vecs cs).take i) n).map tI)]) (acc := stepV ((vecs cs).take i) n) (a0 := a0) (a1 := some (.ref k)) (at_snoc _ _) (hw.app (listM_blw _)) hn1 hv hac rfl
    refine ⟨tI (vecs cs)[i], _, [a0, some (.ref k), some (iD n), some (.ref mm.length), some (tI (vecs cs)[i]), none], mm ++ [.lst ((stepV ((vecs cs).take (i + 1)) n).map tI)], ?_, rfl, ?_, rfl, _, rfl⟩
    · have := (isL (hkk (.lst ((stepV ((vecs cs).take i) n).map tI))) rfl).get i (by rw [hlen]; exact hi)
      rw [this]
      simp [hi]
    · show bd [a0, some (.ref k), some (iD n), some (.ref mm.length), some (tI (vecs cs)[i]), none] _ = _
      simp only [bd, s_drop, e, out_ok]
      rw [set_snoc, ht]
      congr 4
      unfold stepV
      rw [List.flatMap_append]
      simp
  obtain ⟨ρ', m', e, rfl, a, rfl⟩ := forL_inv (src := srcL k ((vecs cs).map tI).length) (n := (vecs cs).length) (gt := gN 4) (body := bd) I hlen step (fun ρ m2 ⟨h, _⟩ => by rw [h]; exact (isL (hkk _) rfl).fin) (vecs cs).length 0 [a0, some (.ref k), some (iD n), some (.ref mm.length), a4, none] (mm ++ [.lst []]) (by omega) ⟨rfl, a4, rfl⟩
  rw [List.take_length] at e
  refine ⟨a, ?_⟩
  rw [hlen]
  rw [show srcL k (vecs cs).length = srcL k ((vecs cs).map tI).length from by rw [hlen], e, vecs_snoc]
theorem law_vectors_gen {cs : List Nat} {m : M} {d0 : D} {src : Src} (hsk : ∀ j, srcK (m ++ j) d0 = .ok src (m ++ j)) (his : ∀ j, SrcIs src (cs.map iD) (m ++ j)) (hc : cs.length ≤ 4) (hp : prd cs ≤ 30000) (hw : Wf m) : F__law_vectors [d0] m = .ok (.ref m.length) (m ++ [.lst ((vecs cs).map tI)]) := by
  let bd : FS := (sSeq (sSet 3 (fName (fLst fNil)))
 (sSeq (sFor (fWalk (fVar 1)) (gN 4)
 (sDrop (fGc (fMeth mExtend (fVar 3) (fCons (fName (fLc (fRng1 (fOp gAdd (fVar 2) (fC (.int 1)))) (gN 5) [5] fYes (fOp gAdd (fVar 4) (fTup (fCons (fVar 5) fNil))))) fNil)))))
 (sSet 1 (fVar 3))))
  let I : Nat → Sl → M → Prop := fun i ρ mm => ∃ (j : M) (k : Nat) (a b c : Option D), mm = m ++ j ∧ Wf mm ∧ m.length ≤ k ∧ ρ = [some d0, some (.ref k), a, b, c, none] ∧ mm[k]? = some (.lst ((vecs (cs.take i)).map tI))
  have step : ∀ i ρ mm, i < cs.length → I i ρ mm → ∃ d ρ' ρ2 m2, src.get mm i = some d ∧ gN 2 d ρ = some ρ' ∧ bd ρ' mm = .nx ρ2 m2 ∧ I (i + 1) ρ2 m2 := by
    rintro i ρ mm hi ⟨j, k, a, b, c, e1, hwm, hk, rfl, e3⟩
    have ht : cs.take (i + 1) = cs.take i ++ [cs[i]] := by rw [List.take_append_getElem]
    have hbig := Nat.le_trans (prd_take cs (i + 1)) hp
    rw [ht] at hbig
    obtain ⟨a4, e⟩ := law_vec_inner (a0 := some d0) (a2 := none) (n := cs[i]) hwm e3 (by rw [List.length_take]; omega) hbig c
    have hkl : k < mm.length := (List.getElem?_eq_some_iff.mp e3).1
    refine ⟨iD cs[i], [some d0, some (.ref k), some (iD cs[i]), b, c, none], [some d0, some (.ref mm.length), some (iD cs[i]), some (.ref mm.length), a4, none], mm ++ [.lst ((vecs (cs.take i ++ [cs[i]])).map tI)], by rw [e1, (his j).get i (by simpa using hi)]; simp [hi], rfl, ?_, j ++ [.lst ((vecs (cs.take i ++ [cs[i]])).map tI)], mm.length, _, _, _, by rw [e1, List.append_assoc], hwm.app (listM_blw _), by rw [e1]; simp, rfl, by rw [ht]; exact at_snoc _ _⟩
    have hsk : srcK (mm ++ [O.lst []]) (.ref k) = .ok (srcL k ((vecs (cs.take i)).map tI).length) (mm ++ [O.lst []]) := srcK_l (by rw [List.getElem?_append_left hkl]; exact e3)
    have hn : (srcL k ((vecs (cs.take i)).map tI).length).n = ((vecs (cs.take i)).map tI).length := rfl
    have l0 : 0 ≤ LIM := Nat.zero_le _
    show bd [some d0, some (.ref k), some (iD cs[i]), b, c, none] mm = _
    simp only [bd, s_seq, s_set, e_name, e_lst, e_nil, bind_ok, List.length_nil, l0, if_true, out_ok, List.set, seqK_nx, s_for, e_walk, e_var, List.getElem?_cons_succ, List.getElem?_cons_zero, hsk, hn]
    rw [e]
    simp
  obtain ⟨ρ', m', e, j, k, a, b, c, rfl, hwm, hkm, rfl, hk⟩ := forL_inv (src := src) (n := cs.length) (gt := gN 2) (body := bd) I (by rw [(his []).n]; simp) step (fun ρ mm ⟨j, k, a, b, c, e1, _⟩ => by rw [e1]; exact (his j).fin) cs.length 0 [some d0, some (.ref m.length), none, none, none, none] (m ++ [.lst [.tup []]]) (by omega) ⟨[.lst [.tup []]], m.length, none, none, none, rfl, hw.app rfl, Nat.le_refl _, rfl, by simp [vecs, tI]⟩
  rw [List.take_length] at hk
  unfold F__law_vectors runF
  rw [if_pos (by rfl)]
  have hs := hsk [O.lst [D.tup []]]
  have hn : src.n = cs.length := by rw [(his []).n]; simp
  have hg : g__law_vectors (startD 6 [d0]) m = .rt (.ref k) (m ++ j) := by
    have h1 : 1 ≤ LIM := by rw [LIM_eq]; omega
    simp [g__law_vectors, h1, hs, hn]
    rw [show (sSeq (sSet 3 (fName (fLst fNil)))
 (sSeq (sFor (fWalk (fVar 1)) (gN 4)
 (sDrop (fGc (fMeth mExtend (fVar 3) (fCons (fName (fLc (fRng1 (fOp gAdd (fVar 2) (fC (.int 1)))) (gN 5) [5] fYes (fOp gAdd (fVar 4) (fTup (fCons (fVar 5) fNil))))) fNil)))))
 (sSet 1 (fVar 3)))) = bd from rfl, e]
    simp
  rw [hg]
  exact gcR_new rfl hw hkm hk (listM_blw _)
theorem law_vectors_ok {cs : List Nat} (hc : cs.length ≤ 4) (hp : prd cs ≤ 30000) {m : M} (hw : Wf m) : F__law_vectors [tI cs] m = .ok (.ref m.length) (m ++ [.lst ((vecs cs).map tI)]) :=
  law_vectors_gen (fun _ => rfl) (fun _ => isT _ _) hc hp hw
theorem law_vectors_l {cs : List Nat} {m : M} {k : Nat} (hk : m[k]? = some (.lst (cs.map iD))) (hc : cs.length ≤ 4) (hp : prd cs ≤ 30000) (hw : Wf m) : F__law_vectors [.ref k] m = .ok (.ref m.length) (m ++ [.lst ((vecs cs).map tI)]) := by
  have hkk : ∀ j : M, (m ++ j)[k]? = some (.lst (cs.map iD)) := fun j => by rw [List.getElem?_append_left (List.getElem?_eq_some_iff.mp hk).1]; exact hk
  exact law_vectors_gen (src := srcL k cs.length) (fun j => by rw [srcK_l (hkk j), List.length_map]) (fun j => isL (hkk j) (by simp)) hc hp hw
/-! ### boards led -/
theorem fix_at {l : List D} {k : Nat} {x : D} (h : l[k]? = some x) (m : M) : gIx (.fix l) (.int (k : Int)) m = .ok x m := by
  show getK (atI l (k : Int)) m = _
  rw [at_nat h]
  rfl
theorem board_ok {mc : Mach} {b hs : Nat} (S : Set' mc b hs) {h : Hist} (ok : HOk hs mc.maps.length h) {v : List Nat} (hv : v.length = hs) {m : M} (hw : Wf m) : F__law_board [machF mc, histD h, tI v] m = .ok (iD (brd mc.maps mc.start h v)) m := by
  let bd : FS := (sIf (fTest (fOp gGt (fOp gIx (fVar 4) (fVar 5)) (fC (.int 0))))
 (sSeq (sSub (fOp Dl.gSub (fOp gIx (fVar 4) (fVar 5)) (fC (.int 1))) (fVar 4) (fVar 5))
 (sSet 3 (fOp gIx (fOp gIx (fOp gIx (fVar 0) (fC (.int 1))) (fVar 6)) (fVar 3))))
 sNext)
  let st : Nat → Nat × List Nat := fun i => stF mc.maps (mc.start, v) (h.take i)
  let L := m.length
  let I : Nat → Sl → M → Prop := fun i ρ mm => mm = m ++ [.lst ((st i).2.map iD)] ∧ ∃ a c : Option D, ρ = [some (machF mc), some (histD h), some (tI v), some (iD (st i).1), some (.ref m.length), a, c]
  have stlen : ∀ (h : Hist) (s : Nat × List Nat), (stF mc.maps s h).2.length = s.2.length := by
    intro h
    induction h with
    | nil => intro s; rfl
    | cons p t ih => intro s; rw [stF_cons, ih, stp_len]
  have step : ∀ i ρ mm, i < h.length → I i ρ mm → ∃ x ρ' ρ2 m2, (srcT (h.map letD)).get mm i = some x ∧ gT 2 (gCons' (gN 5) (gCons' (gN 6) gNil')) x ρ = some ρ' ∧ bd ρ' mm = .nx ρ2 m2 ∧ I (i + 1) ρ2 m2 := by
    rintro i ρ mm hi ⟨rfl, a, c, rfl⟩
    have ht : h.take (i + 1) = h.take i ++ [h[i]] := by rw [List.take_append_getElem]
    have hm := List.getElem_mem hi
    have hx : ∀ mm : M, (srcT (h.map letD)).get mm i = some (letD h[i]) := fun mm => by simp [srcT, hi]
    generalize h[i] = p at ht hm hx
    obtain ⟨j, d⟩ := p
    have hj : j < hs := ok.hand _ hm
    have hd : d < mc.maps.length := ok.deed _ hm
    have hs1 : st (i + 1) = stp mc.maps (st i) (j, d) := by
      show stF mc.maps (mc.start, v) (h.take (i + 1)) = _
      rw [ht, stF_app]
      rfl
    have hb : (st i).1 < b := brd_lt S.m.len S.m.ent (h.take i) _ (fun p hp => ok.deed p (List.mem_of_mem_take hp)) S.m.st
    have hl : (st i).2.length = hs := by rw [stlen]; exact hv
    generalize hsi : st i = s at hs1 hb hl
    obtain ⟨bo, le⟩ := s
    simp only at hb hl
    generalize hmm : m ++ [O.lst (le.map iD)] = mm
    have hmL : mm[m.length]? = some (.lst (le.map iD)) := by rw [← hmm]; exact at_snoc _ _
    have hjl : le[j]? = some (le.getD j 0) := by rw [List.getD_eq_getElem?_getD, List.getElem?_eq_getElem (by omega)]; rfl
    have e1 : gIx (.ref m.length) (.int (j : Int)) mm = .ok (iD (le.getD j 0)) mm := by
      rw [e_ixL _ hmL, at_nat (x := iD (le.getD j 0)) (by rw [List.getElem?_map, hjl]; rfl)]
      rfl
    by_cases hp : 0 < le.getD j 0
    · have hp' : (0 : Int) < (le.getD j 0 : Nat) := by omega
      have hst : mc.maps[d]? = some mc.maps[d] := List.getElem?_eq_getElem hd
      have e2 : ∀ q : M, gIx (.fix (mc.maps.map tI)) (.int (d : Int)) q = .ok (tI mc.maps[d]) q := fun q => fix_at (by rw [List.getElem?_map, hst]; rfl) q
      have e3 : ∀ q : M, gIx (machF mc) (.int 1) q = .ok (.fix (mc.maps.map tI)) q := fun q => rfl
      have hml : (mc.maps[d]).length = b := S.m.len _ (List.getElem_mem hd)
      have e4 : ∀ q : M, gIx (tI mc.maps[d]) (.int (bo : Int)) q = .ok (iD ((mc.maps[d]).getD bo 0)) q := fun q => tI_at (by rw [List.getD_eq_getElem?_getD, List.getElem?_eq_getElem (by omega)]; rfl) q
      have hx1 : ((le.getD j 0 : Nat) : Int) - 1 = ((le.getD j 0 - 1 : Nat) : Int) := by omega
      have es := sub_ok (f := fOp Dl.gSub (fOp gIx (fVar 4) (fVar 5)) (fC (.int 1))) (fo := fVar 4) (fi := fVar 5) (ρ := [some (machF mc), some (histD h), some (tI v), some (iD bo), some (.ref m.length), some (iD j), some (iD d)]) (m := mm) (m1 := mm) (m2 := mm) (m3 := mm) (d := iD (le.getD j 0 - 1)) (n := m.length) (j := j) (k := (j : Int)) (xs := le.map iD)
        (by simp only [e_op, e_var, List.getElem?_cons_zero, List.getElem?_cons_succ, bind_ok, e1, e_c, e_sub, hx1]) rfl rfl hmL (ixN_nat (by rw [List.length_map]; omega))
      refine ⟨letD (j, d), [some (machF mc), some (histD h), some (tI v), some (iD bo), some (.ref m.length), some (iD j), some (iD d)], [some (machF mc), some (histD h), some (tI v), some (iD ((mc.maps[d]).getD bo 0)), some (.ref m.length), some (iD j), some (iD d)], mm.set m.length (.lst ((le.map iD).set j (iD (le.getD j 0 - 1)))), hx mm, by simp [letD], ?_, ?_, some (iD j), some (iD d), ?_⟩
      · simp only [bd, s_if, e_test, e_op, e_var, List.getElem?_cons_zero, List.getElem?_cons_succ, bind_ok, e1, e_c, e_gt, decide_eq_true hp', e_asB, out_ok, if_true, s_seq, es, seqK_nx, s_set, e3, e2, e4, List.set]
      · rw [← hmm, set_snoc, hs1]
        unfold stp
        rw [if_pos hp]
        simp only [List.map_set]
      · rw [hs1]
        unfold stp
        rw [if_pos hp]
        have e5 : mc.maps.getD d [] = mc.maps[d] := by rw [List.getD_eq_getElem?_getD, hst]; rfl
        simp only [e5]
    · have hp' : ¬ (0 : Int) < (le.getD j 0 : Nat) := by omega
      have hs2 : stp mc.maps (bo, le) (j, d) = (bo, le) := by
        unfold stp
        rw [if_neg hp]
      refine ⟨letD (j, d), [some (machF mc), some (histD h), some (tI v), some (iD bo), some (.ref m.length), some (iD j), some (iD d)], [some (machF mc), some (histD h), some (tI v), some (iD bo), some (.ref m.length), some (iD j), some (iD d)], mm, hx mm, by simp [letD], ?_, by rw [← hmm, hs1, hs2], some (iD j), some (iD d), by rw [hs1, hs2]⟩
      simp only [bd, s_if, e_test, e_op, e_var, List.getElem?_cons_zero, List.getElem?_cons_succ, bind_ok, e1, e_c, e_gt, decide_eq_false hp', e_asB, out_ok, Bool.false_eq_true, if_false, s_next]
  obtain ⟨ρ', m', e, rfl, a, c, rfl⟩ := forL_inv (src := srcT (h.map letD)) (n := h.length) (gt := gT 2 (gCons' (gN 5) (gCons' (gN 6) gNil'))) (body := bd) I (by simp [srcT]) step (fun _ _ _ => rfl) h.length 0 [some (machF mc), some (histD h), some (tI v), some (iD mc.start), some (.ref m.length), none, none] (m ++ [.lst (v.map iD)]) (by omega) ⟨rfl, none, none, rfl⟩
  have hs' : ∀ q, srcK q (histD h) = .ok (srcT (h.map letD)) q := fun _ => rfl
  have hn : (srcT (h.map letD)).n = h.length := by simp [srcT]
  have h0 : ∀ q, gIx (machF mc) (.int 0) q = .ok (iD mc.start) q := fun _ => rfl
  have hi0 : ∀ q, itemsD q (tI v) = some (v.map iD) := fun _ => rfl
  refine runF_rtJ (j := [.lst ((st h.length).2.map iD)]) rfl ?_ rfl hw rfl
  simp [g__law_board, h0, hi0, hs', hn]
  rw [show (sIf (fTest (fOp gGt (fOp gIx (fVar 4) (fVar 5)) (fC (.int 0))))
 (sSeq (sSub (fOp Dl.gSub (fOp gIx (fVar 4) (fVar 5)) (fC (.int 1))) (fVar 4) (fVar 5))
 (sSet 3 (fOp gIx (fOp gIx (fOp gIx (fVar 0) (fC (.int 1))) (fVar 6)) (fVar 3))))
 sNext) = bd from rfl, e]
  simp [st, brd]
/-! ### backs -/
theorem maxL_ok {l : List Nat} {k : Nat} (hk : k ∈ l) (hm : ∀ x ∈ l, x ≤ k) (m : M) : gMaxL (l.map iD) m = .ok (iD k) m := by
  have hi : ∀ l : List Nat, intsD (l.map iD) = some (l.map fun n : Nat => (n : Int)) := by
    intro l
    induction l with
    | nil => rfl
    | cons a r ih => simp [intsD, ih]
  cases l with
  | nil => simp at hk
  | cons a r =>
    unfold gMaxL
    rw [hi]
    simp only [List.map_cons]
    obtain ⟨h1, h2⟩ := maxI_mem (a : Int) (r.map fun n : Nat => (n : Int))
    have h3 : maxI (a : Int) (r.map fun n : Nat => (n : Int)) ≤ (k : Int) := by
      have : ∃ y ∈ a :: r, maxI (a : Int) (r.map fun n : Nat => (n : Int)) = (y : Int) := by
        have h1' : maxI (a : Int) (r.map fun n : Nat => (n : Int)) ∈ (a :: r).map fun n : Nat => (n : Int) := h1
        obtain ⟨y, hy, e⟩ := List.mem_map.mp h1'
        exact ⟨y, hy, e.symm⟩
      obtain ⟨y, hy, e⟩ := this
      have := hm y hy
      omega
    have h4 : (k : Int) ≤ maxI (a : Int) (r.map fun n : Nat => (n : Int)) := h2 k (by
      show (k : Int) ∈ (a :: r).map fun n : Nat => (n : Int)
      exact List.mem_map.mpr ⟨k, hk, rfl⟩)
    rw [Int.le_antisymm h3 h4]
theorem back_ok {a b' : Hist} {j d : Nat} (hb : num1 b' j = 0) (hl : (a ++ (j, d) :: b').length ≤ 1000) (m : M) : F__law_back [histD (a ++ (j, d) :: b'), iD j] m = .ok (histD (a ++ b')) m := runF_rt rfl (by
  let h := a ++ (j, d) :: b'
  have hlen : h.length = a.length + b'.length + 1 := by simp [h]; omega
  let F : D → Option D := fun x => match x with
    | .int i => if (h[i.toNat]?.map (·.1)) = some j then some x else none
    | _ => none
  have hit : ∀ q, itemsD q (histD h) = some (h.map letD) := fun _ => rfl
  have nb : ∀ p ∈ b', ¬ p.1 = j := by
    intro p hp q
    have : p ∈ b'.filter fun p => p.1 == j := List.mem_filter.mpr ⟨hp, by simpa using q⟩
    rw [List.eq_nil_of_length_eq_zero (show (b'.filter fun p => p.1 == j).length = 0 from hb)] at this
    simp at this
  have e1 : fLc (fRng1 (fCB gLen (fCons (fVar 0) fNil))) (gN 3) [3] (fTest (fOp gEq (fOp gIx (fOp gIx (fVar 0) (fVar 3)) (fC (.int 0))) (fVar 1))) (fVar 3) [some (histD h), some (iD j), none, none] m = .ok (((List.range h.length).map iD).filterMap F) m := by
    refine fLc_map F (src := srcR 0 h.length) (by simp [hit, rngK_n (k := h.length) (by rw [LIM_eq]; exact Nat.le_trans hl (by omega))]) (isR _ _) (fun x hx => ?_) (by rw [List.length_map, List.length_range, LIM_eq]; exact Nat.le_trans hl (by omega))
    obtain ⟨i, hi, rfl⟩ := List.mem_map.mp hx
    have hil : i < h.length := by simpa using hi
    have e2 : gIx (histD h) (.int (i : Int)) m = .ok (letD h[i]) m := tup_at (by rw [List.getElem?_map, List.getElem?_eq_getElem hil]; rfl) m
    have e3 : gIx (letD h[i]) (.int 0) m = .ok (iD h[i].1) m := rfl
    refine ⟨[some (histD h), some (iD j), none, some (iD i)], rfl, ?_⟩
    by_cases e : h[i].1 = j
    · refine .inr ⟨iD i, ?_, rfl, ?_⟩
      · simp only [e_test, e_op, e_var, List.getElem?_cons_zero, List.getElem?_cons_succ, bind_ok, e2, e_c, e3, gEq_int, e_asB, e]
        simp
      · simp [F, iD, hil, e]
    · have e' : ¬ ((h[i].1 : Int) = (j : Int)) := by omega
      refine .inl ⟨?_, ?_⟩
      · simp only [e_test, e_op, e_var, List.getElem?_cons_zero, List.getElem?_cons_succ, bind_ok, e2, e_c, e3, gEq_int, e_asB, decide_eq_false e']
      · simp [F, iD, hil, e]
  have e2 : ((List.range h.length).map iD).filterMap F = ((List.range h.length).filter fun i => decide ((h[i]?.map (·.1)) = some j)).map iD := by
    rw [List.filterMap_map, ← List.filterMap_eq_map, List.filterMap_filter]
    congr 1
    funext i
    simp only [F, iD, Function.comp_def, Int.toNat_natCast, decide_eq_true_eq]
  have e3 : gMaxL (((List.range h.length).filter fun i => decide ((h[i]?.map (·.1)) = some j)).map iD) m = .ok (iD a.length) m := by
    refine maxL_ok (List.mem_filter.mpr ⟨by simp; omega, ?_⟩) (fun x hx => ?_) m
    · simp [h]
    · obtain ⟨h1, h2⟩ := List.mem_filter.mp hx
      have h2' := of_decide_eq_true h2
      refine Decidable.byContradiction fun q => ?_
      have hx2 : h[x]? = b'[x - a.length - 1]? := by
        show (a ++ (j, d) :: b')[x]? = _
        rw [List.getElem?_append_right (by omega), show x - a.length = (x - a.length - 1) + 1 by omega, List.getElem?_cons_succ]
        congr 1
      rw [hx2] at h2'
      cases hb2 : b'[x - a.length - 1]? with
      | none => rw [hb2] at h2'; cases h2'
      | some p =>
        rw [hb2] at h2'
        exact nb p (List.mem_of_getElem? hb2) (by simpa using h2')
  have c1 := cut_take (xs := h.map letD) (k := a.length) (by rw [List.length_map]; omega)
  have c2 := cut_drop (xs := h.map letD) (k := a.length + 1) (by rw [List.length_map]; omega)
  have gv : ∀ lo hi, gCut lo hi (histD h) m = .ok (.tup (cutD (h.map letD) lo hi)) m := fun _ _ => rfl
  have hj1 : (a.length : Int) + 1 = ((a.length + 1 : Nat) : Int) := by omega
  have la : ((h.map letD).take a.length).length + ((h.map letD).drop (a.length + 1)).length ≤ LIM := by
    have hl' : h.length ≤ 1000 := hl
    rw [LIM_eq, List.length_take, List.length_drop, List.length_map]
    omega
  show g__law_back (startD 4 [histD h, iD j]) m = _
  simp [g__law_back]
  rw [e1]
  simp only [bind_ok, e2, e3, out_ok, seqK_nx]
  simp only [s_ret, e_op, e_cut, e_var, List.getElem?_cons_zero, List.getElem?_cons_succ, bind_ok, e_noPart, e_part, e_c, e_add, gv, c1, hj1, c2]
  rw [e_addT, if_pos la]
  simp only [out_ok]
  congr 1
  show D.tup _ = D.tup ((a ++ b').map letD)
  simp [h]
  rw [show (a.map letD ++ letD (j, d) :: b'.map letD) = (a.map letD ++ [letD (j, d)]) ++ b'.map letD by simp]
  exact List.drop_left' (by simp))
end K81

namespace K81
open PySem PyProof.Rows L2 Dl
/-! ### the law's table -/
def tabL (mc : Mach) (hs : Nat) (h : Hist) (pre : List (List Nat)) : List (List Nat × Nat) := pre.map fun v => (v, brd mc.maps mc.start h v)
def tabO (mc : Mach) (hs : Nat) (h : Hist) : O := .dct true (kvD tI iD (tabL mc hs h (vecs (Dl.cnt hs h))))
theorem tabL_keys (mc : Mach) (hs : Nat) (h : Hist) (pre : List (List Nat)) : (tabL mc hs h pre).map (·.1) = pre := by
  unfold tabL
  rw [List.map_map]
  exact List.map_id _
theorem tab_look {mc : Mach} {hs : Nat} {h : Hist} {v : List Nat} (hv : Within (Dl.cnt hs h) v) {m : M} {n : Nat} (hn : m[n]? = some (tabO mc hs h)) : gIx (.ref n) (tI v) m = .ok (iD (brd mc.maps mc.start h v)) m := by
  refine gIx_dct (k := v) (f := tI) (g := iD) tI_inj hn (keyOk_tI v) ?_
  obtain ⟨i, hi⟩ := List.getElem?_of_mem (mem_vecs.mpr hv)
  exact look_at (p := (v, brd mc.maps mc.start h v)) (i := i) (by rw [tabL_keys]; exact vecs_nodup _) (by unfold tabL; rw [List.getElem?_map, hi]; rfl)
theorem law_table_ok {mc : Mach} {b hs : Nat} (S : Set' mc b hs) {h : Hist} (ok : HOk hs mc.maps.length h) (hl : h.length ≤ 12) {m : M} (hw : Wf m) : F__law_table [machF mc, iD hs, histD h] m = .ok (.ref m.length) (m ++ [tabO mc hs h]) := by
  have c4 : (Dl.cnt hs h).length ≤ 4 := by rw [cnt_len]; exact S.h4
  have hp := prd_cnt S hl
  have hwd : ∀ pre, O.blw (m.length + 1) (.dct true (kvD tI iD (tabL mc hs h pre))) = true := fun pre => dct_blw (fun _ => rfl) _ _ _
  have hw1 : Wf (m ++ [.dct true []]) := hw.app rfl
  have e1 := counts_ok (hs := hs) (h := h) S.h4 (by omega) (m ++ [.dct true []])
  have e2 := law_vectors_ok c4 hp hw1
  let V : O := .lst ((vecs (Dl.cnt hs h)).map tI)
  have hg : gcR (m.length + 1) (.ok (.ref (m.length + 1)) (m ++ [.dct true [], V])) = .ok (.ref (m.length + 1)) (m ++ [.dct true [], V]) := by
    have := gcR_new (L := m.length + 1) (m := m ++ [.dct true []]) (j := [V]) (n := m.length + 1) (o := V) (by simp) hw1 (by simp) (by simp) (listM_blw _)
    simpa using this
  refine RW.eq (run_w rfl ?_)
  unfold g__law_table
  let ρ : Sl := [some (machF mc), some (iD hs), some (histD h), some (.ref m.length), none]
  have s1 : sSet 3 (fDict0 true) (startD 5 [machF mc, iD hs, histD h]) m = .nx ρ (m ++ [.dct true []]) := rfl
  have s2 : fWalk (fCall F__law_vectors (fCons (fCall F__law_counts (fCons (fVar 1) (fCons (fVar 2) fNil))) fNil)) ρ (m ++ [.dct true []]) = .ok (srcL (m.length + 1) (vecs (Dl.cnt hs h)).length) (m ++ [.dct true [], V]) := by
    have hat : (m ++ [.dct true [], V])[m.length + 1]? = some V := by simp
    have e2' : F__law_vectors [tI (Dl.cnt hs h)] (m ++ [.dct true []]) = .ok (.ref (m.length + 1)) (m ++ [.dct true [], V]) := by
      rw [e2]
      simp [V]
    simp [ρ, e1, e2', hg, srcK_l hat]
  rw [s_seq, s1]
  simp only [OW_seqK, OW_nx, thenP_nx, s_seq, s_for, s2, out_ok]
  let I : List (List Nat) → List (Option D) → M → Prop := fun pre vs m2 => ∃ a, vs = [a] ∧ m2 = m ++ [.dct true (kvD tI iD (tabL mc hs h pre)), V]
  refine for_l (vecs (Dl.cnt hs h)) tI rfl rfl [4] I ⟨none, rfl, rfl⟩ (fun pre vs m2 h => by obtain ⟨_, _, rfl⟩ := h; simp [V]) ?_ ?_
  · rintro pre v post vs m2 hl ⟨a, rfl, rfl⟩
    have hvm : v ∈ vecs (Dl.cnt hs h) := by rw [hl]; simp
    have hwv := mem_vecs.mp hvm
    have hvl : v.length = hs := by rw [hwv.1, cnt_len]
    let mm : M := m ++ [.dct true (kvD tI iD (tabL mc hs h pre)), V]
    have hwm : Wf mm := by
      have h1 := (hw.app (hwd pre)).app (o := V) (listM_blw _)
      rw [List.append_assoc] at h1
      exact h1
    have eb := board_ok S ok hvl hwm
    have hat : mm[m.length]? = some (.dct true (kvD tI iD (tabL mc hs h pre))) := by simp [mm]
    have hlen : (kvD tI iD (tabL mc hs h pre)).length < LIM := by
      have : pre.length ≤ (vecs (Dl.cnt hs h)).length := by rw [hl, List.length_append]; omega
      rw [vecs_len] at this
      unfold kvD tabL
      rw [List.length_map, List.length_map, LIM_eq]
      omega
    have hnew : v ∉ (tabL mc hs h pre).map (·.1) := by
      rw [tabL_keys]
      have := vecs_nodup (Dl.cnt hs h)
      rw [hl, List.nodup_append] at this
      exact fun q => this.2.2 v q v (by simp) rfl
    have es := subD_ok (f := fCall F__law_board (fCons (fVar 0) (fCons (fVar 2) (fCons (fVar 4) fNil)))) (fo := fVar 3) (fi := fVar 4) (ρ := ρ.set 4 (some (tI v))) (m := mm) (m1 := mm) (m2 := mm) (m3 := mm) (d := iD (brd mc.maps mc.start h v)) (k := tI v) (n := m.length) (t := true) (kvs := kvD tI iD (tabL mc hs h pre)) (by simp [ρ, eb]) rfl rfl hat (keyOk_tI v) hlen
    rw [put_new tI_inj hnew] at es
    rw [bodyAt_n]
    show OW (sSub _ _ _ (ρ.set 4 (some (tI v))) mm) _
    rw [es]
    refine ⟨_, rfl, _, rfl, ?_⟩
    show mm.set m.length _ = _
    rw [set_two]
    unfold tabL
    rw [List.map_append]
    rfl
  · rintro vs m2 ⟨a, rfl, rfl⟩
    show (gc m.length (.ref m.length) (m ++ [tabO mc hs h, V])).1 = _ ∧ (gc m.length (.ref m.length) (m ++ [tabO mc hs h, V])).2 = _
    rw [gc_n (n := m.length) (j := [tabO mc hs h, V]) (o := tabO mc hs h) rfl hw (Nat.le_refl _) (by simp) (dct_blw (fun _ => rfl) _ _ _)]
    exact ⟨rfl, rfl⟩
theorem law_less_ok {v : List Nat} {j : Nat} (hj : j < v.length) (h1 : v.getD j 0 ≠ 0) (hl : v.length ≤ 4) (m : M) : F__law_less [tI v, iD j] m = .ok (tI (drp v j)) m := runF_rt rfl (by
  have c1 : cutD (v.map iD) none (some (j : Int)) = (v.take j).map iD := by rw [cut_take (by simp; omega), tI_take]
  have c2 : cutD (v.map iD) (some ((j : Int) + 1)) none = (v.drop (j + 1)).map iD := by
    rw [show (j : Int) + 1 = ((j + 1 : Nat) : Int) by omega, cut_drop (by simp; omega), List.map_drop]
  have e : atI (v.map iD) (j : Int) = some (iD (v.getD j 0)) := at_nat (by rw [List.getElem?_map, getD_at hj]; rfl)
  have hs : ((v.getD j 0 : Int) - 1) = ((v.getD j 0 - 1 : Nat) : Int) := by omega
  have l1 : 1 ≤ LIM := by rw [LIM_eq]; omega
  have l2 : (v.take j).length + 1 ≤ LIM := by rw [List.length_take, LIM_eq]; omega
  have l3 : (v.take j).length + 1 + (v.drop (j + 1)).length ≤ LIM := by rw [List.length_take, List.length_drop, LIM_eq]; omega
  simp only [List.length_take, List.length_drop] at l2 l3
  simp [-List.getD_eq_getElem?_getD, g__law_less, tI, c1, c2, e, l1, hs, l2, l3]
  unfold drp
  rw [set_parts hj]
  simp)
end K81

namespace K81
open PySem PyProof.Rows L2 Dl
/-! ### the law's own last deeds: plain -/
def upS (here : List Nat) (j : Nat) (v : List Nat) : List Nat := v.set j (here.getD j 0)
def others (here : List Nat) (j : Nat) : List Nat := here.set j 0
def prV (f : List Nat → Nat) (here : List Nat) (j : Nat) (v : List Nat) : Nat × Nat := (f (Dl.drp (upS here j v) j), f (upS here j v))
theorem upS_top {here v : List Nat} {j : Nat} (hj : j < here.length) (hv : Within (others here j) v) : upS here j v ∈ topV here j := by
  have hl : v.length = here.length := by rw [hv.1]; simp [others]
  refine mem_topV.mpr ⟨within_of (by simp [upS, hl]) fun i => ?_, ?_⟩
  · have := within_getD hv i
    unfold others at this
    unfold upS
    rw [getD_set] at this ⊢
    by_cases e : j = i
    · subst e
      simp [hl, hj]
    · simp only [e, false_and, if_false] at this ⊢
      exact this
  · unfold upS
    rw [getD_set, if_pos ⟨rfl, by omega⟩]
theorem top_upS {here w : List Nat} {j : Nat} (hj : j < here.length) (hw : w ∈ topV here j) : ∃ v, Within (others here j) v ∧ upS here j v = w := by
  obtain ⟨h1, h2⟩ := mem_topV.mp hw
  have hl : w.length = here.length := h1.1
  refine ⟨w.set j 0, within_of (by simp [others, hl]) fun i => ?_, ?_⟩
  · unfold others
    rw [getD_set, getD_set]
    by_cases e : j = i
    · subst e
      simp [hl, hj]
    · simp only [e, false_and, if_false]
      exact within_getD h1 i
  · unfold upS
    rw [List.set_set, ← h2]
    refine List.ext_getElem? fun i => ?_
    rw [List.getElem?_set]
    by_cases e : j = i
    · subst e
      rw [if_pos rfl, if_pos (by omega), ← Dl.getD_at (by omega)]
    · rw [if_neg e]
structure DicOk (f : List Nat → Nat) (here : List Nat) (j : Nat) (pre : List (List Nat)) (l : List (Nat × Nat)) : Prop where
  nd : (l.map (·.1)).Nodup
  a : ∀ v ∈ pre, prV f here j v ∈ l
  b : ∀ p ∈ l, ∃ v ∈ pre, p = prV f here j v
theorem dic_ds {maps : List (List Nat)} {f : List Nat → Nat} {here : List Nat} {j : Nat} {l : List (Nat × Nat)} (hj : j < here.length) (h : DicOk f here j (vecs (others here j)) l) :
    ((List.range maps.length).filter fun d => l.all fun p => stpD maps d p.1 == p.2) = dsF maps f here j := by
  unfold dsF prsF
  refine List.filter_congr fun d _ => ?_
  rw [Bool.eq_iff_iff, List.all_eq_true, List.all_eq_true]
  constructor
  · intro q p hp
    obtain ⟨w, hw, rfl⟩ := List.mem_map.mp hp
    obtain ⟨v, hv, rfl⟩ := top_upS hj hw
    exact q _ (h.a v (mem_vecs.mpr hv))
  · intro q p hp
    obtain ⟨v, hv, rfl⟩ := h.b p hp
    exact q _ (List.mem_map.mpr ⟨upS here j v, upS_top hj (mem_vecs.mp hv), rfl⟩)
theorem dic_bad {maps : List (List Nat)} {f : List Nat → Nat} {here : List Nat} {j : Nat} {l : List (Nat × Nat)} {pre : List (List Nat)} {v : List Nat} {y : Nat} (hj : j < here.length) (h : DicOk f here j pre l) (hpre : ∀ v ∈ pre, Within (others here j) v) (hv : Within (others here j) v)
    (hl : ((prV f here j v).1, y) ∈ l) (hne : y ≠ (prV f here j v).2) : dsF maps f here j = [] := by
  rw [List.eq_nil_iff_forall_not_mem]
  intro d hd
  obtain ⟨v', hv', e⟩ := h.b _ hl
  have h1 := mem_topV.mp (upS_top hj hv)
  have h2 := mem_topV.mp (upS_top hj (hpre v' hv'))
  have a1 := (mem_dsF.mp hd).2 _ h1.1 h1.2
  have a2 := (mem_dsF.mp hd).2 _ h2.1 h2.2
  simp only [prV, Prod.mk.injEq] at e hne
  obtain ⟨e1, e2⟩ := e
  rw [← e1] at a2
  omega
theorem gIx_fz {α β : Type} [DecidableEq α] {f : α → D} {g : β → D} (hf : ∀ {a b}, f a = f b → a = b) {m : M} {n : Nat} {t : Bool} {l : List (α × β)} {k : α} {v : β} (h : m[n]? = some (.fz t (kvD f g l))) (hk : keyOk t (f k) = true) (hv : lookP l k = some v) : gIx (.ref n) (f k) m = .ok (g v) m := by
  unfold gIx
  simp only [h]
  simp only [hk, if_true, val_kv hf, hv, Option.map_some]
theorem get2_ok {α β : Type} [DecidableEq α] {f : α → D} {g : β → D} (hf : ∀ {a b}, f a = f b → a = b) {fo fk fx : FE} {ρ : Sl} {m : M} {n : Nat} {t : Bool} {l : List (α × β)} {k : α} {x : D} (h : m[n]? = some (.dct t (kvD f g l))) (h1 : fo ρ m = .ok (.ref n) m) (h2 : fk ρ m = .ok (f k) m) (h3 : fx ρ m = .ok x m) (hk : keyOk t (f k) = true) :
    fGet2 fo fk fx ρ m = .ok (((lookP l k).map g).getD x) m := by
  have hd : dctOf m n = some (t, kvD f g l) := by unfold dctOf; rw [h]
  unfold fGet2
  simp only [h1, bind_ok, hd, h2, h3, hk, if_true, val_kv hf]
theorem look_mem {α β : Type} [DecidableEq α] {l : List (α × β)} {k : α} {v : β} (h : lookP l k = some v) : (k, v) ∈ l := by
  unfold lookP at h
  obtain ⟨p, hp, rfl⟩ := Option.map_eq_some_iff.mp h
  have h1 := List.mem_of_find?_eq_some hp
  have h3 := List.find?_some hp
  have h2 : p.1 = k := by simpa using h3
  rw [← h2]
  exact h1
theorem gEq_ones {m : M} {a c k : Nat} (ha : m[a]? = some (.lst (List.replicate k (.int 1)))) (hc : m[c]? = some (.lst [])) : gEq (.ref a) (.ref c) m = .ok (.bl (decide (k = 0))) m := by
  have p1 : Ps DEEP m (.ref a) (.list (List.replicate k (.int 1))) 1 := by
    have h := pss_map (k := 2) (m := m) (n := 0) (List.replicate k ()) (fun _ => D.int 1) (fun _ => PyData.int 1) fun _ _ => ps_int _ _ _
    rw [List.map_replicate, List.map_replicate] at h
    exact ps_ref ha h
  have p2 : Ps DEEP m (.ref c) (.list []) 1 := ps_ref hc (pss_nil 2 m |> fun h => ⟨h.e, h.b, by have := h.d; omega⟩)
  obtain ⟨t, e, ht⟩ := gEq_ps p1 p2 (by omega) (by omega)
  rw [e]
  have : t = decide (k = 0) := bool_dec (by
    rw [ht]
    constructor
    · intro q
      simpa using q
    · rintro rfl
      rfl)
  rw [this]
end K81

namespace K81
open PySem PyProof.Rows L2 Dl
def lsM (m : M) (l : List (Nat × Nat)) (os : List Nat) (V : List (List Nat)) : M := m ++ [.dct false (kvD iD iD l), .lst (os.map iD), .lst (V.map tI)]
theorem lsM_0 (m : M) (l : List (Nat × Nat)) (os : List Nat) (V : List (List Nat)) : (lsM m l os V)[m.length]? = some (.dct false (kvD iD iD l)) := by simp [lsM]
theorem lsM_2 (m : M) (l : List (Nat × Nat)) (os : List Nat) (V : List (List Nat)) : (lsM m l os V)[m.length + 2]? = some (.lst (V.map tI)) := by simp [lsM]
theorem lsM_wf {m : M} (hw : Wf m) (l : List (Nat × Nat)) (os : List Nat) (V : List (List Nat)) : Wf (lsM m l os V) := by
  have h1 := ((hw.app (o := .dct false (kvD iD iD l)) (dct_blw (fun _ => rfl) _ _ _)).app (o := .lst (os.map iD)) (lst_blw (fun _ => rfl) _ _)).app (o := .lst (V.map tI)) (listM_blw _)
  simpa [lsM] using h1
theorem lsM_at {m : M} {n : Nat} {o : O} (h : m[n]? = some o) (J : M) : (m ++ J)[n]? = some o := by
  rw [List.getElem?_append_left (List.getElem?_eq_some_iff.mp h).1]
  exact h
/-- the numbers of the others -/
theorem others_ok {here : List Nat} {j : Nat} (h4 : here.length ≤ 4) (a0 a1 a4 a5 a6 a7 a8 a9 a10 a11 : Option D) (m : M) :
    fLc (fEnum (fVar 2)) (gT 2 (gCons' (gN 10) (gCons' (gN 11) gNil'))) [10, 11] fYes (fIf (fTest (fOp gEq (fVar 10) (fVar 3))) (fC (.int 0)) (fVar 11)) [a0, a1, some (tI here), some (iD j), a4, a5, a6, a7, a8, a9, a10, a11] m = .ok ((others here j).map iD) m := by
  have hs : SrcIs (srcTE (here.map iD)) ((List.range here.length).map fun i => .tup [iD i, iD (here.getD i 0)]) m := by
    have := counts_src here
    exact ⟨this.n, this.get m, this.fin m⟩
  rw [fLc_y (List.range here.length) (fun i => .tup [iD i, iD (here.getD i 0)]) (fun i => iD (if i = j then 0 else here.getD i 0)) (by simp; rfl) hs (by rw [List.length_range, LIM_eq]; omega) fun i hi => ?_]
  · congr 1
    have hi : ∀ i, i < here.length → (others here j).getD i 0 = if i = j then 0 else here.getD i 0 := by
      intro i hi
      unfold others
      rw [getD_set]
      by_cases e : j = i
      · subst e
        simp [hi]
      · rw [if_neg (fun q => e q.1), if_neg (fun q => e q.symm)]
    refine List.ext_getElem? fun i => ?_
    rw [List.getElem?_map, List.getElem?_map]
    by_cases h : i < here.length
    · rw [List.getElem?_range h, Dl.getD_at (v := others here j) (by simpa [others] using h), hi i h]
      rfl
    · rw [List.getElem?_eq_none (by simpa using h), List.getElem?_eq_none (by simpa [others] using h)]
      rfl
  · refine ⟨_, rfl, ?_⟩
    by_cases e : i = j
    · simp [wipeD, e]
    · have e' : ¬ ((i : Int) = (j : Int)) := by omega
      simp [-List.getD_eq_getElem?_getD, wipeD, e, e']
/-- all that this deed leads elsewhere -/
theorem inner_ok {mc : Mach} {b : Nat} (hm : mc.Ok b) {l : List (Nat × Nat)} {d L : Nat} {m : M} (a1 a2 a3 a5 a6 a7 a8 a10 a11 : Option D) (hL : m[L]? = some (.fz false (kvD iD iD l))) (hn : (l.map (·.1)).Nodup) (hb : ∀ p ∈ l, p.1 < b) (hd : d < mc.maps.length) (hl : l.length ≤ 30000) :
    fLc (fWalkK (fVar 4)) (gN 10) [10] (fTest (fOp gNe (fOp gIx (fOp gIx (fOp gIx (fVar 0) (fC (.int 1))) (fVar 9)) (fVar 10)) (fOp gIx (fVar 4) (fVar 10)))) (fC (.int 1)) [some (machF mc), a1, a2, a3, some (.ref L), a5, a6, a7, a8, some (iD d), a10, a11] m = .ok (List.replicate (l.filter fun p => !(stpD mc.maps d p.1 == p.2)).length (.int 1)) m := by
  have hk : fWalkK (fVar 4) [some (machF mc), a1, a2, a3, some (.ref L), a5, a6, a7, a8, some (iD d), a10, a11] m = .ok (srcT (l.map fun p => iD p.1)) m := by
    unfold fWalkK
    simp only [e_var, List.getElem?_cons_succ, List.getElem?_cons_zero, bind_ok, hL]
    unfold kvD
    rw [List.map_map]
    rfl
  rw [fLc_t l (fun p => iD p.1) (fun p => !(stpD mc.maps d p.1 == p.2)) (fun _ => .int 1) hk (isT _ _) (by rw [LIM_eq]; omega) fun p hp => ?_]
  · rw [List.map_const']
  · have hst := maps_at hd
    have e1 : ∀ q : M, gIx (machF mc) (.int 1) q = .ok (.fix (mc.maps.map tI)) q := fun q => rfl
    have e2 : ∀ q : M, gIx (.fix (mc.maps.map tI)) (.int (d : Int)) q = .ok (tI (mc.maps.getD d [])) q := fun q => fix_at (by rw [List.getElem?_map, hst]; rfl) q
    have hml : (mc.maps.getD d []).length = b := hm.len _ (List.mem_of_getElem? hst)
    have e3 : ∀ q : M, gIx (tI (mc.maps.getD d [])) (.int (p.1 : Int)) q = .ok (iD (stpD mc.maps d p.1)) q := fun q => tI_getD (by rw [hml]; exact hb p hp) q
    obtain ⟨i, hi⟩ := List.getElem?_of_mem hp
    have e4 : gIx (.ref L) (iD p.1) m = .ok (iD p.2) m := gIx_fz (g := iD) iD_inj hL (keyOk_int _) (look_at hn hi)
    refine ⟨_, rfl, ?_, fun _ => rfl⟩
    have e5 : gNe (iD (stpD mc.maps d p.1)) (iD p.2) m = .ok (.bl (!(stpD mc.maps d p.1 == p.2))) m := by
      rw [gNe_num rfl rfl (Nat.zero_le _) (Nat.zero_le _)]
      by_cases e : stpD mc.maps d p.1 = p.2
      · simp [e]
      · have e' : ¬ iD (stpD mc.maps d p.1) = iD p.2 := fun q => e (iD_inj q)
        simp [e, e']
    simp [-List.getD_eq_getElem?_getD, -gNe_int, wipeD, e1, e2, e3, e4, e5]
/-- v with all of one hand -/
theorem whole_ok {here v : List Nat} {j : Nat} (hj : j < here.length) (hv : v.length = here.length) (h4 : here.length ≤ 4) (a0 a1 a4 a5 a7 a8 a9 a10 a11 : Option D) (m : M) :
    (fOp gAdd (fOp gAdd (fCut (fVar 6) fNoPart (fPart (fVar 3))) (fTup (fCons (fOp gIx (fVar 2) (fVar 3)) fNil))) (fCut (fVar 6) (fPart (fOp gAdd (fVar 3) (fC (.int 1)))) fNoPart)) [a0, a1, some (tI here), some (iD j), a4, a5, some (tI v), a7, a8, a9, a10, a11] m = .ok (tI (upS here j v)) m := by
  have c1 : cutD (v.map iD) none (some (j : Int)) = (v.take j).map iD := by rw [cut_take (by simp; omega), tI_take]
  have c2 : cutD (v.map iD) (some ((j : Int) + 1)) none = (v.drop (j + 1)).map iD := by
    rw [show (j : Int) + 1 = ((j + 1 : Nat) : Int) by omega, cut_drop (by simp; omega), List.map_drop]
  have e := tI_getD hj m
  have l1 : 1 ≤ LIM := by rw [LIM_eq]; omega
  have l2 : (v.take j).length + 1 ≤ LIM := by rw [List.length_take, LIM_eq]; omega
  have l3 : (v.take j).length + 1 + (v.drop (j + 1)).length ≤ LIM := by rw [List.length_take, List.length_drop, LIM_eq]; omega
  simp only [List.length_take, List.length_drop] at l2 l3
  have e' : atI (here.map iD) (j : Int) = some (iD (here.getD j 0)) := at_nat (by rw [List.getElem?_map, Dl.getD_at hj]; rfl)
  simp [-List.getD_eq_getElem?_getD, tI, c1, c2, e', l1, l2, l3]
  unfold upS
  rw [set_parts (by omega)]
  simp
end K81

namespace K81
open PySem PyProof.Rows L2 Dl
/-- the test of one deed -/
theorem deed_test {mc : Mach} {b : Nat} (hm : mc.Ok b) {l : List (Nat × Nat)} {d L : Nat} {m : M} (hw : Wf m) (a1 a2 a3 a5 a6 a7 a8 a10 a11 : Option D) (hL : m[L]? = some (.fz false (kvD iD iD l))) (hn : (l.map (·.1)).Nodup) (hb : ∀ p ∈ l, p.1 < b) (hd : d < mc.maps.length) (hl : l.length ≤ 30000) :
    fGcB (fTest (fOp gEq (fName (fLc (fWalkK (fVar 4)) (gN 10) [10] (fTest (fOp gNe (fOp gIx (fOp gIx (fOp gIx (fVar 0) (fC (.int 1))) (fVar 9)) (fVar 10)) (fOp gIx (fVar 4) (fVar 10)))) (fC (.int 1)))) (fName (fLst fNil)))) [some (machF mc), a1, a2, a3, some (.ref L), a5, a6, a7, a8, some (iD d), a10, a11] m = .ok (l.all fun p => stpD mc.maps d p.1 == p.2) m := by
  have e1 := inner_ok hm a1 a2 a3 a5 a6 a7 a8 a10 a11 hL hn hb hd hl
  generalize hk : (l.filter fun p => !(stpD mc.maps d p.1 == p.2)).length = k at e1
  have e2 := gEq_ones (m := m ++ [.lst (List.replicate k (.int 1)), .lst []]) (a := m.length) (c := m.length + 1) (k := k) (by simp) (by simp)
  have e3 : decide (k = 0) = (l.all fun p => stpD mc.maps d p.1 == p.2) := by
    rw [Bool.eq_iff_iff, decide_eq_true_eq, ← hk, List.length_eq_zero_iff, List.filter_eq_nil_iff, List.all_eq_true]
    simp
  simp only [e_gcB, e_test, e_op, e_name, e1, bind_ok, e_lst, e_nil, List.length_nil, Nat.zero_le, if_true, List.append_assoc, List.singleton_append, List.length_append, List.length_cons, Nat.zero_add]
  rw [e2]
  simp only [e_asB]
  rw [gcB_junk rfl hw, e3]
theorem law_last_ok {mc : Mach} {b hs : Nat} (S : Set' mc b hs) {h0 : Hist} (ok : HOk hs mc.maps.length h0) {here : List Nat} {j n : Nat} (T : TF here (brd mc.maps mc.start h0) b) (hwi : Within (Dl.cnt hs h0) here) (hj : j < here.length) (h1 : here.getD j 0 ≠ 0) {m : M} (hw : Wf m) (hn : m[n]? = some (tabO mc hs h0)) :
    F__law_last [machF mc, .ref n, tI here, iD j] m = .ok (.ref m.length) (m ++ [.lst ((dsF mc.maps (brd mc.maps mc.start h0) here j).map iD)]) := by
  let f := brd mc.maps mc.start h0
  let os := others here j
  have hwo : Within here os := within_of (by simp [os, others]) fun i => by
    show (here.set j 0).getD i 0 ≤ _
    rw [getD_set]
    split <;> omega
  have To : TF os f b := T.less hwo
  let V := vecs os
  have hV : V.length ≤ 30000 := by show (vecs os).length ≤ _; rw [vecs_len]; exact To.prd
  refine RW.eq (run_w rfl ?_)
  unfold g__law_last
  let ρ (a6 a7 a8 : Option D) : Sl := [some (machF mc), some (.ref n), some (tI here), some (iD j), some (.ref m.length), some (.ref (m.length + 1)), a6, a7, a8, none, none, none]
  let m1 : M := m ++ [.dct false [], .lst (os.map iD)]
  have hw1 : Wf m1 := by
    have := (hw.app (o := .dct false []) rfl).app (o := .lst (os.map iD)) (lst_blw (fun _ => rfl) _ _)
    simpa [m1] using this
  have s1 : sAsg (fTup (fCons (fDict0 false) (fCons (fName (fLc (fEnum (fVar 2)) (gT 2 (gCons' (gN 10) (gCons' (gN 11) gNil'))) [10, 11] fYes (fIf (fTest (fOp gEq (fVar 10) (fVar 3))) (fC (.int 0)) (fVar 11)))) fNil))) (gT 2 (gCons' (gN 4) (gCons' (gN 5) gNil'))) (startD 12 [machF mc, .ref n, tI here, iD j]) m = .nx (ρ none none none) m1 := by
    have e := others_ok (here := here) (j := j) T.l4 (some (machF mc)) (some (.ref n)) none none none none none none none none (m ++ [.dct false []])
    have e' : fDict0 false [some (machF mc), some (.ref n), some (tI here), some (iD j), none, none, none, none, none, none, none, none] m = .ok (.ref m.length) (m ++ [.dct false []]) := rfl
    have l2 : 2 ≤ LIM := by rw [LIM_eq]; omega
    show (fTup _ [some (machF mc), some (.ref n), some (tI here), some (iD j), none, none, none, none, none, none, none, none] m).out _ _ = _
    simp only [e_tup, e_cons, e', bind_ok, e_name, e, e_nil, List.length_cons, List.length_nil]
    rw [if_pos l2]
    simp [ρ, m1, os]
  have s2 : fWalk (fCall F__law_vectors (fCons (fVar 5) fNil)) (ρ none none none) m1 = .ok (srcL (m.length + 2) V.length) (lsM m [] os V) := by
    have e := law_vectors_l (m := m1) (k := m.length + 1) (cs := os) (by simp [m1]) To.l4 To.prd hw1
    have hlen : m1.length = m.length + 2 := by simp [m1]
    have hM : m1 ++ [O.lst ((vecs os).map tI)] = lsM m [] os V := by simp [m1, lsM, V, kvD]
    rw [hlen, hM] at e
    have hg : gcR m1.length (.ok (.ref (m.length + 2)) (lsM m [] os V)) = .ok (.ref (m.length + 2)) (lsM m [] os V) := by
      have := gcR_new (L := m1.length) (m := m1) (j := [.lst (V.map tI)]) (n := m.length + 2) (o := .lst (V.map tI)) rfl hw1 (by omega) (by rw [← hlen]; simp) (listM_blw _)
      rw [show m1 ++ [O.lst (V.map tI)] = lsM m [] os V from hM] at this
      rw [this, hlen]
    have hsk := srcK_l (lsM_2 m [] os V)
    rw [List.length_map] at hsk
    simp only [e_walk, e_call, e_cons, e_var, e_nil, ρ, List.getElem?_cons_succ, List.getElem?_cons_zero, bind_ok, e, hg, hsk]
  have fin : ∀ (l : List (Nat × Nat)), (gc m.length (.ref (m.length + 3)) (lsM m l os V ++ [.lst ((dsF mc.maps f here j).map iD)])) = (.ref m.length, m ++ [.lst ((dsF mc.maps f here j).map iD)]) := fun l => by
    have := gc_n (L := m.length) (m := m) (n := m.length + 3) (j := [.dct false (kvD iD iD l), .lst (os.map iD), .lst (V.map tI), .lst ((dsF mc.maps f here j).map iD)]) (o := .lst ((dsF mc.maps f here j).map iD)) rfl hw (by omega) (by simp) (lst_blw (fun _ => rfl) _ _)
    simpa [lsM] using this
  rw [s_seq, s1]
  simp only [OW_seqK, OW_nx, thenP_nx, s_seq, s_for, s2, out_ok]
  let I : List (List Nat) → List (Option D) → M → Prop := fun pre vs m2 => ∃ l a6 a7 a8, vs = [a6, a7, a8] ∧ m2 = lsM m l os V ∧ DicOk f here j pre l ∧ l.length ≤ pre.length
  refine for_l V tI rfl rfl [6, 7, 8] I ⟨[], none, none, none, rfl, rfl, ⟨List.nodup_nil, fun v hv => (by cases hv), fun p hp => (by cases hp)⟩, Nat.le_refl _⟩ (fun pre vs m2 h => by obtain ⟨l, _, _, _, _, rfl, _⟩ := h; exact lsM_2 m l os V) ?_ ?_
  · rintro pre v post vs m2 hl ⟨l, a6, a7, a8, rfl, rfl, hd, hll⟩
    have hvm : v ∈ V := by rw [hl]; simp
    have hwv : Within os v := mem_vecs.mp hvm
    have hpre : ∀ u ∈ pre, Within os u := fun u hu => mem_vecs.mp (show u ∈ V by rw [hl]; exact List.mem_append_left _ hu)
    have htop := mem_topV.mp (upS_top hj hwv)
    have hvl : v.length = here.length := by rw [hwv.1]; simp [os, others]
    have hprel : pre.length < 30000 := by
      have : pre.length + 1 ≤ V.length := by rw [hl, List.length_append, List.length_cons]; omega
      omega
    let w := upS here j v
    let mm := lsM m l os V
    have hnn : mm[n]? = some (tabO mc hs h0) := lsM_at hn _
    have t1 : sSet 7 (fOp gAdd (fOp gAdd (fCut (fVar 6) fNoPart (fPart (fVar 3))) (fTup (fCons (fOp gIx (fVar 2) (fVar 3)) fNil))) (fCut (fVar 6) (fPart (fOp gAdd (fVar 3) (fC (.int 1)))) fNoPart)) (ρ (some (tI v)) a7 a8) mm = .nx (ρ (some (tI v)) (some (tI w)) a8) mm := by
      rw [s_set, whole_ok hj hvl T.l4]
      rfl
    have hww : w.length = here.length := htop.1.1
    have hless := law_less_ok (v := w) (j := j) (by rw [hww]; exact hj) (by rw [htop.2]; exact h1) (by rw [hww]; exact T.l4) mm
    have hlook1 := tab_look (mc := mc) (within_trans (within_drpV htop.1 j) hwi) hnn
    have hlook2 := tab_look (mc := mc) (within_trans htop.1 hwi) hnn
    have t2 : sSet 8 (fOp gIx (fVar 1) (fCall F__law_less (fCons (fVar 7) (fCons (fVar 3) fNil)))) (ρ (some (tI v)) (some (tI w)) a8) mm = .nx (ρ (some (tI v)) (some (tI w)) (some (iD (f (Dl.drp w j))))) mm := by
      simp only [s_set, e_op, e_call, e_cons, e_var, e_nil, ρ, List.getElem?_cons_succ, List.getElem?_cons_zero, bind_ok]
      rw [show F__law_less [tI (upS here j v), iD j] mm = _ from hless]
      simp only [gcR_same, bind_ok]
      rw [show gIx (.ref n) (tI (Dl.drp (upS here j v) j)) mm = _ from hlook1]
      rfl
    let x := f (Dl.drp w j)
    let y := f w
    let r : Sl := ρ (some (tI v)) (some (tI w)) (some (iD x))
    have hy : (fOp gIx (fVar 1) (fVar 7)) r (lsM m l os V) = .ok (iD y) (lsM m l os V) := by
      simp only [e_op, e_var, r, ρ, List.getElem?_cons_succ, List.getElem?_cons_zero, bind_ok]
      exact hlook2
    have hg2 := get2_ok (f := iD) (g := iD) iD_inj (fo := fVar 4) (fk := fVar 8) (fx := fOp gIx (fVar 1) (fVar 7)) (ρ := r) (lsM_0 m l os V) rfl rfl hy (keyOk_int _)
    rw [bodyAt_n]
    show OW (sSeq _ _ (ρ (some (tI v)) a7 a8) mm) _
    simp only [s_seq, t1, OW_seqK, OW_nx, thenP_nx, t2]
    have hput : ∀ l', putD (kvD iD iD l) (iD x) (iD y) = kvD iD iD l' → l.length < LIM → sSub (fOp gIx (fVar 1) (fVar 7)) (fVar 4) (fVar 8) r mm = .nx r (lsM m l' os V) := fun l' e hlim => by
      have := subD_ok (f := fOp gIx (fVar 1) (fVar 7)) (fo := fVar 4) (fi := fVar 8) (ρ := r) (m := mm) (m1 := mm) (m2 := mm) (m3 := mm) (d := iD y) (k := iD x) (n := m.length) (t := false) (kvs := kvD iD iD l) hy rfl rfl (lsM_0 m l os V) (keyOk_int _) (by unfold kvD; rw [List.length_map]; exact hlim)
      rw [this, e]
      show Out.nx r ((m ++ (_ :: [_, _])).set m.length _) = _
      rw [set_three]
      rfl
    have hlim : l.length < LIM := by rw [LIM_eq]; omega
    cases hlk : lookP l x with
    | none =>
      have et : fTest (fOp gNe (fGet2 (fVar 4) (fVar 8) (fOp gIx (fVar 1) (fVar 7))) (fOp gIx (fVar 1) (fVar 7))) r mm = .ok false mm := by
        rw [e_test, e_op, hg2, hlk]
        simp only [Option.map_none, Option.getD_none, bind_ok, hy]
        simp
        rfl
      show OW (sIf _ _ _ r mm) _
      rw [s_if, et]
      simp only [out_ok, Bool.false_eq_true, if_false, s_next, OW_nx, thenP_nx]
      have hni := look_none.mp hlk
      rw [show OW (sSub (fOp gIx (fVar 1) (fVar 7)) (fVar 4) (fVar 8) _ _) _ = OW (sSub (fOp gIx (fVar 1) (fVar 7)) (fVar 4) (fVar 8) r mm) _ from rfl, hput _ (put_new iD_inj hni) hlim]
      refine ⟨_, rfl, l ++ [(x, y)], _, _, _, rfl, rfl, ⟨?_, ?_, ?_⟩, by simp; exact hll⟩
      · rw [List.map_append, List.nodup_append]
        exact ⟨hd.nd, by simp, fun a ha c hc => by
          rintro rfl
          simp at hc
          subst hc
          exact hni ha⟩
      · intro u hu
        rcases List.mem_append.mp hu with q | q
        · exact List.mem_append_left _ (hd.a u q)
        · rw [List.mem_singleton.mp q]
          exact List.mem_append_right _ (by simp [prV, x, y, w])
      · intro p hp
        rcases List.mem_append.mp hp with q | q
        · obtain ⟨u, hu, e⟩ := hd.b p q
          exact ⟨u, List.mem_append_left _ hu, e⟩
        · rw [List.mem_singleton.mp q]
          exact ⟨v, by simp, rfl⟩
    | some y' =>
      have hmem := look_mem hlk
      by_cases e : y' = y
      · subst e
        have et : fTest (fOp gNe (fGet2 (fVar 4) (fVar 8) (fOp gIx (fVar 1) (fVar 7))) (fOp gIx (fVar 1) (fVar 7))) r mm = .ok false mm := by
          rw [e_test, e_op, hg2, hlk]
          simp only [Option.map_some, Option.getD_some, bind_ok, hy]
          simp
          rfl
        show OW (sIf _ _ _ r mm) _
        rw [s_if, et]
        simp only [out_ok, Bool.false_eq_true, if_false, s_next, OW_nx, thenP_nx]
        rw [show OW (sSub (fOp gIx (fVar 1) (fVar 7)) (fVar 4) (fVar 8) _ _) _ = OW (sSub (fOp gIx (fVar 1) (fVar 7)) (fVar 4) (fVar 8) r mm) _ from rfl, hput _ (put_old iD_inj hd.nd hmem) hlim]
        refine ⟨_, rfl, l, _, _, _, rfl, rfl, ⟨hd.nd, ?_, ?_⟩, by simp; omega⟩
        · intro u hu
          rcases List.mem_append.mp hu with q | q
          · exact hd.a u q
          · rw [List.mem_singleton.mp q]
            exact hmem
        · intro p hp
          obtain ⟨u, hu, e⟩ := hd.b p hp
          exact ⟨u, List.mem_append_left _ hu, e⟩
      · have hbad : dsF mc.maps f here j = [] := dic_bad hj hd hpre hwv hmem e
        have et : fTest (fOp gNe (fGet2 (fVar 4) (fVar 8) (fOp gIx (fVar 1) (fVar 7))) (fOp gIx (fVar 1) (fVar 7))) r mm = .ok true mm := by
          rw [e_test, e_op, hg2, hlk]
          simp only [Option.map_some, Option.getD_some, bind_ok, hy]
          have e' : ¬ ((y' : Int) = (y : Int)) := by omega
          simp [e']
          rfl
        show OW (sIf _ _ _ r mm) _
        rw [s_if, et]
        simp only [out_ok, if_true]
        have hr : sRet (fName (fLst fNil)) r mm = .rt (.ref (m.length + 3)) (mm ++ [.lst []]) := by
          have : mm.length = m.length + 3 := by simp [mm, lsM]
          simp [this]
        rw [hr]
        have := fin l
        rw [hbad] at this
        have hgc : gc m.length (.ref (m.length + 3)) (mm ++ [O.lst []]) = (.ref m.length, m ++ [O.lst []]) := this
        have hz : dsF mc.maps (brd mc.maps mc.start h0) here j = [] := hbad
        simp only [OW_rt, loopP_rt, thenP_rt, endP_rt, hgc, hz]
        simp
  · rintro vs m2 ⟨l, a6, a7, a8, rfl, rfl, hd, hll⟩
    let mF : M := m ++ [.fz false (kvD iD iD l), .lst (os.map iD), .lst (V.map tI)]
    let r : Sl := ρ a6 a7 a8
    have hset : (lsM m l os V).set m.length (.fz false (kvD iD iD l)) = mF := set_three _ _ _ _
    have hwF : Wf mF := by
      have := (lsM_wf hw l os V).set (n := m.length) (o := .fz false (kvD iD iD l)) (by
        have := dct_blw (f := iD) (g := iD) (fun _ => rfl) l false (lsM m l os V).length
        simpa only [O.blw] using this)
      rw [hset] at this
      exact this
    have hlb : ∀ p ∈ l, p.1 < b := fun p hp => by
      obtain ⟨u, _, rfl⟩ := hd.b p hp
      exact T.fb _
    have hll2 : l.length ≤ 30000 := Nat.le_trans hll hV
    have ec : fLc (fRng1 (fCB gLen (fCons (fOp gIx (fVar 0) (fC (.int 1))) fNil))) (gN 9) [9] (fGcB (fTest (fOp gEq (fName (fLc (fWalkK (fVar 4)) (gN 10) [10] (fTest (fOp gNe (fOp gIx (fOp gIx (fOp gIx (fVar 0) (fC (.int 1))) (fVar 9)) (fVar 10)) (fOp gIx (fVar 4) (fVar 10)))) (fC (.int 1)))) (fName (fLst fNil))))) (fVar 9) r mF = .ok ((dsF mc.maps f here j).map iD) mF := by
      have hn6 := S.m.n6
      rw [fLc_t (List.range mc.maps.length) iD (fun d => l.all fun p => stpD mc.maps d p.1 == p.2) iD (src := srcR 0 mc.maps.length) ?_ (isR _ _) (by rw [List.length_range, LIM_eq]; omega) fun d hd' => ?_, dic_ds hj hd]
      · have e1 : gIx (machF mc) (.int 1) mF = .ok (.fix (mc.maps.map tI)) mF := rfl
        simp only [e_rng, e_cb, e_cons, e_op, e_var, r, ρ, List.getElem?_cons_zero, bind_ok, e_c, e1, e_nil]
        have : gLen [D.fix (mc.maps.map tI)] mF = .ok (.int (mc.maps.length : Int)) mF := by simp
        rw [this]
        exact rngK_n (by rw [LIM_eq]; omega) mF
      · refine ⟨_, rfl, ?_, fun _ => rfl⟩
        exact deed_test S.m hwF _ _ _ _ _ _ _ _ _ (by simp [mF]) hd.nd hlb (List.mem_range.mp hd') hll2
    have er : sRet (fName (fLc (fRng1 (fCB gLen (fCons (fOp gIx (fVar 0) (fC (.int 1))) fNil))) (gN 9) [9] (fGcB (fTest (fOp gEq (fName (fLc (fWalkK (fVar 4)) (gN 10) [10] (fTest (fOp gNe (fOp gIx (fOp gIx (fOp gIx (fVar 0) (fC (.int 1))) (fVar 9)) (fVar 10)) (fOp gIx (fVar 4) (fVar 10)))) (fC (.int 1)))) (fName (fLst fNil))))) (fVar 9))) r mF = .rt (.ref (m.length + 3)) (mF ++ [.lst ((dsF mc.maps f here j).map iD)]) := by
      have : mF.length = m.length + 3 := by simp [mF]
      rw [s_ret, e_name, ec]
      simp [this]
    show OW (sLock 4 _ r (lsM m l os V)) _
    unfold sLock
    have hr4 : r[4]? = some (some (.ref m.length)) := rfl
    simp only [hr4, lsM_0]
    rw [hset, er]
    have hback : (mF ++ [O.lst ((dsF mc.maps f here j).map iD)]).set m.length (O.dct false (kvD iD iD l)) = lsM m l os V ++ [O.lst ((dsF mc.maps f here j).map iD)] := by
      show ((m ++ (O.fz false (kvD iD iD l) :: [O.lst (os.map iD), O.lst (V.map tI)])) ++ [O.lst ((dsF mc.maps f here j).map iD)]).set m.length (O.dct false (kvD iD iD l)) = _
      rw [List.append_assoc, List.cons_append, set_three]
      simp [lsM]
    show OW (unlk m.length _ (.rt _ _)) _
    unfold unlk
    simp only [hback, OW_rt, endP_rt]
    rw [fin l]
    exact ⟨rfl, rfl⟩
end K81

namespace K81
open PySem PyProof.Rows L2 Dl
/-! ### the place of a deed -/
theorem idxM_is {maps : List (List Nat)} {d : Nat} (hd : d < maps.length) : idxM maps d < maps.length ∧ maps.getD (idxM maps d) [] = maps.getD d [] ∧ ∀ e, e < idxM maps d → maps.getD e [] ≠ maps.getD d [] := by
  unfold idxM
  have hp : ((List.range maps.length).filter fun e => maps.getD e [] == maps.getD d []).Pairwise (· < ·) := (List.pairwise_lt_range (n := maps.length)).filter _
  have hm : ∀ e, e ∈ ((List.range maps.length).filter fun e => maps.getD e [] == maps.getD d []) ↔ e < maps.length ∧ maps.getD e [] = maps.getD d [] := fun e => by
    rw [List.mem_filter, List.mem_range]
    simp
  cases hl : ((List.range maps.length).filter fun e => maps.getD e [] == maps.getD d []) with
  | nil =>
    have := (hm d).mpr ⟨hd, rfl⟩
    rw [hl] at this
    cases this
  | cons x r =>
    rw [hl] at hp hm
    have hx := (hm x).mp List.mem_cons_self
    refine ⟨hx.1, hx.2, fun e he q => ?_⟩
    have h1 := (hm e).mpr ⟨by have := hx.1; simp only [List.headD_cons] at he; omega, q⟩
    simp only [List.headD_cons] at he
    rcases List.mem_cons.mp h1 with h2 | h2
    · omega
    · have := (List.pairwise_cons.mp hp).1 e h2
      omega
theorem canLay_pI (l : List Nat) : PyData.canLayAll0 (l.map pI) = true := by
  induction l with
  | nil => rfl
  | cons a r ih => simp only [List.map_cons, PyData.canLayAll0, ih, pI, PyData.canLay0, Bool.and_self]
theorem canLay_maps (l : List (List Nat)) : PyData.canLayAll0 (l.map fun f => PyData.tuple (f.map pI)) = true := by
  induction l with
  | nil => rfl
  | cons a r ih => simp only [List.map_cons, PyData.canLayAll0, ih, PyData.canLay0, canLay_pI, Bool.and_self]
theorem idx_ok {maps : List (List Nat)} {d : Nat} (hd : d < maps.length) (m : M) : gIdxT (.fix (maps.map tI)) (tI (maps.getD d [])) m = .ok (iD (idxM maps d)) m := by
  have p1 : Ps DEEP m (.tup (maps.map tI)) (.tuple (maps.map fun f => .tuple (f.map pI))) 2 := ps_tup (pss_map maps tI (fun f => .tuple (f.map pI)) fun f _ => ps_tI _ _ f)
  have p2 := ps_tI DEEP m (maps.getD d [])
  have e1 : pdM DEEP m (.fix (maps.map tI)) = some (.tuple (maps.map fun f => .tuple (f.map pI))) := p1.e
  unfold gIdxT
  rw [e1, p2.e]
  have s1 : SeqAt.shaped (.list (maps.map fun f => PyData.tuple (f.map pI))) = true := by
    unfold SeqAt.shaped
    simp only [PyData.canLay0, canLay_maps, Bool.true_and]
    have := p1.d
    simp only [PyData.depth] at this ⊢
    exact decide_eq_true (by omega)
  have s2 : SeqAt.shaped (.tuple ((maps.getD d []).map pI)) = true := by
    unfold SeqAt.shaped
    simp only [PyData.canLay0, canLay_pI, Bool.true_and]
    exact decide_eq_true (by have := p2.d; omega)
  have hb : ∀ f g : List Nat, PyData.eqv (.tuple (f.map pI)) (.tuple (g.map pI)) = decide (f = g) := fun f g => by
    have h := eqv_bare (p := .tuple (f.map pI)) (q := .tuple (g.map pI)) (ps_tI DEEP m f).b (ps_tI DEEP m g).b
    rw [Bool.eq_iff_iff, h, decide_eq_true_eq]
    constructor
    · intro q
      injection q with q
      exact pIs_inj q
    · intro q
      rw [q]
  have hi : idxP (maps.map fun f => PyData.tuple (f.map pI)) (.tuple ((maps.getD d []).map pI)) = some (idxM maps d) := by
    unfold idxP
    obtain ⟨i1, i2, i3⟩ := idxM_is hd
    rw [List.findIdx?_eq_some_iff_getElem]
    have get : ∀ e (he : e < maps.length), maps[e] = maps.getD e [] := fun e he => by
      rw [List.getD_eq_getElem?_getD, List.getElem?_eq_getElem he]
      rfl
    refine ⟨by simpa using i1, ?_, fun e he => ?_⟩
    · rw [List.getElem_map, hb, get _ i1, i2]
      simp
    · rw [List.getElem_map, hb, get _ (by omega)]
      simpa using i3 e he
  simp only [s1, s2, Bool.and_self, if_true, hi]
/-! ### the law's normal history, where all deeds turn -/
theorem rowM_len (maps : List (List Nat)) (g : Hist) (j : Nat) : (rowM maps g j).length = num1 g j := by
  unfold rowM num1
  rw [List.length_map]
theorem rowsF_le (maps : List (List Nat)) (g : Hist) : ∀ k, k ≤ 4 → (rowsF maps k g).length ≤ 4 * g.length := by
  intro k hk
  have : ∀ k, (rowsF maps k g).length ≤ k * g.length := by
    intro k
    induction k with
    | zero => simp [rowsF]
    | succ k ih =>
      rw [rows_succ, List.length_append, rowM_len, Nat.add_mul]
      have := num1_le g k
      omega
  exact Nat.le_trans (this k) (Nat.mul_le_mul_right _ hk)
noncomputable def exR : FE := fGc (fMeth mExtend (fVar 4) (fCons (fName (fLc (fWalk (fVar 2)) (gT 2 (gCons' (gN 10) (gCons' (gN 12) gNil'))) [10, 12] (fTest (fOp gEq (fVar 10) (fVar 5))) (fTup (fCons (fVar 5) (fCons (fIdxT (fOp gIx (fVar 0) (fC (.int 1))) (fOp gIx (fOp gIx (fVar 0) (fC (.int 1))) (fVar 12))) fNil))))) fNil))
theorem rows_ok {mc : Mach} {b hs : Nat} (S : Set' mc b hs) {h : Hist} (ok : HOk hs mc.maps.length h) (hl : h.length ≤ 12) {m : M} (hw : Wf m) : F__law_normal [machF mc, iD hs, histD h, .int 0] m = .ok (histD (rowsF mc.maps hs h)) m := by
  have h4 := S.h4
  refine RW.eq (run_w rfl ?_)
  unfold g__law_normal
  let ρ (a5 a4 : Option D) : Sl := [some (machF mc), some (iD hs), some (histD h), some (.int 0), a4, a5, none, none, none, none, none, none, none]
  have et : ∀ a m, fTest (fOp gEq (fVar 3) (fC (.int 0))) (ρ none a) m = .ok true m := fun a m => by simp [ρ]
  rw [s_seq, s_if, show startD 13 [machF mc, iD hs, histD h, .int 0] = ρ none none from rfl, et]
  simp only [out_ok, if_true]
  have s1 : sSet 4 (fName (fLst fNil)) (ρ none none) m = .nx (ρ none (some (.ref m.length))) (m ++ [.lst []]) := by simp [ρ]
  rw [OW_seqK, s_seq, s1]
  simp only [OW_seqK, OW_nx, thenP_nx, s_seq, s_for]
  have s2 : fRng1 (fVar 1) (ρ none (some (.ref m.length))) (m ++ [.lst []]) = .ok (srcR 0 hs) (m ++ [.lst []]) := by
    simp [ρ, rngK_n (k := hs) (by rw [LIM_eq]; omega)]
  rw [s2]
  simp only [out_ok]
  let I : List Nat → List (Option D) → M → Prop := fun pre vs m2 => ∃ a, vs = [a] ∧ m2 = m ++ [.lst ((rowsF mc.maps pre.length h).map letD)]
  refine for_c (List.range hs) iD (cR hs) (by simp [srcR]) [5] I ⟨none, rfl, rfl⟩ ?_ ?_
  · rintro pre j post vs m2 hlr ⟨a, rfl, rfl⟩
    have hj : pre.length = j := by
      have := congrArg (fun l : List Nat => l[pre.length]?) hlr
      simp only [List.getElem?_append_right (Nat.le_refl _), Nat.sub_self, List.getElem?_cons_zero] at this
      rw [List.getElem?_eq_some_iff] at this
      obtain ⟨_, h2⟩ := this
      simpa using h2
    have hpl : pre.length < hs := by
      have := congrArg List.length hlr
      simp at this
      omega
    let mm : M := m ++ [.lst ((rowsF mc.maps pre.length h).map letD)]
    let r : Sl := ρ (some (iD j)) (some (.ref m.length))
    have ec : fLc (fWalk (fVar 2)) (gT 2 (gCons' (gN 10) (gCons' (gN 12) gNil'))) [10, 12] (fTest (fOp gEq (fVar 10) (fVar 5))) (fTup (fCons (fVar 5) (fCons (fIdxT (fOp gIx (fVar 0) (fC (.int 1))) (fOp gIx (fOp gIx (fVar 0) (fC (.int 1))) (fVar 12))) fNil))) r mm = .ok ((rowM mc.maps h j).map letD) mm := by
      rw [fLc_t h letD (fun p => p.1 == j) (fun p => letD (j, idxM mc.maps p.2)) (src := srcT (h.map letD)) rfl (isT _ _) (by rw [LIM_eq]; omega) fun p hp => ?_]
      · unfold rowM
        rw [List.map_map]
        rfl
      · refine ⟨_, rfl, ?_, fun _ => ?_⟩
        · by_cases e : p.1 = j
          · simp [wipeD, r, ρ, e]
          · have e' : ¬ ((p.1 : Int) = (j : Int)) := by omega
            simp [wipeD, r, ρ, e, e']
        · have hd := ok.deed p hp
          have l2 : 2 ≤ LIM := by rw [LIM_eq]; omega
          have e1 : ∀ q : M, gIx (machF mc) (.int 1) q = .ok (.fix (mc.maps.map tI)) q := fun q => rfl
          have e2 : ∀ q : M, gIx (.fix (mc.maps.map tI)) (.int (p.2 : Int)) q = .ok (tI (mc.maps.getD p.2 [])) q := fun q => fix_at (by rw [List.getElem?_map, maps_at hd]; rfl) q
          have e3 := idx_ok hd mm
          simp [-List.getD_eq_getElem?_getD, wipeD, r, ρ, fIdxT, e1, e2, e3, l2, letD]
    have hlen1 : (rowsF mc.maps pre.length h).length ≤ 48 := Nat.le_trans (rowsF_le mc.maps h pre.length (by omega)) (by omega)
    have hlen2 : (rowM mc.maps h j).length ≤ 12 := by rw [rowM_len]; exact Nat.le_trans (num1_le h j) hl
    have hmm : mm[m.length]? = some (.lst ((rowsF mc.maps pre.length h).map letD)) := at_snoc _ _
    have hm : fMeth mExtend (fVar 4) (fCons (fName (fLc (fWalk (fVar 2)) (gT 2 (gCons' (gN 10) (gCons' (gN 12) gNil'))) [10, 12] (fTest (fOp gEq (fVar 10) (fVar 5))) (fTup (fCons (fVar 5) (fCons (fIdxT (fOp gIx (fVar 0) (fC (.int 1))) (fOp gIx (fOp gIx (fVar 0) (fC (.int 1))) (fVar 12))) fNil))))) fNil) r mm
        = .ok .non ((mm ++ [O.lst ((rowM mc.maps h j).map letD)]).set m.length (.lst ((rowsF mc.maps pre.length h).map letD ++ (rowM mc.maps h j).map letD))) := by
      refine meth_ok (m1 := mm) (m2 := mm ++ [O.lst ((rowM mc.maps h j).map letD)]) (n := m.length) (xs0 := (rowsF mc.maps pre.length h).map letD) (xs := (rowsF mc.maps pre.length h).map letD) (as := [.ref mm.length]) (ys := (rowsF mc.maps pre.length h).map letD ++ (rowM mc.maps h j).map letD) rfl hmm (by simp only [e_cons, e_name, ec, bind_ok, e_nil]) (by rw [List.getElem?_append_left (by simp [mm])]; exact hmm) ?_
      have hlim : ((rowsF mc.maps pre.length h).map letD).length + ((rowM mc.maps h j).map letD).length ≤ LIM := by
        rw [List.length_map, List.length_map, LIM_eq]
        omega
      simp only [mExtend, at_snoc, if_pos hlim]
    have hset : (mm ++ [O.lst ((rowM mc.maps h j).map letD)]).set m.length (.lst ((rowsF mc.maps pre.length h).map letD ++ (rowM mc.maps h j).map letD)) = (m ++ [O.lst ((rowsF mc.maps (pre.length + 1) h).map letD)]) ++ [O.lst ((rowM mc.maps h j).map letD)] := by
      show ((m ++ [_]) ++ [_]).set m.length _ = _
      rw [List.append_assoc, List.singleton_append, set_three, rows_succ, hj]
      simp
    have hgc : exR r mm = .ok .non (m ++ [O.lst ((rowsF mc.maps (pre.length + 1) h).map letD)]) := by
      unfold exR
      rw [e_gc, hm, hset]
      exact gcR_junk (by simp [mm]) (hw.app (lst_blw (fun _ => rfl) _ _)) rfl
    rw [bodyAt_n]
    show OW (sDrop exR r mm) _
    rw [s_drop, hgc]
    exact ⟨_, rfl, _, rfl, by simp⟩
  · rintro vs m2 ⟨a, rfl, rfl⟩
    rw [List.length_range]
    have hret : sRet (fCB gTuple (fCons (fVar 4) fNil)) (ρ a (some (.ref m.length))) (m ++ [.lst ((rowsF mc.maps hs h).map letD)]) = .rt (histD (rowsF mc.maps hs h)) (m ++ [.lst ((rowsF mc.maps hs h).map letD)]) := by
      simp [ρ]
      rfl
    show OW (sRet _ (ρ a (some (.ref m.length))) _) _
    rw [hret]
    have := gc_j (L := m.length) (d := histD (rowsF mc.maps hs h)) (j := [O.lst ((rowsF mc.maps hs h).map letD)]) rfl hw (num_blw (nums_map (f := letD) (fun _ => rfl) _) _)
    show (gc m.length _ _).1 = _ ∧ (gc m.length _ _).2 = _
    rw [this]
    exact ⟨rfl, rfl⟩
end K81

namespace K81
open PySem PyProof.Rows L2 Dl
theorem gNe_nil {m : M} {a c : Nat} {l : List Nat} (ha : m[a]? = some (.lst (l.map iD))) (hc : m[c]? = some (.lst [])) : gNe (.ref a) (.ref c) m = .ok (.bl (!decide (l = []))) m := by
  have p2 : Ps DEEP m (.ref c) (.list []) 1 := ps_ref hc (pss_nil 2 m |> fun h => ⟨h.e, h.b, by have := h.d; omega⟩)
  obtain ⟨t, e, ht⟩ := gNe_ps (ps_lI (k := 2) ha) p2 (by omega) (by omega)
  rw [e]
  have : t = decide (l = []) := bool_dec (by
    rw [ht]
    constructor
    · intro q
      simpa using q
    · rintro rfl
      rfl)
  rw [this]
def endO (maps : List (List Nat)) (f : List Nat → Nat) (cs : List Nat) (pre : List Nat) : Nat × Nat := (lasO maps f cs pre).getLastD (0, 0)
def nextE (p : Nat × Nat) (j : Nat) : List Nat → Nat × Nat
  | [] => p
  | x :: _ => (j, x)
theorem endO_snoc (maps : List (List Nat)) (f : List Nat → Nat) (cs : List Nat) (pre : List Nat) (j : Nat) : endO maps f cs (pre ++ [j]) = nextE (endO maps f cs pre) j (if cs.getD j 0 = 0 then [] else dsF maps f cs j) := by
  unfold endO lasO
  rw [List.filterMap_append]
  by_cases e : cs.getD j 0 = 0
  · rw [if_pos e]
    simp [-List.getD_eq_getElem?_getD, e, nextE]
  · rw [if_neg e]
    simp only [List.filterMap_cons, List.filterMap_nil, if_neg e]
    cases dsF maps f cs j with
    | nil => simp [nextE]
    | cons x r => simp [nextE]
theorem nrm_law_ok {mc : Mach} {b hs form : Nat} (S : Set' mc b hs) {h : Hist} (ok : HOk hs mc.maps.length h) (hl : h.length ≤ 12) (hf : form ≠ 0) {m : M} (hw : Wf m) : F__law_normal [machF mc, iD hs, histD h, iD form] m = .ok (histD (nrm mc hs h)) m := by
  have h4 := S.h4
  let f := brd mc.maps mc.start h
  refine RW.eq (run_w rfl ?_)
  unfold g__law_normal
  let ρ (a4 a7 a8 a9 a10 a11 : Option D) : Sl := [some (machF mc), some (iD hs), some (histD h), some (iD form), a4, none, some (.ref m.length), a7, a8, a9, a10, a11, none]
  have et : fTest (fOp gEq (fVar 3) (fC (.int 0))) (startD 13 [machF mc, iD hs, histD h, iD form]) m = .ok false m := by
    have e' : ¬ ((form : Int) = 0) := by omega
    simp [startD, hf]
  rw [s_seq, s_if, et]
  simp only [out_ok, Bool.false_eq_true, if_false, s_next, OW_seqK, OW_nx, thenP_nx]
  have hwt : Wf (m ++ [tabO mc hs h]) := hw.app (dct_blw (fun _ => rfl) _ _ _)
  have s1 : sPar3 6 7 4 (fCons (fCall F__law_table (fCons (fVar 0) (fCons (fVar 1) (fCons (fVar 2) fNil)))) (fCons (fCall F__law_counts (fCons (fVar 1) (fCons (fVar 2) fNil))) (fCons (fTup fNil) fNil))) (startD 13 [machF mc, iD hs, histD h, iD form]) m = .nx (ρ (some (.tup [])) (some (tI (Dl.cnt hs h))) none none none none) (m ++ [tabO mc hs h]) := by
    have e1 := law_table_ok S ok hl hw
    have e2 := counts_ok (hs := hs) (h := h) h4 (by omega) (m ++ [tabO mc hs h])
    have hg : gcR m.length (.ok (.ref m.length) (m ++ [tabO mc hs h])) = .ok (.ref m.length) (m ++ [tabO mc hs h]) := gcR_new rfl hw (Nat.le_refl _) (at_snoc _ _) (dct_blw (fun _ => rfl) _ _ _)
    have e3 : fCall F__law_table (fCons (fVar 0) (fCons (fVar 1) (fCons (fVar 2) fNil))) (startD 13 [machF mc, iD hs, histD h, iD form]) m = .ok (.ref m.length) (m ++ [tabO mc hs h]) := by
      simp only [e_call, e_cons, e_nil, startD, List.map_cons, List.map_nil, e_var]
      simp [e1, hg]
    have e4 : fCall F__law_counts (fCons (fVar 1) (fCons (fVar 2) fNil)) (startD 13 [machF mc, iD hs, histD h, iD form]) (m ++ [tabO mc hs h]) = .ok (tI (Dl.cnt hs h)) (m ++ [tabO mc hs h]) := by
      simp only [e_call, e_cons, e_nil, startD, List.map_cons, List.map_nil, e_var]
      simp [e2]
    unfold sPar3
    simp only [e_cons, e3, bind_ok, e4, e_tup, e_nil, List.length_nil, Nat.zero_le, if_true, out_ok]
    rfl
  rw [s_seq, s1]
  simp only [OW_seqK, OW_nx, thenP_nx, s_seq, s_for]
  have s2 : fRng1 (fCB gLen (fCons (fVar 2) fNil)) (ρ (some (.tup [])) (some (tI (Dl.cnt hs h))) none none none none) (m ++ [tabO mc hs h]) = .ok (srcR 0 h.length) (m ++ [tabO mc hs h]) := by
    have : gLen [histD h] (m ++ [tabO mc hs h]) = .ok (.int (h.length : Int)) (m ++ [tabO mc hs h]) := by simp [histD]
    simp only [e_rng, e_cb, e_cons, e_nil, e_var, ρ, List.getElem?_cons_succ, List.getElem?_cons_zero, bind_ok, this]
    exact rngK_n (by rw [LIM_eq]; omega) _
  rw [s2]
  simp only [out_ok]
  let I : List Nat → List (Option D) → M → Prop := fun pre vs m2 => ∃ (cs : List Nat) (g fnd : Hist) (a8 a9 a10 a11 : Option D) (J : M), vs = [some (histD fnd), some (tI cs), a8, a9, a10, a11] ∧ m2 = m ++ (tabO mc hs h :: J) ∧ Wf (m ++ (tabO mc hs h :: J)) ∧ TF cs f b ∧ Within (Dl.cnt hs h) cs ∧ Wit mc.maps mc.start hs f cs g ∧ g.length + pre.length = h.length ∧ fnd.length = pre.length ∧ nrmF mc.maps f g.length cs ++ fnd = nrm mc hs h
  refine for_c (List.range h.length) iD (cR h.length) (by simp [srcR]) [4, 7, 8, 9, 10, 11] I ⟨Dl.cnt hs h, h, [], none, none, none, none, [], rfl, rfl, hwt, tf_of S ok hl, within_self _, wit_self (ok2 ok), rfl, rfl, by simp; rfl⟩ ?_ ?_
  · rintro pre t post vs m2 hlr ⟨cs, g, fnd, a8, a9, a10, a11, J, rfl, rfl, hwJ, T, hwi, w, hgl, hfl, hnr⟩
    have hpl : pre.length < h.length := by
      have := congrArg List.length hlr
      simp at this
      omega
    have hg0 : g ≠ [] := by
      rintro rfl
      simp at hgl
      omega
    obtain ⟨je, xe, hend, hje, h1e, hde⟩ := w.end hg0
    have hcl : cs.length = hs := w.len
    rw [bodyAt_n]
    let mm : M := m ++ (tabO mc hs h :: J)
    show OW (sSeq _ _ (ρ (some (histD fnd)) (some (tI cs)) (some (iD t)) a9 a10 a11) mm) _
    have t1 : sSet 9 (fTup (fCons (fC (.int 0)) (fCons (fC (.int 0)) fNil))) (ρ (some (histD fnd)) (some (tI cs)) (some (iD t)) a9 a10 a11) mm = .nx (ρ (some (histD fnd)) (some (tI cs)) (some (iD t)) (some (letD (0, 0))) a10 a11) mm := by
      simp [ρ, LIM_eq, letD]
    rw [s_seq, t1]
    simp only [OW_seqK, OW_nx, thenP_nx, s_seq, s_for]
    have t2 : fRng1 (fVar 1) (ρ (some (histD fnd)) (some (tI cs)) (some (iD t)) (some (letD (0, 0))) a10 a11) mm = .ok (srcR 0 hs) mm := by
      simp [ρ, rngK_n (k := hs) (by rw [LIM_eq]; omega)]
    rw [t2]
    simp only [out_ok]
    let I2 : List Nat → List (Option D) → M → Prop := fun pre vs m2 => ∃ (b10 b11 : Option D) (J' : M), vs = [some (letD (endO mc.maps f cs pre)), b10, b11] ∧ m2 = m ++ (tabO mc hs h :: J') ∧ Wf (m ++ (tabO mc hs h :: J'))
    refine for_c (List.range hs) iD (cR hs) (by simp [srcR]) [9, 10, 11] I2 ⟨a10, a11, J, rfl, rfl, hwJ⟩ ?_ ?_
    · rintro pr j po vs m2 hlr2 ⟨b10, b11, J', rfl, rfl, hwJ'⟩
      have hj : j < cs.length := by
        have : j ∈ List.range hs := by rw [hlr2]; simp
        rw [hcl]
        exact List.mem_range.mp this
      let mj : M := m ++ (tabO mc hs h :: J')
      have hat : mj[m.length]? = some (tabO mc hs h) := by simp [mj]
      let ds := if cs.getD j 0 = 0 then [] else dsF mc.maps f cs j
      let r := ρ (some (histD fnd)) (some (tI cs)) (some (iD t)) (some (letD (endO mc.maps f cs pr))) (some (iD j)) b11
      let mk : M := mj ++ [.lst (ds.map iD)]
      have hwk : Wf mk := hwJ'.app (lst_blw (fun _ => rfl) _ _)
      have u1 : sSet 11 (fIf (fTest (fOp gGt (fOp gIx (fVar 7) (fVar 10)) (fC (.int 0)))) (fCall F__law_last (fCons (fVar 0) (fCons (fVar 6) (fCons (fVar 7) (fCons (fVar 10) fNil))))) (fName (fLst fNil))) r mj = .nx (r.set 11 (some (.ref mj.length))) mk := by
        have e1 := tI_getD hj mj
        by_cases e : cs.getD j 0 = 0
        · have hds : ds = [] := if_pos e
          simp [-List.getD_eq_getElem?_getD, r, ρ, e1, e, mk, hds]
        · have hds : ds = dsF mc.maps f cs j := if_neg e
          have e2 : 0 < cs.getD j 0 := by omega
          have e3 := law_last_ok S ok T hwi hj e hwJ' hat
          have e4 : gcR mj.length (.ok (.ref mj.length) (mj ++ [.lst ((dsF mc.maps f cs j).map iD)])) = .ok (.ref mj.length) (mj ++ [.lst ((dsF mc.maps f cs j).map iD)]) := gcR_new rfl hwJ' (Nat.le_refl _) (at_snoc _ _) (lst_blw (fun _ => rfl) _ _)
          have e5 : fCall F__law_last (fCons (fVar 0) (fCons (fVar 6) (fCons (fVar 7) (fCons (fVar 10) fNil)))) r mj = .ok (.ref mj.length) mk := by
            simp only [e_call, e_cons, e_nil, e_var, r, ρ, List.getElem?_cons_succ, List.getElem?_cons_zero, bind_ok]
            rw [e3, e4]
            show _ = Res.ok _ (mj ++ [O.lst (ds.map iD)])
            rw [hds]
          have e6 : fTest (fOp gGt (fOp gIx (fVar 7) (fVar 10)) (fC (.int 0))) r mj = .ok true mj := by
            simp [-List.getD_eq_getElem?_getD, r, ρ, e1, e2]
          rw [s_set, e_if, e6]
          simp only [bind_ok, if_true, e5, out_ok]
      have hmk : mk[mj.length]? = some (.lst (ds.map iD)) := at_snoc _ _
      have u2 : fGcB (fTest (fOp gNe (fVar 11) (fName (fLst fNil)))) (r.set 11 (some (.ref mj.length))) mk = .ok (!decide (ds = [])) mk := by
        have e1 := gNe_nil (m := mk ++ [.lst []]) (a := mj.length) (c := mk.length) (l := ds) (lsM_at hmk _) (at_snoc _ _)
        simp only [e_gcB, e_test, e_op, e_var, r, ρ, List.set, List.getElem?_cons_succ, List.getElem?_cons_zero, bind_ok, e_name, e_lst, e_nil, List.length_nil, Nat.zero_le, if_true]
        rw [e1]
        simp only [e_asB]
        exact gcB_junk rfl hwk
      have key : endO mc.maps f cs (pr ++ [j]) = nextE (endO mc.maps f cs pr) j ds := endO_snoc mc.maps f cs pr j
      rw [bodyAt_n]
      show OW (sSeq _ _ r mj) _
      rw [s_seq, u1]
      simp only [OW_seqK, OW_nx, thenP_nx, s_if, u2, out_ok]
      have hmem : mk = m ++ (tabO mc hs h :: (J' ++ [.lst (ds.map iD)])) := by simp [mk, mj]
      cases hds : ds with
      | nil =>
        rw [hds] at key
        simp only [decide_true, Bool.not_true, Bool.false_eq_true, if_false, s_next, OW_nx]
        refine ⟨[some (letD (endO mc.maps f cs pr)), some (iD j), some (.ref mj.length)], rfl, some (iD j), some (.ref mj.length), J' ++ [.lst (ds.map iD)], ?_, hmem, by rw [← hmem]; exact hwk⟩
        rw [show endO mc.maps f cs (pr ++ [j]) = endO mc.maps f cs pr from key]
      | cons x rr =>
        rw [hds] at key hmk
        have e8 : sSet 9 (fTup (fCons (fVar 10) (fCons (fOp gIx (fVar 11) (fC (.int 0))) fNil))) (r.set 11 (some (.ref mj.length))) mk = .nx ((r.set 11 (some (.ref mj.length))).set 9 (some (letD (j, x)))) mk := by
          have e9 : gIx (.ref mj.length) (.int 0) mk = .ok (iD x) mk := by rw [e_ixL _ hmk]; simp
          simp [r, ρ, e9, LIM_eq, letD]
        have hne : ¬ (x :: rr = ([] : List Nat)) := by simp
        simp only [decide_eq_false hne, Bool.not_false, if_true, e8, OW_nx]
        refine ⟨[some (letD (j, x)), some (iD j), some (.ref mj.length)], rfl, some (iD j), some (.ref mj.length), J' ++ [.lst (ds.map iD)], ?_, hmem, by rw [← hmem]; exact hwk⟩
        rw [show endO mc.maps f cs (pr ++ [j]) = (j, x) from key]
    · rintro vs m2 ⟨b10, b11, J', rfl, rfl, hwJ'⟩
      have he : endO mc.maps f cs (List.range hs) = (je, xe) := by
        rw [← hend]
        unfold endO endF lasF lasO
        rw [hcl]
      rw [he]
      let mj : M := m ++ (tabO mc hs h :: J')
      let r := ρ (some (histD fnd)) (some (tI cs)) (some (iD t)) (some (letD (je, xe))) b10 b11
      have u3 : sPar 7 4 (fCons (fCall F__law_less (fCons (fVar 7) (fCons (fOp gIx (fVar 9) (fC (.int 0))) fNil))) (fCons (fOp gAdd (fTup (fCons (fVar 9) fNil)) (fVar 4)) fNil)) r mj = .nx (ρ (some (histD ((je, xe) :: fnd))) (some (tI (Dl.drp cs je))) (some (iD t)) (some (letD (je, xe))) b10 b11) mj := by
        have e1 := law_less_ok (v := cs) (j := je) (by rw [hcl]; exact hje) h1e T.l4 mj
        have l1 : 1 ≤ LIM := by rw [LIM_eq]; omega
        have l2 : 1 + fnd.length ≤ LIM := by rw [LIM_eq]; omega
        have e2 : gIx (letD (je, xe)) (.int 0) mj = .ok (iD je) mj := rfl
        simp [r, ρ, e1, e2, l1, l2, histD]
      rw [thenP_nx]
      show OW (sPar _ _ _ r mj) _
      rw [u3]
      have h2 := h1e
      rw [← w.cn, cnt_getD g hje] at h2
      obtain ⟨a, d', b', rfl, hb⟩ := last_at (show 1 ≤ num1 g je by omega)
      refine ⟨_, rfl, Dl.drp cs je, a ++ b', (je, xe) :: fnd, _, _, _, _, J', rfl, rfl, hwJ', T.drp je, within_trans (within_drpS cs je) hwi, w.gone hb, ?_, by simp [hfl], ?_⟩
      · simp only [List.length_append, List.length_cons] at hgl ⊢
        simp only [List.length_nil]
        omega
      · rw [← hnr]
        have : (a ++ (je, d') :: b').length = (a ++ b').length + 1 := by simp only [List.length_append, List.length_cons]; omega
        rw [this]
        simp [nrmF, hend]
  · rintro vs m2 ⟨cs, g, fnd, a8, a9, a10, a11, J, rfl, rfl, hwJ, T, hwi, w, hgl, hfl, hnr⟩
    have hg0 : g.length = 0 := by
      rw [List.length_range] at hgl
      omega
    rw [hg0] at hnr
    have hfin : fnd = nrm mc hs h := hnr
    subst hfin
    have := gc_j (L := m.length) (d := histD (nrm mc hs h)) (j := tabO mc hs h :: J) rfl hw (num_blw (nums_map (f := letD) (fun _ => rfl) _) _)
    show (gc m.length (histD (nrm mc hs h)) _).1 = _ ∧ (gc m.length (histD (nrm mc hs h)) _).2 = _
    rw [this]
    exact ⟨rfl, rfl⟩
theorem law_normal_ok {mc : Mach} {b hs form : Nat} (S : Set' mc b hs) {h : Hist} (ok : HOk hs mc.maps.length h) (hl : h.length ≤ 12) (ht : form = 0 → Turns mc.maps b) {m : M} (hw : Wf m) : F__law_normal [machF mc, iD hs, histD h, iD form] m = .ok (histD (nrm mc hs h)) m := by
  by_cases hf : form = 0
  · subst hf
    have e := rows_ok S ok hl hw
    rw [show nrm mc hs h = rowsF mc.maps hs h from norm_rows (ht rfl) S.m.st (ok2 ok)]
    exact e
  · exact nrm_law_ok S ok hl hf hw
end K81

namespace K81
open PySem PyProof.Rows L2 Dl
theorem wf_apps {m j : M} (h : Wf m) (hj : ∀ o ∈ j, O.blw (m.length + j.length) o = true) : Wf (m ++ j) := by
  rw [wf_iff] at h ⊢
  intro o ho
  rw [List.length_append]
  rcases List.mem_append.mp ho with ho | ho
  · have := h o ho
    cases o <;> exact blws_mono (by omega) this
  · exact hj o ho
theorem letD_num (p : Nat × Nat) : (letD p).num = true := rfl
theorem hist_nums (h : Hist) : D.nums (h.map letD) = true := by
  rw [nums_iff]
  intro d hd
  obtain ⟨p, _, rfl⟩ := List.mem_map.mp hd
  rfl
theorem hist_blw (h : Hist) (L : Nat) : O.blw L (.lst (h.map letD)) = true := by
  have := num_blw (d := .tup (h.map letD)) (by simpa only [D.num] using hist_nums h) L
  simpa only [D.blw, O.blw] using this
theorem gc_keep {L n : Nat} {m' : M} {o : O} (hn : L ≤ n) (ho : m'[n]? = some o) (hb : o.blw L = false) : gc L (.ref n) m' = (.ref n, m') := by
  unfold gc
  split
  · rw [if_neg (by simp [D.blw]; omega)]
    simp only [ho, hb, Bool.false_eq_true, if_false]
  · rfl
def refs (L n : Nat) : List D := (List.range n).map fun i => .ref (L + i)
theorem refs_succ (L n : Nat) : refs L (n + 1) = refs L n ++ [.ref (L + n)] := by
  unfold refs
  rw [List.range_succ, List.map_append]
  rfl
theorem refs_len (L n : Nat) : (refs L n).length = n := by simp [refs]
theorem refs_at {L n i : Nat} (h : i < n) : (refs L n)[i]? = some (.ref (L + i)) := by simp [refs, h]
theorem refs_blw (L n K : Nat) (h : L + n ≤ K) : O.blw K (.lst (refs L n)) = true := by
  simp only [O.blw]
  induction n with
  | zero => rfl
  | succ n ih =>
    rw [refs_succ]
    have h1 := ih (by omega)
    have app : ∀ as bs : List D, D.blws K as = true → D.blws K bs = true → D.blws K (as ++ bs) = true := by
      intro as bs ha hb
      induction as with
      | nil => exact hb
      | cons a r ih =>
        simp only [D.blws, Bool.and_eq_true, List.cons_append] at ha ⊢
        exact ⟨ha.1, ih ha.2⟩
    exact app _ _ h1 (by simp only [D.blws, D.blw, Bool.and_true, decide_eq_true_eq]; omega)
theorem refs_high {L n : Nat} (hn : 1 ≤ n) : O.blw L (.lst (refs L n)) = false := by
  obtain ⟨k, rfl⟩ : ∃ k, n = k + 1 := ⟨n - 1, by omega⟩
  unfold refs
  rw [List.range_succ_eq_map]
  simp [O.blw, D.blws, D.blw]
/-! ### histories as lists -/
def rowO (p : Nat × Nat) : O := .lst [iD p.1, iD p.2]
structure Listed (m : M) (k : Nat) (h : Hist) : Prop where
  ex : ∃ L, m[k]? = some (.lst (refs L h.length)) ∧ ∀ (i : Nat) (p : Nat × Nat), h[i]? = some p → m[L + i]? = some (rowO p)
theorem app_at {m : M} {k : Nat} {o : O} (j : M) (h : m[k]? = some o) : (m ++ j)[k]? = some o := by
  rw [List.getElem?_append_left (List.getElem?_eq_some_iff.mp h).1]
  exact h
theorem Listed.app {m : M} {k : Nat} {h : Hist} (l : Listed m k h) (j : M) : Listed (m ++ j) k h := by
  obtain ⟨L, h1, h2⟩ := l.ex
  exact ⟨L, app_at j h1, fun i p hp => app_at j (h2 i p hp)⟩
theorem Listed.is {m : M} {k : Nat} {h : Hist} (l : Listed m k h) : IsHist m (.ref k) h := by
  obtain ⟨L, h1, h2⟩ := l.ex
  refine ⟨is_sequence_ref h1, refs L h.length, _, _, by simp [h1], srcK_l h1, isL h1 rfl, enumK_l h1, isLE h1 rfl, refs_len _ _, fun i p hp => ⟨.ref (L + i), refs_at (List.getElem?_eq_some_iff.mp hp).1, ?_, rfl, fun hs ds a b => is_letter_ref a b (h2 i p hp)⟩⟩
  simp [h2 i p hp, rowO]
/-! ### another order -/
def rowOf (h : Hist) (j : Nat) : Hist := h.filter fun p => p.1 == j
def rO (r : Hist) : O := .lst (r.map letD)
theorem pd_list {m : M} {k : Nat} {r : Hist} (h : m[k]? = some (.lst (r.map letD))) : ∃ p, pdM DEEP m (.ref k) = some (.list p) ∧ flatP (.list p) = true ∧ p.length = r.length := by
  have hd : ∀ q : Nat × Nat, pdM 2 m (letD q) = some (.tuple [.int q.1, .int q.2]) := fun q => rfl
  refine ⟨r.map fun q => .tuple [.int q.1, .int q.2], ?_, ?_, by simp⟩
  · show (D.ref k).toP (fun n => match m[n]? with
      | some (.lst ds) => (pdM.allS (ds.map (pdM 2 m))).map .list
      | _ => none) = _
    simp only [D.toP, h]
    have : ∀ r : Hist, pdM.allS ((r.map letD).map (pdM 2 m)) = some (r.map fun q => .tuple [.int q.1, .int q.2]) := by
      intro r
      induction r with
      | nil => rfl
      | cons q t ih =>
        rw [List.map_cons, List.map_cons, hd]
        simp only [pdM.allS, ih, Option.map_some, List.map_cons]
    rw [this]
    rfl
  · unfold flatP
    have h1 : ∀ r : Hist, PyData.plainAll (r.map fun q => .tuple [.int q.1, .int q.2]) = true := by
      intro r
      induction r with
      | nil => rfl
      | cons q t ih => simp only [List.map_cons, PyData.plainAll, PyData.plain, ih, Bool.and_self]
    have h2 : ∀ r : Hist, PyData.depthAll (r.map fun q => .tuple [.int q.1, .int q.2]) ≤ 1 := by
      intro r
      induction r with
      | nil => exact Nat.zero_le _
      | cons q t ih => simp only [List.map_cons, PyData.depthAll, PyData.depth]; omega
    simp only [PyData.plain, h1, Bool.true_and, PyData.depth]
    have := h2 r
    exact decide_eq_true (by omega)
theorem ne_list {m : M} {k l : Nat} {r : Hist} (h : m[k]? = some (.lst (r.map letD))) (h' : m[l]? = some (.lst [])) : gNe (.ref k) (.ref l) m = .ok (.bl (decide (r ≠ []))) m := by
  obtain ⟨p, h1, h2, h3⟩ := pd_list h
  obtain ⟨q, g1, g2, g3⟩ := pd_list (r := []) h'
  unfold gNe
  simp only [h1, g1, h2, g2, Bool.and_self, if_true]
  have hq : q = [] := List.eq_nil_of_length_eq_zero g3
  subst hq
  cases p with
  | nil =>
    have : r = [] := List.eq_nil_of_length_eq_zero h3.symm
    subst this
    rfl
  | cons a t =>
    have : r ≠ [] := fun e => by rw [e] at h3; cases h3
    simp [PyData.eqv, PyData.eqvAll, this]
/-- the memory while the rows are taken up -/
def ordM (m1 : M) (rs : List Hist) (L : Nat) (fd : Hist) : M := m1 ++ (rs.map rO ++ [.lst (refs L rs.length), rO fd])
theorem ordM_row {m1 : M} {rs : List Hist} {L : Nat} {fd r : Hist} {j : Nat} (hj : rs[j]? = some r) : (ordM m1 rs L fd)[m1.length + j]? = some (rO r) := by
  have hl := (List.getElem?_eq_some_iff.mp hj).1
  unfold ordM
  rw [List.getElem?_append_right (by omega), show m1.length + j - m1.length = j by omega, List.getElem?_append_left (by rw [List.length_map]; exact hl), List.getElem?_map, hj]
  rfl
theorem ordM_refs {m1 : M} {rs : List Hist} {L : Nat} {fd : Hist} : (ordM m1 rs L fd)[m1.length + rs.length]? = some (.lst (refs L rs.length)) := by
  unfold ordM
  rw [List.getElem?_append_right (by omega), show m1.length + rs.length - m1.length = rs.length by omega, List.getElem?_append_right (by rw [List.length_map]; omega), List.length_map, Nat.sub_self]
  rfl
theorem ordM_fd {m1 : M} {rs : List Hist} {L : Nat} {fd : Hist} : (ordM m1 rs L fd)[m1.length + rs.length + 1]? = some (rO fd) := by
  unfold ordM
  rw [List.getElem?_append_right (by omega), show m1.length + rs.length + 1 - m1.length = rs.length + 1 by omega, List.getElem?_append_right (by rw [List.length_map]; omega), List.length_map, show rs.length + 1 - rs.length = 1 by omega]
  rfl
theorem ordM_set {m1 : M} {rs : List Hist} {L : Nat} {fd r : Hist} {j : Nat} (hj : j < rs.length) : (ordM m1 rs L fd).set (m1.length + j) (rO r) = ordM m1 (rs.set j r) L fd := by
  unfold ordM
  rw [List.set_append_right _ _ (by omega), show m1.length + j - m1.length = j by omega, List.set_append_left _ _ (by rw [List.length_map]; exact hj), List.map_set, List.length_set]
theorem ordM_setF {m1 : M} {rs : List Hist} {L : Nat} {fd fd' : Hist} : (ordM m1 rs L fd).set (m1.length + rs.length + 1) (rO fd') = ordM m1 rs L fd' := by
  unfold ordM
  rw [List.set_append_right _ _ (by omega), show m1.length + rs.length + 1 - m1.length = rs.length + 1 by omega, List.set_append_right _ _ (by rw [List.length_map]; omega), List.length_map, show rs.length + 1 - rs.length = 1 by omega]
  rfl
theorem ordM_wf {m1 : M} {rs : List Hist} {fd : Hist} (h : Wf m1) : Wf (ordM m1 rs m1.length fd) := by
  refine wf_apps h fun o ho => ?_
  rw [List.length_append, List.length_map]
  rcases List.mem_append.mp ho with ho | ho
  · obtain ⟨r, _, rfl⟩ := List.mem_map.mp ho
    exact hist_blw r _
  · simp only [List.mem_cons, List.not_mem_nil, or_false] at ho
    rcases ho with rfl | rfl
    · exact refs_blw _ _ _ (by simp)
    · exact hist_blw fd _
theorem ordM_up {n : Nat} {m1 : M} {rs : List Hist} {L : Nat} {fd : Hist} {m' : M} (hn : n < m1.length) (u : Up n (ordM m1 rs L fd) m') : ∃ m2, Up n m1 m2 ∧ m' = ordM m2 rs L fd := by
  obtain ⟨g, z, rfl⟩ := u
  refine ⟨m1.set n (bx g z), ⟨g, z, rfl⟩, ?_⟩
  unfold ordM
  rw [List.set_append_left _ _ hn]
def nonE (m : M) : D → Option D := fun x => match x with
  | .ref k => match m[k]? with
    | some (.lst []) => none
    | _ => some (.ref k)
  | _ => none
theorem nonE_map {m1 : M} {rs : List Hist} {fd : Hist} {x : D} (hx : x ∈ (refs m1.length rs.length).filterMap (nonE (ordM m1 rs m1.length fd))) : ∃ j r, rs[j]? = some r ∧ r ≠ [] ∧ x = .ref (m1.length + j) := by
  obtain ⟨y, hy, e⟩ := List.mem_filterMap.mp hx
  obtain ⟨j, hj, rfl⟩ := List.mem_map.mp hy
  have hj' : j < rs.length := by simpa using hj
  have hr := ordM_row (m1 := m1) (L := m1.length) (fd := fd) (List.getElem?_eq_getElem hj')
  refine ⟨j, rs[j], List.getElem?_eq_getElem hj', fun q => ?_, ?_⟩
  · simp only [nonE, hr, rO, q, List.map_nil] at e
    cases e
  · unfold nonE at e
    simp only [hr, rO] at e
    split at e
    · cases e
    · exact (Option.some.inj e).symm
theorem nonE_ne {m1 : M} {rs : List Hist} {fd : Hist} (h : ∃ r ∈ rs, r ≠ []) : (refs m1.length rs.length).filterMap (nonE (ordM m1 rs m1.length fd)) ≠ [] := by
  obtain ⟨r, hr, hne⟩ := h
  obtain ⟨j, hj⟩ := List.getElem?_of_mem hr
  have hjl := (List.getElem?_eq_some_iff.mp hj).1
  have hrow := ordM_row (m1 := m1) (L := m1.length) (fd := fd) hj
  refine List.ne_nil_of_mem (a := .ref (m1.length + j)) (List.mem_filterMap.mpr ⟨.ref (m1.length + j), List.mem_of_getElem? (refs_at hjl), ?_⟩)
  unfold nonE
  simp only [hrow, rO]
  cases r with
  | nil => exact absurd rfl hne
  | cons a t => rfl
theorem num_rows (h : Hist) (hs : Nat) (ok : ∀ p ∈ h, p.1 < hs) : ((List.range hs).map fun j => (rowOf h j).length).sum = h.length := by
  induction h with
  | nil =>
    have : ∀ n : Nat, ((List.range n).map fun j => (rowOf [] j).length).sum = 0 := by
      intro n
      induction n with
      | zero => rfl
      | succ n ih => rw [List.range_succ, List.map_append, List.sum_append, ih]; rfl
    exact this hs
  | cons p t ih =>
    have h1 := ih fun q hq => ok q (List.mem_cons_of_mem _ hq)
    have hp := ok p List.mem_cons_self
    have e : ∀ j, (rowOf (p :: t) j).length = (if p.1 = j then 1 else 0) + (rowOf t j).length := fun j => num1_cons p t j
    have s1 : ∀ n, p.1 < n → ((List.range n).map fun j => (if p.1 = j then 1 else 0) + (rowOf t j).length).sum = 1 + ((List.range n).map fun j => (rowOf t j).length).sum := by
      intro n
      induction n with
      | zero => intro h; omega
      | succ n ihn =>
        intro h
        rw [List.range_succ, List.map_append, List.sum_append, List.map_append, List.sum_append]
        by_cases hpn : p.1 < n
        · rw [ihn hpn]
          have : ¬ p.1 = n := by omega
          simp [this]
          omega
        · have hpe : p.1 = n := by omega
          have s0 : ∀ k, k ≤ n → ((List.range k).map fun j => (if p.1 = j then 1 else 0) + (rowOf t j).length).sum = ((List.range k).map fun j => (rowOf t j).length).sum := by
            intro k
            induction k with
            | zero => intro _; rfl
            | succ k ihk =>
              intro hk
              rw [List.range_succ, List.map_append, List.sum_append, List.map_append, List.sum_append, ihk (by omega)]
              have : ¬ p.1 = k := by omega
              simp [this]
          rw [s0 n (Nat.le_refl _)]
          simp [hpe]
          omega
    have e2 : ((List.range hs).map fun j => (rowOf (p :: t) j).length) = (List.range hs).map fun j => (if p.1 = j then 1 else 0) + (rowOf t j).length := List.map_congr_left fun j _ => e j
    rw [e2, s1 hs hp, h1, List.length_cons]
    omega
end K81

namespace K81
open PySem PyProof.Rows L2 Dl
def compR : FA := fLc (fWalk (fVar 3)) (gN 6) [6] (fGcB (fTest (fOp gNe (fVar 6) (fName (fLst fNil))))) (fVar 6)
theorem comp_rows {m1 : M} {rs : List Hist} {fd : Hist} (hw : Wf m1) (hl : rs.length ≤ 1000) (a0 a1 a2 a4 a5 a6 : Option D) :
    compR [a0, a1, a2, some (.ref (m1.length + rs.length)), a4, a5, a6, none, none] (ordM m1 rs m1.length fd) = .ok ((refs m1.length rs.length).filterMap (nonE (ordM m1 rs m1.length fd))) (ordM m1 rs m1.length fd) := by
  have hR := ordM_refs (m1 := m1) (rs := rs) (L := m1.length) (fd := fd)
  have hwm := ordM_wf (rs := rs) (fd := fd) hw
  generalize hmm : ordM m1 rs m1.length fd = mm at hR hwm
  refine fLc_map (nonE mm) (src := srcL (m1.length + rs.length) (refs m1.length rs.length).length) (by simp [srcK_l hR]) (isL hR rfl) (fun x hx => ?_) (by rw [refs_len, LIM_eq]; omega)
  obtain ⟨j, hj, rfl⟩ := List.mem_map.mp hx
  have hj' : j < rs.length := by simpa using hj
  have hrow := ordM_row (m1 := m1) (L := m1.length) (fd := fd) (List.getElem?_eq_getElem hj')
  rw [hmm] at hrow
  have hlow : m1.length + j < mm.length := (List.getElem?_eq_some_iff.mp hrow).1
  have hne := ne_list (m := mm ++ [O.lst []]) (k := m1.length + j) (l := mm.length) (r := rs[j]) (app_at _ hrow) (at_snoc _ _)
  refine ⟨[a0, a1, a2, some (.ref (m1.length + rs.length)), a4, a5, some (.ref (m1.length + j)), none, none], rfl, ?_⟩
  have ht : (fGcB (fTest (fOp gNe (fVar 6) (fName (fLst fNil))))) [a0, a1, a2, some (.ref (m1.length + rs.length)), a4, a5, some (.ref (m1.length + j)), none, none] mm = .ok (decide (rs[j] ≠ [])) mm := by
    have l0 : 0 ≤ LIM := Nat.zero_le _
    simp only [e_gcB, e_test, e_op, e_var, List.getElem?_cons_succ, List.getElem?_cons_zero, bind_ok, e_name, e_lst, e_nil, List.length_nil, l0, if_true, hne, e_asB]
    exact gcB_junk rfl hwm
  by_cases h0 : rs[j] = []
  · refine .inl ⟨by rw [ht]; simp [h0], ?_⟩
    unfold nonE
    simp only [hrow, rO, h0, List.map_nil]
  · refine .inr ⟨.ref (m1.length + j), by rw [ht]; simp [h0], rfl, ?_⟩
    unfold nonE
    simp only [hrow, rO]
    cases hr : rs[j] with
    | nil => exact absurd hr h0
    | cons a t => rfl
theorem sum_pos {rs : List Hist} (h : 0 < (rs.map List.length).sum) : ∃ r ∈ rs, r ≠ [] := by
  refine Decidable.byContradiction fun q => ?_
  have : ∀ r ∈ rs, r = [] := fun r hr => Decidable.byContradiction fun e => q ⟨r, hr, e⟩
  have z : ∀ rs : List Hist, (∀ r ∈ rs, r = []) → (rs.map List.length).sum = 0 := by
    intro rs
    induction rs with
    | nil => intro _; rfl
    | cons a t ih =>
      intro h
      rw [List.map_cons, List.sum_cons, ih fun r hr => h r (List.mem_cons_of_mem _ hr), h a List.mem_cons_self]
      rfl
  rw [z rs this] at h
  exact absurd h (by omega)
theorem sum_set {rs : List Hist} {j : Nat} {p : Nat × Nat} {r : Hist} (h : rs[j]? = some (p :: r)) : ((rs.set j r).map List.length).sum + 1 = (rs.map List.length).sum := by
  induction rs generalizing j with
  | nil => simp at h
  | cons a t ih =>
    cases j with
    | zero =>
      simp at h
      subst h
      simp only [List.set_cons_zero, List.map_cons, List.sum_cons, List.length_cons]
      omega
    | succ j =>
      have := ih (j := j) (by simpa using h)
      simp only [List.set_cons_succ, List.map_cons, List.sum_cons]
      omega
def pickJ (j : Nat) : D → Option D := fun x => match x with
  | .tup (.int i :: _) => if i = j then some x else none
  | _ => none
theorem pickJ_row (j : Nat) (h : Hist) : (h.map letD).filterMap (pickJ j) = (rowOf h j).map letD := by
  unfold rowOf
  induction h with
  | nil => rfl
  | cons p t ih =>
    rw [List.map_cons, List.filterMap_cons, List.filter_cons]
    by_cases e : p.1 = j
    · subst e
      have : pickJ p.1 (letD p) = some (letD p) := by simp [pickJ, letD, iD]
      simp only [this, BEq.rfl, if_true, List.map_cons, ih]
    · have e' : ¬ ((p.1 : Int) = (j : Int)) := by omega
      have : pickJ j (letD p) = none := by simp only [pickJ, letD, iD]; rw [if_neg e']
      have e2 : (p.1 == j) = false := by simpa using e
      simp only [this, e2, Bool.false_eq_true, if_false, ih]
theorem ordered_ok {n hs : Nat} {h : Hist} {m : M} (hb : Box n m) (hw : Wf m) (h4 : hs ≤ 4) (hl : h.length ≤ 1000) (ok : ∀ p ∈ h, p.1 < hs) :
    ∃ (fd : Hist) (m' : M), Up n m m' ∧ F__law_shuffled [.ref n, iD hs, histD h] m = .ok (histD fd) m' ∧ fd.length = h.length ∧ (∀ p ∈ fd, p ∈ h) ∧ ∀ j, j < hs → rowOf fd j = rowOf h j := by
  have hn := hb.lt
  let rs0 : List Hist := (List.range hs).map (rowOf h)
  have hrs0 : rs0.length = hs := by simp [rs0]
  have l0 : 0 ≤ LIM := Nat.zero_le _
  -- the rows
  have hit : ∀ q, srcK q (histD h) = .ok (srcT (h.map letD)) q := fun _ => rfl
  have hlen : ∀ q, itemsD q (histD h) = some (h.map letD) := fun _ => rfl
  have inner : ∀ (j : Nat) (a0 a1 a3 a4 a5 a6 : Option D) (mm : M), fLc (fWalk (fVar 2)) (gN 8) [8] (fTest (fOp gEq (fOp gIx (fVar 8) (fC (.int 0))) (fVar 7))) (fVar 8) [a0, a1, some (histD h), a3, a4, a5, a6, some (iD j), none] mm = .ok ((rowOf h j).map letD) mm := by
    intro j a0 a1 a3 a4 a5 a6 mm
    rw [← pickJ_row]
    refine fLc_map (pickJ j) (src := srcT (h.map letD)) (by simp [hit]) (isT _ _) (fun x hx => ?_) (by rw [List.length_map, LIM_eq]; omega)
    obtain ⟨p, _, rfl⟩ := List.mem_map.mp hx
    have e3 : gIx (letD p) (.int 0) mm = .ok (iD p.1) mm := rfl
    refine ⟨[a0, a1, some (histD h), a3, a4, a5, a6, some (iD j), some (letD p)], rfl, ?_⟩
    by_cases e : p.1 = j
    · refine .inr ⟨letD p, ?_, rfl, by simp [pickJ, letD, iD, e]⟩
      simp only [e_test, e_op, e_var, List.getElem?_cons_zero, List.getElem?_cons_succ, bind_ok, e_c, e3, gEq_int, e_asB, e]
      simp
    · have e' : ¬ ((p.1 : Int) = (j : Int)) := by omega
      refine .inl ⟨?_, by simp only [pickJ, letD, iD]; rw [if_neg e']⟩
      simp only [e_test, e_op, e_var, List.getElem?_cons_zero, List.getElem?_cons_succ, bind_ok, e_c, e3, gEq_int, e_asB, decide_eq_false e']
  obtain ⟨acc, m0, er, hm0, rfl⟩ := fLc_inv (fi := fRng1 (fVar 1)) (gt := gN 7) (vs := [7]) (t := fYes) (e := (fName (fLc (fWalk (fVar 2)) (gN 8) [8] (fTest (fOp gEq (fOp gIx (fVar 8) (fC (.int 0))) (fVar 7))) (fVar 8)))) (ρ := [some (.ref n), some (iD hs), some (histD h), none, none, none, none, none, none]) (m := m) (src := srcR 0 hs) (n := hs)
    (fun i acc mm => mm = m ++ ((List.range i).map fun j => rO (rowOf h j)) ∧ acc = refs m.length i) (by simp [rngK_n (k := hs) (by rw [LIM_eq]; omega)]) rfl
    (by
      rintro i acc mm hi ⟨rfl, rfl⟩
      refine ⟨iD i, [some (.ref n), some (iD hs), some (histD h), none, none, none, none, some (iD i), none], by simp [srcR], rfl, .inr ⟨m ++ ((List.range i).map fun j => rO (rowOf h j)), .ref (m.length + i), m ++ ((List.range (i + 1)).map fun j => rO (rowOf h j)), rfl, ?_, by rw [refs_len, LIM_eq]; omega, rfl, by rw [refs_succ]⟩⟩
      rw [e_name, inner]
      simp only [bind_ok]
      rw [List.range_succ, List.map_append, List.length_append, List.length_map, List.length_range, List.append_assoc]
      rfl)
    (fun _ _ _ => rfl) ⟨by simp, rfl⟩
  have hm0' : m0 = m ++ rs0.map rO := by
    rw [hm0]
    show _ = m ++ ((List.range hs).map (rowOf h)).map rO
    rw [List.map_map]
    rfl
  subst hm0'
  -- the turns
  let bd : FS := (sSeq (sSet 6 (fCall F__law_pick (fCons (fVar 0) (fCons (fName compR) fNil))))
 (sDrop (fMeth mAppend (fVar 4) (fCons (fMeth mPop0 (fVar 6) (fCons (fC (.int 0)) fNil)) fNil))))
  let ρ0 : Option D → Option D → Sl := fun a b => [some (.ref n), some (iD hs), some (histD h), some (.ref (m.length + hs)), some (.ref (m.length + hs + 1)), a, b, none, none]
  let I : Nat → Sl → M → Prop := fun t ρ mm => ∃ (m1 : M) (rs : List Hist) (fd : Hist), Up n m m1 ∧ mm = ordM m1 rs m.length fd ∧ rs.length = hs ∧ (∀ j r, rs[j]? = some r → rowOf fd j ++ r = rowOf h j) ∧ fd.length = t ∧ (∀ p ∈ fd, p ∈ h) ∧ (rs.map List.length).sum + t = h.length ∧ ∃ a b, ρ = ρ0 a b
  have step : ∀ t ρ mm, t < h.length → I t ρ mm → ∃ d ρ' ρ2 m2, (srcR 0 h.length).get mm t = some d ∧ gN 5 d ρ = some ρ' ∧ bd ρ' mm = .nx ρ2 m2 ∧ I (t + 1) ρ2 m2 := by
    rintro t ρ mm ht ⟨m1, rs, fd, u, rfl, hrl, hrow, hfl, hfm, hsum, a, b, rfl⟩
    have hl1 := u.len
    have hw1 := u.wf hw
    have hb1 := u.box hb
    have hn1 := hb1.lt
    have hcr := comp_rows (rs := rs) (fd := fd) hw1 (by omega) (some (.ref n)) (some (iD hs)) (some (histD h)) (some (.ref (m.length + hs + 1))) (some (iD t)) b
    rw [hl1, hrl] at hcr
    have hne : ∃ r ∈ rs, r ≠ [] := sum_pos (by omega)
    have hbx : Box n (ordM m1 rs m.length fd) := hb1.app _
    have hxs : ∀ x ∈ (refs m.length hs).filterMap (nonE (ordM m1 rs m.length fd)), ∃ j r, rs[j]? = some r ∧ r ≠ [] ∧ x = .ref (m.length + j) := by
      intro x hx
      have := nonE_map (m1 := m1) (rs := rs) (fd := fd) (x := x) (by rw [hl1, hrl]; exact hx)
      rw [hl1] at this
      exact this
    have hx1 : (refs m.length hs).filterMap (nonE (ordM m1 rs m.length fd)) ≠ [] := by
      have := nonE_ne (m1 := m1) (fd := fd) hne
      rw [hl1, hrl] at this
      exact this
    have hordl : (ordM m1 rs m.length fd).length = m.length + hs + 2 := by
      unfold ordM
      simp [hl1, hrl]
      omega
    have hwo : Wf (ordM m1 rs m.length fd) := by rw [← hl1]; exact ordM_wf hw1
    obtain ⟨x, m2, hx, u2, e2⟩ := pick_new (n := n) (ρ := [some (.ref n), some (iD hs), some (histD h), some (.ref (m.length + hs)), some (.ref (m.length + hs + 1)), some (iD t), b, none, none]) (m := ordM m1 rs m.length fd) (m1 := ordM m1 rs m.length fd) (fa := fCons (fVar 0) (fCons (fName compR) fNil)) (by simp [hcr]) (Up.refl hbx) hbx hwo hx1
      (Nat.lt_of_le_of_lt (List.length_filterMap_le _ _) (by rw [refs_len]; omega)) (fun x hx => by
        obtain ⟨j, r, hj, _, rfl⟩ := hxs x hx
        have := (List.getElem?_eq_some_iff.mp hj).1
        rw [hordl]
        simp only [D.blw, decide_eq_true_eq]
        omega)
    obtain ⟨j, r, hj, hr, rfl⟩ := hxs x hx
    obtain ⟨m3, u3, rfl⟩ := ordM_up hn1 u2
    have hl3 : m3.length = m.length := by rw [u3.len, hl1]
    obtain ⟨p, r', rfl⟩ : ∃ p r', r = p :: r' := by
      cases r with
      | nil => exact absurd rfl hr
      | cons p r' => exact ⟨p, r', rfl⟩
    have hjl := (List.getElem?_eq_some_iff.mp hj).1
    have hrj := ordM_row (m1 := m3) (L := m.length) (fd := fd) hj
    rw [hl3] at hrj
    have hpop := meth_ok (g := mPop0) (fo := fVar 6) (fa := fCons (fC (.int 0)) fNil) (ρ := [some (.ref n), some (iD hs), some (histD h), some (.ref (m.length + hs)), some (.ref (m.length + hs + 1)), some (iD t), some (.ref (m.length + j)), none, none]) (m := ordM m3 rs m.length fd) (m1 := ordM m3 rs m.length fd) (m2 := ordM m3 rs m.length fd) (n := m.length + j) (xs0 := (p :: r').map letD) (xs := (p :: r').map letD) (as := [.int 0]) (d := letD p) (ys := r'.map letD)
      rfl hrj rfl hrj rfl
    have hs1 := ordM_set (m1 := m3) (L := m.length) (fd := fd) (r := r') hjl
    rw [hl3] at hs1
    have hs1' : (ordM m3 rs m.length fd).set (m.length + j) (.lst (r'.map letD)) = ordM m3 (rs.set j r') m.length fd := hs1
    rw [hs1'] at hpop
    have hF0 := ordM_fd (m1 := m3) (rs := rs) (L := m.length) (fd := fd)
    have hF1 := ordM_fd (m1 := m3) (rs := rs.set j r') (L := m.length) (fd := fd)
    rw [hl3, hrl] at hF0
    rw [hl3, List.length_set, hrl] at hF1
    have happ := meth_ok (g := mAppend) (fo := fVar 4) (fa := fCons (fMeth mPop0 (fVar 6) (fCons (fC (.int 0)) fNil)) fNil) (ρ := [some (.ref n), some (iD hs), some (histD h), some (.ref (m.length + hs)), some (.ref (m.length + hs + 1)), some (iD t), some (.ref (m.length + j)), none, none]) (m := ordM m3 rs m.length fd) (m1 := ordM m3 rs m.length fd) (m2 := ordM m3 (rs.set j r') m.length fd) (n := m.length + hs + 1) (xs0 := fd.map letD) (xs := fd.map letD) (as := [letD p]) (d := .non) (ys := fd.map letD ++ [letD p])
      rfl hF0 (by simp only [e_cons, hpop, bind_ok, e_nil]) hF1 (append_ok (by rw [List.length_map, LIM_eq]; omega))
    have hs2 := ordM_setF (m1 := m3) (rs := rs.set j r') (L := m.length) (fd := fd) (fd' := fd ++ [p])
    rw [hl3, List.length_set, hrl] at hs2
    have hs2' : (ordM m3 (rs.set j r') m.length fd).set (m.length + hs + 1) (.lst (fd.map letD ++ [letD p])) = ordM m3 (rs.set j r') m.length (fd ++ [p]) := by
      rw [← hs2]
      unfold rO
      rw [List.map_append]
      rfl
    rw [hs2'] at happ
    have hpj : p.1 = j ∧ p ∈ h := by
      have hm : p ∈ rowOf h j := by rw [← hrow j _ hj]; exact List.mem_append_right _ List.mem_cons_self
      obtain ⟨a1, a2⟩ := List.mem_filter.mp hm
      exact ⟨by simpa using a2, a1⟩
    refine ⟨iD t, [some (.ref n), some (iD hs), some (histD h), some (.ref (m.length + hs)), some (.ref (m.length + hs + 1)), some (iD t), b, none, none], ρ0 (some (iD t)) (some (.ref (m.length + j))), ordM m3 (rs.set j r') m.length (fd ++ [p]), by simp [srcR], rfl, ?_, m3, rs.set j r', fd ++ [p], u.trans u3, rfl, by rw [List.length_set]; exact hrl, ?_, by simp [hfl], ?_, ?_, _, _, rfl⟩
    · simp only [bd, s_seq, s_set, e2, out_ok, List.set, seqK_nx, s_drop, happ]
      rfl
    · intro k q hq
      by_cases e : j = k
      · subst e
        rw [List.getElem?_set_self hjl] at hq
        cases hq
        rw [← hrow j _ hj]
        unfold rowOf
        rw [List.filter_append, List.append_assoc]
        simp [hpj.1]
      · rw [List.getElem?_set_ne e] at hq
        rw [← hrow k _ hq]
        unfold rowOf
        have e2 : (p.1 == k) = false := by rw [hpj.1]; simpa using e
        rw [List.filter_append]
        simp [List.filter_cons, e2]
    · intro q hq
      rcases List.mem_append.mp hq with hq | hq
      · exact hfm q hq
      · rw [List.mem_singleton.mp hq]; exact hpj.2
    · have := sum_set hj
      omega
  have hsum0 := num_rows h hs ok
  have hI0 : I 0 (ρ0 none none) (ordM m rs0 m.length []) := by
    refine ⟨m, rs0, [], Up.refl hb, rfl, hrs0, fun j r hj => ?_, rfl, fun p hp => by simp at hp, ?_, none, none, rfl⟩
    · have hjl : j < hs := by
        have := (List.getElem?_eq_some_iff.mp hj).1
        omega
      simp [rs0, hjl] at hj
      rw [← hj]
      rfl
    · show (((List.range hs).map (rowOf h)).map List.length).sum + 0 = _
      rw [List.map_map, Nat.add_zero]
      exact hsum0
  obtain ⟨ρ', m', e, m1, rs, fd, u, rfl, hrl, hrow, hfl, hfm, hsum, a, b, rfl⟩ := forL_inv (src := srcR 0 h.length) (n := h.length) (gt := gN 5) (body := bd) I rfl step (fun _ _ _ => rfl) h.length 0 (ρ0 none none) (ordM m rs0 m.length []) (by omega) hI0
  refine ⟨fd, m1, u, ?_, hfl, hfm, fun j hj => ?_⟩
  · have hFd := ordM_fd (m1 := m1) (rs := rs) (L := m.length) (fd := fd)
    rw [u.len, hrl] at hFd
    refine runF_rtJ (j := rs.map rO ++ [.lst (refs m.length rs.length), rO fd]) rfl ?_ u.len.symm (u.wf hw) (num_blw (d := histD fd) (by simpa only [histD, D.num] using hist_nums fd) _)
    have hpar : (sPar 3 4 (fCons (fName (fLc (fRng1 (fVar 1)) (gN 7) [7] fYes (fName (fLc (fWalk (fVar 2)) (gN 8) [8] (fTest (fOp gEq (fOp gIx (fVar 8) (fC (.int 0))) (fVar 7))) (fVar 8))))) (fCons (fName (fLst fNil)) fNil))) (startD 9 [.ref n, iD hs, histD h]) m = .nx (ρ0 none none) (ordM m rs0 m.length []) := by
      have hst : startD 9 [.ref n, iD hs, histD h] = [some (.ref n), some (iD hs), some (histD h), none, none, none, none, none, none] := rfl
      rw [hst]
      simp only [s_par, e_cons, e_name, er, bind_ok, e_lst, e_nil, List.length_nil, l0, if_true, out_ok, List.set]
      have h1 : (m ++ rs0.map rO ++ [O.lst (refs m.length hs)]).length = m.length + hs + 1 := by simp [hrs0]; omega
      have h2 : (m ++ rs0.map rO).length = m.length + hs := by simp [hrs0]
      rw [h1, h2]
      unfold ordM
      rw [hrs0]
      simp [ρ0, rO]
    have hmem : ordM m1 rs m.length fd = m1 ++ (rs.map rO ++ [.lst (refs m.length rs.length), rO fd]) := rfl
    rw [← hmem]
    unfold g__law_shuffled
    rw [s_seq, hpar]
    have hlh : ∀ q, itemsD q (histD h) = some (h.map letD) := fun _ => rfl
    have hr := rngK_n (k := h.length) (by rw [LIM_eq]; omega) (ordM m rs0 m.length [])
    have hfor : (sFor (fRng1 (fCB gLen (fCons (fVar 2) fNil))) (gN 5) bd) (ρ0 none none) (ordM m rs0 m.length []) = .nx (ρ0 a b) (ordM m1 rs m.length fd) := by
      simp only [s_for, e_rng, e_cb, e_cons, ρ0, e_var, List.getElem?_cons_succ, List.getElem?_cons_zero, bind_ok, e_nil, e_len, hlh, List.length_map, hr, out_ok]
      exact e
    show seqK _ _ = _
    rw [seqK_nx, s_seq]
    rw [show (sSeq (sSet 6 (fCall F__law_pick (fCons (fVar 0) (fCons (fName (fLc (fWalk (fVar 3)) (gN 6) [6] (fGcB (fTest (fOp gNe (fVar 6) (fName (fLst fNil))))) (fVar 6))) fNil))))
 (sDrop (fMeth mAppend (fVar 4) (fCons (fMeth mPop0 (fVar 6) (fCons (fC (.int 0)) fNil)) fNil)))) = bd from rfl, hfor, seqK_nx]
    have hFd' : (ordM m1 rs m.length fd)[m.length + hs + 1]? = some (.lst (fd.map letD)) := hFd
    simp [ρ0, hFd', histD]
  · have hz : ∀ r ∈ rs, r = [] := by
      intro r hr
      refine Decidable.byContradiction fun q => ?_
      obtain ⟨i, hi⟩ := List.getElem?_of_mem hr
      have hle : ∀ rs : List Hist, r ∈ rs → r.length ≤ (rs.map List.length).sum := by
        intro rs
        induction rs with
        | nil => intro h; simp at h
        | cons x t ih =>
          intro h
          rw [List.map_cons, List.sum_cons]
          rcases List.mem_cons.mp h with rfl | h
          · omega
          · have := ih h
            omega
      have := hle rs hr
      have hp : 0 < r.length := List.length_pos_iff.mpr q
      omega
    have hjr : rs[j]? = some rs[j] := List.getElem?_eq_getElem (by omega)
    have := hrow j _ hjr
    rw [hz _ (List.mem_of_getElem? hjr), List.append_nil] at this
    exact this
end K81

namespace K81
open PySem PyProof.Rows L2 Dl
theorem histD_num (h : Hist) : (histD h).num = true := by simpa only [histD, D.num] using hist_nums h
theorem histD_dep (h : Hist) : (histD h).dep ≤ 64 := by
  simp only [histD, D.dep]
  have := deps_le (ds := h.map letD) (k := 1) (fun d hd => by obtain ⟨_, _, rfl⟩ := List.mem_map.mp hd; exact Nat.le_refl _)
  omega
theorem histD_nil (h : Hist) : decide (histD h = .tup []) = decide (h = []) := by
  cases h with
  | nil => rfl
  | cons p t => simp [histD]
theorem eq_nil (h : Hist) (m : M) : gEq (histD h) (.tup []) m = .ok (.bl (decide (h = []))) m := by
  rw [gEq_num (histD_num h) rfl (histD_dep h) (by decide), histD_nil]
theorem ne_nil (h : Hist) (m : M) : gNe (histD h) (.tup []) m = .ok (.bl (!decide (h = []))) m := by
  rw [gNe_num (histD_num h) rfl (histD_dep h) (by decide), histD_nil]
theorem ixs_h {h : Hist} {i : Nat} (hi : i < h.length) (m : M) : gIx (histD h) (.int (i : Int)) m = .ok (letD h[i]) m := tup_at (by rw [List.getElem?_map, List.getElem?_eq_getElem hi]; rfl) m
theorem let0 (p : Nat × Nat) (m : M) : gIx (letD p) (.int 0) m = .ok (iD p.1) m := rfl
theorem let1 (p : Nat × Nat) (m : M) : gIx (letD p) (.int 1) m = .ok (iD p.2) m := rfl
theorem HOk.of_mem {hs n : Nat} {h g : Hist} (ok : HOk hs n h) (hg : ∀ p ∈ g, p ∈ h) : HOk hs n g := ⟨fun p hp => ok.hand p (hg p hp), fun p hp => ok.deed p (hg p hp)⟩
/-- a pick of a letter, and the back of its hand -/
theorem pick_back {n : Nat} {h : Hist} {m : M} (hb : Box n m) (hne : h ≠ []) (hl : h.length ≤ 1000) : ∃ a j d b' m', h = a ++ (j, d) :: b' ∧ num1 b' j = 0 ∧ Up n m m' ∧ ∃ p, p.1 = j ∧ F__law_pick [.ref n, histD h] m = .ok (letD p) m' ∧ F__law_back [histD h, iD j] m' = .ok (histD (a ++ b')) m' := by
  obtain ⟨x, m', hx, u, e⟩ := pick_tup (xs := h.map letD) hb (by simpa using hne) (by rw [List.length_map]; omega)
  obtain ⟨p, hp, rfl⟩ := List.mem_map.mp hx
  have h1 : 1 ≤ num1 h p.1 := by
    unfold num1
    exact List.length_pos_iff.mpr (List.ne_nil_of_mem (List.mem_filter.mpr ⟨hp, by simp⟩))
  obtain ⟨a, d, b', rfl, h0⟩ := last_of h1
  exact ⟨a, p.1, d, b', m', rfl, h0, u, p, rfl, e, back_ok h0 hl m'⟩
/-! ### presses -/
end K81

namespace K81
open PySem PyProof.Rows L2 Dl
theorem gcR_newbox {m : M} (g z : Int) : gcR m.length (.ok (.ref m.length) (m ++ [bx g z])) = .ok (.ref m.length) (m ++ [bx g z]) := by
  show Res.ok (gc _ _ _).1 (gc _ _ _).2 = _
  rw [gc_new (bx_blw g z _)]
theorem box_new (g z : Int) (m : M) : Box m.length (m ++ [bx g z]) := ⟨g, z, at_snoc _ _⟩
theorem wf_box {m : M} (h : Wf m) (g z : Int) : Wf (m ++ [bx g z]) := h.app rfl
/-- of one of these numbers -/
theorem pick_nums {n : Nat} {ρ : Sl} {m m1 : M} {l : List Nat} {fa : FA} (hf : fa ρ m = .ok [.ref n, .ref m1.length] (m1 ++ [.lst (l.map iD)])) (hm : Up n m m1) (hb : Box n m) (hw : Wf m) (h1 : l ≠ []) (h2 : l.length < 1000000) :
    ∃ x m', x ∈ l ∧ Up n m m' ∧ fCall F__law_pick fa ρ m = .ok (iD x) m' := by
  obtain ⟨d, m', hd, u, e⟩ := pick_new hf hm hb hw (by simpa using h1) (by rw [List.length_map]; exact h2) (fun x hx => by
    obtain ⟨k, _, rfl⟩ := List.mem_map.mp hx
    rfl)
  obtain ⟨x, hx, rfl⟩ := List.mem_map.mp hd
  exact ⟨x, m', hx, u, e⟩
theorem isN_hist (h : Hist) : (histD h).isN = false := rfl
end K81

namespace K81
open PySem PyProof.Rows L2 Dl
theorem mod_all {b x d e : Nat} (h1 : 1 ≤ b) (h8 : b ≤ 8) (h : (x + d) % b = (x + e) % b) (y : Nat) : (y + d) % b = (y + e) % b := by
  have : b = 1 ∨ b = 2 ∨ b = 3 ∨ b = 4 ∨ b = 5 ∨ b = 6 ∨ b = 7 ∨ b = 8 := by omega
  rcases this with rfl | rfl | rfl | rfl | rfl | rfl | rfl | rfl <;> omega
theorem turns_rot {maps : List (List Nat)} {b : Nat} (h1 : 1 ≤ b) (h8 : b ≤ 8) (hr : ∀ f ∈ maps, ∃ by', f = rotL b by') : Turns maps b := by
  have get : ∀ d, d < maps.length → ∃ k, maps.getD d [] = rotL b k ∧ ∀ x, x < b → stpD maps d x = (x + k) % b := fun d hd => by
    obtain ⟨k, hk⟩ := hr (maps.getD d []) (List.mem_of_getElem? (maps_at hd))
    refine ⟨k, hk, fun x hx => ?_⟩
    unfold stpD
    rw [hk, List.getD_eq_getElem?_getD]
    unfold rotL
    rw [List.getElem?_map, List.getElem?_range hx]
    rfl
  refine ⟨fun d hd x hx => ?_, fun d e hd he x hx => ?_, fun d e hd he x hx q => ?_⟩
  · obtain ⟨k, _, hk⟩ := get d hd
    rw [hk x hx]
    exact Nat.mod_lt _ (by omega)
  · obtain ⟨k, _, hk⟩ := get d hd
    obtain ⟨l, _, hl⟩ := get e he
    rw [hk x hx, hl x hx, hl _ (Nat.mod_lt _ (by omega)), hk _ (Nat.mod_lt _ (by omega)), Nat.mod_add_mod, Nat.mod_add_mod]
    congr 1
    omega
  · obtain ⟨k, ek, hk⟩ := get d hd
    obtain ⟨l, el, hl⟩ := get e he
    rw [hk x hx, hl x hx] at q
    rw [ek, el]
    unfold rotL
    exact List.map_congr_left fun y _ => mod_all h1 h8 q y
/-- a history as lists -/
theorem lists_ok {k i : Nat} {h : Hist} (hl : h.length ≤ 1000) {ρ : Sl} (hk : ρ[k]? = some (some (histD h))) (hi : i < ρ.length) {m : M} :
    ∃ j, fName (fLc (fWalk (fVar k)) (gN i) [i] fYes (fCB gList (fCons (fVar i) fNil))) ρ m = .ok (.ref (m.length + h.length)) (m ++ j) ∧ Listed (m ++ j) (m.length + h.length) h ∧ (Wf m → Wf (m ++ j)) := by
  have hit : ∀ q p, itemsD q (letD p) = some [iD p.1, iD p.2] := fun _ _ => rfl
  obtain ⟨acc, m', e, rfl, rfl⟩ := fLc_inv (fi := fWalk (fVar k)) (gt := gN i) (vs := [i]) (t := fYes) (e := (fCB gList (fCons (fVar i) fNil))) (ρ := ρ) (m := m) (src := srcT (h.map letD)) (n := h.length)
    (fun i acc mm => mm = m ++ (h.take i).map rowO ∧ acc = refs m.length i) (by simp [hk, histD]) (by simp [srcT])
    (by
      rintro i' acc mm hi' ⟨rfl, rfl⟩
      have ht : h.take (i' + 1) = h.take i' ++ [h[i']] := by rw [List.take_append_getElem]
      have hv : ((wipeD ρ [i]).set i (some (letD h[i'])))[i]? = some (some (letD h[i'])) := by
        rw [List.getElem?_set_self (by simp [wipeD]; exact hi)]
      refine ⟨letD h[i'], (wipeD ρ [i]).set i (some (letD h[i'])), by simp [srcT, hi'], rfl, .inr ⟨m ++ (h.take i').map rowO, .ref (m.length + i'), m ++ (h.take (i' + 1)).map rowO, rfl, ?_, by rw [refs_len, LIM_eq]; omega, rfl, by rw [refs_succ]⟩⟩
      simp only [e_cb, e_cons, e_var, hv, bind_ok, e_nil, e_list, hit]
      rw [ht, List.map_append, List.length_append, List.length_map, List.length_take, List.append_assoc]
      rw [show min i' h.length = i' by omega]
      rfl)
    (fun _ _ _ => rfl) ⟨by simp, rfl⟩
  rw [List.take_length] at e
  let j : M := h.map rowO ++ [.lst (refs m.length h.length)]
  have hj : ∀ i p, h[i]? = some p → (m ++ j)[m.length + i]? = some (rowO p) := by
    intro i p hp
    have hi := (List.getElem?_eq_some_iff.mp hp).1
    rw [List.getElem?_append_right (by omega), show m.length + i - m.length = i by omega]
    show (h.map rowO ++ _)[i]? = _
    rw [List.getElem?_append_left (by rw [List.length_map]; exact hi), List.getElem?_map, hp]
    rfl
  have hk' : (m ++ j)[m.length + h.length]? = some (.lst (refs m.length h.length)) := by
    rw [List.getElem?_append_right (by omega), show m.length + h.length - m.length = h.length by omega]
    show (h.map rowO ++ _)[h.length]? = _
    rw [List.getElem?_append_right (by rw [List.length_map]; omega), List.length_map, Nat.sub_self]
    rfl
  refine ⟨j, ?_, ⟨m.length, hk', hj⟩, fun hw => wf_apps hw fun o ho => ?_⟩
  · rw [e_name, e]
    simp [j]
  · rcases List.mem_append.mp ho with q | q
    · obtain ⟨p, _, rfl⟩ := List.mem_map.mp q
      rfl
    · rw [List.mem_singleton.mp q]
      exact refs_blw _ _ _ (by simp [j])
theorem repr_hist {mc : Mach} {b hs : Nat} (S : Set' mc b hs) {h : Hist} (ok : HOk hs mc.maps.length h) (hl : h.length ≤ 12) (m : M) : gRepr [histD h] m = .ok (.str (rpr (histD h))) m := by
  have h4 := S.h4
  have n6 := S.m.n6
  refine gRepr_small ?_ ?_ ?_ m
  · simp only [histD, D.small]
    have : ∀ l : Hist, (∀ p ∈ l, p ∈ h) → D.smalls (l.map letD) = true := by
      intro l
      induction l with
      | nil => intro _; rfl
      | cons p r ih =>
        intro hm
        have h1 := ok.hand p (hm p List.mem_cons_self)
        have h2 := ok.deed p (hm p List.mem_cons_self)
        simp only [List.map_cons, D.smalls, ih fun q hq => hm q (List.mem_cons_of_mem _ hq), letD, D.small, Bool.and_true, Bool.and_eq_true]
        exact ⟨decide_eq_true (by omega), decide_eq_true (by omega)⟩
    exact this h fun p hp => hp
  · simp only [histD, D.wt]
    have : ∀ l : Hist, D.wts (l.map letD) ≤ 1000 * l.length := by
      intro l
      induction l with
      | nil => exact Nat.zero_le _
      | cons p r ih => simp only [List.map_cons, D.wts, letD, D.wt, List.length_cons]; omega
    have := this h
    omega
  · have := histD_dep h
    simp only [histD, D.dep] at this ⊢
    have := deps_le (ds := h.map letD) (k := 2) fun d hd => by
      obtain ⟨p, _, rfl⟩ := List.mem_map.mp hd
      simp [letD, D.dep, D.deps]
    omega
section
variable {mc : Mach} {b hs : Nat} (S : Set' mc b hs)
include S
theorem renewed_ok {mD d : D} {k : Nat} {h h' : Hist} {m : M} (hM : IsM mc mD) (hd : IsHist m d h) (ok : HOk hs mc.maps.length h) (hl : h.length ≤ 12) (ok' : HOk hs mc.maps.length h') (hl' : h'.length ≤ 12) (hp : Press m k hs mc.maps.length h h') (hw : Wf m) : F_renewed [mD, iD hs, d, .ref k] m = .ok (histD (nrm mc hs h')) m := runF_rt rfl (by
  have e1 := pressed_ok S (isM_D S) hd ok hl hp
  have e2 := normal_of_ok S (isM_D S) (isHist_t m h') ok' hl' hw
  simp [g_renewed, hM m, e1, e2])
theorem renewed_right_ok {n form : Nat} {due : Hist} {m : M} (hb : Box n m) (hw : Wf m) (ok : HOk hs mc.maps.length due) (hl : due.length ≤ 12) (ht : form = 0 → Turns mc.maps b) : ∃ m', Up n m m' ∧ F__law_renewed_right [.ref n, machF mc, iD hs, iD form, histD due] m = .ok (.bl true) m' := by
  have h4 := S.h4
  have h1 := S.h1
  have n6 := S.m.n6
  have n1 := S.m.n1
  let ρ (a5 a6 a7 a8 : Option D) : Sl := [some (.ref n), some (machF mc), some (iD hs), some (iD form), some (histD due), a5, a6, a7, a8, none]
  -- the choice
  have cond : ∃ (c : Bool) (m1 : M), Up n m m1 ∧ (c = true → due.length < 12) ∧ (c = false → due ≠ []) ∧ (fOrT (fAndT (fTest (fOp gLt (fCB gLen (fCons (fVar 4) fNil)) (fC (.int 12)))) (fTest (fOp gGt (fCall F__law_take (fCons (fVar 0) (fCons (fC (.int 3)) fNil))) (fC (.int 0))))) (fTest (fOp gEq (fVar 4) (fTup fNil)))) (ρ none none none none) m = .ok c m1 := by
    have hlen : ∀ q : M, gLen [histD due] q = .ok (.int (due.length : Int)) q := fun q => by simp [histD]
    by_cases hlt : due.length < 12
    · obtain ⟨r, m1, hr, u, e⟩ := take_up (k := 3) hb (by omega) (by omega)
      have e' : F__law_take [.ref n, .int 3] m = .ok (iD r) m1 := e
      have hlt' : (due.length : Int) < 12 := by omega
      by_cases hr0 : r = 0
      · subst hr0
        refine ⟨decide (due = []), m1, u, fun _ => hlt, fun q => of_decide_eq_false q, ?_⟩
        simp only [e_orT, e_andT, e_test, e_op, e_cb, e_cons, e_var, ρ, List.getElem?_cons_succ, List.getElem?_cons_zero, bind_ok, e_nil, hlen, e_c, e_call, e', gcR_up u]
        simp [hlt', eq_nil, LIM_eq, e', gcR_up u]
      · refine ⟨true, m1, u, fun _ => hlt, fun q => (by cases q), ?_⟩
        simp only [e_orT, e_andT, e_test, e_op, e_cb, e_cons, e_var, ρ, List.getElem?_cons_succ, List.getElem?_cons_zero, bind_ok, e_nil, hlen, e_c, e_call, e', gcR_up u]
        have : 0 < r := by omega
        simp [hlt', this, e', gcR_up u]
    · have hne : due ≠ [] := by rintro rfl; simp at hlt
      have hlt' : ¬ ((due.length : Int) < 12) := by omega
      refine ⟨false, m, Up.refl hb, fun q => (by cases q), fun _ => hne, ?_⟩
      simp only [e_orT, e_andT, e_test, e_op, e_cb, e_cons, e_var, ρ, List.getElem?_cons_succ, List.getElem?_cons_zero, bind_ok, e_nil, hlen, e_c]
      simp [hlt', eq_nil, hne, LIM_eq]
  obtain ⟨c, m1, u1, hc1, hc2, ec⟩ := cond
  have hb1 := u1.box hb
  have hw1 := u1.wf hw
  -- behind the choice
  let body : FS := sIf (fOrT (fAndT (fTest (fOp gLt (fCB gLen (fCons (fVar 4) fNil)) (fC (.int 12)))) (fTest (fOp gGt (fCall F__law_take (fCons (fVar 0) (fCons (fC (.int 3)) fNil))) (fC (.int 0))))) (fTest (fOp gEq (fVar 4) (fTup fNil))))
      (sSeq (sSet 5 (fTup (fCons (fCall F__law_take (fCons (fVar 0) (fCons (fVar 2) fNil))) (fCons (fCall F__law_take (fCons (fVar 0) (fCons (fCB gLen (fCons (fOp gIx (fVar 1) (fC (.int 1))) fNil)) fNil))) fNil))))
      (sPar 6 7 (fCons (fOp gAdd (fVar 4) (fTup (fCons (fVar 5) fNil))) (fCons (fName (fLst (fCons (fC (.str "deed")) (fCons (fOp gIx (fVar 5) (fC (.int 0))) (fCons (fOp gIx (fVar 5) (fC (.int 1))) fNil))))) fNil))))
      (sSeq (sSet 8 (fOp gIx (fCall F__law_pick (fCons (fVar 0) (fCons (fVar 4) fNil))) (fC (.int 0))))
      (sPar 6 7 (fCons (fCall F__law_back (fCons (fVar 4) (fCons (fVar 8) fNil))) (fCons (fName (fLst (fCons (fC (.str "back")) (fCons (fVar 8) fNil)))) fNil))))
  have hbody : ∃ (m3 : M) (h' : Hist) (pl : List D) (a5 a8 : Option D), Up n m m3 ∧ HOk hs mc.maps.length h' ∧ h'.length ≤ 12 ∧ (∀ L, O.blw L (.lst pl) = true) ∧ (∀ (q : M) (k : Nat), q[k]? = some (.lst pl) → Press q k hs mc.maps.length due h') ∧ body (ρ none none none none) m = .nx (ρ a5 (some (histD h')) (some (.ref m3.length)) a8) (m3 ++ [.lst pl]) := by
    cases c with
    | true =>
      have hlt := hc1 rfl
      obtain ⟨j, m2, hj, u2, e2⟩ := take_up (k := hs) hb1 h1 (by omega)
      obtain ⟨x, m3, hx, u3, e3⟩ := take_up (k := mc.maps.length) (u2.box hb1) n1 (by omega)
      have l1 : 1 ≤ LIM := by rw [LIM_eq]; omega
      have l2 : 2 ≤ LIM := by rw [LIM_eq]; omega
      have l3 : 3 ≤ LIM := by rw [LIM_eq]; omega
      have l4 : due.length + 1 ≤ LIM := by rw [LIM_eq]; omega
      refine ⟨m3, due ++ [(j, x)], deedL j x, some (letD (j, x)), none, (u1.trans u2).trans u3, ?_, by simp; omega, fun _ => rfl, fun q k hq => .inl ⟨j, x, hq, hj, hx, rfl⟩, ?_⟩
      · refine ⟨fun p hp => ?_, fun p hp => ?_⟩
        · rcases List.mem_append.mp hp with q | q
          · exact ok.hand p q
          · rw [List.mem_singleton.mp q]; exact hj
        · rcases List.mem_append.mp hp with q | q
          · exact ok.deed p q
          · rw [List.mem_singleton.mp q]; exact hx
      · have hg : gLen [D.fix (mc.maps.map tI)] m2 = .ok (.int (mc.maps.length : Int)) m2 := by simp
        have hmx : ∀ q : M, gIx (machF mc) (.int 1) q = .ok (.fix (mc.maps.map tI)) q := fun _ => rfl
        have s5 : sSet 5 (fTup (fCons (fCall F__law_take (fCons (fVar 0) (fCons (fVar 2) fNil))) (fCons (fCall F__law_take (fCons (fVar 0) (fCons (fCB gLen (fCons (fOp gIx (fVar 1) (fC (.int 1))) fNil)) fNil))) fNil))) (ρ none none none none) m1 = .nx (ρ (some (letD (j, x))) none none none) m3 := by
          simp only [s_set, e_tup, e_cons, e_call, e_var, e_cb, e_op, e_c, e_nil, ρ, List.getElem?_cons_succ, List.getElem?_cons_zero, bind_ok, e2, gcR_up u2, hmx, hg, e3, gcR_up u3, List.length_cons, List.length_nil]
          rw [if_pos l2]
          rfl
        have s6 : sPar 6 7 (fCons (fOp gAdd (fVar 4) (fTup (fCons (fVar 5) fNil))) (fCons (fName (fLst (fCons (fC (.str "deed")) (fCons (fOp gIx (fVar 5) (fC (.int 0))) (fCons (fOp gIx (fVar 5) (fC (.int 1))) fNil))))) fNil)) (ρ (some (letD (j, x))) none none none) m3 = .nx (ρ (some (letD (j, x))) (some (histD (due ++ [(j, x)]))) (some (.ref m3.length)) none) (m3 ++ [.lst (deedL j x)]) := by
          simp [ρ, histD, l1, l3, l4, letD_0, letD_1, deedL]
        show body _ _ = _
        simp only [body]
        rw [s_if, ec]
        simp only [out_ok, if_true]
        rw [s_seq, s5, seqK_nx, s6]
    | false =>
      have hne := hc2 rfl
      obtain ⟨a, j, d, b', m2, rfl, hb0, u2, p, hpj, e2, e3⟩ := pick_back hb1 hne (by omega)
      have l2 : 2 ≤ LIM := by rw [LIM_eq]; omega
      have hj := ok.hand (j, d) (by simp)
      refine ⟨m2, a ++ b', backL j, none, some (iD j), u1.trans u2, ?_, ?_, fun _ => rfl, fun q k hq => .inr ⟨a, j, d, b', hq, hb0, rfl, rfl⟩, ?_⟩
      · exact ok.of_mem fun p hp => by
          rcases List.mem_append.mp hp with q | q
          · exact List.mem_append_left _ q
          · exact List.mem_append_right _ (List.mem_cons_of_mem _ q)
      · simp only [List.length_append, List.length_cons] at hl ⊢
        omega
      · have s8 : sSet 8 (fOp gIx (fCall F__law_pick (fCons (fVar 0) (fCons (fVar 4) fNil))) (fC (.int 0))) (ρ none none none none) m1 = .nx (ρ none none none (some (iD j))) m2 := by
          simp only [s_set, e_op, e_call, e_cons, e_var, e_c, e_nil, ρ, List.getElem?_cons_succ, List.getElem?_cons_zero, bind_ok, e2, gcR_up u2, let0, hpj, out_ok]
          rfl
        have s6 : sPar 6 7 (fCons (fCall F__law_back (fCons (fVar 4) (fCons (fVar 8) fNil))) (fCons (fName (fLst (fCons (fC (.str "back")) (fCons (fVar 8) fNil)))) fNil)) (ρ none none none (some (iD j))) m2 = .nx (ρ none (some (histD (a ++ b'))) (some (.ref m2.length)) (some (iD j))) (m2 ++ [.lst (backL j)]) := by
          simp [ρ, e3, l2, backL]
        show body _ _ = _
        simp only [body]
        rw [s_if, ec]
        simp only [out_ok, Bool.false_eq_true, if_false]
        rw [s_seq, s8, seqK_nx, s6]
  obtain ⟨m3, h', pl, a5, a8, u3, ok', hl', hbl, hpr, eb⟩ := hbody
  have hw3 := u3.wf hw
  let m4 : M := m3 ++ [.lst pl]
  have hw4 : Wf m4 := hw3.app (hbl _)
  obtain ⟨jj, ell, hli, hwl⟩ := lists_ok (k := 4) (i := 5) (h := due) (by omega) (ρ := ρ a5 (some (histD h')) (some (.ref m3.length)) a8) rfl (by simp [ρ]) (m := m4)
  have hw5 := hwl hw4
  have hpress : Press (m4 ++ jj) m3.length hs mc.maps.length due h' := hpr _ _ (by
    rw [List.getElem?_append_left (by simp [m4])]
    exact at_snoc _ _)
  have er := renewed_ok S (isM_F S) hli.is ok hl ok' hl' hpress hw5
  have s9 : sSet 9 (fCall (fun ds m => F_renewed (pm_3_2_1_0 ds) m) (fCons (fVar 7) (fCons (fName (fLc (fWalk (fVar 4)) (gN 5) [5] fYes (fCB gList (fCons (fVar 5) fNil)))) (fCons (fVar 2) (fCons (fVar 1) fNil))))) (ρ a5 (some (histD h')) (some (.ref m3.length)) a8) m4 = .nx ((ρ a5 (some (histD h')) (some (.ref m3.length)) a8).set 9 (some (histD (nrm mc hs h')))) m4 := by
    generalize fName (fLc (fWalk (fVar 4)) (gN 5) [5] fYes (fCB gList (fCons (fVar 5) fNil))) = fx at ell
    simp only [ρ] at ell
    simp only [s_set, e_call, e_cons, ell, e_var, ρ, List.getElem?_cons_succ, List.getElem?_cons_zero, bind_ok, e_nil, pm_3_2_1_0]
    rw [er, gcR_junk rfl hw4 (num_blw (histD_num _) _)]
    rfl
  have en := law_normal_ok S ok' hl' ht hw4
  have hnok := nrm_ok (hs := hs) (mc := mc) ok'
  have hnl : (nrm mc hs h').length ≤ 12 := by
    show (norm _ _ _ _).length ≤ 12
    rw [norm_len]
    exact hl'
  have erp := repr_hist S hnok hnl m4
  have s10 : sRet (fOp gEq (fCB gRepr (fCons (fVar 9) fNil)) (fCB gRepr (fCons (fCall F__law_normal (fCons (fVar 1) (fCons (fVar 2) (fCons (fVar 6) (fCons (fVar 3) fNil))))) fNil))) ((ρ a5 (some (histD h')) (some (.ref m3.length)) a8).set 9 (some (histD (nrm mc hs h')))) m4 = .rt (.bl true) m4 := by
    simp only [s_ret, e_op, e_cb, e_cons, e_var, e_call, e_nil, ρ, List.set, List.getElem?_cons_succ, List.getElem?_cons_zero, bind_ok, erp, en, gcR_same, gEq_str]
    simp
  refine ⟨m3, u3, ?_⟩
  refine runF_rtJ (j := [.lst pl]) rfl ?_ u3.len.symm hw3 rfl
  show g__law_renewed_right (ρ none none none none) m = _
  unfold g__law_renewed_right
  rw [s_seq]
  show seqK (body (ρ none none none none) m) _ = _
  rw [eb, seqK_nx, s_seq]
  show seqK (sSet 9 _ _ m4) _ = _
  rw [s9, seqK_nx, s10]
end
end K81

namespace K81
open PySem PyProof.Rows L2 Dl
theorem up_snoc {n : Nat} {m j m' : M} (hn : n < m.length) (u : Up n (m ++ j) m') : ∃ m2, Up n m m2 ∧ m' = m2 ++ j := by
  obtain ⟨g, z, rfl⟩ := u
  exact ⟨m.set n (bx g z), ⟨g, z, rfl⟩, by rw [List.set_append_left _ _ hn]⟩
noncomputable def drawB : FS := (sSeq (sSet 10 (fIf (fTest (fOp gEq (fVar 7) (fC (.int 0)))) (fOp gMod (fCB gInt (fCons (fVar 9) fNil)) (fVar 3)) (fCall F__law_take (fCons (fVar 1) (fCons (fVar 3) fNil)))))
  (sDrop (fMeth mAppend (fVar 8) (fCons (fTup (fCons (fVar 10) (fCons (fCall F__law_take (fCons (fVar 1) (fCons (fCB gLen (fCons (fOp gIx (fVar 5) (fC (.int 1))) fNil)) fNil))) fNil))) fNil))))
/-- the history drawn -/
theorem draw_ok {mc : Mach} {b hs : Nat} (S : Set' mc b hs) {n many even : Nat} {m : M} (hb : Box n m) (hw : Wf m) (hm : many ≤ 12) (a0 a2 a4 : Option D) :
    ∃ (l : Hist) (m' : M) (a9 a10 : Option D), Up n m m' ∧ HOk hs mc.maps.length l ∧ l.length = many ∧
      sFor (fRng1 (fVar 6)) (gN 9) drawB [a0, some (.ref n), a2, some (iD hs), a4, some (machF mc), some (iD many), some (iD even), some (.ref m.length), none, none, none, none, none, none, none, none] (m ++ [.lst []])
        = .nx [a0, some (.ref n), a2, some (iD hs), a4, some (machF mc), some (iD many), some (iD even), some (.ref m.length), a9, a10, none, none, none, none, none, none] (m' ++ [.lst (l.map letD)]) := by
  have h1 := S.h1
  have h4 := S.h4
  have n1 := S.m.n1
  have n6 := S.m.n6
  let R : Option D → Option D → Sl := fun a9 a10 => [a0, some (.ref n), a2, some (iD hs), a4, some (machF mc), some (iD many), some (iD even), some (.ref m.length), a9, a10, none, none, none, none, none, none]
  obtain ⟨ρ', mf, e, l, m', a9, a10, u, ok, hl, rfl, rfl⟩ := forL_inv (src := srcR 0 many) (n := many) (gt := gN 9) (body := drawB) (fun i ρ mm => ∃ (l : Hist) (m' : M) (a9 a10 : Option D), Up n m m' ∧ HOk hs mc.maps.length l ∧ l.length = i ∧ mm = m' ++ [.lst (l.map letD)] ∧ ρ = R a9 a10) rfl
    (by
      rintro i ρ mm hi ⟨l, m', a9, a10, u, ok, hl, rfl, rfl⟩
      have hb' := u.box hb
      have hln : n < m'.length := hb'.lt
      have hml : m'.length = m.length := u.len
      -- the hand
      have ph : ∃ (j : Nat) (m2 : M), j < hs ∧ Up n m' m2 ∧ sSet 10 (fIf (fTest (fOp gEq (fVar 7) (fC (.int 0)))) (fOp gMod (fCB gInt (fCons (fVar 9) fNil)) (fVar 3)) (fCall F__law_take (fCons (fVar 1) (fCons (fVar 3) fNil)))) (R (some (iD i)) a10) (m' ++ [.lst (l.map letD)]) = .nx (R (some (iD i)) (some (iD j))) (m2 ++ [.lst (l.map letD)]) := by
        by_cases e0 : even = 0
        · refine ⟨i % hs, m', Nat.mod_lt _ (by omega), Up.refl hb', ?_⟩
          have hc : cMod (i : Int) (hs : Int) = true := decide_eq_true (by omega)
          simp [R, e0, hc]
        · have e0' : ¬ ((even : Int) = 0) := by omega
          obtain ⟨r, m2, hr, u2, e2⟩ := take_up (k := hs) (hb'.app [.lst (l.map letD)]) h1 (by omega)
          obtain ⟨m3, u3, rfl⟩ := up_snoc hln u2
          refine ⟨r, m3, hr, u3, ?_⟩
          have hg := gcR_up u2 (iD r)
          simp only [s_set, e_if, e_test, e_op, e_var, e_c, e_call, e_cons, e_nil, R, List.getElem?_cons_succ, List.getElem?_cons_zero, bind_ok, gEq_int, decide_eq_false e0', e_asB, Bool.false_eq_true, if_false, e2, hg, out_ok, List.set]
      obtain ⟨j, m2, hj, u2, s1⟩ := ph
      have hb2 := u2.box hb'
      obtain ⟨x, mx, hx, u3, e3⟩ := take_up (k := mc.maps.length) (hb2.app [.lst (l.map letD)]) n1 (by omega)
      obtain ⟨m3, u3', rfl⟩ := up_snoc hb2.lt u3
      have hm2 : m2.length = m.length := by rw [u2.len, hml]
      have hm3 : m3.length = m.length := by rw [u3'.len, hm2]
      have l2 : 2 ≤ LIM := by rw [LIM_eq]; omega
      have s2 : sDrop (fMeth mAppend (fVar 8) (fCons (fTup (fCons (fVar 10) (fCons (fCall F__law_take (fCons (fVar 1) (fCons (fCB gLen (fCons (fOp gIx (fVar 5) (fC (.int 1))) fNil)) fNil))) fNil))) fNil)) (R (some (iD i)) (some (iD j))) (m2 ++ [.lst (l.map letD)]) = .nx (R (some (iD i)) (some (iD j))) (m3 ++ [.lst ((l ++ [(j, x)]).map letD)]) := by
        have hmx : ∀ q : M, gIx (machF mc) (.int 1) q = .ok (.fix (mc.maps.map tI)) q := fun _ => rfl
        have hgl : ∀ q : M, gLen [D.fix (mc.maps.map tI)] q = .ok (.int (mc.maps.length : Int)) q := fun q => by simp
        have hg := gcR_up u3 (iD x)
        have em := meth_ok (g := mAppend) (fo := fVar 8) (fa := fCons (fTup (fCons (fVar 10) (fCons (fCall F__law_take (fCons (fVar 1) (fCons (fCB gLen (fCons (fOp gIx (fVar 5) (fC (.int 1))) fNil)) fNil))) fNil))) fNil) (ρ := R (some (iD i)) (some (iD j))) (m := m2 ++ [.lst (l.map letD)]) (m1 := m2 ++ [.lst (l.map letD)]) (m2 := m3 ++ [.lst (l.map letD)]) (n := m.length) (xs0 := l.map letD) (xs := l.map letD) (as := [letD (j, x)]) (d := .non) (ys := l.map letD ++ [letD (j, x)]) rfl (by rw [← hm2]; exact at_snoc _ _)
          (by
            simp only [e_cons, e_tup, e_call, e_cb, e_op, e_c, e_nil, e_var, R, List.getElem?_cons_succ, List.getElem?_cons_zero, bind_ok, hmx, hgl, e3, hg, List.length_cons, List.length_nil]
            rw [if_pos l2]
            rfl) (by rw [← hm3]; exact at_snoc _ _) (append_ok (by rw [List.length_map, LIM_eq]; omega))
        rw [s_drop, em, out_ok, ← hm3, set_snoc]
        simp
      refine ⟨iD i, R (some (iD i)) a10, R (some (iD i)) (some (iD j)), m3 ++ [.lst ((l ++ [(j, x)]).map letD)], by simp [srcR], rfl, ?_, l ++ [(j, x)], m3, _, _, (u.trans u2).trans u3', ?_, by simp [hl], rfl, rfl⟩
      · unfold drawB
        rw [s_seq, s1, seqK_nx, s2]
      · refine ⟨fun p hp => ?_, fun p hp => ?_⟩
        · rcases List.mem_append.mp hp with q | q
          · exact ok.hand p q
          · rw [List.mem_singleton.mp q]; exact hj
        · rcases List.mem_append.mp hp with q | q
          · exact ok.deed p q
          · rw [List.mem_singleton.mp q]; exact hx)
    (fun _ _ _ => rfl) many 0 (R none none) (m ++ [.lst []]) (by omega) ⟨[], m, none, none, Up.refl hb, ⟨fun p hp => (by cases hp), fun p hp => (by cases hp)⟩, rfl, rfl, rfl⟩
  refine ⟨l, m', a9, a10, u, ok, hl, ?_⟩
  rw [s_for]
  have : fRng1 (fVar 6) (R none none) (m ++ [.lst []]) = .ok (srcR 0 many) (m ++ [.lst []]) := by
    simp [R, rngK_n (k := many) (by rw [LIM_eq]; omega)]
  rw [this]
  exact e
end K81

namespace K81
open PySem PyProof.Rows L2 Dl
theorem gc_bl (L : Nat) (t : Bool) (m : M) : (gc L (.bl t) m).1 = .bl t := by
  unfold gc
  split <;> rfl
def tru : Pst := endP fun d m' => (gc ([] : M).length d m').1 = .bl true
/-- the places of the story -/
def Y (s a1 a2 a3 a4 a5 a6 a7 a8 a9 a10 a11 a12 a13 a14 : Option D) : Sl := [s, a1, a2, a3, a4, a5, a6, a7, a8, a9, a10, a11, a12, a13, a14, none, none]
noncomputable def ifA : FS := (sIf (fTest (fOp gEq (fVar 4) (fC (.int 0))))
  (sSeq (sSet 12 (fCall F__law_table (fCons (fVar 5) (fCons (fVar 3) (fCons (fVar 8) fNil)))))
  (sSeq (sSet 13 (fCall F__law_counts (fCons (fVar 3) (fCons (fVar 8) fNil))))
  (sSeq (sIf (fTest (fOp gNe (fCB gRepr (fCons (fCall (fun ds m => F_normal (pm_1_0 ds) m) (fCons (fName (fLst (fCons (fCB gList (fCons (fVar 13) fNil)) (fCons (fName (fLc (fWalk (fCall F__law_vectors (fCons (fVar 13) fNil))) (gN 16) [16] fYes (fOp gIx (fVar 12) (fVar 16)))) fNil)))) (fCons (fVar 5) fNil))) fNil)) (fCB gRepr (fCons (fVar 11) fNil))))
  (sRet (fC (.bl false)))
  sNext)
  (sRet (fOp gEq (fCB gRepr (fCons (fCall F_is_normal (fCons (fVar 5) (fCons (fVar 3) (fCons (fVar 8) fNil)))) fNil)) (fCB gRepr (fCons (fOp gEq (fVar 8) (fVar 11)) fNil)))))))
  sNext)
noncomputable def ifB : FS := (sIf (fTest (fOp gEq (fVar 4) (fC (.int 1))))
  (sSeq (sIf (fTest (fOp gNotB (fCall (fun ds m => F_is_normal (pm_2_1_0 ds) m) (fCons (fVar 11) (fCons (fVar 3) (fCons (fVar 5) fNil)))) (fC (.bl true))))
  (sRet (fC (.bl false)))
  sNext)
  (sRet (fCall F__law_renewed_right (fCons (fVar 1) (fCons (fVar 5) (fCons (fVar 3) (fCons (fVar 2) (fCons (fVar 11) fNil))))))))
  sNext)
noncomputable def endC : FS := (sSeq (sSet 14 (fCall F__law_shuffled (fCons (fVar 1) (fCons (fVar 3) (fCons (fVar 8) fNil)))))
  (sRet (fOp gEq (fCB gRepr (fCons (fCall F_normal_of (fCons (fVar 5) (fCons (fVar 3) (fCons (fVar 14) fNil)))) fNil)) (fCB gRepr (fCons (fCall F__law_normal (fCons (fVar 5) (fCons (fVar 3) (fCons (fVar 14) (fCons (fVar 2) fNil))))) fNil)))))
theorem hist_eq (a c : Hist) : (histD a = histD c) ↔ (a = c) := by
  constructor
  · intro q
    simp only [histD, D.tup.injEq] at q
    refine map_inj (f := letD) (fun {a c} hq => ?_) q
    obtain ⟨a1, a2⟩ := a
    obtain ⟨c1, c2⟩ := c
    simp only [letD, D.tup.injEq, List.cons.injEq, D.int.injEq, and_true] at hq
    obtain ⟨q1, q2⟩ := hq
    simp only [Prod.mk.injEq]
    omega
  · intro q
    rw [q]
section
variable {mc : Mach} {b hs : Nat} (S : Set' mc b hs)
include S
theorem nrm_len (h : Hist) : (nrm mc hs h).length = h.length := norm_len h
theorem table_lists {h : Hist} (ok : HOk hs mc.maps.length h) (hl : h.length ≤ 12) {m : M} (hw : Wf m) {tb : Nat} (htb : m[tb]? = some (tabO mc hs h)) {ρ : Sl} (h12 : ρ[12]? = some (some (.ref tb))) (h13 : ρ[13]? = some (some (tI (Dl.cnt hs h)))) (hr : ρ.length = 17) :
    ∃ (j : M) (t p q : Nat), fName (fLst (fCons (fCB gList (fCons (fVar 13) fNil)) (fCons (fName (fLc (fWalk (fCall F__law_vectors (fCons (fVar 13) fNil))) (gN 16) [16] fYes (fOp gIx (fVar 12) (fVar 16)))) fNil))) ρ m = .ok (.ref t) (m ++ j) ∧ Wf (m ++ j) ∧ (m ++ j)[t]? = some (.lst [.ref p, .ref q]) ∧ (m ++ j)[p]? = some (.lst ((Dl.cnt hs h).map iD)) ∧ (m ++ j)[q]? = some (.lst (((vecs (Dl.cnt hs h)).map (brd mc.maps mc.start h)).map iD)) := by
  have c4 : (Dl.cnt hs h).length ≤ 4 := by rw [cnt_len]; exact S.h4
  have hp := prd_cnt S hl
  let cs := Dl.cnt hs h
  have hp' : Dl.prd cs ≤ 30000 := hp
  let C : O := .lst (cs.map iD)
  let V : O := .lst ((vecs cs).map tI)
  let B : O := .lst (((vecs cs).map (brd mc.maps mc.start h)).map iD)
  have hw1 : Wf (m ++ [C]) := hw.app (lst_blw (fun _ => rfl) _ _)
  have e1 : fCB gList (fCons (fVar 13) fNil) ρ m = .ok (.ref m.length) (m ++ [C]) := by
    have hit : itemsD m (tI cs) = some (cs.map iD) := rfl
    simp only [e_cb, e_cons, e_var, h13, bind_ok, e_nil, e_list]
    rw [show itemsD m (tI (Dl.cnt hs h)) = some (cs.map iD) from rfl]
  have e2 := law_vectors_ok c4 hp hw1
  have hV : ((m ++ [C]) ++ [V])[(m ++ [C]).length]? = some V := at_snoc _ _
  have hg : gcR (m ++ [C]).length (.ok (.ref (m ++ [C]).length) ((m ++ [C]) ++ [V])) = .ok (.ref (m ++ [C]).length) ((m ++ [C]) ++ [V]) := gcR_new rfl hw1 (Nat.le_refl _) hV (listM_blw _)
  have e3 : fWalk (fCall F__law_vectors (fCons (fVar 13) fNil)) ρ (m ++ [C]) = .ok (srcL (m ++ [C]).length (vecs cs).length) ((m ++ [C]) ++ [V]) := by
    have hsk := srcK_l hV
    rw [List.length_map] at hsk
    simp only [e_walk, e_call, e_cons, e_var, h13, bind_ok, e_nil]
    rw [e2, hg, bind_ok]
    exact hsk
  have htb2 : ((m ++ [C]) ++ [V])[tb]? = some (tabO mc hs h) := lsM_at (lsM_at htb _) _
  have e4 : fLc (fWalk (fCall F__law_vectors (fCons (fVar 13) fNil))) (gN 16) [16] fYes (fOp gIx (fVar 12) (fVar 16)) ρ (m ++ [C]) = .ok (((vecs cs).map (brd mc.maps mc.start h)).map iD) ((m ++ [C]) ++ [V]) := by
    have := fLc_all' (fi := fWalk (fCall F__law_vectors (fCons (fVar 13) fNil))) (gt := gN 16) (vs := [16]) (e := fOp gIx (fVar 12) (fVar 16)) (ρ := ρ) (m := m ++ [C]) (m' := (m ++ [C]) ++ [V]) (src := srcL (m ++ [C]).length (vecs cs).length) (xs := (vecs cs).map tI) (fun x => iD (brd mc.maps mc.start h (unI x))) e3 (isL hV (by simp)) (fun x hx => by
      obtain ⟨v, hv, rfl⟩ := List.mem_map.mp hx
      refine ⟨_, rfl, ?_⟩
      have a12 : ((wipeD ρ [16]).set 16 (some (tI v)))[12]? = some (some (.ref tb)) := by
        rw [List.getElem?_set_ne (by omega)]
        simp [wipeD, h12]
      have a16 : ((wipeD ρ [16]).set 16 (some (tI v)))[16]? = some (some (tI v)) := by
        rw [List.getElem?_set_self (by simp [wipeD, hr])]
      simp only [e_op, e_var, a12, a16, bind_ok, tab_look (mem_vecs.mp hv) htb2, unI_tI]) (by rw [List.length_map, vecs_len, LIM_eq]; omega)
    rw [this, List.map_map, List.map_map]
    congr 1
    refine List.map_congr_left fun v _ => ?_
    simp only [Function.comp_def, unI_tI]
  have l2 : 2 ≤ LIM := by rw [LIM_eq]; omega
  refine ⟨[C, V, B, .lst [.ref m.length, .ref (m.length + 2)]], m.length + 3, m.length, m.length + 2, ?_, ?_, by simp, by simp [C, cs], by simp [B, cs]⟩
  · simp only [e_name, e_lst, e_cons, e1, bind_ok, e4, e_nil, List.length_cons, List.length_nil]
    rw [if_pos l2]
    simp [B, cs]
  · have h1 := ((hw1.app (o := V) (listM_blw _)).app (o := B) (lst_blw (fun _ => rfl) _ _)).app (o := .lst [.ref m.length, .ref (m.length + 2)]) (by simp [O.blw, D.blws, D.blw]; omega)
    simpa using h1
theorem wayA {ns : List Int} {form : Nat} {h : Hist} (ok : HOk hs mc.maps.length h) (hl : h.length ≤ 12) (a1 a6 a7 a9 a10 : Option D) {m : M} (hw : Wf m) (E : Pst) (hE : ∀ m', E.rt (.bl true) m') :
    OW (ifA (Y (some (scriptD ns)) a1 (some (iD form)) (some (iD hs)) (some (.int 0)) (some (machF mc)) a6 a7 (some (histD h)) a9 a10 (some (histD (nrm mc hs h))) none none none) m) E := by
  have h4 := S.h4
  let R (x y : Option D) : Sl := Y (some (scriptD ns)) a1 (some (iD form)) (some (iD hs)) (some (.int 0)) (some (machF mc)) a6 a7 (some (histD h)) a9 a10 (some (histD (nrm mc hs h))) x y none
  show OW (ifA (R none none) m) E
  unfold ifA
  have et : fTest (fOp gEq (fVar 4) (fC (.int 0))) (R none none) m = .ok true m := by simp [R, Y]
  rw [s_if, et]
  simp only [out_ok, if_true]
  have hwt : Wf (m ++ [tabO mc hs h]) := hw.app (dct_blw (fun _ => rfl) _ _ _)
  let m1 := m ++ [tabO mc hs h]
  have e1 := law_table_ok S ok hl hw
  have hg : gcR m.length (.ok (.ref m.length) (m ++ [tabO mc hs h])) = .ok (.ref m.length) (m ++ [tabO mc hs h]) := gcR_new rfl hw (Nat.le_refl _) (at_snoc _ _) (dct_blw (fun _ => rfl) _ _ _)
  have s1 : sSet 12 (fCall F__law_table (fCons (fVar 5) (fCons (fVar 3) (fCons (fVar 8) fNil)))) (R none none) m = .nx (R (some (.ref m.length)) none) m1 := by
    simp only [s_set, e_call, e_cons, e_var, e_nil, R, Y, List.getElem?_cons_succ, List.getElem?_cons_zero, bind_ok, e1, hg, out_ok]
    rfl
  have s2 : sSet 13 (fCall F__law_counts (fCons (fVar 3) (fCons (fVar 8) fNil))) (R (some (.ref m.length)) none) m1 = .nx (R (some (.ref m.length)) (some (tI (Dl.cnt hs h)))) m1 := by
    have e2 := counts_ok (hs := hs) (h := h) h4 (by omega) m1
    simp only [s_set, e_call, e_cons, e_var, e_nil, R, Y, List.getElem?_cons_succ, List.getElem?_cons_zero, bind_ok, e2, gcR_same, out_ok]
    rfl
  let ρ := R (some (.ref m.length)) (some (tI (Dl.cnt hs h)))
  obtain ⟨j, t, p, q, el, hwl, ht, hp, hq⟩ := table_lists S ok hl (m := m1) hwt (tb := m.length) (at_snoc _ _) (ρ := ρ) rfl rfl rfl
  have T := tf_of S ok hl
  have ect : F_check_table [machD mc, .ref t] (m1 ++ j) = .ok (tabF (Dl.cnt hs h) (brd mc.maps mc.start h)) (m1 ++ j) := by
    have := check_part_ref (n := b) ht hp hq T.l1 T.l4 T.prd (by rw [List.length_map, vecs_len]) (fun e he => by
      obtain ⟨v, _, rfl⟩ := List.mem_map.mp he
      exact T.fb v) T.n12
    refine runF_rt rfl ?_
    obtain ⟨f0, r0, e0, hf0⟩ := head_of S.m
    have hcm := check_machine_ok S.m (m1 ++ j)
    have hlen : gLen [tI f0] (m1 ++ j) = .ok (iD b) (m1 ++ j) := by simp [tI, hf0]
    have i1 : gIx (machD mc) (.int 1) (m1 ++ j) = .ok (mapsD mc) (m1 ++ j) := rfl
    have i0 : gIx (mapsD mc) (.int 0) (m1 ++ j) = .ok (tI f0) (m1 ++ j) := by
      show gIx (.tup (mc.maps.map tI)) (.int 0) _ = _
      rw [e0]
      exact tup_at (k := 0) rfl _
    unfold g_check_table
    simp only [startD, List.map_cons, List.map_nil, s_ret, e_call, e_cons, e_var, e_nil, e_cb, e_op, e_c]
    simp [hcm, i1, i0, hlen, this]
    rfl
  have en := normal_ok S.m (mD := machF mc) T (wit_self (ok2 ok)) hl hwl (isM_F S (m1 ++ j)) ect
  have hnl : (nrm mc hs h).length ≤ 12 := by rw [nrm_len S]; exact hl
  have erp := repr_hist S (nrm_ok (hs := hs) ok) hnl m1
  have s3 : (sIf (fTest (fOp gNe (fCB gRepr (fCons (fCall (fun ds m => F_normal (pm_1_0 ds) m) (fCons (fName (fLst (fCons (fCB gList (fCons (fVar 13) fNil)) (fCons (fName (fLc (fWalk (fCall F__law_vectors (fCons (fVar 13) fNil))) (gN 16) [16] fYes (fOp gIx (fVar 12) (fVar 16)))) fNil)))) (fCons (fVar 5) fNil))) fNil)) (fCB gRepr (fCons (fVar 11) fNil))))
      (sRet (fC (.bl false))) sNext) ρ m1 = .nx ρ m1 := by
    generalize fName (fLst (fCons (fCB gList (fCons (fVar 13) fNil)) (fCons (fName (fLc (fWalk (fCall F__law_vectors (fCons (fVar 13) fNil))) (gN 16) [16] fYes (fOp gIx (fVar 12) (fVar 16)))) fNil))) = fx at el
    simp only [ρ, R, Y] at el
    simp only [s_if, e_test, e_op, e_cb, e_cons, e_call, e_var, e_nil, ρ, R, Y, List.getElem?_cons_succ, List.getElem?_cons_zero, bind_ok, el, pm_1_0]
    rw [en]
    have hgc : gcR m1.length (.ok (histD (nrmF mc.maps (brd mc.maps mc.start h) h.length (Dl.cnt hs h))) (m1 ++ j)) = .ok (histD (nrm mc hs h)) m1 := gcR_junk rfl hwt (num_blw (histD_num _) _)
    rw [hgc]
    simp only [bind_ok, erp, gNe_str, e_asB, out_ok, Bool.false_eq_true, if_false, s_next]
  have ein := is_normal_ok S (isM_F S) (isHist_t m1 h) ok hl hwt
  have s4 : sRet (fOp gEq (fCB gRepr (fCons (fCall F_is_normal (fCons (fVar 5) (fCons (fVar 3) (fCons (fVar 8) fNil)))) fNil)) (fCB gRepr (fCons (fOp gEq (fVar 8) (fVar 11)) fNil))) ρ m1 = .rt (.bl true) m1 := by
    have eeq := gEq_num (histD_num h) (histD_num (nrm mc hs h)) (histD_dep h) (histD_dep (nrm mc hs h)) m1
    have hd : decide (histD h = histD (nrm mc hs h)) = decide (nrm mc hs h = h) := by
      rw [Bool.eq_iff_iff, decide_eq_true_eq, decide_eq_true_eq, hist_eq]
      exact eq_comm
    rw [hd] at eeq
    simp only [s_ret, e_op, e_cb, e_cons, e_call, e_var, e_nil, ρ, R, Y, List.getElem?_cons_succ, List.getElem?_cons_zero, bind_ok, ein, gcR_same, gRepr_bl, eeq, gEq_str]
    simp
  simp only [s_seq, s1, OW_seqK, OW_nx, thenP_nx, s2]
  show OW (sIf _ _ _ ρ m1) _
  rw [s3]
  simp only [OW_nx, thenP_nx]
  show OW (sRet _ ρ m1) _
  rw [s4, OW_rt]
  exact hE _
theorem wayB {ns : List Int} {form n : Nat} {h : Hist} (ok : HOk hs mc.maps.length h) (hl : h.length ≤ 12) (ht : form = 0 → Turns mc.maps b) (a6 a7 a9 a10 : Option D) {m : M} (hb : Box n m) (hw : Wf m) (E : Pst) (hE : ∀ m', E.rt (.bl true) m') :
    OW (ifB (Y (some (scriptD ns)) (some (.ref n)) (some (iD form)) (some (iD hs)) (some (.int 1)) (some (machF mc)) a6 a7 (some (histD h)) a9 a10 (some (histD (nrm mc hs h))) none none none) m) E := by
  let ρ : Sl := Y (some (scriptD ns)) (some (.ref n)) (some (iD form)) (some (iD hs)) (some (.int 1)) (some (machF mc)) a6 a7 (some (histD h)) a9 a10 (some (histD (nrm mc hs h))) none none none
  show OW (ifB ρ m) E
  unfold ifB
  have et : fTest (fOp gEq (fVar 4) (fC (.int 1))) ρ m = .ok true m := by simp [ρ, Y]
  rw [s_if, et]
  simp only [out_ok, if_true]
  have okn := nrm_ok (hs := hs) ok
  have hnl : (nrm mc hs h).length ≤ 12 := by rw [nrm_len S]; exact hl
  have ein := is_normal_ok S (isM_F S) (isHist_t m (nrm mc hs h)) okn hnl hw
  have hnn : nrm mc hs (nrm mc hs h) = nrm mc hs h := norm_norm (ok2 ok)
  rw [decide_eq_true hnn] at ein
  have s1 : (sIf (fTest (fOp gNotB (fCall (fun ds m => F_is_normal (pm_2_1_0 ds) m) (fCons (fVar 11) (fCons (fVar 3) (fCons (fVar 5) fNil)))) (fC (.bl true)))) (sRet (fC (.bl false))) sNext) ρ m = .nx ρ m := by
    simp only [s_if, e_test, e_op, e_call, e_cons, e_var, e_nil, e_c, ρ, Y, List.getElem?_cons_succ, List.getElem?_cons_zero, bind_ok, pm_2_1_0, ein, gcR_same, e_notB, e_asB, out_ok, decide_true, Bool.not_true, Bool.false_eq_true, if_false, s_next]
  obtain ⟨m', u, e⟩ := renewed_right_ok S (form := form) hb hw okn hnl ht
  have s2 : sRet (fCall F__law_renewed_right (fCons (fVar 1) (fCons (fVar 5) (fCons (fVar 3) (fCons (fVar 2) (fCons (fVar 11) fNil)))))) ρ m = .rt (.bl true) m' := by
    simp only [s_ret, e_call, e_cons, e_var, e_nil, ρ, Y, List.getElem?_cons_succ, List.getElem?_cons_zero, bind_ok, e, gcR_up u, out_ok]
  rw [s_seq, s1]
  simp only [OW_seqK, OW_nx, thenP_nx]
  rw [s2, OW_rt]
  exact hE _
theorem wayC {ns : List Int} {form n way : Nat} {h : Hist} (ok : HOk hs mc.maps.length h) (hl : h.length ≤ 12) (ht : form = 0 → Turns mc.maps b) (a6 a7 a9 a10 : Option D) {m : M} (hb : Box n m) (hw : Wf m) (E : Pst) (hE : ∀ m', E.rt (.bl true) m') :
    OW (endC (Y (some (scriptD ns)) (some (.ref n)) (some (iD form)) (some (iD hs)) (some (iD way)) (some (machF mc)) a6 a7 (some (histD h)) a9 a10 (some (histD (nrm mc hs h))) none none none) m) E := by
  obtain ⟨g, m', u, e, hgl, hgm, _⟩ := ordered_ok hb hw S.h4 (by omega) ok.hand
  have okg := ok.of_mem hgm
  have hgl' : g.length ≤ 12 := by omega
  have hw' := u.wf hw
  have e1 := normal_of_ok S (isM_F S) (isHist_t m' g) okg hgl' hw'
  have e2 := law_normal_ok S okg hgl' ht hw'
  have hnl : (nrm mc hs g).length ≤ 12 := by rw [nrm_len S]; exact hgl'
  have erp := repr_hist S (nrm_ok (hs := hs) okg) hnl m'
  unfold endC
  have s1 : sSet 14 (fCall F__law_shuffled (fCons (fVar 1) (fCons (fVar 3) (fCons (fVar 8) fNil)))) (Y (some (scriptD ns)) (some (.ref n)) (some (iD form)) (some (iD hs)) (some (iD way)) (some (machF mc)) a6 a7 (some (histD h)) a9 a10 (some (histD (nrm mc hs h))) none none none) m = .nx (Y (some (scriptD ns)) (some (.ref n)) (some (iD form)) (some (iD hs)) (some (iD way)) (some (machF mc)) a6 a7 (some (histD h)) a9 a10 (some (histD (nrm mc hs h))) none none (some (histD g))) m' := by
    simp only [s_set, e_call, e_cons, e_var, e_nil, Y, List.getElem?_cons_succ, List.getElem?_cons_zero, bind_ok, e, gcR_up u, out_ok]
    rfl
  have s2 : sRet (fOp gEq (fCB gRepr (fCons (fCall F_normal_of (fCons (fVar 5) (fCons (fVar 3) (fCons (fVar 14) fNil)))) fNil)) (fCB gRepr (fCons (fCall F__law_normal (fCons (fVar 5) (fCons (fVar 3) (fCons (fVar 14) (fCons (fVar 2) fNil))))) fNil))) (Y (some (scriptD ns)) (some (.ref n)) (some (iD form)) (some (iD hs)) (some (iD way)) (some (machF mc)) a6 a7 (some (histD h)) a9 a10 (some (histD (nrm mc hs h))) none none (some (histD g))) m' = .rt (.bl true) m' := by
    simp only [s_ret, e_op, e_cb, e_cons, e_call, e_var, e_nil, Y, List.getElem?_cons_succ, List.getElem?_cons_zero, bind_ok, e1, e2, gcR_same, erp, gEq_str]
    simp
  rw [s_seq, s1]
  simp only [OW_seqK, OW_nx, thenP_nx]
  rw [s2, OW_rt]
  exact hE _
end
end K81

namespace K81
open PySem PyProof.Rows L2 Dl
theorem story_ok (ns : List Int) (hns : ns.length ≤ 63) : ∃ m, F__law_story [scriptD ns] [] = .ok (.bl true) m := by
  have l6 : 6 ≤ LIM := by rw [LIM_eq]; omega
  suffices h : RW (F__law_story [scriptD ns] []) (fun d _ => d = .bl true) by
    obtain ⟨a, m, e, rfl⟩ := h.get
    exact ⟨m, e⟩
  let s : Option D := some (scriptD ns)
  -- form, hands, way
  obtain ⟨g0, z0, e0⟩ := box_ok ns hns 0 (by omega) []
  let m0 : M := [bx g0 z0]
  have w0 : Wf m0 := wf_box wf_nil g0 z0
  have b0 : Box 0 m0 := ⟨g0, z0, rfl⟩
  obtain ⟨form, m1, hf, u1, e1⟩ := take_up (k := 3) b0 (by omega) (by omega)
  have b1 := u1.box b0
  have w1 := u1.wf w0
  let ρ1 : Sl := Y s (some (.ref 0)) none none none none none none none none none none none none none
  obtain ⟨hs, m2, hhs, u2, e2⟩ := pick_nums (n := 0) (ρ := ρ1) (m := m1) (m1 := m1) (l := [4, 3, 2, 2, 3, 1])
    (fa := (fCons (fVar 1) (fCons (fName (fLst (fCons (fC (.int 4)) (fCons (fC (.int 3)) (fCons (fC (.int 2)) (fCons (fC (.int 2)) (fCons (fC (.int 3)) (fCons (fC (.int 1)) fNil)))))))) fNil))) (by simp [ρ1, Y, l6, iD]) (Up.refl b1) b1 w1 (by simp) (by simp)
  have h14 : 1 ≤ hs ∧ hs ≤ 4 := by
    simp only [List.mem_cons, List.not_mem_nil, or_false] at hhs
    omega
  have b2 := u2.box b1
  have w2 := u2.wf w1
  obtain ⟨way, m3, hway, u3, e3⟩ := take_up (k := 3) b2 (by omega) (by omega)
  have b3 := u3.box b2
  have w3 := u3.wf w2
  obtain ⟨mc, b, m4, okm, hrot, u4, e4⟩ := machine_ok (form := form) b3 w3
  have w4 := u4.wf w3
  have S : Set' mc b hs := ⟨okm, h14.1, h14.2⟩
  have ht : form = 0 → Turns mc.maps b := fun q => turns_rot okm.b1 okm.b8 (hrot q)
  -- how many
  obtain ⟨g5, z5, e5⟩ := box_ok ns hns 1 (by omega) m4
  let m5 := m4 ++ [bx g5 z5]
  have w5 : Wf m5 := wf_box w4 g5 z5
  have b5 : Box m4.length m5 := box_new g5 z5 m4
  let n := m4.length
  let ρ5 : Sl := Y s (some (.ref n)) (some (iD form)) (some (iD hs)) (some (iD way)) (some (machF mc)) none none none none none none none none none
  obtain ⟨r1, m6, hr1, u6, e6⟩ := take_up (k := 8) b5 (by omega) (by omega)
  have b6 := u6.box b5
  have w6 := u6.wf w5
  obtain ⟨r2, m7, hr2, u7, e7⟩ := take_up (k := 13) b6 (by omega) (by omega)
  have u67 := u6.trans u7
  have e6' : F__law_take [.ref n, .int 8] m5 = .ok (iD r1) m6 := e6
  have e7' : F__law_take [.ref n, .int 13] m6 = .ok (iD r2) m7 := e7
  obtain ⟨many, m8, hmany, u8, e8⟩ := pick_nums (n := n) (ρ := ρ5) (m := m5) (m1 := m7) (l := [12, 12, 9, 7, 5 + r1, r2])
    (fa := (fCons (fVar 1) (fCons (fName (fLst (fCons (fC (.int 12)) (fCons (fC (.int 12)) (fCons (fC (.int 9)) (fCons (fC (.int 7)) (fCons (fOp gAdd (fC (.int 5)) (fCall F__law_take (fCons (fVar 1) (fCons (fC (.int 8)) fNil)))) (fCons (fCall F__law_take (fCons (fVar 1) (fCons (fC (.int 13)) fNil))) fNil)))))))) fNil))) (by simp [ρ5, Y, l6, iD, e6', gcR_up u6, e7', gcR_up u7]) u67 b5 w5 (by simp) (by simp)
  have hm12 : many ≤ 12 := by
    simp only [List.mem_cons, List.not_mem_nil, or_false] at hmany
    omega
  have b8 := u8.box b5
  have w8 := u8.wf w5
  obtain ⟨even, m9, heven, u9, e9⟩ := take_up (k := 4) b8 (by omega) (by omega)
  have b9 := u9.box b8
  have w9 := u9.wf w8
  -- the history
  obtain ⟨h, m10, a9, a10, u10, ok, hl', e10⟩ := draw_ok S (many := many) (even := even) b9 w9 hm12 s (some (iD form)) (some (iD way))
  have hl : h.length ≤ 12 := by omega
  let m11 : M := m10 ++ [.lst (h.map letD)]
  have w10 := u10.wf w9
  have w11 : Wf m11 := w10.app (lst_blw (fun _ => rfl) _ _)
  have e11 := law_normal_ok S ok hl ht w11
  have hnl : (nrm mc hs h).length ≤ 12 := by rw [nrm_len S]; exact hl
  have erp := repr_hist S (nrm_ok (hs := hs) ok) hnl m11
  let P (x : Option D) : Sl := Y s x (some (iD form)) (some (iD hs)) (some (iD way)) (some (machF mc)) (some (iD many)) (some (iD even)) (some (histD h)) a9 a10 (some (histD (nrm mc hs h))) none none none
  obtain ⟨j, el, hli, hwl⟩ := lists_ok (k := 8) (i := 15) (h := h) (by omega) (ρ := P (some (.ref n))) rfl (by simp [P, Y]) (m := m11)
  have e12 := normal_of_ok S (isM_F S) hli.is ok hl (hwl w11)
  obtain ⟨g13, z13, e13⟩ := box_ok ns hns 2 (by omega) m11
  let m13 := m11 ++ [bx g13 z13]
  have w13 : Wf m13 := wf_box w11 g13 z13
  have b13 : Box m11.length m13 := box_new g13 z13 m11
  -- step by step
  have e0' : F__law_box [scriptD ns, .int 0] [] = .ok (.ref 0) m0 := e0
  have e1' : F__law_take [.ref 0, .int 3] m0 = .ok (iD form) m1 := e1
  have e3' : F__law_take [.ref 0, .int 3] m2 = .ok (iD way) m3 := e3
  have e5' : F__law_box [scriptD ns, .int 1] m4 = .ok (.ref n) m5 := e5
  have e9' : F__law_take [.ref n, .int 4] m8 = .ok (iD even) m9 := e9
  have e13' : F__law_box [scriptD ns, .int 2] m11 = .ok (.ref m11.length) m13 := e13
  have hg0 : gcR ([] : M).length (.ok (.ref 0) m0) = .ok (.ref 0) m0 := gcR_newbox (m := []) g0 z0
  have hg5 : gcR m4.length (.ok (.ref n) m5) = .ok (.ref n) m5 := gcR_newbox g5 z5
  have hg13 : gcR m11.length (.ok (.ref m11.length) m13) = .ok (.ref m11.length) m13 := gcR_newbox g13 z13
  have hst : startD 17 [scriptD ns] = Y s none none none none none none none none none none none none none none := rfl
  have q1 : sSet 1 (fCall F__law_box (fCons (fVar 0) (fCons (fC (.int 0)) fNil))) (startD 17 [scriptD ns]) [] = .nx ρ1 m0 := by
    rw [hst]
    simp only [s_set, e_call, e_cons, e_var, e_c, Y, s, List.getElem?_cons_succ, List.getElem?_cons_zero, bind_ok, e_nil, e0', hg0, out_ok, List.set, ρ1]
  have q2 : sPar3 2 3 4 (fCons (fCall F__law_take (fCons (fVar 1) (fCons (fC (.int 3)) fNil))) (fCons (fCall F__law_pick (fCons (fVar 1) (fCons (fName (fLst (fCons (fC (.int 4)) (fCons (fC (.int 3)) (fCons (fC (.int 2)) (fCons (fC (.int 2)) (fCons (fC (.int 3)) (fCons (fC (.int 1)) fNil)))))))) fNil))) (fCons (fCall F__law_take (fCons (fVar 1) (fCons (fC (.int 3)) fNil))) fNil))) ρ1 m0 = .nx (Y s (some (.ref 0)) (some (iD form)) (some (iD hs)) (some (iD way)) none none none none none none none none none none) m3 := by
    have t1 : fCall F__law_take (fCons (fVar 1) (fCons (fC (.int 3)) fNil)) ρ1 m0 = .ok (iD form) m1 := by
      simp only [ρ1, Y, e_call, e_cons, e_var, e_c, List.getElem?_cons_succ, List.getElem?_cons_zero, bind_ok, e_nil, e1', gcR_up u1]
    have t3 : fCall F__law_take (fCons (fVar 1) (fCons (fC (.int 3)) fNil)) ρ1 m2 = .ok (iD way) m3 := by
      simp only [ρ1, Y, e_call, e_cons, e_var, e_c, List.getElem?_cons_succ, List.getElem?_cons_zero, bind_ok, e_nil, e3', gcR_up u3]
    unfold sPar3
    rw [e_cons, t1, bind_ok, e_cons, e2, bind_ok, e_cons, t3, bind_ok, e_nil]
    rfl
  have q3 : sSet 5 (fCall F__law_machine (fCons (fVar 1) (fCons (fVar 2) fNil))) (Y s (some (.ref 0)) (some (iD form)) (some (iD hs)) (some (iD way)) none none none none none none none none none none) m3 = .nx (Y s (some (.ref 0)) (some (iD form)) (some (iD hs)) (some (iD way)) (some (machF mc)) none none none none none none none none none) m4 := by
    simp only [s_set, e_call, e_cons, e_var, Y, List.getElem?_cons_succ, List.getElem?_cons_zero, bind_ok, e_nil, e4, gcR_up u4, out_ok, List.set]
  have q4 : sSet 1 (fCall F__law_box (fCons (fVar 0) (fCons (fC (.int 1)) fNil))) (Y s (some (.ref 0)) (some (iD form)) (some (iD hs)) (some (iD way)) (some (machF mc)) none none none none none none none none none) m4 = .nx ρ5 m5 := by
    simp only [s_set, e_call, e_cons, e_var, e_c, Y, s, List.getElem?_cons_succ, List.getElem?_cons_zero, bind_ok, e_nil, e5', hg5, out_ok, List.set, ρ5]
  have q5 : sPar 6 7 (fCons (fCall F__law_pick (fCons (fVar 1) (fCons (fName (fLst (fCons (fC (.int 12)) (fCons (fC (.int 12)) (fCons (fC (.int 9)) (fCons (fC (.int 7)) (fCons (fOp gAdd (fC (.int 5)) (fCall F__law_take (fCons (fVar 1) (fCons (fC (.int 8)) fNil)))) (fCons (fCall F__law_take (fCons (fVar 1) (fCons (fC (.int 13)) fNil))) fNil)))))))) fNil))) (fCons (fCall F__law_take (fCons (fVar 1) (fCons (fC (.int 4)) fNil))) fNil)) ρ5 m5 = .nx (Y s (some (.ref n)) (some (iD form)) (some (iD hs)) (some (iD way)) (some (machF mc)) (some (iD many)) (some (iD even)) none none none none none none none) m9 := by
    have t1 : fCall F__law_take (fCons (fVar 1) (fCons (fC (.int 4)) fNil)) ρ5 m8 = .ok (iD even) m9 := by
      simp only [ρ5, Y, e_call, e_cons, e_var, e_c, List.getElem?_cons_succ, List.getElem?_cons_zero, bind_ok, e_nil, e9', gcR_up u9]
    rw [s_par, e_cons, e8, bind_ok, e_cons, t1, bind_ok, e_nil]
    rfl
  have q6 : sSet 8 (fName (fLst fNil)) (Y s (some (.ref n)) (some (iD form)) (some (iD hs)) (some (iD way)) (some (machF mc)) (some (iD many)) (some (iD even)) none none none none none none none) m9 = .nx (Y s (some (.ref n)) (some (iD form)) (some (iD hs)) (some (iD way)) (some (machF mc)) (some (iD many)) (some (iD even)) (some (.ref m9.length)) none none none none none none) (m9 ++ [.lst []]) := by
    simp [Y]
  have q7 : sFor (fRng1 (fVar 6)) (gN 9) drawB (Y s (some (.ref n)) (some (iD form)) (some (iD hs)) (some (iD way)) (some (machF mc)) (some (iD many)) (some (iD even)) (some (.ref m9.length)) none none none none none none) (m9 ++ [.lst []]) = .nx (Y s (some (.ref n)) (some (iD form)) (some (iD hs)) (some (iD way)) (some (machF mc)) (some (iD many)) (some (iD even)) (some (.ref m9.length)) a9 a10 none none none none) m11 := e10
  have q8 : sSet 8 (fCB gTuple (fCons (fVar 8) fNil)) (Y s (some (.ref n)) (some (iD form)) (some (iD hs)) (some (iD way)) (some (machF mc)) (some (iD many)) (some (iD even)) (some (.ref m9.length)) a9 a10 none none none none) m11 = .nx (Y s (some (.ref n)) (some (iD form)) (some (iD hs)) (some (iD way)) (some (machF mc)) (some (iD many)) (some (iD even)) (some (histD h)) a9 a10 none none none none) m11 := by
    have hat : m11[m9.length]? = some (.lst (h.map letD)) := by
      rw [← u10.len]
      exact at_snoc _ _
    have hit : itemsD m11 (.ref m9.length) = some (h.map letD) := by simp [hat]
    have hgt : gTuple [D.ref m9.length] m11 = .ok (histD h) m11 := by
      unfold gTuple
      simp only [hit]
      rfl
    simp only [s_set, e_cb, e_cons, e_var, Y, List.getElem?_cons_succ, List.getElem?_cons_zero, bind_ok, e_nil, hgt, out_ok, List.set]
  have q9 : sSet 11 (fCall F__law_normal (fCons (fVar 5) (fCons (fVar 3) (fCons (fVar 8) (fCons (fVar 2) fNil))))) (Y s (some (.ref n)) (some (iD form)) (some (iD hs)) (some (iD way)) (some (machF mc)) (some (iD many)) (some (iD even)) (some (histD h)) a9 a10 none none none none) m11 = .nx (P (some (.ref n))) m11 := by
    simp only [s_set, e_call, e_cons, e_var, Y, List.getElem?_cons_succ, List.getElem?_cons_zero, bind_ok, e_nil, e11, gcR_same, out_ok, List.set, P]
  have q10 : (sIf (fTest (fOp gNe (fCB gRepr (fCons (fCall F_normal_of (fCons (fVar 5) (fCons (fVar 3) (fCons (fName (fLc (fWalk (fVar 8)) (gN 15) [15] fYes (fCB gList (fCons (fVar 15) fNil)))) fNil)))) fNil)) (fCB gRepr (fCons (fVar 11) fNil)))) (sRet (fC (.bl false))) sNext) (P (some (.ref n))) m11 = .nx (P (some (.ref n))) m11 := by
    generalize fName (fLc (fWalk (fVar 8)) (gN 15) [15] fYes (fCB gList (fCons (fVar 15) fNil))) = fx at el
    simp only [P, Y] at el
    have hgc : gcR m11.length (.ok (histD (nrm mc hs h)) (m11 ++ j)) = .ok (histD (nrm mc hs h)) m11 := gcR_junk rfl w11 (num_blw (histD_num _) _)
    simp only [s_if, e_test, e_op, e_cb, e_call, e_cons, e_var, P, Y, List.getElem?_cons_succ, List.getElem?_cons_zero, bind_ok, e_nil, el, e12, hgc, erp, gNe_str, e_asB, out_ok, Bool.false_eq_true, if_false, s_next]
  have q11 : sSet 1 (fCall F__law_box (fCons (fVar 0) (fCons (fC (.int 2)) fNil))) (P (some (.ref n))) m11 = .nx (P (some (.ref m11.length))) m13 := by
    simp only [s_set, e_call, e_cons, e_var, e_c, P, Y, s, List.getElem?_cons_succ, List.getElem?_cons_zero, bind_ok, e_nil, e13', hg13, out_ok, List.set]
  refine run_w rfl ?_
  let E : Pst := endP fun d m' => (gc ([] : M).length d m').1 = .bl true
  have hE : ∀ m', E.rt (.bl true) m' := fun m' => gc_bl _ _ _
  have fin : OW ((sSeq ifA (sSeq ifB endC)) (P (some (.ref m11.length))) m13) E := by
    by_cases c0 : way = 0
    · subst c0
      rw [s_seq, OW_seqK]
      exact wayA S ok hl _ _ _ _ _ w13 _ fun m' => hE m'
    · have t0 : ifA (P (some (.ref m11.length))) m13 = .nx (P (some (.ref m11.length))) m13 := by
        have c0' : ¬ ((way : Int) = 0) := by omega
        unfold ifA
        simp only [s_if, e_test, e_op, e_var, e_c, P, Y, List.getElem?_cons_succ, List.getElem?_cons_zero, bind_ok, gEq_int, decide_eq_false c0', e_asB, out_ok, Bool.false_eq_true, if_false, s_next]
      rw [s_seq, t0]
      simp only [OW_seqK, OW_nx, thenP_nx]
      by_cases c1 : way = 1
      · subst c1
        rw [s_seq, OW_seqK]
        exact wayB S ok hl ht _ _ _ _ b13 w13 _ fun m' => hE m'
      · have t1 : ifB (P (some (.ref m11.length))) m13 = .nx (P (some (.ref m11.length))) m13 := by
          have c1' : ¬ ((way : Int) = 1) := by omega
          unfold ifB
          simp only [s_if, e_test, e_op, e_var, e_c, P, Y, List.getElem?_cons_succ, List.getElem?_cons_zero, bind_ok, gEq_int, decide_eq_false c1', e_asB, out_ok, Bool.false_eq_true, if_false, s_next]
        rw [s_seq, t1]
        simp only [OW_seqK, OW_nx, thenP_nx]
        exact wayC S ok hl ht _ _ _ _ b13 w13 _ fun m' => hE m'
  show OW (g__law_story (startD 17 [scriptD ns]) []) E
  unfold g__law_story
  rw [s_seq, q1]
  simp only [OW_seqK, OW_nx, thenP_nx]
  rw [s_seq, q2]
  simp only [OW_seqK, OW_nx, thenP_nx]
  rw [s_seq, q3]
  simp only [OW_seqK, OW_nx, thenP_nx]
  rw [s_seq, q4]
  simp only [OW_seqK, OW_nx, thenP_nx]
  rw [s_seq, q5]
  simp only [OW_seqK, OW_nx, thenP_nx]
  rw [s_seq, q6]
  simp only [OW_seqK, OW_nx, thenP_nx]
  rw [s_seq]
  show OW (seqK (sFor (fRng1 (fVar 6)) (gN 9) drawB _ _) _) E
  rw [q7]
  simp only [OW_seqK, OW_nx, thenP_nx]
  rw [s_seq, q8]
  simp only [OW_seqK, OW_nx, thenP_nx]
  rw [s_seq, q9]
  simp only [OW_seqK, OW_nx, thenP_nx]
  rw [s_seq, q10]
  simp only [OW_seqK, OW_nx, thenP_nx]
  rw [s_seq, q11]
  simp only [OW_seqK, OW_nx, thenP_nx]
  exact fin
theorem law_ok (ns : List Int) (hns : ns.length ≤ 63) : ∃ m, F_law [scriptD ns] [] = .ok (.bl true) m := by
  obtain ⟨m, e⟩ := story_ok ns hns
  unfold F_law runF
  rw [if_pos (by rfl)]
  have whole : g_law (startD 1 [scriptD ns]) [] = .rt (.bl true) (gc 0 (.bl true) m).2 := by
    have hst : startD 1 [scriptD ns] = [some (scriptD ns)] := rfl
    rw [hst]
    unfold g_law
    simp only [s_ret, e_call, e_cons, e_var, List.getElem?_cons_zero, bind_ok, e_nil, e]
    show (Res.ok (gc 0 (.bl true) m).1 (gc 0 (.bl true) m).2).out _ _ = _
    rw [gc_bl]
    rfl
  rw [whole]
  exact ⟨_, by
    show Res.ok (gc _ _ _).1 _ = _
    rw [gc_bl]⟩
end K81

namespace K81
open PySem PySem.Spec PyProof.Rows L2 Dl
def lo0 : List PySem.Str := ["OwnError", "BadMachine", "BadHistory", "BadTable", "Refused", "NoHand", "NoDeed", "MOST_HANDS", "MOST_DEEDS", "MOST_BOARDS", "is_integer", "is_number", "is_below", "is_positive", "is_sequence", "is_string", "are_below", "is_hands", "DEED", "BACK", "PARTS", "is_press", "check_press", "is_map", "are_deeds", "check_machine", "need_hands", "is_letter", "check_row", "check_history"]
def lo1 : List PySem.Str := ["press_here", "last_place", "need_press", "behind", "pressed", "are_counts", "need_counts", "vectors", "is_vector", "place_of", "check_part", "check_table", "need_hand", "part_of", "first_table", "grown", "with_back", "table_of", "lessened", "does_all", "deeds_doing", "last_pairs", "lasts", "normal", "normal_of", "is_normal", "renewed", "_law_box", "_law_take", "_law_pick"]
def lo2 : List PySem.Str := ["_law_map", "_law_machine", "_law_vectors", "_law_counts", "_law_board", "_law_table", "_law_less", "_law_last", "_law_normal", "_law_back", "_law_shuffled", "_law_renewed_right", "_law_story"]
def loose : List PySem.Str := lo0 ++ lo1 ++ lo2
abbrev R : PySem.W.OpenRow := PySem.W.OpenLaw.row PySem.Challenge.rw_ownback_k81_whole_normal_histories_of_tw
abbrev hk : PySem.W.Hook := He.hookX 5 fa fn ts [] ex
def ob (s : PySem.W.SharedT) : He.AlX := He.obsX 5 fa fn ts [] ex (HandSHeadRun.getT s)
theorem ob_eq (s : PySem.W.SharedT) : ob s = hk.obs s.abs := He.obsX_eq (HandSHeadRun.getT_eq s)
theorem runT (w : World) : HandSHeadRun.RunEq R (PySem.W.view R.prog [82]) hk ob 5000 loose (w.withFollow "special-get-raises" true) := by
  intro os
  kernel_rfl
theorem runF (w : World) : HandSHeadRun.RunEq R (PySem.W.view R.prog [82]) hk ob 5000 loose (w.withFollow "special-get-raises" false) := by
  intro os
  kernel_rfl
theorem runB (b : Bool) (w : World) : HandSHeadRun.RunEq R (PySem.W.view R.prog [82]) hk ob 5000 loose (w.withFollow "special-get-raises" b) := by
  cases b
  · exact runF w
  · exact runT w
theorem run (w : World) : HandSHeadRun.RunEq R (PySem.W.view R.prog [82]) hk ob 5000 loose w := by
  have h := runB (w.params.followText "special-get-raises") w
  rwa [World.withFollow_self] at h
end K81
open PySem PySem.W PySem.Calls PyProof.Rows in
theorem K81.holds (plain : ∀ ns : List Int, ns.length ≤ 63 → ∃ m, K81.F_law [Dl.scriptD ns] [] = .ok (.bl true) m) : PySem.Challenge.rw_ownback_k81_whole_normal_histories_of_tw.Holds := by
  w_on; o_law
  refine HandSHeadRun.head_any (r := OpenLaw.row PySem.Challenge.rw_ownback_k81_whole_normal_histories_of_tw) (q := view (OpenLaw.row PySem.Challenge.rw_ownback_k81_whole_normal_histories_of_tw).prog [82]) (H := K81.hk) (ob := K81.ob) (M := 5000) (loose := K81.loose) (d := HandSHeadRun.topDef (OpenLaw.row PySem.Challenge.rw_ownback_k81_whole_normal_histories_of_tw).prog 82) (kwd := []) K81.ob_eq
    (by kernel_rfl) (fun s => by kernel_rfl) K81.run (by kernel_rfl) (by kernel_rfl) (by kernel_rfl) (by rfl) (by first | assumption | decide +kernel) (by decide +kernel) ⟨rfl, rfl, rfl, rfl, rfl, by decide +kernel⟩ ?hw ?hc
  case hw => w_witness2
  case hc =>
    refine Dl.walk_D (l := PySem.Challenge.rw_ownback_k81_whole_normal_histories_of_tw) (n := 63) (k := 15) (x := "script") (FL := K81.F_law) rfl (by decide) (by kernel_rfl) ⟨rfl, by decide, by decide⟩ Dl.caller_guards ?F plain
    intro w mg fa h Y G hmg0
    obtain ⟨K, KX, c⟩ := Y
    have H := K81.hd_of KX G c.t.d c.t c.more
    have hmg : mg ("law" : PySem.Str) = some (.ref fa) := by
      have e : (HandSHeadRun.topDef (OpenLaw.row PySem.Challenge.rw_ownback_k81_whole_normal_histories_of_tw).prog 82).name = ("law" : PySem.Str) := by kernel_rfl
      rw [← e]
      exact hmg0
    obtain ⟨fd, D0⟩ := H.d_law
    have e := hmg.symm.trans H.g_law
    cases e
    exact ⟨K, fd, KX, fun s v => L2.FunD.bindsA (ps := ["script"]) D0 (fun _ _ _ _ _ _ us hl => match us, hl with | [_], _ => rfl) s [v] rfl, fun base _ _ => K81.fn_law H D0⟩
theorem PySem.Challenge.cw_ownback_k81_whole_normal_histories_of_tw_holds : PySem.Challenge.rw_ownback_k81_whole_normal_histories_of_tw.Holds :=
  K81.holds K81.law_ok
