import PyProof.Rows.All
import Wide.All
import OpenK.AllK
import Wide.FinOn
import HandS.ForMost
import HandS.Exc
import HandS.Zip
import HandS.TupAny
import HandS.Dict
import HandS.TupMul
import HandS.IsInst
import HandS.Conv
import HandS.Flow
import HandS.RaiseMore
import KE.DataEq
import KE.GoesMore
import KE.GoesEnum
import HandS.Codes
import HandS.Defaults
import OpenK.KMore
import HandS.Ends
import HandS.HeadEnd
import HandS.HeadHook2
import HandS.Head2
import HandS.Style
import HandS.NoneIn
import PySem.Challenge.RW_ownback_k93_whole_clashes_of_many_boards
set_option Elab.async false
set_option linter.all false
set_option maxRecDepth 100000
set_option maxHeartbeats 4000000
/-! DL1: plain data over the hand layer: tuples by value, lists by number. -/
namespace Dl
open PySem PySem.Spec PyProof.Rows L2

/-! ### data -/
inductive D where
  | non
  | bl (b : Bool)
  | int (i : Int)
  | str (x : Str)
  | tup (ds : List D)
  | rol (ds : List D)
  | ref (n : Nat)
  | ty (n : String)
deriving Inhabited

mutual
def D.beq : D → D → Bool
  | .non, .non => true
  | .bl a, .bl b => a == b
  | .int a, .int b => decide (a = b)
  | .str a, .str b => decide (a = b)
  | .tup a, .tup b => D.beqs a b
  | .rol a, .rol b => D.beqs a b
  | .ref a, .ref b => decide (a = b)
  | .ty a, .ty b => decide (a = b)
  | _, _ => false
def D.beqs : List D → List D → Bool
  | [], [] => true
  | a :: r, b :: s => D.beq a b && D.beqs r s
  | _, _ => false
end
mutual
theorem D.beq_eq : ∀ {a b : D}, D.beq a b = true → a = b
  | .non, .non, _ => rfl
  | .bl a, .bl b, h => by simp [D.beq] at h; rw [h]
  | .int a, .int b, h => by simp [D.beq] at h; rw [h]
  | .str a, .str b, h => by simp [D.beq] at h; rw [h]
  | .tup a, .tup b, h => by rw [D.beqs_eq (a := a) (b := b) (by simpa [D.beq] using h)]
  | .rol a, .rol b, h => by rw [D.beqs_eq (a := a) (b := b) (by simpa [D.beq] using h)]
  | .ref a, .ref b, h => by simp [D.beq] at h; rw [h]
  | .ty a, .ty b, h => by simp [D.beq] at h; rw [h]
  | .non, .bl _, h => by simp [D.beq] at h
  | .non, .int _, h => by simp [D.beq] at h
  | .non, .str _, h => by simp [D.beq] at h
  | .non, .tup _, h => by simp [D.beq] at h
  | .non, .rol _, h => by simp [D.beq] at h
  | .non, .ref _, h => by simp [D.beq] at h
  | .bl _, .non, h => by simp [D.beq] at h
  | .bl _, .int _, h => by simp [D.beq] at h
  | .bl _, .str _, h => by simp [D.beq] at h
  | .bl _, .tup _, h => by simp [D.beq] at h
  | .bl _, .rol _, h => by simp [D.beq] at h
  | .bl _, .ref _, h => by simp [D.beq] at h
  | .int _, .non, h => by simp [D.beq] at h
  | .int _, .bl _, h => by simp [D.beq] at h
  | .int _, .str _, h => by simp [D.beq] at h
  | .int _, .tup _, h => by simp [D.beq] at h
  | .int _, .rol _, h => by simp [D.beq] at h
  | .int _, .ref _, h => by simp [D.beq] at h
  | .str _, .non, h => by simp [D.beq] at h
  | .str _, .bl _, h => by simp [D.beq] at h
  | .str _, .int _, h => by simp [D.beq] at h
  | .str _, .tup _, h => by simp [D.beq] at h
  | .str _, .rol _, h => by simp [D.beq] at h
  | .str _, .ref _, h => by simp [D.beq] at h
  | .tup _, .non, h => by simp [D.beq] at h
  | .tup _, .bl _, h => by simp [D.beq] at h
  | .tup _, .int _, h => by simp [D.beq] at h
  | .tup _, .str _, h => by simp [D.beq] at h
  | .tup _, .rol _, h => by simp [D.beq] at h
  | .tup _, .ref _, h => by simp [D.beq] at h
  | .rol _, .non, h => by simp [D.beq] at h
  | .rol _, .bl _, h => by simp [D.beq] at h
  | .rol _, .int _, h => by simp [D.beq] at h
  | .rol _, .str _, h => by simp [D.beq] at h
  | .rol _, .tup _, h => by simp [D.beq] at h
  | .rol _, .ref _, h => by simp [D.beq] at h
  | .ref _, .non, h => by simp [D.beq] at h
  | .ref _, .bl _, h => by simp [D.beq] at h
  | .ref _, .int _, h => by simp [D.beq] at h
  | .ref _, .str _, h => by simp [D.beq] at h
  | .ref _, .tup _, h => by simp [D.beq] at h
  | .ref _, .rol _, h => by simp [D.beq] at h
  | .non, .ty _, h => by simp [D.beq] at h
  | .ty _, .non, h => by simp [D.beq] at h
  | .bl _, .ty _, h => by simp [D.beq] at h
  | .ty _, .bl _, h => by simp [D.beq] at h
  | .int _, .ty _, h => by simp [D.beq] at h
  | .ty _, .int _, h => by simp [D.beq] at h
  | .str _, .ty _, h => by simp [D.beq] at h
  | .ty _, .str _, h => by simp [D.beq] at h
  | .tup _, .ty _, h => by simp [D.beq] at h
  | .ty _, .tup _, h => by simp [D.beq] at h
  | .rol _, .ty _, h => by simp [D.beq] at h
  | .ty _, .rol _, h => by simp [D.beq] at h
  | .ref _, .ty _, h => by simp [D.beq] at h
  | .ty _, .ref _, h => by simp [D.beq] at h
theorem D.beqs_eq : ∀ {a b : List D}, D.beqs a b = true → a = b
  | [], [], _ => rfl
  | a :: r, b :: s, h => by
    simp only [D.beqs, Bool.and_eq_true] at h
    rw [D.beq_eq h.1, D.beqs_eq h.2]
  | [], _ :: _, h => by simp [D.beqs] at h
  | _ :: _, [], h => by simp [D.beqs] at h
end
mutual
theorem D.beq_refl : ∀ a : D, D.beq a a = true
  | .non => rfl
  | .bl a => by simp [D.beq]
  | .int a => by simp [D.beq]
  | .str a => by simp [D.beq]
  | .tup a => by simp only [D.beq]; exact D.beqs_refl a
  | .rol a => by simp only [D.beq]; exact D.beqs_refl a
  | .ref a => by simp [D.beq]
  | .ty a => by simp [D.beq]
theorem D.beqs_refl : ∀ a : List D, D.beqs a a = true
  | [] => rfl
  | a :: r => by simp only [D.beqs, Bool.and_eq_true]; exact ⟨D.beq_refl a, D.beqs_refl r⟩
end
mutual
/-- all lists that are named lie below -/
def D.blw (L : Nat) : D → Bool
  | .tup ds => D.blws L ds
  | .rol ds => D.blws L ds
  | .ref n => decide (n < L)
  | _ => true
def D.blws (L : Nat) : List D → Bool
  | [] => true
  | d :: r => D.blw L d && D.blws L r
end
mutual
/-- no list is named -/
def D.pure : D → Bool
  | .tup ds => D.pures ds
  | .rol ds => D.pures ds
  | .ref _ => false
  | _ => true
def D.pures : List D → Bool
  | [] => true
  | d :: r => D.pure d && D.pures r
end
mutual
theorem D.blw_of_pure {L : Nat} : ∀ {d : D}, d.pure = true → d.blw L = true
  | .non, _ => rfl
  | .bl _, _ => rfl
  | .int _, _ => rfl
  | .str _, _ => rfl
  | .tup ds, h => by
    simp only [D.blw]
    exact D.blws_of_pures (ds := ds) (by simpa [D.pure] using h)
  | .rol ds, h => by
    simp only [D.blw]
    exact D.blws_of_pures (ds := ds) (by simpa [D.pure] using h)
  | .ref n, h => by simp [D.pure] at h
  | .ty _, _ => rfl
theorem D.blws_of_pures {L : Nat} : ∀ {ds : List D}, D.pures ds = true → D.blws L ds = true
  | [], _ => rfl
  | d :: r, h => by
    simp only [D.pures, Bool.and_eq_true] at h
    simp only [D.blws, Bool.and_eq_true]
    exact ⟨D.blw_of_pure h.1, D.blws_of_pures h.2⟩
end

/-- what stands under a number: a list, a dict (t: its keys are tuples) -/
inductive O where
  | lst (ds : List D)
  | dct (t : Bool) (kvs : List (D × D))
deriving Inhabited
def O.blw (L : Nat) : O → Bool
  | .lst ds => D.blws L ds
  | .dct _ kvs => D.blws L (kvs.map (·.2))
abbrev M := List O

structure Exn where
  cls : Addr
  fs : List (Str × D)
inductive Res (α : Type) where
  | ok (a : α) (m : M)
  | exc (e : Exn) (m : M)
  | bad
def Res.bind {α γ : Type} (r : Res α) (k : α → M → Res γ) : Res γ := match r with
  | .ok a m => k a m
  | .exc e m => .exc e m
  | .bad => .bad
/-- not by unfolding, for the kernel's sake -/
theorem nrfl {α : Sort _} {a b : α} (h : a = b) : a = b := h
/-- a great number, not unfolded -/
noncomputable def BIG (k : Nat) : Nat := Classical.choose (⟨2 ^ k, rfl⟩ : ∃ n, n = 2 ^ k)
theorem BIG_eq (k : Nat) : BIG k = 2 ^ k := Classical.choose_spec (⟨2 ^ k, rfl⟩ : ∃ n, n = 2 ^ k)
@[simp] theorem bind_ok {α γ : Type} (a : α) (m : M) (k : α → M → Res γ) : (Res.ok a m).bind k = k a m := nrfl rfl
@[simp] theorem bind_exc {α γ : Type} (e : Exn) (m : M) (k : α → M → Res γ) : (Res.exc e m : Res α).bind k = .exc e m := nrfl rfl
@[simp] theorem bind_bad {α γ : Type} (k : α → M → Res γ) : (Res.bad : Res α).bind k = .bad := nrfl rfl

/-- greatest length that is looked at -/
def LIM : Nat := 100000
theorem lim_le {n : Nat} (h : n ≤ LIM) : n ≤ sizeLine := Nat.le_trans h (by decide)
theorem lim_lt {n : Nat} (h : n < LIM) : n < sizeLine := Nat.lt_of_lt_of_le h (by decide)

/-! ### what stands for what -/
/-- a list that nobody changes: the script -/
def SqF (K : PySem.W.Frag) (H : Hp) (a : Addr) (xs : List V) : Prop :=
  (∃ o, H a = some (.frz o (.lst xs))) ∨
    ∃ (o : Obj) (its : Array Value) (n : Nat), K.lookup a = some o ∧ o.cls = .type "list" ∧ o.dict = none ∧ o.data = .seq its n ∧ its.size ≤ sizeLine ∧ Vals xs its.toList
theorem SqF.sql {K : PySem.W.Frag} {H : Hp} {a : Addr} {xs : List V} (h : SqF K H a xs) : SqL K H a xs := by
  rcases h with ⟨o, h⟩ | h
  · exact .inl (.inr ⟨o, h⟩)
  · exact .inr h
mutual
inductive Rp (K : PySem.W.Frag) (β : List Addr) (H : Hp) : V → D → Prop
  | non : Rp K β H .non .non
  | bl (b : Bool) : Rp K β H (.bl b) (.bl b)
  | int (i : Int) : Rp K β H (.int i) (.int i)
  | str (x : Str) : Rp K β H (.str x) (.str x)
  | tup {a : Addr} {xs : List V} {ds : List D} : H a = some (.tup xs) → RpA K β H xs ds → Rp K β H (.ref a) (.tup ds)
  | rol {a : Addr} {xs : List V} {ds : List D} : SqF K H a xs → RpA K β H xs ds → Rp K β H (.ref a) (.rol ds)
  | ref {n : Nat} {a : Addr} : β[n]? = some a → Rp K β H (.ref a) (.ref n)
  | ty (n : String) : Rp K β H (.ty n) (.ty n)
inductive RpA (K : PySem.W.Frag) (β : List Addr) (H : Hp) : List V → List D → Prop
  | nil : RpA K β H [] []
  | cons {v : V} {vs : List V} {d : D} {ds : List D} : Rp K β H v d → RpA K β H vs ds → RpA K β H (v :: vs) (d :: ds)
end

structure Ext (β β' : List Addr) (H H' : Hp) : Prop where
  pre : ∃ γ, β' = β ++ γ
  tup : ∀ a xs, H a = some (.tup xs) → H' a = some (.tup xs)
  frz : ∀ a o u, H a = some (.frz o u) → H' a = some (.frz o u)
  keep : ∀ a o, H a = some o → a ∉ β → H' a = some o
  new : ∀ a, a ∈ β' → a ∉ β → H a = none

/-- a key of a dict -/
def keyD : D → Option Key
  | .int i => some (.inl i)
  | .str x => some (.inr x)
  | _ => none
def keysD : List D → Option (List Key)
  | [] => some []
  | d :: r => match keyD d, keysD r with
    | some k, some ks => some (k :: ks)
    | _, _ => none
def keyT : D → Option (List Key)
  | .tup ds => keysD ds
  | _ => none
inductive KvR (K : PySem.W.Frag) (β : List Addr) (H : Hp) {κ : Type} (f : D → Option κ) : List (κ × V) → List (D × D) → Prop
  | nil : KvR K β H f [] []
  | cons {k : κ} {v : V} {d e : D} {r : List (κ × V)} {s : List (D × D)} : f d = some k → Rp K β H v e → KvR K β H f r s → KvR K β H f ((k, v) :: r) ((d, e) :: s)
def OOk (K : PySem.W.Frag) (β : List Addr) (H : Hp) (a : Addr) : O → Prop
  | .lst ds => ∃ xs, H a = some (.lst xs) ∧ RpA K β H xs ds
  | .dct false kvs => ∃ xs, H a = some (.dK xs) ∧ KvR K β H keyD xs kvs
  | .dct true kvs => ∃ xs, H a = some (.dT xs) ∧ KvR K β H keyT xs kvs
structure MOk (K : PySem.W.Frag) (β : List Addr) (H : Hp) (m : M) : Prop where
  len : β.length = m.length
  nd : β.Nodup
  at' : ∀ (n : Nat) (o : O) (a : Addr), m[n]? = some o → β[n]? = some a → OOk K β H a o

section
variable {K : PySem.W.Frag} {β β' β'' : List Addr} {H H' H'' : Hp} {m m' : M}
theorem Ext.refl : Ext β β H H := ⟨⟨[], by simp⟩, fun _ _ h => h, fun _ _ _ h => h, fun _ _ h _ => h, fun a h n => absurd h n⟩
theorem Ext.trans (a : Ext β β' H H') (b : Ext β' β'' H' H'') : Ext β β'' H H'' := by
  obtain ⟨γ, rfl⟩ := a.pre
  obtain ⟨δ, rfl⟩ := b.pre
  refine ⟨⟨γ ++ δ, by rw [List.append_assoc]⟩, fun c xs h => b.tup c xs (a.tup c xs h), fun c o u h => b.frz c o u (a.frz c o u h), fun c o h hn => b.keep c o (a.keep c o h hn) fun hc => ?_, fun c hc hn => ?_⟩
  · rw [a.new c hc hn] at h
    cases h
  · by_cases h1 : c ∈ β ++ γ
    · exact a.new c h1 hn
    · have h2 := b.new c hc h1
      cases q : H c with
      | none => rfl
      | some o =>
        rw [a.keep c o q hn] at h2
        cases h2
/-- what data leans on -/
structure Ext0 (β β' : List Addr) (H H' : Hp) : Prop where
  ix : ∀ (n : Nat) (a : Addr), β[n]? = some a → β'[n]? = some a
  tup : ∀ a xs, H a = some (.tup xs) → H' a = some (.tup xs)
  frz : ∀ a o u, H a = some (.frz o u) → H' a = some (.frz o u)
theorem Ext.weak (e : Ext β β' H H') : Ext0 β β' H H' := ⟨fun n a h => by
  obtain ⟨γ, rfl⟩ := e.pre
  obtain ⟨h1, _⟩ := List.getElem?_eq_some_iff.mp h
  rw [List.getElem?_append_left h1]
  exact h, e.tup, e.frz⟩
theorem Ext0.sqt (e : Ext0 β β' H H') {a : Addr} {xs : List V} (h : SqT K H a xs) : SqT K H' a xs := by
  rcases h with (h | ⟨o, h⟩) | h
  · exact .inl (.inl (e.tup a xs h))
  · exact .inl (.inr ⟨o, e.frz a o _ h⟩)
  · exact .inr h
theorem Ext0.sqf (e : Ext0 β β' H H') {a : Addr} {xs : List V} (h : SqF K H a xs) : SqF K H' a xs := by
  rcases h with ⟨o, h⟩ | h
  · exact .inl ⟨o, e.frz a o _ h⟩
  · exact .inr h
mutual
theorem Rp.mono (e : Ext0 β β' H H') : ∀ {v : V} {d : D}, Rp K β H v d → Rp K β' H' v d
  | _, _, .non => .non
  | _, _, .bl b => .bl b
  | _, _, .int i => .int i
  | _, _, .str x => .str x
  | _, _, .tup h r => .tup (e.tup _ _ h) (RpA.mono e r)
  | _, _, .rol h r => .rol (e.sqf h) (RpA.mono e r)
  | _, _, .ref h => .ref (e.ix _ _ h)
  | _, _, .ty n => .ty n
theorem RpA.mono (e : Ext0 β β' H H') : ∀ {vs : List V} {ds : List D}, RpA K β H vs ds → RpA K β' H' vs ds
  | _, _, .nil => .nil
  | _, _, .cons h r => .cons (Rp.mono e h) (RpA.mono e r)
end
theorem Rp.ext (e : Ext β β' H H') {v : V} {d : D} (h : Rp K β H v d) : Rp K β' H' v d := h.mono e.weak
theorem RpA.ext (e : Ext β β' H H') {vs : List V} {ds : List D} (h : RpA K β H vs ds) : RpA K β' H' vs ds := h.mono e.weak
theorem Ext.ix (e : Ext β β' H H') {n : Nat} {a : Addr} (h : β[n]? = some a) : β'[n]? = some a := e.weak.ix n a h
theorem RpA.length : ∀ {vs : List V} {ds : List D}, RpA K β H vs ds → vs.length = ds.length
  | _, _, .nil => rfl
  | _, _, .cons _ r => by rw [List.length_cons, List.length_cons, RpA.length r]
theorem RpA.get : ∀ {vs : List V} {ds : List D} {i : Nat} {d : D}, RpA K β H vs ds → ds[i]? = some d → ∃ v, vs[i]? = some v ∧ Rp K β H v d
  | _, _, _, _, .nil, h => by simp at h
  | _, _, 0, _, .cons r _, h => by simp at h; subst h; exact ⟨_, rfl, r⟩
  | _, _, i + 1, d, .cons _ t, h => by
    obtain ⟨v, h1, h2⟩ := RpA.get (i := i) (d := d) t (by simpa using h)
    exact ⟨v, by simpa using h1, h2⟩
theorem RpA.get' : ∀ {vs : List V} {ds : List D} {i : Nat} {v : V}, RpA K β H vs ds → vs[i]? = some v → ∃ d, ds[i]? = some d ∧ Rp K β H v d
  | _, _, _, _, .nil, h => by simp at h
  | _, _, 0, _, .cons r _, h => by simp at h; subst h; exact ⟨_, rfl, r⟩
  | _, _, i + 1, d, .cons _ t, h => by
    obtain ⟨v, h1, h2⟩ := RpA.get' (i := i) (v := d) t (by simpa using h)
    exact ⟨v, by simpa using h1, h2⟩
theorem RpA.append : ∀ {vs ws : List V} {ds es : List D}, RpA K β H vs ds → RpA K β H ws es → RpA K β H (vs ++ ws) (ds ++ es)
  | _, _, _, _, .nil, s => s
  | _, _, _, _, .cons r t, s => .cons r (RpA.append t s)
theorem RpA.take : ∀ {vs : List V} {ds : List D} (n : Nat), RpA K β H vs ds → RpA K β H (vs.take n) (ds.take n)
  | _, _, 0, _ => .nil
  | _, _, _ + 1, .nil => .nil
  | _, _, n + 1, .cons r t => .cons r (RpA.take n t)
theorem RpA.drop : ∀ {vs : List V} {ds : List D} (n : Nat), RpA K β H vs ds → RpA K β H (vs.drop n) (ds.drop n)
  | _, _, 0, r => r
  | _, _, _ + 1, .nil => .nil
  | _, _, n + 1, .cons _ t => RpA.drop n t
theorem RpA.set {v : V} {d : D} (r : Rp K β H v d) : ∀ {vs : List V} {ds : List D} (i : Nat), RpA K β H vs ds → RpA K β H (vs.set i v) (ds.set i d)
  | _, _, _, .nil => .nil
  | _, _, 0, .cons _ t => .cons r t
  | _, _, i + 1, .cons q t => .cons q (RpA.set r i t)
theorem RpA.erase : ∀ {vs : List V} {ds : List D} (i : Nat), RpA K β H vs ds → RpA K β H (vs.eraseIdx i) (ds.eraseIdx i)
  | _, _, _, .nil => .nil
  | _, _, 0, .cons _ t => t
  | _, _, i + 1, .cons q t => .cons q (RpA.erase i t)

theorem MOk.addr (ok : MOk K β H m) {n : Nat} {o : O} (h : m[n]? = some o) : ∃ a, β[n]? = some a ∧ OOk K β H a o := by
  obtain ⟨h1, _⟩ := List.getElem?_eq_some_iff.mp h
  have h2 : n < β.length := by rw [ok.len]; exact h1
  exact ⟨β[n], List.getElem?_eq_getElem h2, ok.at' n o _ h (List.getElem?_eq_getElem h2)⟩
theorem MOk.obj (ok : MOk K β H m) {n : Nat} {a : Addr} (h : β[n]? = some a) : ∃ o, m[n]? = some o ∧ OOk K β H a o := by
  obtain ⟨h1, _⟩ := List.getElem?_eq_some_iff.mp h
  have h2 : n < m.length := by rw [← ok.len]; exact h1
  exact ⟨m[n], List.getElem?_eq_getElem h2, ok.at' n _ a (List.getElem?_eq_getElem h2) h⟩
theorem KvR.mono {κ : Type} {f : D → Option κ} (e : Ext0 β β' H H') {r : List (κ × V)} {s : List (D × D)} (h : KvR K β H f r s) : KvR K β' H' f r s := by
  induction h with
  | nil => exact .nil
  | cons h1 h2 _ ih => exact .cons h1 (h2.mono e) ih
/-- what may be changed -/
def Mutb (u : HO) : Prop := (∀ xs, u ≠ .tup xs) ∧ ∀ o v, u ≠ .frz o v
theorem mutb_lst {xs : List V} : Mutb (.lst xs) := ⟨fun _ => nofun, fun _ _ => nofun⟩
theorem mutb_dK {xs : List (Key × V)} : Mutb (.dK xs) := ⟨fun _ => nofun, fun _ _ => nofun⟩
theorem mutb_dT {xs : List (List Key × V)} : Mutb (.dT xs) := ⟨fun _ => nofun, fun _ _ => nofun⟩
theorem OOk.there {a : Addr} {o : O} (h : OOk K β H a o) : ∃ u, H a = some u ∧ Mutb u := by
  cases o with
  | lst ds =>
    obtain ⟨xs, h3, _⟩ := h
    exact ⟨_, h3, mutb_lst⟩
  | dct t kvs =>
    cases t with
    | false =>
      obtain ⟨xs, h3, _⟩ := h
      exact ⟨_, h3, mutb_dK⟩
    | true =>
      obtain ⟨xs, h3, _⟩ := h
      exact ⟨_, h3, mutb_dT⟩
theorem MOk.there (ok : MOk K β H m) {a : Addr} (h : a ∈ β) : ∃ u, H a = some u ∧ Mutb u := by
  obtain ⟨n, hn⟩ := List.mem_iff_getElem?.mp h
  obtain ⟨o, _, h2⟩ := ok.obj hn
  exact h2.there
theorem MOk.fresh (ok : MOk K β H m) {p : Addr} (h : H p = none) : p ∉ β := fun hp => by
  obtain ⟨u, h2, _⟩ := ok.there hp
  rw [h] at h2
  cases h2
theorem Ext.upd_new {p : Addr} {o : HO} (hp : H p = none) : Ext β β H (upd H p o) :=
  ⟨⟨[], by simp⟩, fun a xs h => by rw [upd_ne (ne_of_none h hp)]; exact h, fun a u x h => by rw [upd_ne (ne_of_none h hp)]; exact h,
    fun a u h _ => by rw [upd_ne (ne_of_none h hp)]; exact h, fun a h n => absurd h n⟩
theorem OOk.mono {a : Addr} {u : O} (e : Ext0 β β' H H') (hl : ∀ u, H a = some u → H' a = some u) (h : OOk K β H a u) : OOk K β' H' a u := by
  cases u with
  | lst ds =>
    obtain ⟨xs, h1, h2⟩ := h
    exact ⟨xs, hl _ h1, h2.mono e⟩
  | dct t kvs =>
    cases t with
    | false =>
      obtain ⟨xs, h1, h2⟩ := h
      exact ⟨xs, hl _ h1, h2.mono e⟩
    | true =>
      obtain ⟨xs, h1, h2⟩ := h
      exact ⟨xs, hl _ h1, h2.mono e⟩
theorem OOk.upd_new {p a : Addr} {o : HO} {u : O} (hp : H p = none) (h : OOk K β H a u) : OOk K β (upd H p o) a u :=
  h.mono (Ext.upd_new hp).weak fun v hv => by rw [upd_ne (ne_of_none hv hp)]; exact hv
theorem MOk.upd_new {p : Addr} {o : HO} (ok : MOk K β H m) (hp : H p = none) : MOk K β (upd H p o) m :=
  ⟨ok.len, ok.nd, fun n u a h1 h2 => (ok.at' n u a h1 h2).upd_new hp⟩
/-- a list that is there is named -/
theorem Ext.adopt {p : Addr} (hp : H p = none) : Ext β (β ++ [p]) H H :=
  ⟨⟨[p], rfl⟩, fun _ _ h => h, fun _ _ _ h => h, fun _ _ h _ => h, fun a h n => by
    rcases List.mem_append.mp h with h | h
    · exact absurd h n
    · rw [List.mem_singleton.mp h]; exact hp⟩
theorem Ext.adopt' {p : Addr} (hp : H p = none) (e : Ext β β' H H') : Ext β (β' ++ [p]) H H' := by
  obtain ⟨γ, rfl⟩ := e.pre
  refine ⟨⟨γ ++ [p], by rw [List.append_assoc]⟩, e.tup, e.frz, e.keep, fun a h n => ?_⟩
  rcases List.mem_append.mp h with h | h
  · exact e.new a h n
  · rw [List.mem_singleton.mp h]; exact hp
theorem Ext0.more (γ : List Addr) : Ext0 β (β ++ γ) H H := ⟨fun n a h => by
  obtain ⟨h1, _⟩ := List.getElem?_eq_some_iff.mp h
  rw [List.getElem?_append_left h1]
  exact h, fun _ _ h => h, fun _ _ _ h => h⟩
theorem MOk.adoptO {p : Addr} {o : O} (ok : MOk K β H m) (hn : p ∉ β) (r : OOk K (β ++ [p]) H p o) : MOk K (β ++ [p]) H (m ++ [o]) := by
  refine ⟨by rw [List.length_append, List.length_append, ok.len]; rfl, ?_, fun n o a h1 h2 => ?_⟩
  · rw [List.nodup_append]
    refine ⟨ok.nd, by simp, fun a ha b hb => ?_⟩
    rw [List.mem_singleton.mp hb]
    rintro rfl
    exact hn ha
  · by_cases hl : n < m.length
    · rw [List.getElem?_append_left hl] at h1
      rw [List.getElem?_append_left (by rw [ok.len]; exact hl)] at h2
      exact (ok.at' n o a h1 h2).mono (Ext0.more _) fun _ h => h
    · rw [List.getElem?_append_right (by omega)] at h1
      rw [List.getElem?_append_right (by rw [ok.len]; omega)] at h2
      rw [ok.len] at h2
      cases hk : n - m.length with
      | zero =>
        rw [hk] at h1 h2
        simp at h1 h2
        subst h1 h2
        exact r
      | succ j =>
        rw [hk] at h1
        simp at h1
theorem MOk.adopt {p : Addr} {xs : List V} {ds : List D} (ok : MOk K β H m) (hn : p ∉ β) (hp : H p = some (.lst xs)) (r : RpA K β H xs ds) : MOk K (β ++ [p]) H (m ++ [.lst ds]) :=
  ok.adoptO hn ⟨xs, hp, r.mono (Ext0.more _)⟩
/-- the new list of a rule -/
theorem MOk.lay {p : Addr} {xs : List V} {ds : List D} (ok : MOk K β H m) (hp : H p = none) (r : RpA K β H xs ds) : MOk K (β ++ [p]) (upd H p (.lst xs)) (m ++ [.lst ds]) :=
  (ok.upd_new hp).adopt (ok.fresh hp) upd_same (r.ext (Ext.upd_new hp))
theorem Ext.lay {p : Addr} {o : HO} (hp : H p = none) : Ext β (β ++ [p]) H (upd H p o) := Ext.adopt' hp (Ext.upd_new hp)
theorem Rp.last {p : Addr} (ok : MOk K β H m) : Rp K (β ++ [p]) H' (.ref p) (.ref m.length) := .ref (by rw [← ok.len]; simp)
/-- an object written -/
theorem Ext.writeO {n : Nat} {p : Addr} {u v : HO} (hp : H p = some u) (hm : Mutb u) (hb : β[n]? = some p) : Ext β β H (upd H p v) :=
  ⟨⟨[], by simp⟩, fun a zs h => by rw [upd_ne (ne_of h hp (Ne.symm (hm.1 zs)))]; exact h, fun a o w h => by rw [upd_ne (ne_of h hp (Ne.symm (hm.2 o w)))]; exact h,
    fun a o h hn => by rw [upd_ne (fun q => hn (by rw [q]; exact List.mem_of_getElem? hb))]; exact h, fun a h n => absurd h n⟩
theorem MOk.writeO {n : Nat} {p : Addr} {u v : HO} {o : O} (ok : MOk K β H m) (hp : H p = some u) (hm : Mutb u) (hb : β[n]? = some p) (r : OOk K β (upd H p v) p o) : MOk K β (upd H p v) (m.set n o) := by
  have e : Ext β β H (upd H p v) := Ext.writeO hp hm hb
  refine ⟨by rw [List.length_set]; exact ok.len, ok.nd, fun k o' a h1 h2 => ?_⟩
  by_cases hk : n = k
  · subst hk
    rw [hb] at h2
    cases h2
    have hl : n < m.length := by
      obtain ⟨h, _⟩ := List.getElem?_eq_some_iff.mp hb
      rw [← ok.len]; exact h
    rw [List.getElem?_set_self hl] at h1
    cases h1
    exact r
  · rw [List.getElem?_set_ne hk] at h1
    refine (ok.at' k o' a h1 h2).mono e.weak fun zs h => ?_
    rw [upd_ne (fun q => hk ?_)]
    · exact h
    · subst q
      obtain ⟨l1, e1⟩ := List.getElem?_eq_some_iff.mp hb
      obtain ⟨l2, e2⟩ := List.getElem?_eq_some_iff.mp h2
      exact (List.getElem_inj ok.nd).mp (e1.trans e2.symm)
/-- a list written -/
theorem Ext.write {n : Nat} {p : Addr} {xs ys : List V} (hp : H p = some (.lst xs)) (hb : β[n]? = some p) : Ext β β H (upd H p (.lst ys)) := Ext.writeO hp mutb_lst hb
theorem MOk.write {n : Nat} {p : Addr} {xs ys : List V} {ds : List D} (ok : MOk K β H m) (hp : H p = some (.lst xs)) (hb : β[n]? = some p) (r : RpA K β H ys ds) : MOk K β (upd H p (.lst ys)) (m.set n (.lst ds)) :=
  ok.writeO hp mutb_lst hb ⟨ys, upd_same, r.ext (Ext.write hp hb)⟩
end
/-! ### tables -/
instance : DecidableEq D := fun a b => if h : D.beq a b = true then .isTrue (D.beq_eq h) else .isFalse fun e => h (by rw [e]; exact D.beq_refl b)
def valD (kvs : List (D × D)) (k : D) : Option D := (kvs.find? fun kv => decide (kv.1 = k)).map (·.2)
def putD (kvs : List (D × D)) (k v : D) : List (D × D) :=
  if (kvs.any fun kv => decide (kv.1 = k)) = true then kvs.map (fun kv => if kv.1 = k then (kv.1, v) else kv) else kvs ++ [(k, v)]
theorem keyD_inj {a b : D} {k : Key} (ha : keyD a = some k) (hb : keyD b = some k) : a = b := by
  cases a <;> simp only [keyD] at ha <;> first | (cases ha; done) | skip
  all_goals
    cases b <;> simp only [keyD] at hb <;> first | (cases hb; done) | skip
    all_goals
      rw [← hb] at ha
      first
        | (injection ha with ha; injection ha with ha; rw [ha])
        | (injection ha with ha; cases ha; done)
theorem keysD_inj : ∀ {a b : List D} {k : List Key}, keysD a = some k → keysD b = some k → a = b
  | [], [], _, _, _ => rfl
  | [], d :: r, k, ha, hb => by
    simp only [keysD] at ha hb
    cases ha
    split at hb <;> exact nomatch hb
  | d :: r, [], k, ha, hb => by
    simp only [keysD] at ha hb
    cases hb
    split at ha <;> exact nomatch ha
  | d :: r, e :: s, k, ha, hb => by
    simp only [keysD] at ha hb
    split at ha
    · rename_i k1 ks1 h1 h2
      cases ha
      split at hb
      · rename_i k2 ks2 h3 h4
        injection hb with hb
        injection hb with e1 e2
        rw [e1] at h3
        rw [e2] at h4
        rw [keyD_inj h1 h3, keysD_inj h2 h4]
      · exact nomatch hb
    · exact nomatch ha
theorem keyT_inj {a b : D} {k : List Key} (ha : keyT a = some k) (hb : keyT b = some k) : a = b := by
  cases a <;> simp only [keyT] at ha <;> first | (cases ha; done) | skip
  cases b <;> simp only [keyT] at hb <;> first | (cases hb; done) | skip
  rw [keysD_inj ha hb]
section
variable {K : PySem.W.Frag} {β : List Addr} {H : Hp} {κ : Type} [DecidableEq κ] {f : D → Option κ}
theorem KvR.val (inj : ∀ {a b : D} {k : κ}, f a = some k → f b = some k → a = b) {xs : List (κ × V)} {kvs : List (D × D)} (r : KvR K β H f xs kvs) {d : D} {k : κ} (hk : f d = some k) :
    (valV xs k = none ∧ valD kvs d = none) ∨ ∃ v e, valV xs k = some v ∧ valD kvs d = some e ∧ Rp K β H v e := by
  induction r with
  | nil => exact .inl ⟨rfl, rfl⟩
  | @cons k' v d' e r s hf hr _ ih =>
    by_cases h : k' = k
    · have hd : d' = d := inj hf (by rw [h]; exact hk)
      exact .inr ⟨v, e, valV_pos (p := (k', v)) h, by simp [valD, List.find?_cons, hd], hr⟩
    · have hd : ¬ d' = d := fun z => h (by rw [z, hk] at hf; exact (Option.some.inj hf).symm)
      rw [valV_neg (p := (k', v)) h]
      have : valD ((d', e) :: s) d = valD s d := by simp [valD, List.find?_cons, hd]
      rw [this]
      exact ih
theorem KvR.any (inj : ∀ {a b : D} {k : κ}, f a = some k → f b = some k → a = b) {xs : List (κ × V)} {kvs : List (D × D)} (r : KvR K β H f xs kvs) {d : D} {k : κ} (hk : f d = some k) :
    (xs.any fun kv => decide (kv.1 = k)) = kvs.any fun kv => decide (kv.1 = d) := by
  induction r with
  | nil => rfl
  | @cons k' v d' e r s hf hr _ ih =>
    rw [List.any_cons, List.any_cons, ih]
    congr 1
    refine decide_eq_decide.mpr ⟨fun h => inj hf (by rw [show k' = k from h]; exact hk), fun h => ?_⟩
    change d' = d at h
    rw [h, hk] at hf
    exact (Option.some.inj hf).symm
theorem KvR.snoc {xs : List (κ × V)} {kvs : List (D × D)} (r : KvR K β H f xs kvs) {d e : D} {k : κ} {v : V} (hk : f d = some k) (rv : Rp K β H v e) : KvR K β H f (xs ++ [(k, v)]) (kvs ++ [(d, e)]) := by
  induction r with
  | nil => exact .cons hk rv .nil
  | cons hf hr _ ih => exact .cons hf hr ih
theorem KvR.put (inj : ∀ {a b : D} {k : κ}, f a = some k → f b = some k → a = b) {xs : List (κ × V)} {kvs : List (D × D)} (r : KvR K β H f xs kvs) {d e : D} {k : κ} {v : V} (hk : f d = some k) (rv : Rp K β H v e) :
    KvR K β H f (putK xs k v) (putD kvs d e) := by
  unfold putK putD
  rw [r.any inj hk]
  split
  · induction r with
    | nil => exact .nil
    | @cons k' v' d' e' r' s' hf hr r0 ih =>
      rename_i hany
      rw [List.map_cons, List.map_cons]
      have ih' : KvR K β H f (r'.map fun kv => if kv.1 = k then (kv.1, v) else kv) (s'.map fun kv => if kv.1 = d then (kv.1, e) else kv) := by
        clear ih hany
        induction r0 with
        | nil => exact .nil
        | @cons k2 v2 d2 e2 r2 s2 hf2 hr2 _ ih2 =>
          rw [List.map_cons, List.map_cons]
          by_cases h : k2 = k
          · have hd : d2 = d := inj hf2 (by rw [h]; exact hk)
            rw [if_pos h, if_pos hd]
            exact .cons hf2 rv ih2
          · have hd : ¬ d2 = d := fun z => h (by rw [z, hk] at hf2; exact (Option.some.inj hf2).symm)
            rw [if_neg h, if_neg hd]
            exact .cons hf2 hr2 ih2
      by_cases h : k' = k
      · have hd : d' = d := inj hf (by rw [h]; exact hk)
        rw [if_pos h, if_pos hd]
        exact .cons hf rv ih'
      · have hd : ¬ d' = d := fun z => h (by rw [z, hk] at hf; exact (Option.some.inj hf).symm)
        rw [if_neg h, if_neg hd]
        exact .cons hf hr ih'
  · exact r.snoc hk rv
theorem KvR.length {xs : List (κ × V)} {kvs : List (D × D)} (r : KvR K β H f xs kvs) : xs.length = kvs.length := by
  induction r with
  | nil => rfl
  | cons _ _ _ ih => rw [List.length_cons, List.length_cons, ih]
end
theorem key_rp {K : PySem.W.Frag} {β : List Addr} {H : Hp} {v : V} {d : D} {k : Key} (r : Rp K β H v d) (h : keyD d = some k) : v = kV k := by
  cases r <;> simp only [keyD] at h <;> first | (cases h; done) | (cases h; rfl)
theorem keys_rp {K : PySem.W.Frag} {β : List Addr} {H : Hp} : ∀ {vs : List V} {ds : List D} {ks : List Key}, RpA K β H vs ds → keysD ds = some ks → vs = ks.map kV
  | _, _, _, .nil, h => by simp only [keysD] at h; cases h; rfl
  | _, _, _, .cons r rs, h => by
    simp only [keysD] at h
    split at h
    · rename_i k ks h1 h2
      cases h
      rw [List.map_cons, key_rp r h1, keys_rp rs h2]
    · exact nomatch h
theorem keyT_rp {K : PySem.W.Frag} {β : List Addr} {H : Hp} {v : V} {d : D} {ks : List Key} (r : Rp K β H v d) (h : keyT d = some ks) : ∃ b, v = .ref b ∧ H b = some (.tup (ks.map kV)) := by
  cases r <;> simp only [keyT] at h <;> first | (cases h; done) | skip
  rename_i hx rx
  exact ⟨_, rfl, by rw [hx, keys_rp rx h]⟩
end Dl

/-! DL2: expressions by what they give of plain data. -/
namespace Dl
open PySem PySem.Spec PyProof.Rows L2

/-! ### slots -/
abbrev Sg := L2.St
abbrev Sl := List (Option D)
structure RpS (K : PySem.W.Frag) (β : List Addr) (H : Hp) (σ : Sg) (ρ : Sl) : Prop where
  len : σ.length = ρ.length
  at' : ∀ (i : Nat) (d : D), ρ[i]? = some (some d) → ∃ v, σ[i]? = some (some v) ∧ Rp K β H v d
section
variable {K : PySem.W.Frag} {β β' : List Addr} {H H' : Hp} {σ : Sg} {ρ : Sl}
theorem RpS.ext (e : Ext β β' H H') (r : RpS K β H σ ρ) : RpS K β' H' σ ρ :=
  ⟨r.len, fun i d h => let ⟨v, h1, h2⟩ := r.at' i d h; ⟨v, h1, h2.ext e⟩⟩
theorem RpS.set {i : Nat} {v : V} {d : D} (r : RpS K β H σ ρ) (h : Rp K β H v d) : RpS K β H (σ.set i (some v)) (ρ.set i (some d)) := by
  refine ⟨by rw [List.length_set, List.length_set]; exact r.len, fun j e hj => ?_⟩
  by_cases hij : i = j
  · subst hij
    by_cases hl : i < ρ.length
    · rw [List.getElem?_set_self hl] at hj
      cases hj
      exact ⟨v, List.getElem?_set_self (by rw [r.len]; exact hl), h⟩
    · rw [List.getElem?_eq_none (by simpa using hl)] at hj
      cases hj
  · rw [List.getElem?_set_ne hij] at hj
    obtain ⟨w, h1, h2⟩ := r.at' j e hj
    exact ⟨w, by rw [List.getElem?_set_ne hij]; exact h1, h2⟩
theorem RpS.forget {i : Nat} (r : RpS K β H σ ρ) (x : Option V) : RpS K β H (σ.set i x) (ρ.set i none) := by
  refine ⟨by rw [List.length_set, List.length_set]; exact r.len, fun j e hj => ?_⟩
  by_cases hij : i = j
  · subst hij
    by_cases hl : i < ρ.length
    · rw [List.getElem?_set_self hl] at hj
      cases hj
    · rw [List.getElem?_eq_none (by simpa using hl)] at hj
      cases hj
  · rw [List.getElem?_set_ne hij] at hj
    obtain ⟨w, h1, h2⟩ := r.at' j e hj
    exact ⟨w, by rw [List.getElem?_set_ne hij]; exact h1, h2⟩
def wipeD (ρ : Sl) : List Nat → Sl
  | [] => ρ
  | v :: vs => (wipeD ρ vs).set v none
theorem RpS.wipe (r : RpS K β H σ ρ) : ∀ vs : List Nat, RpS K β H (L2.wipe σ vs) (wipeD ρ vs)
  | [] => r
  | v :: vs => by
    unfold L2.wipe wipeD
    exact (RpS.wipe r vs).forget none
end

/-! ### results -/
/-- what is wanted of an exception, by the slots where it came up -/
abbrev WXD := Sg → Exn → List Addr → Hp → Prop
def okD {α : Type} (K : PySem.W.Frag) (Wx : Exn → List Addr → Hp → Prop) (β : List Addr) (H : Hp) (r : Res α) (Q : α → M → List Addr → Hp → Prop) : Prop :=
  match r with
  | .ok d m => ∀ β' H', Ext β β' H H' → MOk K β' H' m → Q d m β' H'
  | .exc e m => ∀ β' H', Ext β β' H H' → MOk K β' H' m → Wx e β' H'
  | .bad => False
section
variable {α γ : Type} {K : PySem.W.Frag} {Wx : Exn → List Addr → Hp → Prop} {β β' : List Addr} {H H' : Hp} {r : Res α} {Q Q' : α → M → List Addr → Hp → Prop}
theorem okD.imp (h : okD K Wx β H r Q) (q : ∀ d m β' H', r = .ok d m → Ext β β' H H' → MOk K β' H' m → Q d m β' H' → Q' d m β' H') : okD K Wx β H r Q' := by
  cases r with
  | ok d m => exact fun β' H' e ok => q d m β' H' rfl e ok (h β' H' e ok)
  | exc e m => exact h
  | bad => exact h
theorem okD.ext (e : Ext β β' H H') (h : okD K Wx β H r Q) : okD K Wx β' H' r Q := by
  cases r with
  | ok d m => exact fun β2 H2 e2 ok => h β2 H2 (e.trans e2) ok
  | exc e3 m => exact fun β2 H2 e2 ok => h β2 H2 (e.trans e2) ok
  | bad => exact h
theorem okD.bind {k : α → M → Res γ} {Q : γ → M → List Addr → Hp → Prop} (h : okD K Wx β H (r.bind k) Q) : okD K Wx β H r fun d m β' H' => okD K Wx β' H' (k d m) Q := by
  cases r with
  | ok d m => exact fun β' H' e ok => okD.ext e h
  | exc e m => exact h
  | bad => exact h
theorem okD.here {d : α} {m : M} (h : okD K Wx β H (.ok d m) Q) (ok : MOk K β H m) : Q d m β H := h β H Ext.refl ok
end

/-! ### the readings -/
abbrev FE := Sl → M → Res D
abbrev FT := Sl → M → Res Bool
abbrev FA := Sl → M → Res (List D)
/-- the state as plain data -/
structure Stt (K : PySem.W.Frag) (β : List Addr) (H : Hp) (σ : Sg) (ρ : Sl) (m : M) : Prop where
  sl : RpS K β H σ ρ
  me : MOk K β H m
theorem Stt.ext {K : PySem.W.Frag} {β β' : List Addr} {H H' : Hp} {σ : Sg} {ρ : Sl} {m m' : M} (s : Stt K β H σ ρ m) (e : Ext β β' H H') (ok : MOk K β' H' m') : Stt K β' H' σ ρ m' := ⟨s.sl.ext e, ok⟩
def tD (K : PySem.W.Frag) (W : WXD) (f : FE) : TE := fun σ H Q => ∃ β m ρ, Stt K β H σ ρ m ∧ okD K (W σ) β H (f ρ m) fun d _ β' H' => ∀ v, Rp K β' H' v d → Q v H'
def tTD (K : PySem.W.Frag) (W : WXD) (f : FT) : TT := fun σ H Q => ∃ β m ρ, Stt K β H σ ρ m ∧ okD K (W σ) β H (f ρ m) fun b _ _ H' => Q b H'
def tAD (K : PySem.W.Frag) (W : WXD) (f : FA) : TA := fun σ H Q => ∃ β m ρ, Stt K β H σ ρ m ∧ okD K (W σ) β H (f ρ m) fun ds _ β' H' => ∀ vs, RpA K β' H' vs ds → Q vs H'
/-- a new list, not named yet -/
def tLD (K : PySem.W.Frag) (W : WXD) (f : FA) : TE := fun σ H Q => ∃ β m ρ, Stt K β H σ ρ m ∧ okD K (W σ) β H (f ρ m) fun ds _ β' H' => ∀ p xs, H p = none → p ∉ β' → H' p = some (.lst xs) → RpA K β' H' xs ds → Q (.ref p) H'

abbrev PD (X : Cx) (W : WXD) (e : Expr) (f : FE) : Prop := PE X e (tD X.K W f)
abbrev PTD (X : Cx) (W : WXD) (e : Expr) (f : FT) : Prop := PT X e (tTD X.K W f)
abbrev PAD (X : Cx) (W : WXD) (es : List Expr) (f : FA) : Prop := PA X es (tAD X.K W f)
abbrev PLD (X : Cx) (W : WXD) (e : Expr) (f : FA) : Prop := PE X e (tLD X.K W f)

theorem PE.imp {X : Cx} {e : Expr} {t t' : TE} (h : PE X e t) (i : ∀ σ H Q, t' σ H Q → t σ H Q) : PE X e t' := ⟨fun pins s σ H Q I q => h.run pins s σ H Q I (i σ H Q q)⟩
theorem PT.imp {X : Cx} {e : Expr} {t t' : TT} (h : PT X e t) (i : ∀ σ H Q, t' σ H Q → t σ H Q) : PT X e t' := ⟨fun pins s σ H Q I q => h.run pins s σ H Q I (i σ H Q q)⟩
theorem PW.imp {X : Cx} {e : Expr} {t t' : TT} (h : PW X e t) (i : ∀ σ H Q, t' σ H Q → t σ H Q) : PW X e t' := ⟨fun wh pins s σ H Q I q => h.run wh pins s σ H Q I (i σ H Q q)⟩
theorem PA.imp {X : Cx} {es : List Expr} {t t' : TA} (h : PA X es t) (i : ∀ σ H Q, t' σ H Q → t σ H Q) : PA X es t' := ⟨fun pos pins s σ H Q I q => h.run pos pins s σ H Q I (i σ H Q q)⟩
theorem PS.imp {X : Cx} {st : Stmt} {t t' : TS} (h : PS X st t) (i : ∀ D σ H, t' D σ H → t D σ H) : PS X st t' := ⟨fun pins s σ H D I q => h.run pins s σ H D I (i D σ H q)⟩
theorem PSs.imp {X : Cx} {st : List Stmt} {t t' : TS} (h : PSs X st t) (i : ∀ D σ H, t' D σ H → t D σ H) : PSs X st t' := ⟨fun pins s σ H D I q => h.run pins s σ H D I (i D σ H q)⟩
theorem PG.imp {X : Cx} {e : Expr} {t t' : TG} (h : PG X e t) (i : ∀ v σ H Q, t' v σ H Q → t v σ H Q) : PG X e t' := ⟨fun pins s σ H v u Q I r q => h.run pins s σ H v u Q I r (i v σ H Q q)⟩
theorem PI.imp {X : Cx} {tg e : Expr} {t t' : TI} (h : PI X tg e t) (i : ∀ σ H R, t' σ H R → t σ H R) : PI X tg e t' := ⟨fun pins s σ H R I q => h.run pins s σ H R I (i σ H R q)⟩

/-! ### names and constants -/
def fVar (i : Nat) : FE := fun ρ m => match ρ[i]? with
  | some (some d) => .ok d m
  | _ => .bad
def fC (d : D) : FE := fun _ m => .ok d m
section
variable {X : Cx} {W : WXD} {pos : Pos}
theorem td_var (i : Nat) {K : PySem.W.Frag} {σ : Sg} {H : Hp} {Q : VK} (h : tD K W (fVar i) σ H Q) : tVar i σ H Q := by
  obtain ⟨β, m, ρ, s, h⟩ := h
  unfold fVar at h
  cases hr : ρ[i]? with
  | none => simp only [hr] at h; exact h.elim
  | some o =>
    cases o with
    | none => simp only [hr] at h; exact h.elim
    | some d =>
      simp only [hr] at h
      obtain ⟨v, h1, h2⟩ := s.sl.at' i d hr
      exact ⟨v, h1, h.here s.me v h2⟩
theorem pd_var (i : Nat) {x : Str} (hN : X.N[i]? = some x := by rfl) (hv : Vis X.env.scope x := by first | exact Or.inl rfl | exact Or.inr (Or.inl rfl) | exact Or.inr (Or.inr rfl)) (hd : (x == ("__debug__" : Str)) = false := by decide)
    (hcd : (x == ("__classdict__" : Str)) = false := by decide) : PD X W (.Name x pos) (fVar i) := PE.imp (pe_var hN hv hd hcd) fun _ _ _ h => td_var i h
theorem td_c {K : PySem.W.Frag} {σ : Sg} {H : Hp} {Q : VK} {d : D} {v : V} (hv : ∀ β H, Rp K β H v d) (h : tD K W (fC d) σ H Q) : tC v σ H Q := by
  obtain ⟨β, m, ρ, s, h⟩ := h
  exact h.here s.me v (hv _ _)
theorem pd_int {i j} : PD X W (.Constant (.int i) j pos) (fC (.int i)) := PE.imp pe_int fun _ _ _ h => td_c (fun _ _ => .int i) h
theorem pd_bl {b j} : PD X W (.Constant (.bool b) j pos) (fC (.bl b)) := PE.imp pe_bl fun _ _ _ h => td_c (fun _ _ => .bl b) h
theorem pd_non {j} : PD X W (.Constant .none j pos) (fC .non) := PE.imp pe_non fun _ _ _ h => td_c (fun _ _ => .non) h
theorem pd_str {x j} : PD X W (.Constant (.str x) j pos) (fC (.str x)) := PE.imp pe_str fun _ _ _ h => td_c (fun _ _ => .str x) h
/-- a number of the module -/
theorem pd_glob {x : Str} {i : Int} (hg : Gl X x) (hm : ∃ t, X.mg x = some (.int i t)) (hd : (x == ("__debug__" : Str)) = false := by decide) : PD X W (.Name x pos) (fC (.int i)) := by
  obtain ⟨t, hm⟩ := hm
  exact PE.imp (pe_glob (v := .int i) hg hm ⟨t, rfl⟩ hd) fun _ _ _ h => td_c (fun _ _ => .int i) h
end

/-! ### two parts, one after another -/
section
variable {K : PySem.W.Frag} {W : WXD} {σ : Sg} {H : Hp}
theorem td_bind {f : FE} {α : Type} {k : D → M → Res α} {R : V → Hp → Prop} {β : List Addr} {m : M} {ρ : Sl} {Q : α → M → List Addr → Hp → Prop} (s : Stt K β H σ ρ m) (h : okD K (W σ) β H ((f ρ m).bind k) Q)
    (q : ∀ d m1 v β1 H1, Ext β β1 H H1 → Stt K β1 H1 σ ρ m1 → Rp K β1 H1 v d → okD K (W σ) β1 H1 (k d m1) Q → R v H1) : tD K W f σ H R :=
  ⟨β, m, ρ, s, h.bind.imp fun d m1 β1 H1 _ e ok hh v hv => q d m1 v β1 H1 e (s.ext e ok) hv hh⟩
theorem ttd_bind {f : FT} {α : Type} {k : Bool → M → Res α} {R : Bool → Hp → Prop} {β : List Addr} {m : M} {ρ : Sl} {Q : α → M → List Addr → Hp → Prop} (s : Stt K β H σ ρ m) (h : okD K (W σ) β H ((f ρ m).bind k) Q)
    (q : ∀ b m1 β1 H1, Ext β β1 H H1 → Stt K β1 H1 σ ρ m1 → okD K (W σ) β1 H1 (k b m1) Q → R b H1) : tTD K W f σ H R :=
  ⟨β, m, ρ, s, h.bind.imp fun d m1 β1 H1 _ e ok hh => q d m1 β1 H1 e (s.ext e ok) hh⟩
theorem tad_bind {f : FA} {α : Type} {k : List D → M → Res α} {R : List V → Hp → Prop} {β : List Addr} {m : M} {ρ : Sl} {Q : α → M → List Addr → Hp → Prop} (s : Stt K β H σ ρ m) (h : okD K (W σ) β H ((f ρ m).bind k) Q)
    (q : ∀ ds m1 vs β1 H1, Ext β β1 H H1 → Stt K β1 H1 σ ρ m1 → RpA K β1 H1 vs ds → okD K (W σ) β1 H1 (k ds m1) Q → R vs H1) : tAD K W f σ H R :=
  ⟨β, m, ρ, s, h.bind.imp fun d m1 β1 H1 _ e ok hh v hv => q d m1 v β1 H1 e (s.ext e ok) hv hh⟩
theorem tld_bind {f : FA} {α : Type} {k : List D → M → Res α} {R : V → Hp → Prop} {β : List Addr} {m : M} {ρ : Sl} {Q : α → M → List Addr → Hp → Prop} (s : Stt K β H σ ρ m) (h : okD K (W σ) β H ((f ρ m).bind k) Q)
    (q : ∀ ds m1 p xs β1 H1, Ext β β1 H H1 → Stt K β1 H1 σ ρ m1 → H p = none → p ∉ β1 → H1 p = some (.lst xs) → RpA K β1 H1 xs ds → okD K (W σ) β H (k ds m1) Q → R (.ref p) H1) : tLD K W f σ H R := by
  refine ⟨β, m, ρ, s, ?_⟩
  cases hf : f ρ m with
  | ok ds m1 =>
    rw [hf] at h
    exact fun β1 H1 e ok p xs h1 h2 h3 h4 => q ds m1 p xs β1 H1 e (s.ext e ok) h1 h2 h3 h4 h
  | exc e m1 => rw [hf] at h; exact h
  | bad => rw [hf] at h; exact h
end

/-! ### operators by values -/
/-- the plain function g says what the hand layer's rule r gives -/
def OpD (K : PySem.W.Frag) (r : R2) (g : D → D → M → Res D) : Prop :=
  ∀ (Wx : Exn → List Addr → Hp → Prop) (β : List Addr) (H : Hp) (m : M) (x y : V) (a b : D) (Q : VK), MOk K β H m → Rp K β H x a → Rp K β H y b →
    okD K Wx β H (g a b m) (fun d _ β' H' => ∀ v, Rp K β' H' v d → Q v H') → r x y H Q
def fOp (g : D → D → M → Res D) (fa fb : FE) : FE := fun ρ m => (fa ρ m).bind fun a m1 => (fb ρ m1).bind fun b m2 => g a b m2
theorem td_op {K : PySem.W.Frag} {W : WXD} {r : R2} {g : D → D → M → Res D} (ho : OpD K r g) {fa fb : FE} {σ : Sg} {H : Hp} {Q : VK} (h : tD K W (fOp g fa fb) σ H Q) : tOp r (tD K W fa) (tD K W fb) σ H Q := by
  obtain ⟨β, m, ρ, s, h⟩ := h
  refine td_bind s h fun a m1 v β1 H1 e1 s1 ra h1 => ?_
  refine td_bind s1 h1 fun b m2 u β2 H2 e2 s2 rb h2 => ?_
  exact ho _ β2 H2 m2 v u a b Q s2.me (ra.ext e2) rb h2
theorem pd_op {X : Cx} {W : WXD} {a b : Expr} {pos : Pos} {op : Operator} {r : R2} {g : D → D → M → Res D} {fa fb : FE} (ho : OpR X (binaryOp op) r) (hg : OpD X.K r g) (ha : PD X W a fa) (hb : PD X W b fb) :
    PD X W (.BinOp a op b pos) (fOp g fa fb) := PE.imp (pe_op ho ha hb) fun _ _ _ h => td_op hg h
theorem pd_cmp {X : Cx} {W : WXD} {a b : Expr} {pos : Pos} {op : CmpOp} {r : R2} {g : D → D → M → Res D} {fa fb : FE} (ho : OpR X (compareOp op) r) (hg : OpD X.K r g) (ha : PD X W a fa) (hb : PD X W b fb)
    (hm : behindInMarks op b = false) : PD X W (.Compare a [op] [b] pos) (fOp g fa fb) := PE.imp (pe_cmpR ho ha hb hm) fun _ _ _ h => td_op hg h
/-- a value that is True or False -/
def asB (r : Res D) : Res Bool := r.bind fun d m => match d with
  | .bl b => .ok b m
  | _ => .bad
def fTest (f : FE) : FT := fun ρ m => asB (f ρ m)
theorem td_test {K : PySem.W.Frag} {W : WXD} {f : FE} {σ : Sg} {H : Hp} {Q : Bool → Hp → Prop} (h : tTD K W (fTest f) σ H Q) : tTest (tD K W f) σ H Q := by
  obtain ⟨β, m, ρ, s, h⟩ := h
  refine td_bind s h fun d m1 v β1 H1 e1 s1 rv h1 => ?_
  cases d with
  | bl b =>
    cases rv
    exact ⟨b, rfl, h1.here s1.me⟩
  | non => exact h1.elim
  | int _ => exact h1.elim
  | str _ => exact h1.elim
  | tup _ => exact h1.elim
  | rol _ => exact h1.elim
  | ref _ => exact h1.elim
  | ty _ => exact h1.elim
theorem ptd_cmp {X : Cx} {W : WXD} {a b : Expr} {pos : Pos} {op : CmpOp} {r : R2} {g : D → D → M → Res D} {fa fb : FE} (ho : OpR X (compareOp op) r) (hg : OpD X.K r g) (ha : PD X W a fa) (hb : PD X W b fb)
    (hm : behindInMarks op b = false) : PTD X W (.Compare a [op] [b] pos) (fTest (fOp g fa fb)) :=
  PT.imp (pt_cmpR ho ha hb hm) fun σ H Q h => by
    have q := td_test h
    unfold tTest at q ⊢
    exact td_op hg q
theorem ptd_val {X : Cx} {W : WXD} {e : Expr} {f : FE} (h : PD X W e f) (he : ∀ whole, isTrue e X.env whole = (do let v ← whole; standAt e.pos; holding [v] (truthy v)) := by intro _; rfl) : PTD X W e (fTest f) :=
  PT.imp (pt_val h he) fun _ _ _ q => td_test q

/-- two whole numbers -/
def gI (g : Int → Int → D) : D → D → M → Res D := fun a b m => match a, b with
  | .int i, .int j => .ok (g i j) m
  | _, _ => .bad
def gIC (C : Int → Int → Bool) (g : Int → Int → D) : D → D → M → Res D := fun a b m => match a, b with
  | .int i, .int j => if C i j then .ok (g i j) m else .bad
  | _, _ => .bad
theorem opd_I0 {K : PySem.W.Frag} {g : Int → Int → V} {g' : Int → Int → D} (hg : ∀ β H i j, Rp K β H (g i j) (g' i j)) : OpD K (rI0 g) (gI g') := by
  intro Wx β H m x y a b Q ok ra rb h
  unfold gI at h
  split at h
  · cases ra
    cases rb
    exact ⟨_, _, rfl, rfl, h.here ok _ (hg _ _ _ _)⟩
  · exact h.elim
theorem opd_IC {K : PySem.W.Frag} {C : Int → Int → Prop} {C' : Int → Int → Bool} {g : Int → Int → V} {g' : Int → Int → D} (hc : ∀ i j, C' i j = true → C i j) (hg : ∀ β H i j, Rp K β H (g i j) (g' i j)) : OpD K (rI C g) (gIC C' g') := by
  intro Wx β H m x y a b Q ok ra rb h
  unfold gIC at h
  split at h
  · cases ra
    cases rb
    split at h
    · rename_i hcc
      exact ⟨_, _, rfl, rfl, hc _ _ hcc, h.here ok _ (hg _ _ _ _)⟩
    · exact h.elim
  · exact h.elim
def gSub : D → D → M → Res D := gI fun i j => .int (i - j)
noncomputable def cMul (i j : Int) : Bool := decide ((-(BIG 64 : Int) < i ∧ i < BIG 64) ∨ (-(BIG 64 : Int) < j ∧ j < BIG 64))
theorem big64 : (BIG 64 : Int) = 2 ^ 64 := by
  rw [BIG_eq]
  decide
theorem cMul_iff {i j : Int} : cMul i j = true ↔ (-(2 ^ 64) < i ∧ i < 2 ^ 64) ∨ (-(2 ^ 64) < j ∧ j < 2 ^ 64) := by
  unfold cMul
  rw [decide_eq_true_iff, big64]
theorem cMul_ok {i j : Int} (h : cMul i j = true) : (-(2 ^ 64) < i ∧ i < 2 ^ 64) ∨ (-(2 ^ 64) < j ∧ j < 2 ^ 64) := cMul_iff.mp h
noncomputable def cDiv (i j : Int) : Bool := decide (0 < j ∧ j < BIG 30)
theorem cDiv_iff {i j : Int} : cDiv i j = true ↔ 0 < j ∧ j < 1073741824 := by
  unfold cDiv
  rw [decide_eq_true_iff, BIG_eq]
  exact Iff.rfl
def cMod (i j : Int) : Bool := decide (0 < j)
noncomputable def cPow (i j : Int) : Bool := decide (0 ≤ j ∧ j ≤ BIG 19 ∧ i.natAbs < BIG 64)
theorem cPow_ok {i j : Int} (h : cPow i j = true) : 0 ≤ j ∧ j ≤ 1000000 ∧ i.natAbs < 2 ^ 64 := by
  unfold cPow at h
  rw [decide_eq_true_iff, BIG_eq, BIG_eq] at h
  have e : ((2 ^ 19 : Nat) : Int) = 524288 := by decide
  rw [e] at h
  exact ⟨h.1, by omega, h.2.2⟩
noncomputable def gFdiv : D → D → M → Res D := gIC cDiv fun i j => .int (i / j)
def gMod : D → D → M → Res D := gIC cMod fun i j => .int (i % j)
noncomputable def gPow : D → D → M → Res D := gIC cPow fun i j => .int (i ^ j.toNat)
def gLt : D → D → M → Res D := gI fun i j => .bl (decide (i < j))
def gLe : D → D → M → Res D := gI fun i j => .bl (decide (i ≤ j))
def gGt : D → D → M → Res D := gI fun i j => .bl (decide (j < i))
def gGe : D → D → M → Res D := gI fun i j => .bl (decide (j ≤ i))
section
variable {K : PySem.W.Frag}
theorem opd_sub : OpD K (rI0 fun i j => .int (i - j)) gSub := opd_I0 fun _ _ _ _ => .int _
theorem opd_fdiv : OpD K (rI CDiv fun i j => .int (i / j)) gFdiv := opd_IC (fun i j h => cDiv_iff.mp h) fun _ _ _ _ => .int _
theorem opd_mod : OpD K (rI (fun _ j => 0 < j) fun i j => .int (i % j)) gMod := opd_IC (C' := cMod) (fun i j h => of_decide_eq_true (p := 0 < j) h) fun _ _ _ _ => .int _
theorem opd_pow : OpD K (rI CPow fun i j => .int (i ^ j.toNat)) gPow := opd_IC (fun i j h => cPow_ok h) fun _ _ _ _ => .int _
theorem opd_lt : OpD K (rI0 fun i j => .bl (decide (i < j))) gLt := opd_I0 fun _ _ _ _ => .bl _
theorem opd_le : OpD K (rI0 fun i j => .bl (decide (i ≤ j))) gLe := opd_I0 fun _ _ _ _ => .bl _
theorem opd_gt : OpD K (rI0 fun i j => .bl (decide (j < i))) gGt := opd_I0 fun _ _ _ _ => .bl _
theorem opd_ge : OpD K (rI0 fun i j => .bl (decide (j ≤ i))) gGe := opd_I0 fun _ _ _ _ => .bl _
end
section
variable {X : Cx} {W : WXD} {a b : Expr} {pos : Pos} {fa fb : FE}
theorem pd_sub (ha : PD X W a fa) (hb : PD X W b fb) : PD X W (.BinOp a .Sub b pos) (fOp gSub fa fb) := pd_op op_sub opd_sub ha hb
theorem pd_fdiv (ha : PD X W a fa) (hb : PD X W b fb) : PD X W (.BinOp a .FloorDiv b pos) (fOp gFdiv fa fb) := pd_op op_fdiv opd_fdiv ha hb
theorem pd_mod (ha : PD X W a fa) (hb : PD X W b fb) : PD X W (.BinOp a .Mod b pos) (fOp gMod fa fb) := pd_op op_mod opd_mod ha hb
theorem pd_pow (ha : PD X W a fa) (hb : PD X W b fb) : PD X W (.BinOp a .Pow b pos) (fOp gPow fa fb) := pd_op op_pow opd_pow ha hb
theorem pd_lt (ha : PD X W a fa) (hb : PD X W b fb) : PD X W (.Compare a [.Lt] [b] pos) (fOp gLt fa fb) := pd_cmp op_lt opd_lt ha hb (nomark _)
theorem pd_le (ha : PD X W a fa) (hb : PD X W b fb) : PD X W (.Compare a [.LtE] [b] pos) (fOp gLe fa fb) := pd_cmp op_le opd_le ha hb (nomark _)
theorem pd_gt (ha : PD X W a fa) (hb : PD X W b fb) : PD X W (.Compare a [.Gt] [b] pos) (fOp gGt fa fb) := pd_cmp op_gt opd_gt ha hb (nomark _)
theorem pd_ge (ha : PD X W a fa) (hb : PD X W b fb) : PD X W (.Compare a [.GtE] [b] pos) (fOp gGe fa fb) := pd_cmp op_ge opd_ge ha hb (nomark _)
theorem ptd_lt (ha : PD X W a fa) (hb : PD X W b fb) : PTD X W (.Compare a [.Lt] [b] pos) (fTest (fOp gLt fa fb)) := ptd_cmp op_lt opd_lt ha hb (nomark _)
theorem ptd_le (ha : PD X W a fa) (hb : PD X W b fb) : PTD X W (.Compare a [.LtE] [b] pos) (fTest (fOp gLe fa fb)) := ptd_cmp op_le opd_le ha hb (nomark _)
theorem ptd_gt (ha : PD X W a fa) (hb : PD X W b fb) : PTD X W (.Compare a [.Gt] [b] pos) (fTest (fOp gGt fa fb)) := ptd_cmp op_gt opd_gt ha hb (nomark _)
theorem ptd_ge (ha : PD X W a fa) (hb : PD X W b fb) : PTD X W (.Compare a [.GtE] [b] pos) (fTest (fOp gGe fa fb)) := ptd_cmp op_ge opd_ge ha hb (nomark _)
end
end Dl

/-! DL3: operators on tuples, lists; parts; tests; displays; calls of built-ins. -/
namespace Dl
open PySem PySem.Spec PyProof.Rows L2

section
variable {K : PySem.W.Frag}
/-! ### + -/
def gAdd : D → D → M → Res D := fun a b m => match a, b with
  | .int i, .int j => .ok (.int (i + j)) m
  | .tup xs, .tup ys => if xs.length + ys.length ≤ LIM then .ok (.tup (xs ++ ys)) m else .bad
  | .str x, .str y => if x.length + y.length ≤ LIM then .ok (.str (x ++ y)) m else .bad
  | .ref i, .ref j => match m[i]?, m[j]? with
    | some (.lst xs), some (.lst ys) => if xs.length + ys.length ≤ LIM then .ok (.ref m.length) (m ++ [.lst (xs ++ ys)]) else .bad
    | _, _ => .bad
  | _, _ => .bad
def rAddD (K : PySem.W.Frag) : R2 := fun x y H Q => (rI0 (fun i j => .int (i + j)) x y H Q) ∨ (rCatA K x y H Q) ∨ ((fun x y H Q => ∃ i j, x = .str i ∧ y = .str j ∧ i.length + j.length ≤ sizeLine ∧ Q (.str (i ++ j)) H) x y H Q) ∨ rCat x y H Q
theorem RpA.nil_iff {β : List Addr} {H : Hp} {xs : List V} {ds : List D} (r : RpA K β H xs ds) : xs = [] ↔ ds = [] := by
  cases r with
  | nil => simp
  | cons _ _ => simp
theorem opd_add : OpD K (rAddD K) gAdd := by
  intro Wx β H m x y a b Q ok ra rb h
  unfold gAdd at h
  split at h
  · cases ra
    cases rb
    exact .inl ⟨_, _, rfl, rfl, h.here ok _ (.int _)⟩
  · rename_i xs ys
    split at h
    · rename_i hl
      cases ra with
      | tup hx rx =>
        cases rb with
        | tup hy ry =>
          refine .inr (.inl ⟨_, _, _, _, rfl, rfl, SqT.of hx, SqT.of hy, lim_le (by rw [rx.length, ry.length]; exact hl), fun e => ?_, fun _ e => ?_, fun _ _ p hp => ?_⟩)
          · have e' := rx.nil_iff.mp e
            subst e'
            exact h.here ok _ (.tup hy ry)
          · have e' := ry.nil_iff.mp e
            subst e'
            rw [List.append_nil] at h
            exact h.here ok _ (.tup hx rx)
          · exact h β _ (Ext.upd_new hp) (ok.upd_new hp) _ (.tup upd_same ((rx.ext (Ext.upd_new hp)).append (ry.ext (Ext.upd_new hp))))
    · exact h.elim
  · split at h
    · rename_i hl
      cases ra
      cases rb
      exact .inr (.inr (.inl ⟨_, _, rfl, rfl, lim_le hl, h.here ok _ (.str _)⟩))
    · exact h.elim
  · split at h
    · rename_i i j ds es hi hj
      split at h
      · rename_i hl
        cases ra with
        | ref ha =>
          cases rb with
          | ref hb =>
            obtain ⟨xs, h1, r1⟩ := ok.at' _ _ _ hi ha
            obtain ⟨ys, h2, r2⟩ := ok.at' _ _ _ hj hb
            refine .inr (.inr (.inr ⟨_, _, _, _, rfl, rfl, h1, h2, lim_le (by rw [r1.length, r2.length]; exact hl), fun p hp => ?_⟩))
            exact h (β ++ [p]) _ (Ext.lay hp) (ok.lay hp (r1.append r2)) _ (Rp.last ok)
      · exact h.elim
    · exact h.elim
  · exact h.elim
theorem op_addD {X : Cx} : OpR X (binaryOp .Add) (rAddD X.K) := op_add.or (op_catA.or (op_add_str.or op_cat))
theorem pd_add {X : Cx} {W : WXD} {a b : Expr} {pos : Pos} {fa fb : FE} (ha : PD X W a fa) (hb : PD X W b fb) : PD X W (.BinOp a .Add b pos) (fOp gAdd fa fb) := pd_op op_addD opd_add ha hb

/-! ### x[i] -/
/-- whether this may be a key of such a dict -/
def keyOk (t : Bool) (d : D) : Bool := if t then (keyT d).isSome else (keyD d).isSome
def gIxS : D → D → M → Res D := fun a b m => match b with
  | .int i => match a with
    | .tup xs => match atI xs i with
      | some d => .ok d m
      | none => .bad
    | .rol xs => match atI xs i with
      | some d => .ok d m
      | none => .bad
    | .ref n => match m[n]? with
      | some (.lst xs) => match atI xs i with
        | some d => .ok d m
        | none => .bad
      | _ => .bad
    | .str z => if z.length ≤ LIM then match atI z.cps.toList i with
        | some c => .ok (.str ⟨#[c]⟩) m
        | none => .bad
      else .bad
    | _ => .bad
  | _ => .bad
theorem RpA.at_ {β : List Addr} {H : Hp} {xs : List V} {ds : List D} {i : Int} {d : D} (r : RpA K β H xs ds) (h : atI ds i = some d) : ∃ v, atI xs i = some v ∧ Rp K β H v d := by
  unfold atI at h ⊢
  rw [r.length]
  cases hi : ixN ds.length i with
  | none => rw [hi] at h; cases h
  | some j =>
    rw [hi] at h
    exact r.get h
theorem opd_ixS : OpD K (rIx K) gIxS := by
  intro Wx β H m x y a b Q ok ra rb h
  unfold gIxS at h
  cases b with
  | int i =>
    cases rb
    cases a with
    | tup ds =>
      simp only at h
      split at h
      · rename_i d hd
        cases ra with
        | tup hx rx =>
          obtain ⟨v, hv, rv⟩ := rx.at_ hd
          exact .inr (.inl ⟨_, _, i, v, rfl, rfl, SqT.of hx, hv, h.here ok v rv⟩)
      · exact h.elim
    | rol ds =>
      simp only at h
      split at h
      · rename_i d hd
        cases ra with
        | rol hx rx =>
          obtain ⟨v, hv, rv⟩ := rx.at_ hd
          exact .inl ⟨_, _, i, v, rfl, rfl, hx.sql, hv, h.here ok v rv⟩
      · exact h.elim
    | ref n =>
      simp only at h
      split at h
      · rename_i ds hds
        split at h
        · rename_i d hd
          cases ra with
          | ref hb =>
            obtain ⟨xs, h1, r1⟩ := ok.at' n _ _ hds hb
            obtain ⟨v, hv, rv⟩ := r1.at_ hd
            exact .inl ⟨_, _, i, v, rfl, rfl, SqL.of h1, hv, h.here ok v rv⟩
        · exact h.elim
      · exact h.elim
    | str z =>
      simp only at h
      split at h
      · rename_i hl
        split at h
        · rename_i c hc
          cases ra
          exact .inr (.inr ⟨z, i, c, rfl, rfl, lim_le hl, hc, h.here ok _ (.str _)⟩)
        · exact h.elim
      · exact h.elim
    | non => exact h.elim
    | bl _ => exact h.elim
    | int _ => exact h.elim
    | ty _ => exact h.elim
  | non => exact h.elim
  | bl _ => exact h.elim
  | str _ => exact h.elim
  | tup _ => exact h.elim
  | rol _ => exact h.elim
  | ref _ => exact h.elim
  | ty _ => exact h.elim
def gIx : D → D → M → Res D := fun a b m => match a with
  | .ref n => match m[n]? with
    | some (.dct t kvs) => if keyOk t b then (match valD kvs b with
      | some d => .ok d m
      | none => .bad) else .bad
    | _ => gIxS (.ref n) b m
  | a => gIxS a b m
theorem dget_of {β : List Addr} {H : Hp} {m : M} (ok : MOk K β H m) {n : Nat} {a : Addr} {t : Bool} {kvs : List (D × D)} {y : V} {b : D} (hn : m[n]? = some (.dct t kvs)) (ha : β[n]? = some a) (rb : Rp K β H y b) (hk : keyOk t b = true) :
    ∃ o, DGet H a y o ∧ ((o = none ∧ valD kvs b = none) ∨ ∃ v e, o = some v ∧ valD kvs b = some e ∧ Rp K β H v e) := by
  have h := ok.at' n _ a hn ha
  cases t with
  | false =>
    obtain ⟨xs, h1, r1⟩ := h
    obtain ⟨k, hk'⟩ := Option.isSome_iff_exists.mp (show (keyD b).isSome = true from hk)
    rw [key_rp rb hk']
    exact ⟨_, DGet.k h1, r1.val (fun a b => keyD_inj a b) hk'⟩
  | true =>
    obtain ⟨xs, h1, r1⟩ := h
    obtain ⟨k, hk'⟩ := Option.isSome_iff_exists.mp (show (keyT b).isSome = true from hk)
    obtain ⟨p, rfl, hp⟩ := keyT_rp rb hk'
    exact ⟨_, DGet.t h1 hp, r1.val (fun a b => keyT_inj a b) hk'⟩
def rIxDct : R2 := fun x y H Q => ∃ a v, x = .ref a ∧ DGet H a y (some v) ∧ Q v H
theorem ix_dict {X : Cx} (hu : X.A.units + 64 < cLine) : IxR X rIxDct := by
  intro value slice pins s σ H x y v u Q I rx ry h hs
  obtain ⟨a, z, rfl, g, q⟩ := h
  obtain rfl : v = Value.ref a := rx
  exact tail_any (dict_typeIs I g) PySem.F.slot_dict_getitem.lookup (d_getItem (by omega) I g ry fun w' s3 I3 rw' => ⟨z, H, I3, rw', q⟩) hs
theorem opd_ix : OpD K (fun x y H Q => rIx K x y H Q ∨ rIxDct x y H Q) gIx := by
  intro Wx β H m x y a b Q ok ra rb h
  unfold gIx at h
  split at h
  · rename_i n
    split at h
    · rename_i t kvs hn
      split at h
      · rename_i hk
        split at h
        · rename_i d hd
          cases ra with
          | ref ha =>
            obtain ⟨o, g, e⟩ := dget_of ok hn ha rb hk
            rcases e with ⟨_, e⟩ | ⟨v, e', rfl, e, r⟩
            · rw [hd] at e; exact nomatch e
            · rw [hd] at e
              cases e
              exact .inr ⟨_, v, rfl, g, h.here ok v r⟩
        · exact h.elim
      · exact h.elim
    · exact .inl (opd_ixS Wx β H m x y _ b Q ok ra rb h)
  · exact .inl (opd_ixS Wx β H m x y _ b Q ok ra rb h)
theorem pd_ix {X : Cx} {W : WXD} {a b : Expr} {pos : Pos} {fa fb : FE} (hu : X.A.units + 64 < cLine) (ha : PD X W a fa) (hb : PD X W b fb) (hs : PlainIx b := by exact fun _ _ => rfl) : PD X W (.Subscript a b pos) (fOp gIx fa fb) :=
  PE.imp (pe_ix (ix_seq.or (ix_dict hu)) ha hb hs) fun _ _ _ h => td_op opd_ix h

/-! ### t[a:b] of a tuple -/
def cutD (xs : List D) (lo hi : Option Int) : List D := (xs.drop (HT.sIx xs.length 0 lo)).take (HT.sIx xs.length xs.length hi - HT.sIx xs.length 0 lo)
abbrev FO := Sl → M → Res (Option Int)
def fNoPart : FO := fun _ m => .ok none m
def fPart (f : FE) : FO := fun ρ m => (f ρ m).bind fun d m => match d with
  | .int i => .ok (some i) m
  | _ => .bad
def gCut (lo hi : Option Int) : D → M → Res D := fun a m => match a with
  | .tup xs => .ok (.tup (cutD xs lo hi)) m
  | .ref n => match m[n]? with
    | some (.lst xs) => .ok (.ref m.length) (m ++ [.lst (cutD xs lo hi)])
    | _ => .bad
  | _ => .bad
def fCut (f : FE) (l h : FO) : FE := fun ρ m => (f ρ m).bind fun a m => (l ρ m).bind fun lo m => (h ρ m).bind fun hi m => gCut lo hi a m
def tOD (K : PySem.W.Frag) (W : WXD) (f : FO) : TO := fun σ H Q => ∃ β m ρ, Stt K β H σ ρ m ∧ okD K (W σ) β H (f ρ m) fun o _ _ H' => Q o H'
theorem PO.imp {X : Cx} {e : Option Expr} {t t' : TO} (h : PO X e t) (i : ∀ σ H Q, t' σ H Q → t σ H Q) : PO X e t' := ⟨fun pins s σ H Q I q => h.run pins s σ H Q I (i σ H Q q)⟩
abbrev POD (X : Cx) (W : WXD) (e : Option Expr) (f : FO) : Prop := PO X e (tOD X.K W f)
theorem pod_none {X : Cx} {W : WXD} : POD X W none fNoPart := PO.imp po_none fun σ H Q h => by
  obtain ⟨β, m, ρ, s, h⟩ := h
  exact h.here s.me
theorem pod_some {X : Cx} {W : WXD} {e : Expr} {f : FE} (h : PD X W e f) : POD X W (some e) (fPart f) := PO.imp (po_some h) fun σ H Q h => by
  obtain ⟨β, m, ρ, s, h⟩ := h
  refine td_bind s h fun d m1 v β1 H1 e1 s1 rv h1 => ?_
  cases d with
  | int i =>
    cases rv
    exact ⟨i, rfl, h1.here s1.me⟩
  | non => exact h1.elim
  | bl _ => exact h1.elim
  | str _ => exact h1.elim
  | tup _ => exact h1.elim
  | rol _ => exact h1.elim
  | ref _ => exact h1.elim
  | ty _ => exact h1.elim
theorem cutD_whole {xs : List D} {lo hi : Option Int} (h : HT.sIx xs.length 0 lo = 0 ∧ HT.sIx xs.length xs.length hi = xs.length) : cutD xs lo hi = xs := by
  unfold cutD
  rw [h.1, h.2]
  simp
theorem RpA.cut {β : List Addr} {H : Hp} {xs : List V} {ds : List D} (r : RpA K β H xs ds) (lo hi : Option Int) : RpA K β H (cutV xs lo hi) (cutD ds lo hi) := by
  unfold cutV cutD
  rw [r.length]
  exact (r.drop _).take _
theorem pd_cut {X : Cx} {W : WXD} {e : Expr} {lo hi : Option Expr} {p2 pos : Pos} {f : FE} {l h : FO} (he : PD X W e f) (hl : POD X W lo l) (hh : POD X W hi h) : PD X W (.Subscript e (.Slice lo hi none p2) pos) (fCut f l h) :=
  PE.imp (pe_slice (sl_tupA.or sl_list) he hl hh) fun σ H Q q => by
    obtain ⟨β, m, ρ, s, q⟩ := q
    refine td_bind s q fun a m1 v β1 H1 e1 s1 rv q1 => ?_
    refine ⟨β1, m1, ρ, s1, q1.bind.imp fun o1 m2 β2 H2 _ e2 ok2 q2 => ?_⟩
    refine ⟨β2, m2, ρ, s1.ext e2 ok2, q2.bind.imp fun o2 m3 β3 H3 _ e3 ok3 q3 => ?_⟩
    unfold gCut at q3
    cases a with
    | tup ds =>
      have rv3 := (rv.ext e2).ext e3
      cases rv3 with
      | tup hx rx =>
        refine .inl ⟨_, _, rfl, SqT.of hx, fun hw => ?_, fun _ p hp => ?_⟩
        · rw [rx.length] at hw
          simp only [cutD_whole hw] at q3
          exact q3.here ok3 _ (.tup hx rx)
        · exact q3 β3 _ (Ext.upd_new hp) (ok3.upd_new hp) _ (.tup upd_same ((rx.cut o1 o2).ext (Ext.upd_new hp)))
    | non => exact q3.elim
    | bl _ => exact q3.elim
    | str _ => exact q3.elim
    | int _ => exact q3.elim
    | rol _ => exact q3.elim
    | ref n =>
      simp only at q3
      split at q3
      · rename_i ds hn
        have rv3 := (rv.ext e2).ext e3
        cases rv3 with
        | ref hb =>
          obtain ⟨xs, g1, g2⟩ := ok3.at' _ _ _ hn hb
          refine .inr ⟨_, _, rfl, SqL.of g1, fun p hp => ?_⟩
          exact q3 (β3 ++ [p]) _ (Ext.lay hp) (ok3.lay hp (g2.cut o1 o2)) _ (Rp.last ok3)
      · exact q3.elim
    | ty _ => exact q3.elim

/-! ### displays -/
def fNil : FA := fun _ m => .ok [] m
def fCons (f : FE) (g : FA) : FA := fun ρ m => (f ρ m).bind fun d m => (g ρ m).bind fun ds m => .ok (d :: ds) m
theorem pad_nil {X : Cx} {W : WXD} : PAD X W [] fNil := PA.imp pa_nil fun σ H Q h => by
  obtain ⟨β, m, ρ, s, h⟩ := h
  exact h.here s.me [] .nil
theorem pad_cons {X : Cx} {W : WXD} {e : Expr} {es : List Expr} {f : FE} {g : FA} (he : PD X W e f) (hr : PAD X W es g) (hs : starEach (e :: es) X.env = (false, eval e X.env) :: starEach es X.env := by rfl) : PAD X W (e :: es) (fCons f g) :=
  PA.imp (pa_cons he hr hs) fun σ H Q h => by
    obtain ⟨β, m, ρ, s, h⟩ := h
    refine td_bind s h fun d m1 v β1 H1 e1 s1 rv h1 => ?_
    refine tad_bind s1 h1 fun ds m2 vs β2 H2 e2 s2 rs h2 => ?_
    exact h2.here s2.me _ (.cons (rv.ext e2) rs)
def fTup (f : FA) : FE := fun ρ m => (f ρ m).bind fun ds m => if ds.length ≤ LIM then .ok (.tup ds) m else .bad
theorem pd_tup {X : Cx} {W : WXD} {es : List Expr} {k : Nat} {pos : Pos} {f : FA} (h : PAD X W es f) : PD X W (.Tuple es k pos) (fTup f) := PE.imp (pe_tup h) fun σ H Q q => by
  obtain ⟨β, m, ρ, s, q⟩ := q
  refine tad_bind s q fun ds m1 vs β1 H1 e1 s1 rs q1 => ?_
  split at q1
  · rename_i hl
    exact ⟨lim_le (by rw [rs.length]; exact hl), fun p hp => q1 β1 _ (Ext.upd_new hp) (s1.me.upd_new hp) _ (.tup upd_same (rs.ext (Ext.upd_new hp)))⟩
  · exact q1.elim
/-- a new list, not named -/
def fLst (f : FA) : FA := fun ρ m => (f ρ m).bind fun ds m => if ds.length ≤ LIM then .ok ds m else .bad
theorem pld_lst {X : Cx} {W : WXD} {es : List Expr} {pos : Pos} {f : FA} (h : PAD X W es f) : PLD X W (.List es pos) (fLst f) := PE.imp (pe_lst h) fun σ H Q q => by
  obtain ⟨β, m, ρ, s, q⟩ := q
  refine tad_bind s q fun ds m1 vs β1 H1 e1 s1 rs q1 => ?_
  split at q1
  · rename_i hl
    refine ⟨lim_le (by rw [rs.length]; exact hl), fun p hp => ?_⟩
    have hp0 : H p = none := by
      cases hq : H p with
      | none => rfl
      | some o =>
        by_cases hb : p ∈ β
        · obtain ⟨xs, hx⟩ := s1.me.there (by obtain ⟨γ, rfl⟩ := e1.pre; exact List.mem_append_left _ hb)
          rw [hp] at hx; cases hx.1
        · rw [e1.keep p o hq hb] at hp; cases hp
    exact q1 β1 _ (Ext.upd_new hp) (s1.me.upd_new hp) p vs hp0 (s1.me.fresh hp) upd_same (rs.ext (Ext.upd_new hp))
  · exact q1.elim
/-- .. and named -/
def fName (f : FA) : FE := fun ρ m => (f ρ m).bind fun ds m => .ok (.ref m.length) (m ++ [.lst ds])
theorem pd_name {X : Cx} {W : WXD} {e : Expr} {f : FA} (h : PLD X W e f) : PD X W e (fName f) := PE.imp h fun σ H Q q => by
  obtain ⟨β, m, ρ, s, q⟩ := q
  refine tld_bind s q fun ds m1 p xs β1 H1 e1 s1 hp0 hb hp rs q1 => ?_
  exact q1 (β1 ++ [p]) H1 (Ext.adopt' hp0 e1) (s1.me.adopt hb hp rs) _ (Rp.last s1.me)
end
end Dl

/-! DL4: tests, and/or/not, ==, repr, isinstance. -/
namespace Dl
open PySem PySem.Spec PyProof.Rows L2

/-! ### tests -/
abbrev PWD (X : Cx) (W : WXD) (e : Expr) (f : FT) : Prop := PW X e (tTD X.K W f)
def fAndT (t u : FT) : FT := fun ρ m => (t ρ m).bind fun b m => if b then u ρ m else .ok false m
def fOrT (t u : FT) : FT := fun ρ m => (t ρ m).bind fun b m => if b then .ok true m else u ρ m
def fNotT (t : FT) : FT := fun ρ m => (t ρ m).bind fun b m => .ok (!b) m
section
variable {X : Cx} {W : WXD} {a b c : Expr} {rest : List Expr} {pos : Pos} {t u : FT} {fa fb fc : FE}
theorem pwd_and1 (ha : PTD X W a t) : PWD X W (.BoolOp .And [a] pos) t := pw_and1 ha
theorem pwd_or1 (ha : PTD X W a t) : PWD X W (.BoolOp .Or [a] pos) t := pw_or1 ha
theorem pwd_and (ha : PTD X W a t) (hb : PWD X W (.BoolOp .And (b :: rest) pos) u) : PWD X W (.BoolOp .And (a :: b :: rest) pos) (fAndT t u) :=
  PW.imp (pw_and ha hb) fun σ H Q q => by
    obtain ⟨β, m, ρ, s, q⟩ := q
    refine ttd_bind s q fun b m1 β1 H1 e1 s1 q1 => ?_
    cases b with
    | true => exact ⟨β1, m1, ρ, s1, q1⟩
    | false => exact q1.here s1.me
theorem pwd_or (ha : PTD X W a t) (hb : PWD X W (.BoolOp .Or (b :: rest) pos) u) : PWD X W (.BoolOp .Or (a :: b :: rest) pos) (fOrT t u) :=
  PW.imp (pw_or ha hb) fun σ H Q q => by
    obtain ⟨β, m, ρ, s, q⟩ := q
    refine ttd_bind s q fun b m1 β1 H1 e1 s1 q1 => ?_
    cases b with
    | true => exact q1.here s1.me
    | false => exact ⟨β1, m1, ρ, s1, q1⟩
theorem ptd_w (h : PWD X W a t) : PTD X W a t := PW.pt h
theorem ptd_not (ha : PTD X W a t) : PTD X W (.UnaryOp .Not a pos) (fNotT t) := PT.imp (pt_not ha) fun σ H Q q => by
  obtain ⟨β, m, ρ, s, q⟩ := q
  exact ttd_bind s q fun b m1 β1 H1 e1 s1 q1 => q1.here s1.me
/-- and, or, not as values: all but the last are True or False -/
def fAndV (f g : FE) : FE := fun ρ m => (f ρ m).bind fun d m => match d with
  | .bl true => g ρ m
  | .bl false => .ok (.bl false) m
  | _ => .bad
def fOrV (f g : FE) : FE := fun ρ m => (f ρ m).bind fun d m => match d with
  | .bl true => .ok (.bl true) m
  | .bl false => g ρ m
  | _ => .bad
def fNotV (f : FE) : FE := fun ρ m => (f ρ m).bind fun d m => match d with
  | .bl b => .ok (.bl (!b)) m
  | _ => .bad
theorem pd_one {op} (h : PD X W a fa) : PD X W (.BoolOp op [a] pos) fa := pe_one h
theorem pd_and (ha : PD X W a fa) (hb : PD X W (.BoolOp .And (b :: rest) pos) fb) : PD X W (.BoolOp .And (a :: b :: rest) pos) (fAndV fa fb) :=
  PE.imp (pe_and ha hb) fun σ H Q q => by
    obtain ⟨β, m, ρ, s, q⟩ := q
    refine td_bind s q fun d m1 v β1 H1 e1 s1 rv q1 => ?_
    split at q1
    · cases rv
      exact ⟨true, rfl, β1, m1, ρ, s1, q1⟩
    · cases rv
      exact ⟨false, rfl, q1.here s1.me _ (.bl false)⟩
    · exact q1.elim
theorem pd_or (ha : PD X W a fa) (hb : PD X W (.BoolOp .Or (b :: rest) pos) fb) : PD X W (.BoolOp .Or (a :: b :: rest) pos) (fOrV fa fb) :=
  PE.imp (pe_or ha hb) fun σ H Q q => by
    obtain ⟨β, m, ρ, s, q⟩ := q
    refine td_bind s q fun d m1 v β1 H1 e1 s1 rv q1 => ?_
    split at q1
    · cases rv
      exact ⟨true, rfl, q1.here s1.me _ (.bl true)⟩
    · cases rv
      exact ⟨false, rfl, β1, m1, ρ, s1, q1⟩
    · exact q1.elim
theorem pd_not (ha : PD X W a fa) : PD X W (.UnaryOp .Not a pos) (fNotV fa) := PE.imp (pe_not ha) fun σ H Q q => by
  obtain ⟨β, m, ρ, s, q⟩ := q
  refine td_bind s q fun d m1 v β1 H1 e1 s1 rv q1 => ?_
  split at q1
  · cases rv
    exact ⟨_, rfl, q1.here s1.me _ (.bl _)⟩
  · exact q1.elim
def fIf (t : FT) (f g : FE) : FE := fun ρ m => (t ρ m).bind fun b m => if b then f ρ m else g ρ m
theorem pd_if (hc : PTD X W c t) (ha : PD X W a fa) (hb : PD X W b fb) : PD X W (.IfExp c a b pos) (fIf t fa fb) := PE.imp (pe_ifExp hc ha hb) fun σ H Q q => by
  obtain ⟨β, m, ρ, s, q⟩ := q
  refine ttd_bind s q fun d m1 β1 H1 e1 s1 q1 => ?_
  cases d with
  | true => exact ⟨β1, m1, ρ, s1, q1⟩
  | false => exact ⟨β1, m1, ρ, s1, q1⟩
/-- a < b < c -/
def fChain (g g' : D → D → M → Res D) (f1 f2 f3 : FE) : FE := fun ρ m => (f1 ρ m).bind fun a m => (f2 ρ m).bind fun b m => (g a b m).bind fun d m => match d with
  | .bl true => (f3 ρ m).bind fun c m => g' b c m
  | .bl false => .ok (.bl false) m
  | _ => .bad
theorem td_chain {K : PySem.W.Frag} {r r' : R2} {g g' : D → D → M → Res D} (hr : OpD K r g) (hr' : OpD K r' g') {σ : Sg} {H : Hp} {Q : VK} (q : tD K W (fChain g g' fa fb fc) σ H Q) : tChain r r' (tD K W fa) (tD K W fb) (tD K W fc) σ H Q := by
  obtain ⟨β, m, ρ, s, q⟩ := q
  refine td_bind s q fun d1 m1 v1 β1 H1 e1 s1 rv1 q1 => ?_
  refine td_bind s1 q1 fun d2 m2 v2 β2 H2 e2 s2 rv2 q2 => ?_
  refine hr (W σ) β2 H2 m2 v1 v2 d1 d2 _ s2.me (rv1.ext e2) rv2 (q2.bind.imp fun d m3 β3 H3 _ e3 ok3 q3 v rv => ?_)
  split at q3
  · cases rv
    refine ⟨true, rfl, ?_⟩
    rw [if_pos rfl]
    refine td_bind (s2.ext e3 ok3) q3 fun d4 m4 v4 β4 H4 e4 s4 rv4 q4 => ?_
    exact hr' (W σ) β4 H4 m4 v2 v4 d2 d4 _ s4.me ((rv2.ext e3).ext e4) rv4 q4
  · cases rv
    refine ⟨false, rfl, ?_⟩
    rw [if_neg Bool.false_ne_true]
    exact q3.here ok3 _ (.bl false)
  · exact q3.elim
end

/-! ### data as a whole -/
mutual
def D.toP (r : Nat → Option PyData) : D → Option PyData
  | .non => some .none
  | .bl b => some (.bool b)
  | .int i => some (.int i)
  | .str x => some (.str x)
  | .tup ds => (D.toPs r ds).map .tuple
  | .rol ds => (D.toPs r ds).map .list
  | .ref n => r n
  | .ty _ => none
def D.toPs (r : Nat → Option PyData) : List D → Option (List PyData)
  | [] => some []
  | d :: ds => match D.toP r d, D.toPs r ds with
    | some p, some ps => some (p :: ps)
    | _, _ => none
end
/-- up to three lists deep -/
def pdM : Nat → M → D → Option PyData
  | 0, _, d => d.toP fun _ => none
  | k + 1, m, d => d.toP fun n => match m[n]? with
    | some (.lst ds) => (allS (ds.map (pdM k m))).map .list
    | _ => none
where allS : List (Option PyData) → Option (List PyData)
  | [] => some []
  | some p :: r => (allS r).map (p :: ·)
  | none :: _ => none
section
variable {K : PySem.W.Frag} {β : List Addr} {H : Hp} {m : M}
mutual
theorem dp_of {r : Nat → Option PyData} (hr : ∀ n a p, β[n]? = some a → r n = some p → Dp K H (.ref a) p) : ∀ {v : V} {d : D} {p : PyData}, Rp K β H v d → d.toP r = some p → Dp K H v p
  | _, _, _, .non, h => by simp only [D.toP] at h; cases h; exact .non
  | _, _, _, .bl b, h => by simp only [D.toP] at h; cases h; exact .bl b
  | _, _, _, .int i, h => by simp only [D.toP] at h; cases h; exact .int i
  | _, _, _, .str x, h => by simp only [D.toP] at h; cases h; exact .str x
  | _, _, _, .tup (ds := ds) hs rs, h => by
    simp only [D.toP] at h
    cases hq : D.toPs r ds with
    | none => rw [hq] at h; cases h
    | some ps =>
      rw [hq] at h
      cases h
      exact .tup (SqT.of hs) (dps_of hr rs hq)
  | _, _, _, .rol (ds := ds) hs rs, h => by
    simp only [D.toP] at h
    cases hq : D.toPs r ds with
    | none => rw [hq] at h; cases h
    | some ps =>
      rw [hq] at h
      cases h
      exact .lst hs.sql (dps_of hr rs hq)
  | _, _, _, .ref hb, h => hr _ _ _ hb (by simpa only [D.toP] using h)
  | _, _, _, .ty _, h => by simp only [D.toP] at h; cases h
theorem dps_of {r : Nat → Option PyData} (hr : ∀ n a p, β[n]? = some a → r n = some p → Dp K H (.ref a) p) : ∀ {vs : List V} {ds : List D} {ps : List PyData}, RpA K β H vs ds → D.toPs r ds = some ps → DpAll K H vs ps
  | _, _, _, .nil, h => by simp only [D.toPs] at h; cases h; exact .nil
  | _, _, _, .cons (d := d) (ds := ds) h1 h2, h => by
    simp only [D.toPs] at h
    cases hd : D.toP r d with
    | none => rw [hd] at h; cases h
    | some p =>
      cases hds : D.toPs r ds with
      | none => rw [hd, hds] at h; cases h
      | some ps =>
        rw [hd, hds] at h
        cases h
        exact .cons (dp_of hr h1 hd) (dps_of hr h2 hds)
end
theorem dp_pdM (ok : MOk K β H m) : ∀ (k : Nat) {v : V} {d : D} {p : PyData}, Rp K β H v d → pdM k m d = some p → Dp K H v p
  | 0, v, d, p, r, h => dp_of (r := fun _ => none) (fun _ _ _ _ h => by cases h) r h
  | k + 1, v, d, p, r, h => by
    refine dp_of (r := _) (fun n a p' hb hp => ?_) r h
    have all : ∀ {vs : List V} {ds : List D} {ps : List PyData}, RpA K β H vs ds → pdM.allS (ds.map (pdM k m)) = some ps → DpAll K H vs ps := by
      intro vs ds
      induction ds generalizing vs with
      | nil =>
        intro ps r h
        cases r
        simp only [List.map_nil, pdM.allS] at h
        cases h
        exact .nil
      | cons d ds ih =>
        intro ps r h
        cases r with
        | cons r1 r2 =>
          rw [List.map_cons] at h
          cases hd : pdM k m d with
          | none => rw [hd] at h; simp only [pdM.allS] at h; cases h
          | some p =>
            rw [hd] at h
            simp only [pdM.allS] at h
            cases hs : pdM.allS (ds.map (pdM k m)) with
            | none => rw [hs] at h; cases h
            | some qs =>
              rw [hs] at h
              cases h
              exact .cons (dp_pdM ok k r1 hd) (ih r2 hs)
    obtain ⟨o, ho, hok⟩ := ok.obj hb
    cases o with
    | lst ds =>
      simp only [ho] at hp
      cases hq : pdM.allS (ds.map (pdM k m)) with
      | none => rw [hq] at hp; cases hp
      | some qs =>
        rw [hq] at hp
        cases hp
        obtain ⟨xs, h1, h2⟩ := hok
        exact .lst (SqL.of h1) (all h2 hq)
    | dct t kvs =>
      simp only [ho] at hp
      cases hp
end
def DEEP : Nat := 3
/-- no dict within, not too deep -/
def flatP (p : PyData) : Bool := p.plain && decide (p.depth ≤ 64)
def gEq : D → D → M → Res D := fun a b m => match pdM DEEP m a, pdM DEEP m b with
  | some p, some q => if flatP p && flatP q then .ok (.bl (PyData.eqv p q)) m else .bad
  | _, _ => .bad
def gNe : D → D → M → Res D := fun a b m => match pdM DEEP m a, pdM DEEP m b with
  | some p, some q => if flatP p && flatP q then .ok (.bl (!PyData.eqv p q)) m else .bad
  | _, _ => .bad
def rSame (K : PySem.W.Frag) (g : Bool → Bool) : R2 := fun x y H Q => ∃ d e, Dp K H x d ∧ Dp K H y e ∧ flatP d = true ∧ flatP e = true ∧ Q (.bl (g (PyData.eqv d e))) H
theorem flat_room {X : Cx} {d e : PyData} (hu : X.A.units + 64 < cLine) (h : flatP d = true) : X.A.units + min d.depth e.depth < cLine := by
  have h1 : d.depth ≤ 64 := of_decide_eq_true (Bool.and_eq_true_iff.mp h).2
  have := Nat.min_le_left d.depth e.depth
  omega
theorem op_same {X : Cx} (hu : X.A.units + 64 < cLine) : OpR X (compareOp .Eq) (rSame X.K id) := by
  rintro pins s σ H x y v u Q I rx ry ⟨d, e, hd, he, fd, fe, q⟩
  obtain ⟨as, r1⟩ := Dp.reads I d x v hd rx
  obtain ⟨bs, r2⟩ := Dp.reads I e y u he ry
  exact SeqAt.eq_plain r1 r2 (Bool.and_eq_true_iff.mp fd).1 (Bool.and_eq_true_iff.mp fe).1 (flat_room hu fd) ⟨.bl _, H, I, rfl, q⟩
theorem op_other {X : Cx} (hu : X.A.units + 64 < cLine) : OpR X (compareOp .NotEq) (rSame X.K not) := by
  rintro pins s σ H x y v u Q I rx ry ⟨d, e, hd, he, fd, fe, q⟩
  obtain ⟨as, r1⟩ := Dp.reads I d x v hd rx
  obtain ⟨bs, r2⟩ := Dp.reads I e y u he ry
  exact SeqAt.ne_plain r1 r2 (Bool.and_eq_true_iff.mp fd).1 (Bool.and_eq_true_iff.mp fe).1 (flat_room hu fd) ⟨.bl _, H, I, rfl, q⟩
theorem opd_eq {K : PySem.W.Frag} : OpD K (rSame K id) gEq := by
  intro Wx β H m x y a b Q ok ra rb h
  unfold gEq at h
  split at h
  · rename_i p q hp hq
    split at h
    · rename_i hs
      rw [Bool.and_eq_true] at hs
      exact ⟨p, q, dp_pdM ok _ ra hp, dp_pdM ok _ rb hq, hs.1, hs.2, h.here ok _ (.bl _)⟩
    · exact h.elim
  · exact h.elim
theorem opd_ne {K : PySem.W.Frag} : OpD K (rSame K not) gNe := by
  intro Wx β H m x y a b Q ok ra rb h
  unfold gNe at h
  split at h
  · rename_i p q hp hq
    split at h
    · rename_i hs
      rw [Bool.and_eq_true] at hs
      exact ⟨p, q, dp_pdM ok _ ra hp, dp_pdM ok _ rb hq, hs.1, hs.2, h.here ok _ (.bl _)⟩
    · exact h.elim
  · exact h.elim
def D.isN : D → Bool
  | .non => true
  | _ => false
def gIsN : D → M → Res D := fun a m => .ok (.bl a.isN) m
def gNotN : D → M → Res D := fun a m => .ok (.bl (!a.isN)) m
def fUn (g : D → M → Res D) (f : FE) : FE := fun ρ m => (f ρ m).bind g
section
variable {X : Cx} {W : WXD} {a b : Expr} {pos : Pos} {fa fb : FE}
theorem pd_eq (hu : X.A.units + 64 < cLine) (ha : PD X W a fa) (hb : PD X W b fb) : PD X W (.Compare a [.Eq] [b] pos) (fOp gEq fa fb) := pd_cmp (op_same hu) opd_eq ha hb (nomark _)
theorem pd_ne (hu : X.A.units + 64 < cLine) (ha : PD X W a fa) (hb : PD X W b fb) : PD X W (.Compare a [.NotEq] [b] pos) (fOp gNe fa fb) := pd_cmp (op_other hu) opd_ne ha hb (nomark _)
theorem ptd_eq (hu : X.A.units + 64 < cLine) (ha : PD X W a fa) (hb : PD X W b fb) : PTD X W (.Compare a [.Eq] [b] pos) (fTest (fOp gEq fa fb)) := ptd_cmp (op_same hu) opd_eq ha hb (nomark _)
theorem ptd_ne (hu : X.A.units + 64 < cLine) (ha : PD X W a fa) (hb : PD X W b fb) : PTD X W (.Compare a [.NotEq] [b] pos) (fTest (fOp gNe fa fb)) := ptd_cmp (op_other hu) opd_ne ha hb (nomark _)
theorem rp_non {K : PySem.W.Frag} {β : List Addr} {H : Hp} {v : V} {d : D} (r : Rp K β H v d) : decide (v = .non) = d.isN := by
  cases r <;> simp [D.isN]
theorem pd_isN {j pos'} (ha : PD X W a fa) : PD X W (.Compare a [.Is] [.Constant .none j pos'] pos) (fUn gIsN fa) := PE.imp (pe_cmp (pc_isN ha) rfl) fun σ H Q q => by
  obtain ⟨β, m, ρ, s, q⟩ := q
  refine td_bind s q fun d m1 v β1 H1 e1 s1 rv q1 => ?_
  rw [rp_non rv]
  exact q1.here s1.me _ (.bl _)
theorem pd_notN {j pos'} (ha : PD X W a fa) : PD X W (.Compare a [.IsNot] [.Constant .none j pos'] pos) (fUn gNotN fa) := PE.imp (pe_cmp (pc_notN ha) rfl) fun σ H Q q => by
  obtain ⟨β, m, ρ, s, q⟩ := q
  refine td_bind s q fun d m1 v β1 H1 e1 s1 rv q1 => ?_
  rw [rp_non rv]
  exact q1.here s1.me _ (.bl _)
def fIsNT (f : FE) : FT := fun ρ m => (f ρ m).bind fun d m => .ok d.isN m
def fNotNT (f : FE) : FT := fun ρ m => (f ρ m).bind fun d m => .ok (!d.isN) m
theorem ptd_isN {j pos'} (ha : PD X W a fa) : PTD X W (.Compare a [.Is] [.Constant .none j pos'] pos) (fIsNT fa) := PT.imp (pt_cmp (pc_isN ha) rfl) fun σ H Q q => by
  obtain ⟨β, m, ρ, s, q⟩ := q
  refine td_bind s q fun d m1 v β1 H1 e1 s1 rv q1 => ?_
  exact ⟨_, rfl, by rw [rp_non rv]; exact q1.here s1.me⟩
theorem ptd_notN {j pos'} (ha : PD X W a fa) : PTD X W (.Compare a [.IsNot] [.Constant .none j pos'] pos) (fNotNT fa) := PT.imp (pt_cmp (pc_notN ha) rfl) fun σ H Q q => by
  obtain ⟨β, m, ρ, s, q⟩ := q
  refine td_bind s q fun d m1 v β1 H1 e1 s1 rv q1 => ?_
  exact ⟨_, rfl, by rw [rp_non rv]; exact q1.here s1.me⟩
end

/-! ### repr -/
def rRepr (K : PySem.W.Frag) : List V → Hp → VK → Prop := fun xs H Q => ∃ v d, xs = [v] ∧ Dp K H v d ∧ d.showable = true ∧ d.hasDict = false ∧ d.depth ≤ 60 ∧ d.shown.length ≤ sizeLine ∧ Q (.str d.shown) H
theorem cr_repr {X : Cx} (hg : X.A.guards = some []) (hu : X.A.units + 64 < cLine) : CallR X (.builtin "repr") (rRepr X.K) := by
  intro pins s σ H xs us Q I rv h
  obtain ⟨v, d, rfl, hd, hs, hn, hdep, hl, q⟩ := h
  obtain ⟨u, rfl, ru⟩ := vals1 rv
  cases hd with
  | non =>
    cases ru
    exact PySem.P.repr_of_none ⟨.str _, H, I.tok _, ⟨_, rfl⟩, q⟩
  | bl b =>
    cases ru
    exact PySem.P.repr_of_bool ⟨.str _, H, I.tok _, ⟨_, rfl⟩, q⟩
  | int i =>
    obtain ⟨t, rfl⟩ := ru
    exact PySem.P.repr_of_int (by simpa [PyData.showable] using hs) ⟨.str _, H, I.tok _, ⟨_, rfl⟩, q⟩
  | str x =>
    obtain ⟨t, rfl⟩ := ru
    exact PySem.P.repr_of_str ⟨.str _, H, I.tok _, ⟨_, rfl⟩, q⟩ hl
  | lst h1 h2 =>
    obtain ⟨as, hr⟩ := Dp.reads I _ _ u (.lst h1 h2) ru
    cases ru
    exact repr_of_reads' hr hs (PyData.noDict_hsm hn) hg (by omega) (fun _ _ h => h) (fun h' u' tk hk => ⟨.str _, H, I.kept (t' := tk) hk, ⟨_, rfl⟩, q⟩) hl
  | tup h1 h2 =>
    obtain ⟨as, hr⟩ := Dp.reads I _ _ u (.tup h1 h2) ru
    cases ru
    exact repr_of_reads' hr hs (PyData.noDict_hsm hn) hg (by omega) (fun _ _ h => h) (fun h' u' tk hk => ⟨.str _, H, I.kept (t' := tk) hk, ⟨_, rfl⟩, q⟩) hl
end Dl

/-! DL5: calls of built-ins by values; isinstance; methods of lists. -/
namespace Dl
open PySem PySem.Spec PyProof.Rows L2

/-! ### by values -/
def CD (K : PySem.W.Frag) (r : List V → Hp → VK → Prop) (g : List D → M → Res D) : Prop :=
  ∀ (Wx : Exn → List Addr → Hp → Prop) (β : List Addr) (H : Hp) (m : M) (vs : List V) (ds : List D) (Q : VK), MOk K β H m → RpA K β H vs ds →
    okD K Wx β H (g ds m) (fun d _ β' H' => ∀ v, Rp K β' H' v d → Q v H') → r vs H Q
/-- of a new list -/
def CDL (K : PySem.W.Frag) (r : List V → Hp → VK → Prop) (g : List D → M → Res D) : Prop :=
  ∀ (Wx : Exn → List Addr → Hp → Prop) (β : List Addr) (H : Hp) (m : M) (p : Addr) (vs : List V) (ds : List D) (Q : VK), MOk K β H m → H p = some (.lst vs) → RpA K β H vs ds →
    okD K Wx β H (g ds m) (fun d _ β' H' => ∀ v, Rp K β' H' v d → Q v H') → r [.ref p] H Q
def fCB (g : List D → M → Res D) (f : FA) : FE := fun ρ m => (f ρ m).bind g
section
variable {X : Cx} {W : WXD} {x : Str} {p pos : Pos} {e : Expr} {es : List Expr} {f : FA} {id T : String} {r : List V → Hp → VK → Prop} {g : List D → M → Res D}
theorem td_cb {K : PySem.W.Frag} (hg : CD K r g) {σ : Sg} {H : Hp} {Q : VK} (q : tD K W (fCB g f) σ H Q) : tCB r (tAD K W f) σ H Q := by
  obtain ⟨β, m, ρ, s, q⟩ := q
  exact tad_bind s q fun ds m1 vs β1 H1 e1 s1 rs q1 => hg _ β1 H1 m1 vs ds Q s1.me rs q1
theorem td_cbL {K : PySem.W.Frag} (hg : CDL K r g) {σ : Sg} {H : Hp} {Q : VK} (q : tD K W (fCB g f) σ H Q) : tCB r (tCons (tLD K W f) tNil) σ H Q := by
  obtain ⟨β, m, ρ, s, q⟩ := q
  show tLD K W f σ H fun x H1 => r [x] H1 Q
  exact tld_bind s q fun ds m1 p xs β1 H1 e1 s1 _ _ hp rs q1 => hg _ β1 H1 m1 p xs ds Q s1.me hp rs (q1.ext e1)
theorem pd_callB (hc : CallR X (.builtin id) r) (hcd : CD X.K r g) (hg : Gl X x) (hm : X.mg x = none) (hv : bootBuiltins x = some (.builtin id)) (ha : PAD X W (e :: es) f) (hn : x ≠ "__name__" := by decide) (hdb : (x == ("__debug__" : Str)) = false := by decide)
    (he : starEach (e :: es) X.env = (false, eval e X.env) :: starEach es X.env := by rfl) (hpl : (backTo pos (starEach es X.env)).any (·.1) = false := by rfl) : PD X W (.Call (.Name x p) (e :: es) [] pos) (fCB g f) :=
  PE.imp (pe_callB hc hg hm hv ha hn hdb he hpl) fun _ _ _ q => td_cb hcd q
theorem pd_callTy (hc : CallR X (.type T) r) (hcd : CD X.K r g) (hg : Gl X x) (hm : X.mg x = none) (hv : bootBuiltins x = some (.type T)) (ha : PAD X W (e :: es) f) (hn : x ≠ "__name__" := by decide) (hdb : (x == ("__debug__" : Str)) = false := by decide)
    (he : starEach (e :: es) X.env = (false, eval e X.env) :: starEach es X.env := by rfl) (hpl : (backTo pos (starEach es X.env)).any (·.1) = false := by rfl) : PD X W (.Call (.Name x p) (e :: es) [] pos) (fCB g f) :=
  PE.imp (pe_callTy hc hg hm hv ha hn hdb he hpl) fun _ _ _ q => td_cb hcd q
theorem pd_callBL (hc : CallR X (.builtin id) r) (hcd : CDL X.K r g) (hg : Gl X x) (hm : X.mg x = none) (hv : bootBuiltins x = some (.builtin id)) (ha : PLD X W e f) (hn : x ≠ "__name__" := by decide) (hdb : (x == ("__debug__" : Str)) = false := by decide)
    (he : starEach [e] X.env = (false, eval e X.env) :: starEach [] X.env := by rfl) : PD X W (.Call (.Name x p) [e] [] pos) (fCB g f) :=
  PE.imp (pe_callB hc hg hm hv (pa_cons ha pa_nil he) hn hdb he rfl) fun _ _ _ q => td_cbL hcd q
theorem pd_callTyL (hc : CallR X (.type T) r) (hcd : CDL X.K r g) (hg : Gl X x) (hm : X.mg x = none) (hv : bootBuiltins x = some (.type T)) (ha : PLD X W e f) (hn : x ≠ "__name__" := by decide) (hdb : (x == ("__debug__" : Str)) = false := by decide)
    (he : starEach [e] X.env = (false, eval e X.env) :: starEach [] X.env := by rfl) : PD X W (.Call (.Name x p) [e] [] pos) (fCB g f) :=
  PE.imp (pe_callTy hc hg hm hv (pa_cons ha pa_nil he) hn hdb he rfl) fun _ _ _ q => td_cbL hcd q
end

/-! ### what built-ins give -/
def itemsD (m : M) : D → Option (List D)
  | .tup ds => some ds
  | .rol ds => some ds
  | .ref n => match m[n]? with
    | some (.lst ds) => some ds
    | _ => none
  | _ => none
section
variable {K : PySem.W.Frag} {β : List Addr} {H : Hp} {m : M}
theorem items_of' (ok : MOk K β H m) {v : V} {d : D} {ds : List D} (r : Rp K β H v d) (h : itemsD m d = some ds) : ∃ p xs, v = .ref p ∧ (SqL K H p xs ∨ H p = some (.tup xs)) ∧ RpA K β H xs ds := by
  cases r with
  | tup hs rs => simp only [itemsD] at h; cases h; exact ⟨_, _, rfl, .inr hs, rs⟩
  | rol hs rs => simp only [itemsD] at h; cases h; exact ⟨_, _, rfl, .inl hs.sql, rs⟩
  | ref hb =>
    obtain ⟨o, ho, hok⟩ := ok.obj hb
    simp only [itemsD, ho] at h
    cases o with
    | lst es =>
      cases h
      obtain ⟨xs, h1, h2⟩ := hok
      exact ⟨_, _, rfl, .inl (SqL.of h1), h2⟩
    | dct t kvs => cases h
  | non => simp only [itemsD] at h; cases h
  | bl _ => simp only [itemsD] at h; cases h
  | int _ => simp only [itemsD] at h; cases h
  | str _ => simp only [itemsD] at h; cases h
  | ty _ => simp only [itemsD] at h; cases h
theorem items_of (ok : MOk K β H m) {v : V} {d : D} {ds : List D} (r : Rp K β H v d) (h : itemsD m d = some ds) : ∃ p xs, v = .ref p ∧ (SqL K H p xs ∨ SqT K H p xs) ∧ RpA K β H xs ds := by
  obtain ⟨p, xs, e, hs, r'⟩ := items_of' ok r h
  rcases hs with hs | hs
  · exact ⟨p, xs, e, .inl hs, r'⟩
  · exact ⟨p, xs, e, .inr (SqT.of hs), r'⟩
theorem RpA.one {xs : List V} {d : D} (r : RpA K β H xs [d]) : ∃ v, xs = [v] ∧ Rp K β H v d := by
  cases r with
  | cons h t => cases t; exact ⟨_, rfl, h⟩
theorem RpA.two {xs : List V} {d e : D} (r : RpA K β H xs [d, e]) : ∃ v w, xs = [v, w] ∧ Rp K β H v d ∧ Rp K β H w e := by
  cases r with
  | cons h t =>
    obtain ⟨w, rfl, h2⟩ := t.one
    exact ⟨_, w, rfl, h, h2⟩
end
/-- len -/
def gLen : List D → M → Res D := fun ds m => match ds with
  | [d] => match itemsD m d with
    | some xs => .ok (.int xs.length) m
    | none => match d with
      | .str z => if z.length ≤ LIM then .ok (.int z.length) m else .bad
      | _ => .bad
  | _ => .bad
def rLenD (K : PySem.W.Frag) : List V → Hp → VK → Prop := fun xs H Q => (∃ p ys, xs = [.ref p] ∧ (SqL K H p ys ∨ SqT K H p ys) ∧ Q (.int ys.length) H) ∨ ∃ z, xs = [.str z] ∧ z.length ≤ sizeLine ∧ Q (.int z.length) H
theorem cr_len {X : Cx} : CallR X (.builtin "len") (rLenD X.K) := CallR.or call_len_seq call_len_str
theorem cd_len {K : PySem.W.Frag} : CD K (rLenD K) gLen := by
  intro Wx β H m vs ds Q ok rs h
  unfold gLen at h
  split at h
  · rename_i d
    obtain ⟨v, rfl, rv⟩ := rs.one
    split at h
    · rename_i xs hx
      obtain ⟨p, ys, rfl, hs, ry⟩ := items_of ok rv hx
      exact .inl ⟨p, ys, rfl, hs, h.here ok _ (by rw [ry.length]; exact .int _)⟩
    · split at h
      · rename_i z
        split at h
        · rename_i hl
          cases rv
          exact .inr ⟨_, rfl, lim_le hl, h.here ok _ (.int _)⟩
        · exact h.elim
      · exact h.elim
  · exact h.elim
/-- len of a new list -/
def gLenL : List D → M → Res D := fun ds m => .ok (.int ds.length) m
theorem cdl_len {K : PySem.W.Frag} : CDL K (rLenD K) gLenL := fun Wx β H m p vs ds Q ok hp rs h => .inl ⟨p, vs, rfl, .inl (SqL.of hp), h.here ok _ (by rw [rs.length]; exact .int _)⟩
/-- tuple -/
def gTuple : List D → M → Res D := fun ds m => match ds with
  | [d] => match itemsD m d with
    | some xs => .ok (.tup xs) m
    | none => .bad
  | _ => .bad
def rTupleD (K : PySem.W.Frag) : List V → Hp → VK → Prop := fun xs H Q => ∃ p ys, xs = [.ref p] ∧ ((SqL K H p ys ∧ ∀ l, H l = none → Q (.ref l) (upd H l (.tup ys))) ∨ (SqT K H p ys ∧ Q (.ref p) H))
theorem cd_tuple {K : PySem.W.Frag} : CD K (rTupleD K) gTuple := by
  intro Wx β H m vs ds Q ok rs h
  unfold gTuple at h
  split at h
  · rename_i d
    obtain ⟨v, rfl, rv⟩ := rs.one
    split at h
    · rename_i xs hx
      obtain ⟨p, ys, rfl, hs, ry⟩ := items_of' ok rv hx
      refine ⟨p, ys, rfl, ?_⟩
      rcases hs with hs | hs
      · exact .inl ⟨hs, fun l hl => h β _ (Ext.upd_new hl) (ok.upd_new hl) _ (.tup upd_same (ry.ext (Ext.upd_new hl)))⟩
      · exact .inr ⟨SqT.of hs, h.here ok _ (.tup hs ry)⟩
    · exact h.elim
  · exact h.elim
def gTupleL : List D → M → Res D := fun ds m => .ok (.tup ds) m
theorem cdl_tuple {K : PySem.W.Frag} : CDL K (rTupleD K) gTupleL := fun Wx β H m p vs ds Q ok hp rs h =>
  ⟨p, vs, rfl, .inl ⟨SqL.of hp, fun l hl => h β _ (Ext.upd_new hl) (ok.upd_new hl) _ (.tup upd_same (rs.ext (Ext.upd_new hl)))⟩⟩
/-- list(x): a new list, named -/
def gList : List D → M → Res D := fun ds m => match ds with
  | [d] => match itemsD m d with
    | some xs => .ok (.ref m.length) (m ++ [.lst xs])
    | none => .bad
  | _ => .bad
def rListD (K : PySem.W.Frag) : List V → Hp → VK → Prop := fun xs H Q => ∃ p ys, xs = [.ref p] ∧ (SqL K H p ys ∨ SqT K H p ys) ∧ ∀ l, H l = none → Q (.ref l) (upd H l (.lst ys))
theorem cd_list {K : PySem.W.Frag} : CD K (rListD K) gList := by
  intro Wx β H m vs ds Q ok rs h
  unfold gList at h
  split at h
  · rename_i d
    obtain ⟨v, rfl, rv⟩ := rs.one
    split at h
    · rename_i xs hx
      obtain ⟨p, ys, rfl, hs, ry⟩ := items_of ok rv hx
      exact ⟨p, ys, rfl, hs, fun l hl => h (β ++ [l]) _ (Ext.lay hl) (ok.lay hl ry) _ (Rp.last ok)⟩
    · exact h.elim
  · exact h.elim
/-- numbers and truth values of a list -/
def intsD : List D → Option (List Int)
  | [] => some []
  | .int i :: r => (intsD r).map (i :: ·)
  | _ :: _ => none
def blsD : List D → Option (List Bool)
  | [] => some []
  | .bl b :: r => (blsD r).map (b :: ·)
  | _ :: _ => none
theorem ints_of {K : PySem.W.Frag} {β : List Addr} {H : Hp} : ∀ {ds : List D} {xs : List V} {ns : List Int}, RpA K β H xs ds → intsD ds = some ns → xs = ns.map V.int
  | [], _, _, r, h => by
    cases r
    simp only [intsD] at h
    cases h
    rfl
  | d :: ds, _, _, r, h => by
    cases r with
    | cons r1 r2 =>
      cases d with
      | int i =>
        simp only [intsD] at h
        cases hq : intsD ds with
        | none => rw [hq] at h; cases h
        | some ns =>
          rw [hq] at h
          cases h
          cases r1
          rw [ints_of r2 hq]
          rfl
      | non => simp only [intsD] at h; cases h
      | bl _ => simp only [intsD] at h; cases h
      | str _ => simp only [intsD] at h; cases h
      | tup _ => simp only [intsD] at h; cases h
      | rol _ => simp only [intsD] at h; cases h
      | ref _ => simp only [intsD] at h; cases h
      | ty _ => simp only [intsD] at h; cases h
theorem bls_of {K : PySem.W.Frag} {β : List Addr} {H : Hp} : ∀ {ds : List D} {xs : List V} {ns : List Bool}, RpA K β H xs ds → blsD ds = some ns → xs = ns.map V.bl
  | [], _, _, r, h => by
    cases r
    simp only [blsD] at h
    cases h
    rfl
  | d :: ds, _, _, r, h => by
    cases r with
    | cons r1 r2 =>
      cases d with
      | bl i =>
        simp only [blsD] at h
        cases hq : blsD ds with
        | none => rw [hq] at h; cases h
        | some ns =>
          rw [hq] at h
          cases h
          cases r1
          rw [bls_of r2 hq]
          rfl
      | non => simp only [blsD] at h; cases h
      | int _ => simp only [blsD] at h; cases h
      | str _ => simp only [blsD] at h; cases h
      | tup _ => simp only [blsD] at h; cases h
      | rol _ => simp only [blsD] at h; cases h
      | ref _ => simp only [blsD] at h; cases h
      | ty _ => simp only [blsD] at h; cases h
/-- all, any of a new list -/
def gAllL : List D → M → Res D := fun ds m => match blsD ds with
  | some bs => .ok (.bl (bs.all id)) m
  | none => .bad
def gAnyL : List D → M → Res D := fun ds m => match blsD ds with
  | some bs => .ok (.bl (bs.any id)) m
  | none => .bad
theorem cdl_all {K : PySem.W.Frag} : CDL K (rAll K) gAllL := fun Wx β H m p vs ds Q ok hp rs h => by
  unfold gAllL at h
  split at h
  · rename_i bs hb
    rw [bls_of rs hb] at hp
    exact ⟨p, bs, rfl, SqL.of hp, h.here ok _ (.bl _)⟩
  · exact h.elim
theorem cdl_any {K : PySem.W.Frag} : CDL K (rAny K) gAnyL := fun Wx β H m p vs ds Q ok hp rs h => by
  unfold gAnyL at h
  split at h
  · rename_i bs hb
    rw [bls_of rs hb] at hp
    exact ⟨p, bs, rfl, SqL.of hp, h.here ok _ (.bl _)⟩
  · exact h.elim
/-- the greatest, the least of some numbers -/
def maxI : Int → List Int → Int
  | a, [] => a
  | a, b :: r => maxI (if b > a then b else a) r
def minI : Int → List Int → Int
  | a, [] => a
  | a, b :: r => minI (if b < a then b else a) r
theorem maxI_mem : ∀ (a : Int) (r : List Int), maxI a r ∈ a :: r ∧ ∀ y ∈ a :: r, y ≤ maxI a r
  | a, [] => by simp [maxI]
  | a, b :: r => by
    unfold maxI
    by_cases hc : b > a
    · rw [if_pos hc]
      obtain ⟨h1, h2⟩ := maxI_mem b r
      refine ⟨List.mem_cons_of_mem _ h1, fun y hy => ?_⟩
      rcases List.mem_cons.mp hy with h | hy
      · have h0 := h2 b List.mem_cons_self
        omega
      · exact h2 y hy
    · rw [if_neg hc]
      obtain ⟨h1, h2⟩ := maxI_mem a r
      refine ⟨?_, fun y hy => ?_⟩
      · rcases List.mem_cons.mp h1 with h | h
        · rw [h]; exact List.mem_cons_self
        · exact List.mem_cons_of_mem _ (List.mem_cons_of_mem _ h)
      · have h0 := h2 a List.mem_cons_self
        rcases List.mem_cons.mp hy with h | hy
        · omega
        · rcases List.mem_cons.mp hy with h | hy
          · omega
          · exact h2 y (List.mem_cons_of_mem _ hy)
def gMaxL : List D → M → Res D := fun ds m => match intsD ds with
  | some (a :: r) => .ok (.int (maxI a r)) m
  | _ => .bad
theorem cdl_max {K : PySem.W.Frag} : CDL K (rMax K) gMaxL := fun Wx β H m p vs ds Q ok hp rs h => by
  unfold gMaxL at h
  split at h
  · rename_i a r hi
    rw [ints_of rs hi] at hp
    refine ⟨p, _, rfl, SqL.of hp, by simp, fun n hn ha => ?_⟩
    have hm := maxI_mem a r
    have e : n = maxI a r := Int.le_antisymm (hm.2 n hn) (ha _ hm.1)
    rw [e]
    exact h.here ok _ (.int _)
  · exact h.elim
def gSumL : List D → M → Res D := fun ds m => match intsD ds with
  | some ns => .ok (.int ns.sum) m
  | _ => .bad
theorem cdl_sum {K : PySem.W.Frag} : CDL K (rSum K) gSumL := fun Wx β H m p vs ds Q ok hp rs h => by
  unfold gSumL at h
  split at h
  · rename_i ns hi
    rw [ints_of rs hi] at hp
    exact ⟨p, _, rfl, SqL.of hp, h.here ok _ (.int _)⟩
  · exact h.elim
def gMin2 : List D → M → Res D := fun ds m => match ds with
  | [.int i, .int j] => .ok (.int (if j < i then j else i)) m
  | _ => .bad
def gMax2 : List D → M → Res D := fun ds m => match ds with
  | [.int i, .int j] => .ok (.int (if j > i then j else i)) m
  | _ => .bad
def rMin2 : List V → Hp → VK → Prop := fun xs H Q => ∃ i j, xs = [.int i, .int j] ∧ Q (.int (if j < i then j else i)) H
def rMax2 : List V → Hp → VK → Prop := fun xs H Q => ∃ i j, xs = [.int i, .int j] ∧ Q (.int (if j > i then j else i)) H
theorem cd_min2 {K : PySem.W.Frag} : CD K rMin2 gMin2 := fun Wx β H m vs ds Q ok rs h => by
  unfold gMin2 at h
  split at h
  · obtain ⟨v, w, rfl, r1, r2⟩ := rs.two
    cases r1
    cases r2
    exact ⟨_, _, rfl, h.here ok _ (.int _)⟩
  · exact h.elim
theorem cd_max2 {K : PySem.W.Frag} : CD K rMax2 gMax2 := fun Wx β H m vs ds Q ok rs h => by
  unfold gMax2 at h
  split at h
  · obtain ⟨v, w, rfl, r1, r2⟩ := rs.two
    cases r1
    cases r2
    exact ⟨_, _, rfl, h.here ok _ (.int _)⟩
  · exact h.elim
def gAbs : List D → M → Res D := fun ds m => match ds with
  | [.int i] => .ok (.int (if i < 0 then -i else i)) m
  | _ => .bad
theorem cd_abs {K : PySem.W.Frag} : CD K (fun xs H Q => ∃ i, xs = [.int i] ∧ Q (.int (if i < 0 then -i else i)) H) gAbs := fun Wx β H m vs ds Q ok rs h => by
  unfold gAbs at h
  split at h
  · obtain ⟨v, rfl, r1⟩ := rs.one
    cases r1
    exact ⟨_, rfl, h.here ok _ (.int _)⟩
  · exact h.elim
def gInt : List D → M → Res D := fun ds m => match ds with
  | [.int i] => .ok (.int i) m
  | [.bl k] => .ok (.int (if k then 1 else 0)) m
  | _ => .bad
theorem cd_int {K : PySem.W.Frag} : CD K (fun xs H Q => (∃ i, xs = [.int i] ∧ Q (.int i) H) ∨ ∃ k, xs = [.bl k] ∧ Q (.int (if k then 1 else 0)) H) gInt := fun Wx β H m vs ds Q ok rs h => by
  unfold gInt at h
  split at h
  · obtain ⟨v, rfl, r1⟩ := rs.one
    cases r1
    exact .inl ⟨_, rfl, h.here ok _ (.int _)⟩
  · obtain ⟨v, rfl, r1⟩ := rs.one
    cases r1
    exact .inr ⟨_, rfl, h.here ok _ (.int _)⟩
  · exact h.elim
def gRepr : List D → M → Res D := fun ds m => match ds with
  | [d] => match pdM DEEP m d with
    | some p => if p.showable && !p.hasDict && decide (p.depth ≤ 60) && decide (p.shown.length ≤ sizeLine) then .ok (.str p.shown) m else .bad
    | none => .bad
  | _ => .bad
theorem cd_repr {K : PySem.W.Frag} : CD K (rRepr K) gRepr := fun Wx β H m vs ds Q ok rs h => by
  unfold gRepr at h
  split at h
  · obtain ⟨v, rfl, r1⟩ := rs.one
    split at h
    · rename_i p hp
      split at h
      · rename_i hc
        simp only [Bool.and_eq_true, Bool.not_eq_true', decide_eq_true_eq] at hc
        exact ⟨v, p, rfl, dp_pdM ok _ r1 hp, hc.1.1.1, hc.1.1.2, hc.1.2, hc.2, h.here ok _ (.str _)⟩
      · exact h.elim
    · exact h.elim
  · exact h.elim
/-! ### isinstance with types -/
def tyD (m : M) : D → Option String
  | .non => some "NoneType"
  | .bl _ => some "bool"
  | .int _ => some "int"
  | .str _ => some "str"
  | .tup _ => some "tuple"
  | .rol _ => some "list"
  | .ref n => match m[n]? with
    | some (.lst _) => some "list"
    | _ => none
  | .ty _ => none
theorem ty_of {K : PySem.W.Frag} {β : List Addr} {H : Hp} {m : M} (ok : MOk K β H m) {v : V} {d : D} {t : String} (r : Rp K β H v d) (h : tyD m d = some t) : TyX K H v (.type t) := by
  cases r with
  | non => simp only [tyD] at h; cases h; exact .base .non
  | bl b => simp only [tyD] at h; cases h; exact .base (.bl b)
  | int i => simp only [tyD] at h; cases h; exact .base (.int i)
  | str x => simp only [tyD] at h; cases h; exact .base (.str x)
  | tup hs _ =>
    simp only [tyD] at h
    cases h
    exact .base (.tup hs)
  | rol hs _ =>
    simp only [tyD] at h
    cases h
    rcases hs with ⟨o, hs⟩ | ⟨o, _, _, hk, hc, _⟩
    · exact .base (.frz hs)
    · exact .kList hk hc
  | ref hb =>
    obtain ⟨o, ho, hok⟩ := ok.obj hb
    cases o with
    | lst es =>
      simp only [tyD, ho] at h
      cases h
      obtain ⟨xs, h1, _⟩ := hok
      exact .base (.lst h1)
    | dct t kvs =>
      simp only [tyD, ho] at h
      cases h
  | ty _ => simp only [tyD] at h; cases h
def fIsi (T : String) (f : FE) : FE := fun ρ m => (f ρ m).bind fun d m => match tyD m d with
  | some t => match kitB t T with
    | some b => .ok (.bl b) m
    | none => .bad
  | none => .bad
def isi2 (t T1 T2 : String) : Option Bool := match kitB t T1, kitB t T2 with
  | some a, some b => some (a || b)
  | _, _ => none
def fIsi2 (T1 T2 : String) (f : FE) : FE := fun ρ m => (f ρ m).bind fun d m => match tyD m d with
  | some t => match isi2 t T1 T2 with
    | some b => .ok (.bl b) m
    | none => .bad
  | none => .bad
theorem pd_isi {X : Cx} {W : WXD} {e : Expr} {f : FE} {T : String} {x : Str} {p p2 pos : Pos} (hg : Gl X "isinstance") (hm : X.mg "isinstance" = none) (hgT : Gl X x) (hmT : X.mg x = none) (hvT : bootBuiltins x = some (.type T)) (he : PD X W e f)
    (hn : x ≠ "__name__" := by decide) (hd : (x == ("__debug__" : Str)) = false := by decide)
    (hs : starEach [e, .Name x p2] X.env = (false, eval e X.env) :: starEach [.Name x p2] X.env := by rfl) (hs2 : starEach [.Name x p2] X.env = (false, eval (.Name x p2) X.env) :: starEach [] X.env := by rfl)
    (hpl : (backTo pos (starEach [.Name x p2] X.env)).any (·.1) = false := by rfl) : PD X W (.Call (.Name "isinstance" p) [e, .Name x p2] [] pos) (fIsi T f) :=
  PE.imp (pe_callB call_isi hg hm (by decide +kernel) (pa_cons he (pa_cons (pe_bltn (v := .ty T) hgT hmT hvT rfl hn hd) pa_nil hs2) hs) (he := hs) (hpl := hpl)) fun σ H Q q => by
    obtain ⟨β, m, ρ, s, q⟩ := q
    refine td_bind s q fun d m1 v β1 H1 e1 s1 rv q1 => ?_
    split at q1
    · rename_i t ht
      split at q1
      · rename_i b hb
        exact ⟨v, .ty T, .type t, .type T, b, rfl, .ty T, ty_of s1.me rv ht, kit_ty hb, q1.here s1.me _ (.bl b)⟩
      · exact q1.elim
    · exact q1.elim
theorem kit2 {K : PySem.W.Frag} {t T1 T2 : String} {b : Bool} (h : isi2 t T1 T2 = some b) : PySem.W.kitAny K (.type t) [.type T1, .type T2] = some b := by
  unfold isi2 at h
  split at h
  · rename_i a c h1 h2
    cases h
    refine kitAny_cons (kit_ty h1) (fun ha => ?_) (fun ha => by rw [ha]; rfl)
    rw [ha, Bool.false_or]
    exact kitAny_cons (kit_ty h2) (fun hc => by rw [hc]; exact kitAny_nil) (fun hc => hc)
  · cases h
theorem pd_isi2 {X : Cx} {W : WXD} {e : Expr} {f : FE} {T1 T2 : String} {x y : Str} {p p2 p3 p4 pos : Pos} {k : Nat} (hg : Gl X "isinstance") (hm : X.mg "isinstance" = none) (hgT : Gl X x) (hmT : X.mg x = none) (hvT : bootBuiltins x = some (.type T1))
    (hgU : Gl X y) (hmU : X.mg y = none) (hvU : bootBuiltins y = some (.type T2)) (he : PD X W e f)
    (hn : x ≠ "__name__" := by decide) (hd : (x == ("__debug__" : Str)) = false := by decide) (hn' : y ≠ "__name__" := by decide) (hd' : (y == ("__debug__" : Str)) = false := by decide)
    (hs : starEach [e, .Tuple [.Name x p2, .Name y p3] k p4] X.env = (false, eval e X.env) :: starEach [.Tuple [.Name x p2, .Name y p3] k p4] X.env := by rfl)
    (hs2 : starEach [.Tuple [.Name x p2, .Name y p3] k p4] X.env = (false, eval (.Tuple [.Name x p2, .Name y p3] k p4) X.env) :: starEach [] X.env := by rfl)
    (hs3 : starEach [.Name x p2, .Name y p3] X.env = (false, eval (.Name x p2) X.env) :: starEach [.Name y p3] X.env := by rfl) (hs4 : starEach [.Name y p3] X.env = (false, eval (.Name y p3) X.env) :: starEach [] X.env := by rfl)
    (hpl : (backTo pos (starEach [.Tuple [.Name x p2, .Name y p3] k p4] X.env)).any (·.1) = false := by rfl) : PD X W (.Call (.Name "isinstance" p) [e, .Tuple [.Name x p2, .Name y p3] k p4] [] pos) (fIsi2 T1 T2 f) :=
  PE.imp (pe_callB call_isiT hg hm (by decide +kernel) (pa_cons he (pa_cons (pe_tup (pa_cons (pe_bltn (v := .ty T1) hgT hmT hvT rfl hn hd) (pa_cons (pe_bltn (v := .ty T2) hgU hmU hvU rfl hn' hd') pa_nil hs4) hs3)) pa_nil hs2) hs) (he := hs) (hpl := hpl)) fun σ H Q q => by
    obtain ⟨β, m, ρ, s, q⟩ := q
    refine td_bind s q fun d m1 v β1 H1 e1 s1 rv q1 => ?_
    refine ⟨by show 2 ≤ sizeLine; decide, fun tp htp => ?_⟩
    split at q1
    · rename_i t ht
      split at q1
      · rename_i b hb
        exact ⟨v, tp, [.ty T1, .ty T2], .type t, [.type T1, .type T2], b, rfl, upd_same, .cons (.ty T1) (.cons (.ty T2) .nil), ty_of (s1.me.upd_new htp) (rv.ext (Ext.upd_new htp)) ht, kit2 hb,
          q1 β1 _ (Ext.upd_new htp) (s1.me.upd_new htp) _ (.bl b)⟩
      · exact q1.elim
    · exact q1.elim
end Dl

/-! DL6: statements, targets, loops. -/
namespace Dl
open PySem PySem.Spec PyProof.Rows L2

inductive Out where
  | nx (ρ : Sl) (m : M)
  | rt (d : D) (m : M)
  | bk (ρ : Sl) (m : M)
  | ct (ρ : Sl) (m : M)
  | exc (ρ : Sl) (e : Exn) (m : M)
  | bad
abbrev FS := Sl → M → Out
def okS (K : PySem.W.Frag) (W : WXD) (β : List Addr) (H : Hp) (r : Out) (E : Ends) : Prop := match r with
  | .nx ρ m => ∀ β' H' σ', Ext β β' H H' → Stt K β' H' σ' ρ m → E.nx σ' H'
  | .rt d m => ∀ β' H' v, Ext β β' H H' → MOk K β' H' m → Rp K β' H' v d → E.rt v H'
  | .bk ρ m => ∀ β' H' σ', Ext β β' H H' → Stt K β' H' σ' ρ m → E.bk σ' H'
  | .ct ρ m => ∀ β' H' σ', Ext β β' H H' → Stt K β' H' σ' ρ m → E.ct σ' H'
  | .exc ρ e m => ∀ β' H' σ', Ext β β' H H' → Stt K β' H' σ' ρ m → W σ' e β' H'
  | .bad => False
def tSD (K : PySem.W.Frag) (W : WXD) (g : FS) : TS := fun E σ H => ∃ β m ρ, Stt K β H σ ρ m ∧ okS K W β H (g ρ m) E
abbrev PSD (X : Cx) (W : WXD) (st : Stmt) (g : FS) : Prop := PS X st (tSD X.K W g)
abbrev PSsD (X : Cx) (W : WXD) (st : List Stmt) (g : FS) : Prop := PSs X st (tSD X.K W g)

def Res.out {α : Type} (r : Res α) (ρ : Sl) (k : α → M → Out) : Out := match r with
  | .ok a m => k a m
  | .exc e m => .exc ρ e m
  | .bad => .bad
@[simp] theorem out_ok {α : Type} (a : α) (m : M) (ρ : Sl) (k : α → M → Out) : (Res.ok a m).out ρ k = k a m := nrfl rfl
@[simp] theorem out_exc {α : Type} (e : Exn) (m : M) (ρ : Sl) (k : α → M → Out) : (Res.exc e m : Res α).out ρ k = .exc ρ e m := nrfl rfl
@[simp] theorem out_bad {α : Type} (ρ : Sl) (k : α → M → Out) : (Res.bad : Res α).out ρ k = .bad := nrfl rfl
section
variable {K : PySem.W.Frag} {W : WXD} {β β' : List Addr} {H H' : Hp} {σ : Sg} {ρ : Sl} {m : M} {E : Ends}
theorem okS.ext {r : Out} (e : Ext β β' H H') (h : okS K W β H r E) : okS K W β' H' r E := by
  cases r with
  | nx ρ m => exact fun β2 H2 σ2 e2 s => h β2 H2 σ2 (e.trans e2) s
  | rt d m => exact fun β2 H2 v e2 ok r => h β2 H2 v (e.trans e2) ok r
  | bk ρ m => exact fun β2 H2 σ2 e2 s => h β2 H2 σ2 (e.trans e2) s
  | ct ρ m => exact fun β2 H2 σ2 e2 s => h β2 H2 σ2 (e.trans e2) s
  | exc ρ ee m => exact fun β2 H2 σ2 e2 s => h β2 H2 σ2 (e.trans e2) s
  | bad => exact h
theorem okS.bind {α : Type} {r : Res α} {k : α → M → Out} (s : Stt K β H σ ρ m) (h : okS K W β H (r.out ρ k) E) : okD K (W σ) β H r fun d m' β' H' => okS K W β' H' (k d m') E := by
  cases r with
  | ok d m => exact fun β' H' e ok => okS.ext e h
  | exc e m => exact fun β' H' e1 ok => h β' H' σ e1 (s.ext e1 ok)
  | bad => exact h
theorem ts_bind {f : FE} {k : D → M → Out} {R : V → Hp → Prop} (s : Stt K β H σ ρ m) (h : okS K W β H ((f ρ m).out ρ k) E)
    (q : ∀ d m1 v β1 H1, Ext β β1 H H1 → Stt K β1 H1 σ ρ m1 → Rp K β1 H1 v d → okS K W β1 H1 (k d m1) E → R v H1) : tD K W f σ H R :=
  ⟨β, m, ρ, s, (h.bind s).imp fun d m1 β1 H1 _ e ok hh v hv => q d m1 v β1 H1 e (s.ext e ok) hv hh⟩
theorem tst_bind {f : FT} {k : Bool → M → Out} {R : Bool → Hp → Prop} (s : Stt K β H σ ρ m) (h : okS K W β H ((f ρ m).out ρ k) E)
    (q : ∀ b m1 β1 H1, Ext β β1 H H1 → Stt K β1 H1 σ ρ m1 → okS K W β1 H1 (k b m1) E → R b H1) : tTD K W f σ H R :=
  ⟨β, m, ρ, s, (h.bind s).imp fun d m1 β1 H1 _ e ok hh => q d m1 β1 H1 e (s.ext e ok) hh⟩
theorem tsa_bind {f : FA} {k : List D → M → Out} {R : List V → Hp → Prop} (s : Stt K β H σ ρ m) (h : okS K W β H ((f ρ m).out ρ k) E)
    (q : ∀ ds m1 vs β1 H1, Ext β β1 H H1 → Stt K β1 H1 σ ρ m1 → RpA K β1 H1 vs ds → okS K W β1 H1 (k ds m1) E → R vs H1) : tAD K W f σ H R :=
  ⟨β, m, ρ, s, (h.bind s).imp fun d m1 β1 H1 _ e ok hh v hv => q d m1 v β1 H1 e (s.ext e ok) hv hh⟩
theorem tsl_bind {f : FA} {k : List D → M → Out} {R : V → Hp → Prop} (s : Stt K β H σ ρ m) (h : okS K W β H ((f ρ m).out ρ k) E)
    (q : ∀ ds m1 p xs β1 H1, Ext β β1 H H1 → Stt K β1 H1 σ ρ m1 → H p = none → p ∉ β1 → H1 p = some (.lst xs) → RpA K β1 H1 xs ds → okS K W β H (k ds m1) E → R (.ref p) H1) : tLD K W f σ H R := by
  refine ⟨β, m, ρ, s, ?_⟩
  cases hf : f ρ m with
  | ok ds m1 =>
    rw [hf] at h
    exact fun β1 H1 e ok p xs h1 h2 h3 h4 => q ds m1 p xs β1 H1 e (s.ext e ok) h1 h2 h3 h4 h
  | exc e m1 => rw [hf] at h; exact fun β1 H1 e1 ok => h β1 H1 σ e1 (s.ext e1 ok)
  | bad => rw [hf] at h; exact h
end

/-! ### small statements -/
def sNext : FS := fun ρ m => .nx ρ m
def sSeq (g h : FS) : FS := fun ρ m => match g ρ m with
  | .nx ρ' m' => h ρ' m'
  | o => o
def sBreak : FS := fun ρ m => .bk ρ m
def sCont : FS := fun ρ m => .ct ρ m
def sNever : FS := fun _ _ => .bad
def sDrop (f : FE) : FS := fun ρ m => (f ρ m).out ρ fun _ m' => .nx ρ m'
def sRet (f : FE) : FS := fun ρ m => (f ρ m).out ρ fun d m' => .rt d m'
def sRetN : FS := fun _ m => .rt .non m
def sIf (t : FT) (g h : FS) : FS := fun ρ m => (t ρ m).out ρ fun b m' => if b then g ρ m' else h ρ m'
section
variable {X : Cx} {W : WXD} {st : Stmt} {rest a b : List Stmt} {g h : FS} {e : Expr} {f : FE} {t : FT} {pos : Pos}
theorem pssd_nil : PSsD X W [] sNext := PSs.imp pss_nil fun E σ H q => by
  obtain ⟨β, m, ρ, s, q⟩ := q
  exact q β H σ Ext.refl s
theorem td_seq {K : PySem.W.Frag} {E : Ends} {σ : Sg} {H : Hp} (q : tSD K W (sSeq g h) E σ H) : tSeq (tSD K W g) (tSD K W h) E σ H := by
  obtain ⟨β, m, ρ, s, q⟩ := q
  refine ⟨β, m, ρ, s, ?_⟩
  unfold sSeq at q
  cases hg : g ρ m with
  | nx ρ' m' =>
    rw [hg] at q
    exact fun β1 H1 σ1 e1 s1 => ⟨β1, m', ρ', s1, okS.ext e1 q⟩
  | rt d m' => rw [hg] at q; exact q
  | bk ρ' m' => rw [hg] at q; exact q
  | ct ρ' m' => rw [hg] at q; exact q
  | exc ρ' e m' => rw [hg] at q; exact q
  | bad => rw [hg] at q; exact q
theorem pssd_cons (h1 : PSD X W st g) (h2 : PSsD X W rest h) : PSsD X W (st :: rest) (sSeq g h) := PSs.imp (pss_cons h1 h2) fun _ _ _ q => td_seq q
theorem pssd_one (h1 : PSD X W st g) : PSsD X W [st] g := pss_one h1
theorem psd_pass : PSD X W (.Pass pos) sNext := PS.imp ps_pass fun E σ H q => by
  obtain ⟨β, m, ρ, s, q⟩ := q
  exact q β H σ Ext.refl s
theorem psd_break : PSD X W (.Break pos) sBreak := PS.imp ps_break fun E σ H q => by
  obtain ⟨β, m, ρ, s, q⟩ := q
  exact q β H σ Ext.refl s
theorem psd_continue : PSD X W (.Continue pos) sCont := PS.imp ps_continue fun E σ H q => by
  obtain ⟨β, m, ρ, s, q⟩ := q
  exact q β H σ Ext.refl s
theorem psd_never : PSD X W st sNever := PS.imp ps_never fun E σ H q => by
  obtain ⟨β, m, ρ, s, q⟩ := q
  exact q
theorem pssd_never : PSsD X W rest sNever := PSs.imp pss_never fun E σ H q => by
  obtain ⟨β, m, ρ, s, q⟩ := q
  exact q
theorem psd_expr (he : PD X W e f) (hs : swapsWith e none pos.line X.env = pure false := by rfl) : PSD X W (.Expr e pos) (sDrop f) := PS.imp (ps_expr he hs) fun E σ H q => by
  obtain ⟨β, m, ρ, s, q⟩ := q
  exact ts_bind s q fun d m1 v β1 H1 e1 s1 rv q1 => q1 β1 H1 σ Ext.refl s1
theorem psd_ret (he : PD X W e f) : PSD X W (.Return (some e) pos) (sRet f) := PS.imp (ps_ret he) fun E σ H q => by
  obtain ⟨β, m, ρ, s, q⟩ := q
  exact ts_bind s q fun d m1 v β1 H1 e1 s1 rv q1 => q1 β1 H1 v Ext.refl s1.me rv
theorem psd_retN : PSD X W (.Return none pos) sRetN := PS.imp ps_retN fun E σ H q => by
  obtain ⟨β, m, ρ, s, q⟩ := q
  exact q β H .non Ext.refl s.me .non
theorem psd_if {c : Expr} (hc : PTD X W c t) (ha : PSsD X W a g) (hb : PSsD X W b h) : PSD X W (.If c a b pos) (sIf t g h) := PS.imp (ps_if hc ha hb) fun E σ H q => by
  obtain ⟨β, m, ρ, s, q⟩ := q
  refine tst_bind s q fun b m1 β1 H1 e1 s1 q1 => ?_
  cases b with
  | true => exact ⟨β1, m1, ρ, s1, q1⟩
  | false => exact ⟨β1, m1, ρ, s1, q1⟩
end

/-! ### targets -/
abbrev GT := D → Sl → Option Sl
abbrev GTs := List D → Sl → Option Sl
/-- only slots in I are stored -/
def Only' (I : List Nat) (σ σ' : Sg) : Prop := ∀ vs : List Nat, (∀ i ∈ I, i ∈ vs) → L2.wipe σ' vs = L2.wipe σ vs
theorem wipe_get (σ : Sg) : ∀ (vs : List Nat) (j : Nat), (L2.wipe σ vs)[j]? = if j ∈ vs then (if j < σ.length then some none else none) else σ[j]?
  | [], j => by simp [L2.wipe]
  | v :: vs, j => by
    unfold L2.wipe
    by_cases hv : v = j
    · subst hv
      by_cases hl : v < σ.length
      · rw [List.getElem?_set_self (by rw [L2.wipe_length]; exact hl)]
        simp [hl]
      · rw [List.getElem?_eq_none (by rw [List.length_set, L2.wipe_length]; omega)]
        simp [hl]
    · rw [List.getElem?_set_ne hv, wipe_get σ vs j]
      have e : (j ∈ v :: vs) = (j ∈ vs) := by simp [Ne.symm hv]
      simp only [e]
theorem Only'.set (σ : Sg) (i : Nat) (x : Option V) : Only' [i] σ (σ.set i x) := fun vs h => by
  have hi : i ∈ vs := h i (by simp)
  refine List.ext_getElem? fun j => ?_
  rw [wipe_get, wipe_get, List.length_set]
  by_cases hj : j ∈ vs
  · rw [if_pos hj, if_pos hj]
  · rw [if_neg hj, if_neg hj, List.getElem?_set_ne (fun e => hj (by rw [← e]; exact hi))]
theorem Only'.trans {I J : List Nat} {σ σ1 σ2 : Sg} (a : Only' I σ σ1) (b : Only' J σ1 σ2) : Only' (I ++ J) σ σ2 := fun vs h => by
  rw [b vs fun i hi => h i (List.mem_append_right _ hi), a vs fun i hi => h i (List.mem_append_left _ hi)]
theorem Only'.refl (σ : Sg) : Only' [] σ σ := fun _ _ => rfl
def tGD (K : PySem.W.Frag) (gt : GT) (I : List Nat) : TG := fun v σ H Q => ∃ β m ρ d ρ', Stt K β H σ ρ m ∧ Rp K β H v d ∧ gt d ρ = some ρ' ∧ ∀ σ', Stt K β H σ' ρ' m → Only' I σ σ' → Q σ' H
def tGsD (K : PySem.W.Frag) (gt : GTs) (I : List Nat) : TGs := fun vs σ H Q => ∃ β m ρ ds ρ', Stt K β H σ ρ m ∧ RpA K β H vs ds ∧ gt ds ρ = some ρ' ∧ ∀ σ', Stt K β H σ' ρ' m → Only' I σ σ' → Q σ' H
abbrev PGD (X : Cx) (e : Expr) (gt : GT) (I : List Nat) : Prop := PG X e (tGD X.K gt I)
theorem PGs.imp {X : Cx} {es : List Expr} {t t' : TGs} (h : PGs X es t) (i : ∀ v σ H Q, t' v σ H Q → t v σ H Q) : PGs X es t' := ⟨fun pins s σ H v u Q I r q => h.run pins s σ H v u Q I r (i v σ H Q q)⟩
abbrev PGsD (X : Cx) (es : List Expr) (gt : GTs) (I : List Nat) : Prop := PGs X es (tGsD X.K gt I)
def gN (i : Nat) : GT := fun d ρ => some (ρ.set i (some d))
def gNil' : GTs := fun ds ρ => match ds with
  | [] => some ρ
  | _ => none
def gCons' (g : GT) (gs : GTs) : GTs := fun ds ρ => match ds with
  | d :: r => (g d ρ).bind (gs r)
  | [] => none
def gT (n : Nat) (gs : GTs) : GT := fun d ρ => match d with
  | .tup ds => if ds.length = n then gs ds ρ else none
  | _ => none
section
variable {X : Cx} {pos : Pos}
theorem pgd_name {i : Nat} {x : Str} (hN : X.N.Nodup) (hi : X.N[i]? = some x) (hx : Loc X.env.scope x) (hf : X.fn x = true ∨ X.env.scope.names.lookup x = some .local := by first | exact .inl rfl | exact .inr rfl | assumption) : PGD X (.Name x pos) (gN i) [i] :=
  PG.imp (pg_name hN hi hx hf) fun v σ H Q q => by
    obtain ⟨β, m, ρ, d, ρ', s, rv, hg, q⟩ := q
    cases hg
    exact q _ ⟨s.sl.set rv, s.me⟩ (Only'.set _ _ _)
theorem pgsd_nil : PGsD X [] gNil' [] := PGs.imp pgs_nil fun v σ H Q q => by
  obtain ⟨β, m, ρ, ds, ρ', s, rv, hg, q⟩ := q
  cases rv with
  | nil => simp only [gNil'] at hg; cases hg; exact ⟨rfl, q _ s (Only'.refl _)⟩
  | cons _ _ => simp only [gNil'] at hg; cases hg
theorem pgsd_cons {e : Expr} {es : List Expr} {g : GT} {gs : GTs} {I J : List Nat} (h1 : PGD X e g I) (h2 : PGsD X es gs J)
    (hs : (assignEach (e :: es) X.env).map (·.2) = assign e X.env :: (assignEach es X.env).map (·.2) := by rfl) : PGsD X (e :: es) (gCons' g gs) (I ++ J) :=
  PGs.imp (pgs_cons h1 h2 hs) fun v σ H Q q => by
    obtain ⟨β, m, ρ, ds, ρ', s, rv, hg, q⟩ := q
    cases rv with
    | nil => simp only [gCons'] at hg; cases hg
    | @cons v vs d ds r1 r2 =>
      simp only [gCons'] at hg
      cases h1 : g d ρ with
      | none => rw [h1] at hg; cases hg
      | some ρ1 =>
        rw [h1] at hg
        exact ⟨v, vs, rfl, β, m, ρ, d, ρ1, s, r1, h1, fun σ1 s1 o1 => ⟨β, m, ρ1, ds, ρ', s1, r2, hg, fun σ2 s2 o2 => q σ2 s2 (o1.trans o2)⟩⟩
theorem pgd_tup {es : List Expr} {k : Nat} {gs : GTs} {n : Nat} {I : List Nat} (hc : X.calm = true) (h : PGsD X es gs I)
    (hn : (assignEach es X.env).length = n := by rfl) (hst : (assignEach es X.env).findIdx? (·.1) = none := by rfl) : PGD X (.Tuple es k pos) (gT n gs) I :=
  PG.imp (pg_tup hc h hn hst) fun v σ H Q q => by
    obtain ⟨β, m, ρ, d, ρ', s, rv, hg, q⟩ := q
    cases rv with
    | tup hx rx =>
      simp only [gT] at hg
      split at hg
      · rename_i hl
        exact ⟨_, _, rfl, SqT.of hx, by rw [rx.length]; exact hl, β, m, ρ, _, ρ', s, rx, hg, q⟩
      · cases hg
    | non => simp only [gT] at hg; cases hg
    | bl _ => simp only [gT] at hg; cases hg
    | int _ => simp only [gT] at hg; cases hg
    | str _ => simp only [gT] at hg; cases hg
    | rol _ _ => simp only [gT] at hg; cases hg
    | ref _ => simp only [gT] at hg; cases hg
    | ty _ => simp only [gT] at hg; cases hg
end

/-! ### assignments -/
def sSet (i : Nat) (f : FE) : FS := fun ρ m => (f ρ m).out ρ fun d m' => .nx (ρ.set i (some d)) m'
def sAsg (f : FE) (g : GT) : FS := fun ρ m => (f ρ m).out ρ fun d m' => match g d ρ with
  | some ρ' => .nx ρ' m'
  | none => .bad
/-- a, b = x, y of plain names -/
def sPar (i j : Nat) (f : FA) : FS := fun ρ m => (f ρ m).out ρ fun ds m' => match ds with
  | [d, e] => .nx ((ρ.set i (some d)).set j (some e)) m'
  | _ => .bad
def sAug (i : Nat) (f : FE) (g : D → D → M → Res D) : FS := fun ρ m => match ρ[i]? with
  | some (some x) => (f ρ m).out ρ fun y m' => (g x y m').out ρ fun z m2 => .nx (ρ.set i (some z)) m2
  | _ => .bad
section
variable {X : Cx} {W : WXD} {e : Expr} {f : FE} {pos : Pos}
theorem psd_set {i : Nat} {x : Str} {pos' : Pos} (hN : X.N.Nodup) (hi : X.N[i]? = some x) (hx : Loc X.env.scope x) (he : PD X W e f) (hs : swapsWith e (some (.Name x pos')) pos.line X.env = pure false := by rfl)
    (hf : X.fn x = true ∨ X.env.scope.names.lookup x = some .local := by first | exact .inl rfl | exact .inr rfl | assumption) : PSD X W (.Assign [.Name x pos'] e pos) (sSet i f) := PS.imp (ps_set hN hi hx he hs hf) fun E σ H q => by
  obtain ⟨β, m, ρ, s, q⟩ := q
  exact ts_bind s q fun d m1 v β1 H1 e1 s1 rv q1 => q1 β1 H1 _ Ext.refl ⟨s1.sl.set rv, s1.me⟩
theorem psd_asg {tg : Expr} {g : GT} {I : List Nat} (he : PD X W e f) (hg : PGD X tg g I) (hs : swapsWithSole [tg] e pos.line X.env = pure false := by rfl) (hw : swappedStores [tg] e X.env = pure none := by rfl)
    (h1 : (assignEach [tg] X.env).map (·.2) = [assign tg X.env] := by rfl) : PSD X W (.Assign [tg] e pos) (sAsg f g) := PS.imp (ps_asg he hg hs hw h1) fun E σ H q => by
  obtain ⟨β, m, ρ, s, q⟩ := q
  refine ts_bind s q fun d m1 v β1 H1 e1 s1 rv q1 => ?_
  cases hd : g d ρ with
  | none => simp only [hd] at q1; exact q1.elim
  | some ρ' =>
    simp only [hd] at q1
    exact ⟨β1, m1, ρ, d, ρ', s1, rv, hd, fun σ' s' _ => q1 β1 H1 σ' Ext.refl s'⟩
theorem psd_par {i j : Nat} {x y : Str} {a b : Expr} {fa : FA} {px py pt : Pos} {kt k2 pt2} (hc : X.calm = true) (hN : X.N.Nodup) (hi : X.N[i]? = some x) (hj : X.N[j]? = some y) (hij : i ≠ j)
    (hx : X.env.scope.names.lookup x = some .local) (hy : X.env.scope.names.lookup y = some .local) (ha : PAD X W [a, b] fa)
    (hw : swappedStores [.Tuple [.Name x px, .Name y py] kt pt] (.Tuple [a, b] k2 pt2) X.env = pure (some [x, y]) := by rfl)
    (hs : swapsWithSole [.Tuple [.Name x px, .Name y py] kt pt] (.Tuple [a, b] k2 pt2) pos.line X.env = pure false := by rfl) :
    PSD X W (.Assign [.Tuple [.Name x px, .Name y py] kt pt] (.Tuple [a, b] k2 pt2) pos) (sPar i j fa) := PS.imp (ps_par hc hN hi hj hij hx hy ha hw hs) fun E σ H q => by
  obtain ⟨β, m, ρ, s, q⟩ := q
  refine tsa_bind s q fun ds m1 vs β1 H1 e1 s1 rs q1 => ?_
  split at q1
  · obtain ⟨v, w, rfl, r1, r2⟩ := rs.two
    exact ⟨v, w, rfl, q1 β1 H1 _ Ext.refl ⟨(s1.sl.set r1).set r2, s1.me⟩⟩
  · exact q1.elim
theorem psd_aug {i : Nat} {x : Str} {op : Operator} {r : R2} {g : D → D → M → Res D} {pos' : Pos} (hN : X.N.Nodup) (hi : X.N[i]? = some x) (hx : Loc X.env.scope x) (he : PD X W e f) (ho : OpR X (inplaceOp op) r) (hg : OpD X.K r g)
    (hf : X.fn x = true ∨ X.env.scope.names.lookup x = some .local := by first | exact .inl rfl | exact .inr rfl | assumption) : PSD X W (.AugAssign (.Name x pos') op e pos) (sAug i f g) := PS.imp (ps_aug hN hi hx he (ti := r) (fun pins s σ H x y v u Q I r1 r2 h => ho pins s σ H x y v u Q I r1 r2 h) hf) fun E σ H q => by
  obtain ⟨β, m, ρ, s, q⟩ := q
  unfold sAug at q
  split at q
  · rename_i x hx
    obtain ⟨v, hv, rv⟩ := s.sl.at' i x hx
    refine ⟨v, hv, ts_bind s q fun y m1 w β1 H1 e1 s1 rw q1 => ?_⟩
    refine hg (W σ) β1 H1 m1 v w x y _ s1.me (rv.ext e1) rw ((q1.bind s1).imp fun z m2 β2 H2 _ e2 ok2 q2 u ru => ?_)
    exact q2 β2 H2 _ Ext.refl ⟨(s1.sl.ext e2).set ru, ok2⟩
  · exact q.elim
end
section
variable {X : Cx} {W : WXD} {e : Expr} {f : FE} {pos : Pos}
theorem opd_mul {K : PySem.W.Frag} : OpD K (rI CMul fun i j => .int (i * j)) (gIC cMul fun i j => .int (i * j)) := opd_IC (fun i j h => cMul_ok h) fun _ _ _ _ => .int _
noncomputable def gMulI : D → D → M → Res D := gIC cMul fun i j => .int (i * j)
end

/-! ### o[i] = e of a list -/
def sPutD (ρ : Sl) (m3 : M) (n : Nat) (t : Bool) (kvs : List (D × D)) (k d : D) : Out := if keyOk t k = true ∧ kvs.length < LIM then .nx ρ (m3.set n (.dct t (putD kvs k d))) else .bad
def sSub (f fo fi : FE) : FS := fun ρ m => (f ρ m).out ρ fun d m1 => (fo ρ m1).out ρ fun o m2 => (fi ρ m2).out ρ fun i m3 => match o, i with
  | .ref n, .int k => match m3[n]? with
    | some (.lst xs) => match ixN xs.length k with
      | some j => .nx ρ (m3.set n (.lst (xs.set j d)))
      | none => .bad
    | some (.dct t kvs) => sPutD ρ m3 n t kvs (.int k) d
    | _ => .bad
  | .ref n, k => match m3[n]? with
    | some (.dct t kvs) => sPutD ρ m3 n t kvs k d
    | _ => .bad
  | _, _ => .bad
theorem dput_of {K : PySem.W.Frag} {β : List Addr} {H : Hp} {m : M} (ok : MOk K β H m) {n : Nat} {a : Addr} {t : Bool} {kvs : List (D × D)} {y v : V} {b e : D} (hn : m[n]? = some (.dct t kvs)) (ha : β[n]? = some a) (rb : Rp K β H y b) (rv : Rp K β H v e)
    (hk : keyOk t b = true) (hl : kvs.length < LIM) : ∃ H', DPut H a y v H' ∧ Ext β β H H' ∧ MOk K β H' (m.set n (.dct t (putD kvs b e))) := by
  have h := ok.at' n _ a hn ha
  cases t with
  | false =>
    obtain ⟨xs, h1, r1⟩ := h
    obtain ⟨k, hk'⟩ := Option.isSome_iff_exists.mp (show (keyD b).isSome = true from hk)
    rw [key_rp rb hk']
    have e1 : Ext β β H (upd H a (.dK (putK xs k v))) := Ext.writeO h1 mutb_dK ha
    exact ⟨_, DPut.k h1 (lim_lt (by rw [r1.length]; exact hl)), e1, ok.writeO h1 mutb_dK ha ⟨_, upd_same, (r1.put (fun a b => keyD_inj a b) hk' rv).mono e1.weak⟩⟩
  | true =>
    obtain ⟨xs, h1, r1⟩ := h
    obtain ⟨k, hk'⟩ := Option.isSome_iff_exists.mp (show (keyT b).isSome = true from hk)
    obtain ⟨p, rfl, hp⟩ := keyT_rp rb hk'
    have e1 : Ext β β H (upd H a (.dT (putK xs k v))) := Ext.writeO h1 mutb_dT ha
    exact ⟨_, DPut.t h1 hp (lim_lt (by rw [r1.length]; exact hl)), e1, ok.writeO h1 mutb_dT ha ⟨_, upd_same, (r1.put (fun a b => keyT_inj a b) hk' rv).mono e1.weak⟩⟩
def rSetDct : V → V → V → Hp → (Hp → Prop) → Prop := fun o i v H Q => ∃ a H', o = .ref a ∧ DPut H a i v H' ∧ Q H'
theorem set_dict {X : Cx} (hu : X.A.units + 64 < cLine) : PSet X rSetDct := by
  intro pins s σ H o i v ov iv u Q I ro ri rv h
  obtain ⟨a, H', rfl, g, q⟩ := h
  obtain rfl : ov = Value.ref a := ro
  exact d_setItem (by omega) I g ri rv fun s' I' => ⟨H', I', q⟩
theorem psor {X : Cx} {t t' : TSet} (h : PSet X t) (h' : PSet X t') : PSet X (fun o i v H Q => t o i v H Q ∨ t' o i v H Q) := by
  intro pins s σ H o i v ov iv u Q I ro ri rv q
  rcases q with q | q
  · exact h pins s σ H o i v ov iv u Q I ro ri rv q
  · exact h' pins s σ H o i v ov iv u Q I ro ri rv q
theorem psd_sub {X : Cx} {W : WXD} {e o i : Expr} {f fo fi : FE} {pos p2 : Pos} (hu : X.A.units + 64 < cLine) (he : PD X W e f) (ho : PD X W o fo) (hi : PD X W i fi)
    (ha : ∀ v, assign (.Subscript o i p2) X.env v = (do
      let ov ← holding [v] (eval o X.env)
      let iv ← holding [v, ov] (eval i X.env)
      standAt p2
      holding [v, ov, iv] (setItem ov iv v)
      release [v, ov, iv] []) := by intro _; rfl)
    (hs : swapsWithSole [.Subscript o i p2] e pos.line X.env = pure false := by rfl) (hw : swappedStores [.Subscript o i p2] e X.env = pure none := by rfl)
    (h1 : (assignEach [.Subscript o i p2] X.env).map (·.2) = [assign (.Subscript o i p2) X.env] := by rfl) : PSD X W (.Assign [.Subscript o i p2] e pos) (sSub f fo fi) :=
  PS.imp (ps_asg he (pg_sub ho hi (psor set_list (set_dict hu)) ha) hs hw h1) fun E σ H q => by
    obtain ⟨β, m, ρ, s, q⟩ := q
    refine ts_bind s q fun d m1 v β1 H1 e1 s1 rv q1 => ?_
    refine ts_bind s1 q1 fun od m2 ov β2 H2 e2 s2 ro q2 => ?_
    refine ts_bind s2 q2 fun id m3 iv β3 H3 e3 s3 ri q3 => ?_
    have dct : ∀ {n : Nat} {t : Bool} {kvs : List (D × D)}, od = .ref n → m3[n]? = some (.dct t kvs) → okS X.K W β3 H3 (sPutD ρ m3 n t kvs id d) E → rSetDct ov iv v H3 (fun H4 => E.nx σ H4) := by
      intro n t kvs e0 hn q4
      subst e0
      unfold sPutD at q4
      split at q4
      · rename_i hk
        have ro3 := ro.ext e3
        cases ro3 with
        | ref hb =>
          obtain ⟨H', g, e4, ok4⟩ := dput_of s3.me hn hb ri ((rv.ext e2).ext e3) hk.1 hk.2
          exact ⟨_, H', rfl, g, q4 β3 _ σ e4 ⟨s3.sl.ext e4, ok4⟩⟩
      · exact q4.elim
    split at q3
    · rename_i n k
      split at q3
      · rename_i ds hn
        split at q3
        · rename_i j hj
          cases ri
          have ro3 := ro.ext e3
          cases ro3 with
          | ref hb =>
            obtain ⟨xs, h1, r1⟩ := s3.me.at' n _ _ hn hb
            refine .inl ⟨_, xs, k, j, rfl, rfl, h1, by rw [r1.length]; exact hj, ?_⟩
            have e4 := Ext.write (ys := xs.set j v) h1 hb
            exact q3 β3 _ σ e4 ⟨s3.sl.ext e4, s3.me.write h1 hb (r1.set ((rv.ext e2).ext e3) j)⟩
        · exact q3.elim
      · rename_i t kvs hn
        exact .inr (dct rfl hn q3)
      · exact q3.elim
    · split at q3
      · rename_i t kvs hn
        exact .inr (dct rfl hn q3)
      · exact q3.elim
    · exact q3.elim
end Dl

/-! DL7: what loops walk; for, while, comprehensions. -/
namespace Dl
open PySem PySem.Spec PyProof.Rows L2

/-! ### what is walked -/
structure Src where
  n : Nat
  get : M → Nat → Option D
  fin : M → Bool
/-- J walks what src tells, from (β0, H0) on -/
def SrcOk (K : PySem.W.Frag) (β0 : List Addr) (H0 : Hp) (src : Src) (J : It) : Prop :=
  ∀ (β : List Addr) (H : Hp) (m : M), Ext0 β0 β H0 H → MOk K β H m →
    (∀ i d, i < src.n → src.get m i = some d → J.go i H ∧ ∀ x H', J.yld i H x H' → Ext β β H H' ∧ MOk K β H' m ∧ Rp K β H' x d) ∧ (src.fin m = true → J.stop src.n H)
abbrev FI := Sl → M → Res Src
def tID (K : PySem.W.Frag) (W : WXD) (f : FI) : TI := fun σ H R => ∃ β m ρ, Stt K β H σ ρ m ∧ okD K (W σ) β H (f ρ m) fun src _ β' H' => ∀ J, SrcOk K β' H' src J → R J H'
abbrev PID (X : Cx) (W : WXD) (tg e : Expr) (f : FI) : Prop := PI X tg e (tID X.K W f)

/-- a plain row -/
def srcT (ds : List D) : Src := ⟨ds.length, fun _ i => ds[i]?, fun _ => true⟩
/-- a list, as it stands -/
def srcL (n : Nat) (k : Nat) : Src := ⟨k, fun m i => match m[n]? with
  | some (.lst ds) => if ds.length = k then ds[i]? else none
  | _ => none, fun m => match m[n]? with
  | some (.lst ds) => decide (ds.length = k)
  | _ => false⟩
def srcR (lo : Int) (k : Nat) : Src := ⟨k, fun _ i => some (.int (lo + i)), fun _ => true⟩
def srcOf (m : M) : D → Option Src
  | .tup ds => some (srcT ds)
  | .rol ds => some (srcT ds)
  | .ref n => match m[n]? with
    | some (.lst ds) => some (srcL n ds.length)
    | _ => none
  | _ => none
section
variable {K : PySem.W.Frag} {β0 : List Addr} {H0 : Hp}
theorem src_tup {a : Addr} {xs : List V} {ds : List D} (h : SqT K H0 a xs) (r : RpA K β0 H0 xs ds) : SrcOk K β0 H0 (srcT ds) (Itt K a) := fun β H m e ok => by
  refine ⟨fun i d hi hd => ?_, fun _ => ⟨xs, e.sqt h, by show xs.length ≤ ds.length; rw [r.length]; exact Nat.le_refl _⟩⟩
  obtain ⟨v, hv, rv⟩ := r.get (show ds[i]? = some d from hd)
  refine ⟨⟨xs, v, e.sqt h, hv⟩, fun x H' y => ?_⟩
  obtain ⟨rfl, y⟩ := y
  have hx := y xs (e.sqt h)
  rw [hv] at hx
  cases hx
  exact ⟨Ext.refl, ok, rv.mono e⟩
theorem src_rol {a : Addr} {xs : List V} {ds : List D} (h : SqF K H0 a xs) (r : RpA K β0 H0 xs ds) : SrcOk K β0 H0 (srcT ds) (Itl K a) := fun β H m e ok => by
  refine ⟨fun i d hi hd => ?_, fun _ => ⟨xs, (e.sqf h).sql, by show xs.length ≤ ds.length; rw [r.length]; exact Nat.le_refl _⟩⟩
  obtain ⟨v, hv, rv⟩ := r.get (show ds[i]? = some d from hd)
  refine ⟨⟨xs, v, (e.sqf h).sql, hv⟩, fun x H' y => ?_⟩
  obtain ⟨rfl, y⟩ := y
  have hx := y xs (e.sqf h).sql
  rw [hv] at hx
  cases hx
  exact ⟨Ext.refl, ok, rv.mono e⟩
theorem src_lst {a : Addr} {n k : Nat} (hb : β0[n]? = some a) : SrcOk K β0 H0 (srcL n k) (Itl K a) := fun β H m e ok => by
  have hb' := e.ix _ _ hb
  refine ⟨fun i d hi hd => ?_, fun hf => ?_⟩
  · simp only [srcL] at hd
    split at hd
    · rename_i ds hds
      split at hd
      · obtain ⟨xs, h1, r1⟩ := ok.at' n _ a hds hb'
        obtain ⟨v, hv, rv⟩ := r1.get hd
        refine ⟨⟨xs, v, SqL.of h1, hv⟩, fun x H' y => ?_⟩
        obtain ⟨rfl, y⟩ := y
        have hx := y xs (SqL.of h1)
        rw [hv] at hx
        cases hx
        exact ⟨Ext.refl, ok, rv⟩
      · cases hd
    · cases hd
  · simp only [srcL] at hf
    split at hf
    · rename_i ds hds
      obtain ⟨xs, h1, r1⟩ := ok.at' n _ a hds hb'
      exact ⟨xs, SqL.of h1, by show xs.length ≤ k; rw [r1.length]; exact Nat.le_of_eq (of_decide_eq_true hf)⟩
    · cases hf
theorem src_rng {lo : Int} {k : Nat} : SrcOk K β0 H0 (srcR lo k) (Itr lo k) := fun β H m e ok =>
  ⟨fun i d hi hd => ⟨hi, fun x H' y => by
    obtain ⟨rfl, rfl⟩ := y
    simp only [srcR] at hd
    cases hd
    exact ⟨Ext.refl, ok, .int _⟩⟩, fun _ => Nat.le_refl _⟩
end
/-- a list or a tuple, walked -/
def fWalk (f : FE) : FI := fun ρ m => (f ρ m).bind fun d m => match srcOf m d with
  | some s => .ok s m
  | none => .bad
theorem pid_seq {X : Cx} {W : WXD} {tg e : Expr} {f : FE} (he : PD X W e f) : PID X W tg e (fWalk f) := by
  refine ⟨fun pins s σ H R I q => ?_⟩
  obtain ⟨β, m, ρ, st, q⟩ := q
  refine thn (he.run pins s σ H (fun v H1 => ∃ (a : Addr), v = .ref a ∧ (((∃ xs, SqL X.K H1 a xs) ∧ R (Itl X.K a) H1) ∨ ((∃ xs, SqT X.K H1 a xs) ∧ R (Itt X.K a) H1))) I ?_) fun v s1 h1 => ?_
  · refine td_bind st q fun d m1 v β1 H1 e1 s1 rv q1 => ?_
    split at q1
    · rename_i src hsrc
      have fin : ∀ J, SrcOk X.K β1 H1 src J → R J H1 := q1.here s1.me
      cases rv with
      | tup hx rx => simp only [srcOf] at hsrc; cases hsrc; exact ⟨_, rfl, .inr ⟨⟨_, SqT.of hx⟩, fin _ (src_tup (SqT.of hx) rx)⟩⟩
      | rol hx rx => simp only [srcOf] at hsrc; cases hsrc; exact ⟨_, rfl, .inl ⟨⟨_, hx.sql⟩, fin _ (src_rol hx rx)⟩⟩
      | ref hb =>
        simp only [srcOf] at hsrc
        split at hsrc
        · rename_i ds hds
          cases hsrc
          obtain ⟨xs, h1, r1⟩ := s1.me.at' _ _ _ hds hb
          exact ⟨_, rfl, .inl ⟨⟨xs, SqL.of h1⟩, fin _ (src_lst hb)⟩⟩
        · cases hsrc
      | non => simp only [srcOf] at hsrc; cases hsrc
      | bl _ => simp only [srcOf] at hsrc; cases hsrc
      | int _ => simp only [srcOf] at hsrc; cases hsrc
      | str _ => simp only [srcOf] at hsrc; cases hsrc
      | ty _ => simp only [srcOf] at hsrc; cases hsrc
    · exact q1.elim
  · obtain ⟨v', H1, I1, rv, a, rfl, q1⟩ := h1
    cases rv
    have mem1 : ∀ {b : Addr}, b ∈ [s1.heap.objs.size] → b = s1.heap.objs.size := fun hb => by simpa using hb
    rcases q1 with ⟨⟨xs, hq⟩, q1⟩ | ⟨⟨xs, hq⟩, q1⟩
    · obtain ⟨its, _, p, _⟩ := I1.list hq
      refine wpAny_pyIter_list p.isList ⟨s1.heap.objs.size, [s1.heap.objs.size], _, _, H1, rfl, I1.kept (t' := s1.toks) fun b o e => Heap.get?_push_of_some _ e, turn_list a _, ⟨_, Heap.get?_push_size _ rfl, rfl, rfl⟩, fun b hb => ?_, q1⟩
      rw [mem1 hb]
      exact I1.fpOk (Nat.le_refl _) (I1.hok.fresh (Nat.le_refl _))
    · obtain ⟨its, _, p, _⟩ := I1.tuple hq
      refine wpAny_pyIter_tuple (show s1.heap.IsTuple a its.toArray from p) ⟨s1.heap.objs.size, [s1.heap.objs.size], _, _, H1, rfl, I1.kept (t' := s1.toks) fun b o e => Heap.get?_push_of_some _ e, turn_tuple a _, ⟨_, Heap.get?_push_size _ rfl, rfl, rfl⟩, fun b hb => ?_, q1⟩
      rw [mem1 hb]
      exact I1.fpOk (Nat.le_refl _) (I1.hok.fresh (Nat.le_refl _))
/-- range(n), range(a, b) -/
noncomputable def okR (i : Int) : Bool := decide (-(BIG 62 : Int) ≤ i ∧ i < BIG 62)
theorem okR_iff {i : Int} : okR i = true ↔ -(2 ^ 62) ≤ i ∧ i < 2 ^ 62 := by
  unfold okR
  have e : (BIG 62 : Int) = 2 ^ 62 := by
    rw [BIG_eq]
    decide
  rw [decide_eq_true_iff, e]
noncomputable def fRng (f : FA) : FI := fun ρ m => (f ρ m).bind fun ds m => match ds with
  | [.int n] => if okR n then .ok (srcR 0 n.toNat) m else .bad
  | [.int a, .int b] => if okR a && okR b then .ok (srcR a (b - a).toNat) m else .bad
  | _ => .bad
noncomputable def fRng1 (f : FE) : FI := fun ρ m => (f ρ m).bind fun d m => match d with
  | .int n => if okR n then .ok (srcR 0 n.toNat) m else .bad
  | _ => .bad
noncomputable def fRng2 (f g : FE) : FI := fun ρ m => (f ρ m).bind fun d m => (g ρ m).bind fun e m => match d, e with
  | .int a, .int b => if okR a && okR b then .ok (srcR a (b - a).toNat) m else .bad
  | _, _ => .bad
theorem pid_range1 {X : Cx} {W : WXD} {tg a : Expr} {f : FE} {p pos : Pos} (hg : Gl X "range") (hm : X.mg "range" = none) (ha : PD X W a f) (hs : starEach [a] X.env = (false, eval a X.env) :: starEach [] X.env := by rfl) (hs2 : starEach [a] X.env = [(false, eval a X.env)] := by rfl) : PID X W tg (.Call (.Name "range" p) [a] [] pos) (fRng1 f) :=
  PI.imp (pi_range1 hg hm (pa_cons ha pa_nil hs) hs2) fun σ H R q => by
    obtain ⟨β, m, ρ, s, q⟩ := q
    refine td_bind s q fun d m1 v β1 H1 e1 s1 rv q1 => ?_
    cases d with
    | int n =>
      simp only at q1
      split at q1
      · rename_i h
        have h' := okR_iff.mp h
        cases rv
        exact ⟨n, rfl, h'.1, h'.2, q1.here s1.me _ src_rng⟩
      · exact q1.elim
    | non => exact q1.elim
    | bl _ => exact q1.elim
    | str _ => exact q1.elim
    | tup _ => exact q1.elim
    | rol _ => exact q1.elim
    | ref _ => exact q1.elim
    | ty _ => exact q1.elim
theorem pid_range2 {X : Cx} {W : WXD} {tg a b : Expr} {f g : FE} {p pos : Pos} (hg : Gl X "range") (hm : X.mg "range" = none) (ha : PD X W a f) (hb : PD X W b g) (hs : starEach [a, b] X.env = [(false, eval a X.env), (false, eval b X.env)] := by rfl) (hs2 : starEach [b] X.env = [(false, eval b X.env)] := by rfl)
    (hs' : starEach [a, b] X.env = (false, eval a X.env) :: starEach [b] X.env := by rfl) (hs3 : starEach [b] X.env = (false, eval b X.env) :: starEach [] X.env := by rfl) : PID X W tg (.Call (.Name "range" p) [a, b] [] pos) (fRng2 f g) :=
  PI.imp (pi_range2 hg hm (pa_cons ha (pa_cons hb pa_nil hs3) hs') hs hs2) fun σ H R q => by
    obtain ⟨β, m, ρ, s, q⟩ := q
    refine td_bind s q fun d m1 v β1 H1 e1 s1 rv q1 => ?_
    refine td_bind s1 q1 fun e m2 w β2 H2 e2 s2 rw q2 => ?_
    split at q2
    · rename_i a b
      split at q2
      · rename_i h
        rw [Bool.and_eq_true] at h
        have h1 := okR_iff.mp h.1
        have h2 := okR_iff.mp h.2
        cases rv
        cases rw
        exact ⟨a, b, rfl, ⟨h1.1, h1.2, h2.1, h2.2⟩, q2.here s2.me _ src_rng⟩
      · exact q2.elim
    · exact q2.elim

/-! ### for -/
def forL (src : Src) (gt : GT) (body : FS) : Nat → Nat → Sl → M → Out
  | 0, _, ρ, m => if src.fin m then .nx ρ m else .bad
  | k + 1, i, ρ, m => match src.get m i with
    | none => .bad
    | some d => match gt d ρ with
      | none => .bad
      | some ρ' => match body ρ' m with
        | .nx ρ2 m2 => forL src gt body k (i + 1) ρ2 m2
        | .ct ρ2 m2 => forL src gt body k (i + 1) ρ2 m2
        | .bk ρ2 m2 => .nx ρ2 m2
        | o => o
def sFor (fi : FI) (gt : GT) (body : FS) : FS := fun ρ m => (fi ρ m).out ρ fun src m' => forL src gt body src.n 0 ρ m'
theorem psd_for {X : Cx} {W : WXD} {tg iter : Expr} {body : List Stmt} {fi : FI} {gt : GT} {I : List Nat} {g : FS} {pos : Pos} (hp : PassesOwn (model X.prog X.w) X.A X.env X.xe) (hc : X.calm = true) (hi : PID X W tg iter fi) (hg : PGD X tg gt I) (hb : PSsD X W body g)
    (hs : ∀ x, foldedSetIterable iter X.env x = pure x := by intro _; rfl) : PSD X W (.For tg iter body [] pos) (sFor fi gt g) := PS.imp (ps_for hp hc hi hg hb hs) fun E σ H q => by
  obtain ⟨β, m, ρ, s, q⟩ := q
  refine ⟨β, m, ρ, s, (q.bind s).imp fun src m1 β1 H1 _ e1 ok1 q1 J hJ => ?_⟩
  refine ⟨fun i k σ' H' => ∃ β' m' ρ', i + k = src.n ∧ Ext β1 β' H1 H' ∧ Stt X.K β' H' σ' ρ' m' ∧ okS X.K W β' H' (forL src gt g k i ρ' m') E, ⟨src.n, β1, m1, ρ, by omega, Ext.refl, s.ext e1 ok1, q1⟩, ?_⟩
  rintro i k σ' H' ⟨β', m', ρ', hik, e', s', q'⟩
  obtain ⟨hgo, hstop⟩ := hJ β' H' m' e'.weak s'.me
  cases k with
  | zero =>
    unfold forL at q'
    split at q'
    · rename_i hf
      have hi : i = src.n := by omega
      subst hi
      exact .inl ⟨hstop hf, q' β' H' σ' Ext.refl s'⟩
    · exact q'.elim
  | succ k =>
    unfold forL at q'
    cases hd : src.get m' i with
    | none => rw [hd] at q'; exact q'.elim
    | some d =>
      rw [hd] at q'
      simp only at q'
      obtain ⟨g1, g2⟩ := hgo i d (by omega) hd
      refine .inr ⟨g1, fun σ2 H2 => ∃ β2 m2 ρ2, Ext β1 β2 H1 H2 ∧ Stt X.K β2 H2 σ2 ρ2 m2 ∧ okS X.K W β2 H2 (forL src gt g k (i + 1) ρ2 m2) E, fun σ2 H2 ⟨β2, m2, ρ2, a1, a2, a3⟩ => ⟨k, by omega, β2, m2, ρ2, by omega, a1, a2, a3⟩, fun x H2 y => ?_⟩
      obtain ⟨e2, ok2, rx⟩ := g2 x H2 y
      cases hgt : gt d ρ' with
      | none => rw [hgt] at q'; exact q'.elim
      | some ρ2 =>
        rw [hgt] at q'
        simp only at q'
        refine ⟨β', m', ρ', d, ρ2, s'.ext e2 ok2, rx, hgt, fun σ3 s3 _ => ⟨β', m', ρ2, s3, ?_⟩⟩
        have q2 := okS.ext e2 q'
        cases hbd : g ρ2 m' with
        | nx ρ3 m3 =>
          rw [hbd] at q2
          exact fun β3 H3 σ4 e3 s4 => ⟨β3, m3, ρ3, (e'.trans e2).trans e3, s4, okS.ext e3 q2⟩
        | ct ρ3 m3 =>
          rw [hbd] at q2
          exact fun β3 H3 σ4 e3 s4 => ⟨β3, m3, ρ3, (e'.trans e2).trans e3, s4, okS.ext e3 q2⟩
        | bk ρ3 m3 => rw [hbd] at q2; exact q2
        | rt d3 m3 => rw [hbd] at q2; exact q2
        | exc ρ3 x3 m3 => rw [hbd] at q2; exact q2
        | bad => rw [hbd] at q2; exact q2

/-! ### while -/
def whileL (t : FT) (body : FS) : Nat → Sl → M → Out
  | 0, _, _ => .bad
  | k + 1, ρ, m => (t ρ m).out ρ fun b m1 => if b then match body ρ m1 with
      | .nx ρ2 m2 => whileL t body k ρ2 m2
      | .ct ρ2 m2 => whileL t body k ρ2 m2
      | .bk ρ2 m2 => .nx ρ2 m2
      | o => o
    else .nx ρ m1
/-- so many turns at most -/
def FUEL : Nat := 1000000
def sWhile (t : FT) (body : FS) : FS := fun ρ m => whileL t body FUEL ρ m
theorem psd_while {X : Cx} {W : WXD} {c : Expr} {body : List Stmt} {t : FT} {g : FS} {pos : Pos} (hp : PassesOwn (model X.prog X.w) X.A X.env X.xe) (hc : PTD X W c t) (hb : PSsD X W body g) : PSD X W (.While c body [] pos) (sWhile t g) := PS.imp (ps_while hp hc hb) fun E σ H q => by
  obtain ⟨β, m, ρ, s, q⟩ := q
  refine ⟨fun k σ' H' => ∃ β' m' ρ', Stt X.K β' H' σ' ρ' m' ∧ okS X.K W β' H' (whileL t g k ρ' m') E, ⟨FUEL, β, m, ρ, s, q⟩, ?_⟩
  rintro k σ' H' ⟨β', m', ρ', s', q'⟩
  cases k with
  | zero => exact q'.elim
  | succ k =>
    unfold whileL at q'
    refine tst_bind s' q' fun b m1 β1 H1 e1 s1 q1 => ?_
    cases b with
    | false =>
      refine iteF ?_
      exact q1 β1 H1 σ' Ext.refl s1
    | true =>
      refine iteT ?_
      refine ⟨fun σ2 H2 => ∃ β2 m2 ρ2, Stt X.K β2 H2 σ2 ρ2 m2 ∧ okS X.K W β2 H2 (whileL t g k ρ2 m2) E, fun σ2 H2 ⟨β2, m2, ρ2, a1, a2⟩ => ⟨k, by omega, β2, m2, ρ2, a1, a2⟩, β1, m1, ρ', s1, ?_⟩
      simp only [if_true] at q1
      cases hbd : g ρ' m1 with
      | nx ρ3 m3 =>
        rw [hbd] at q1
        exact fun β3 H3 σ4 e3 s4 => ⟨β3, m3, ρ3, s4, okS.ext e3 q1⟩
      | ct ρ3 m3 =>
        rw [hbd] at q1
        exact fun β3 H3 σ4 e3 s4 => ⟨β3, m3, ρ3, s4, okS.ext e3 q1⟩
      | bk ρ3 m3 => rw [hbd] at q1; exact q1
      | rt d3 m3 => rw [hbd] at q1; exact q1
      | exc ρ3 x3 m3 => rw [hbd] at q1; exact q1
      | bad => rw [hbd] at q1; exact q1

/-! ### comprehensions -/
def WF : WXD := fun _ _ _ _ => False
theorem Ext.none_back {K : PySem.W.Frag} {β β' : List Addr} {H H' : Hp} {m' : M} (e : Ext β β' H H') (ok : MOk K β' H' m') {p : Addr} (hp : H' p = none) : H p = none := by
  cases hq : H p with
  | none => rfl
  | some o =>
    by_cases hb : p ∈ β
    · obtain ⟨xs, hx⟩ := ok.there (by obtain ⟨γ, rfl⟩ := e.pre; exact List.mem_append_left _ hb)
      rw [hp] at hx; cases hx.1
    · rw [e.keep p o hq hb] at hp; cases hp
theorem Ext.mut {β β' : List Addr} {H H' : Hp} {p : Addr} {xs : List V} {o : HO} (e : Ext β β' H H') (hp : H p = none) (hl : H' p = some (.lst xs) ∨ H' p = none) : Ext β β' H (upd H' p o) := by
  refine ⟨e.pre, fun a ys h => ?_, fun a u x h => ?_, fun a u h hn => ?_, e.new⟩
  · rw [upd_ne (ne_of_none h hp)]; exact e.tup a ys h
  · rw [upd_ne (ne_of_none h hp)]; exact e.frz a u x h
  · rw [upd_ne (ne_of_none h hp)]; exact e.keep a u h hn
/-- a list that is not named is written -/
theorem Ext0.side {β : List Addr} {H : Hp} {p : Addr} {xs : List V} {o : HO} (hp : H p = some (.lst xs)) : Ext0 β β H (upd H p o) :=
  ⟨fun _ _ h => h, fun a ys h => by rw [upd_ne (ne_of h hp (by intro q; cases q))]; exact h, fun a u x h => by rw [upd_ne (ne_of h hp (by intro q; cases q))]; exact h⟩
theorem MOk.side {K : PySem.W.Frag} {β : List Addr} {H : Hp} {m : M} {p : Addr} {xs : List V} {o : HO} (ok : MOk K β H m) (hn : p ∉ β) (hp : H p = some (.lst xs)) : MOk K β (upd H p o) m :=
  ⟨ok.len, ok.nd, fun n u a h1 h2 => (ok.at' n u a h1 h2).mono (Ext0.side hp) fun zs h => by
    rw [upd_ne (fun q => hn (by rw [← q]; exact List.mem_of_getElem? h2))]
    exact h⟩
def lcL (src : Src) (gt : GT) (ρw : Sl) (t : FT) (e : FE) : Nat → Nat → List D → M → Res (List D)
  | 0, _, acc, m => if src.fin m then .ok acc m else .bad
  | k + 1, i, acc, m => match src.get m i with
    | none => .bad
    | some d => match gt d ρw with
      | none => .bad
      | some ρ' => match t ρ' m with
        | .ok true m1 => match e ρ' m1 with
          | .ok y m2 => if acc.length < LIM then lcL src gt ρw t e k (i + 1) (acc ++ [y]) m2 else .bad
          | _ => .bad
        | .ok false m1 => lcL src gt ρw t e k (i + 1) acc m1
        | _ => .bad
def fLc (fi : FI) (gt : GT) (vs : List Nat) (t : FT) (e : FE) : FA := fun ρ m => (fi ρ m).bind fun src m' => lcL src gt (wipeD ρ vs) t e src.n 0 [] m'
def fYes : FT := fun _ m => .ok true m
abbrev PTsD (X : Cx) (W : WXD) (ifs : List Expr) (f : FT) : Prop := PTs X ifs (tTD X.K W f)
theorem PTs.imp {X : Cx} {es : List Expr} {t t' : TT} (h : PTs X es t) (i : ∀ σ H Q, t' σ H Q → t σ H Q) : PTs X es t' := ⟨fun pins s σ H Q I q => h.run pins s σ H Q I (i σ H Q q)⟩
theorem ptsd_nil {X : Cx} {W : WXD} : PTsD X W [] fYes := PTs.imp pts_nil fun σ H Q q => by
  obtain ⟨β, m, ρ, s, q⟩ := q
  exact q.here s.me
theorem ptsd_one {X : Cx} {W : WXD} {c : Expr} {t : FT} (h : PTD X W c t) : PTsD X W [c] t := pts_one h
theorem td_lc {K : PySem.W.Frag} {W : WXD} {fi : FI} {gt : GT} {I : List Nat} {vs : List Nat} {t : FT} {e : FE} (hv : ∀ i ∈ I, i ∈ vs) {σ : Sg} {H : Hp} {Q : VK} (q : tLD K W (fLc fi gt vs t e) σ H Q) :
    tLc (tID K W fi) (tGD K gt I) (tTD K WF t) (tD K WF e) vs σ H Q := by
  obtain ⟨β, m, ρ, s, q⟩ := q
  refine ⟨β, m, ρ, s, ?_⟩
  unfold fLc at q
  cases hfi : fi ρ m with
  | exc x m1 => rw [hfi] at q; exact q
  | bad => rw [hfi] at q; exact q
  | ok src m1 =>
    rw [hfi] at q
    simp only [bind_ok] at q
    intro β1 H1 e1 ok1 J hJ Dl hD
    have hD0 : H Dl = none := e1.none_back ok1 hD
    have sw : RpS K β1 H1 (L2.wipe σ vs) (wipeD ρ vs) := (s.sl.ext e1).wipe vs
    refine ⟨fun i k H' => ∃ β' m' acc xs, i + k = src.n ∧ Ext β1 β' H1 H' ∧ MOk K β' H' m' ∧ Dl ∉ β' ∧ H' Dl = some (.lst xs) ∧ RpA K β' H' xs acc ∧
      okD K (W σ) β H (lcL src gt (wipeD ρ vs) t e k i acc m') fun ds m β' H' => ∀ p xs, H p = none → p ∉ β' → H' p = some (.lst xs) → RpA K β' H' xs ds → Q (.ref p) H',
      ⟨src.n, β1, m1, [], [], by omega, Ext.upd_new hD, ok1.upd_new hD, ok1.fresh hD, upd_same, .nil, q⟩, ?_⟩
    rintro i k H' ⟨β', m', acc, xs, hik, e', ok', hn', hl', ra, q'⟩
    obtain ⟨hgo, hstop⟩ := hJ β' H' m' e'.weak ok'
    cases k with
    | zero =>
      unfold lcL at q'
      split at q'
      · rename_i hf
        have hi : i = src.n := by omega
        subst hi
        exact .inl ⟨hstop hf, q' β' H' (e1.trans e') ok' Dl xs hD0 hn' hl' ra⟩
      · exact q'.elim
    | succ k =>
      unfold lcL at q'
      cases hd : src.get m' i with
      | none => rw [hd] at q'; exact q'.elim
      | some d =>
        rw [hd] at q'
        simp only at q'
        obtain ⟨g1, g2⟩ := hgo i d (by omega) hd
        refine .inr ⟨g1, fun H2 => ∃ β2 m2 acc2 xs2, Ext β1 β2 H1 H2 ∧ MOk K β2 H2 m2 ∧ Dl ∉ β2 ∧ H2 Dl = some (.lst xs2) ∧ RpA K β2 H2 xs2 acc2 ∧
          okD K (W σ) β H (lcL src gt (wipeD ρ vs) t e k (i + 1) acc2 m2) fun ds m β' H' => ∀ p xs, H p = none → p ∉ β' → H' p = some (.lst xs) → RpA K β' H' xs ds → Q (.ref p) H',
          fun H2 ⟨β2, m2, acc2, xs2, a1, a2, a3, a4, a5, a6⟩ => ⟨k, by omega, β2, m2, acc2, xs2, by omega, a1, a2, a3, a4, a5, a6⟩, fun x H2 y => ?_⟩
        obtain ⟨e2, ok2, rx⟩ := g2 x H2 y
        cases hgt : gt d (wipeD ρ vs) with
        | none => rw [hgt] at q'; exact q'.elim
        | some ρ2 =>
          rw [hgt] at q'
          simp only at q'
          have sw2 : Stt K β' H2 (L2.wipe σ vs) (wipeD ρ vs) m' := ⟨sw.ext (e'.trans e2), ok2⟩
          refine ⟨β', m', wipeD ρ vs, d, ρ2, sw2, rx, hgt, fun σ3 s3 ho => ⟨?_, β', m', ρ2, s3, ?_⟩⟩
          · rw [ho vs hv]
            refine List.ext_getElem? fun j => ?_
            rw [wipe_get, wipe_get]
            by_cases hj : j ∈ vs
            · simp only [if_pos hj, L2.wipe_length]
            · simp only [if_neg hj, wipe_get]
          · cases ht : t ρ2 m' with
            | bad => rw [ht] at q'; exact q'.elim
            | exc x m2 => rw [ht] at q'; exact q'.elim
            | ok b m2 =>
              rw [ht] at q'
              intro β3 H3 e3 ok3
              have hn3 : Dl ∉ β3 := fun hm => by
                have := e3.new Dl hm hn'
                have h2 := e2.keep Dl _ hl' hn'
                rw [h2] at this
                cases this
              have hl3 : H3 Dl = some (.lst xs) := e3.keep Dl _ (e2.keep Dl _ hl' hn') hn'
              cases b with
              | false =>
                refine iteF ?_
                exact ⟨β3, m2, acc, xs, (e'.trans e2).trans e3, ok3, hn3, hl3, (ra.ext e2).ext e3, q'⟩
              | true =>
                refine iteT ?_
                refine ⟨β3, m2, ρ2, s3.ext e3 ok3, ?_⟩
                simp only at q'
                cases he : e ρ2 m2 with
                | bad => rw [he] at q'; exact q'.elim
                | exc x m3 => rw [he] at q'; exact q'.elim
                | ok y m3 =>
                  rw [he] at q'
                  simp only at q'
                  split at q'
                  · rename_i hlim
                    intro β4 H4 e4 ok4 v rv
                    have hn4 : Dl ∉ β4 := fun hm => by
                      have := e4.new Dl hm hn3
                      rw [hl3] at this
                      cases this
                    have hl4 : H4 Dl = some (.lst xs) := e4.keep Dl _ hl3 hn3
                    have ra4 := ((ra.ext e2).ext e3).ext e4
                    have ei : Ext0 β4 β4 H4 (upd H4 Dl (.lst (xs ++ [v]))) := Ext0.side hl4
                    refine ⟨xs, hl4, lim_lt (by rw [ra4.length]; exact hlim), β4, m3, acc ++ [y], xs ++ [v], (((e'.trans e2).trans e3).trans e4).mut hD (.inl hl4), ok4.side hn4 hl4, hn4, upd_same, (ra4.mono ei).append (.cons (rv.mono ei) .nil), q'⟩
                  · exact q'.elim
section
variable {X : Cx} {W : WXD}
theorem pld_lc {elt tg iter : Expr} {ifs : List Expr} {scope : Scope} {own : List (Str × Nat)} {pos : Pos} {fi : FI} {gt : GT} {I : List Nat} {t : FT} {e : FE} (hc : X.calm = true) (hN : X.N.Nodup) (hi : PID X W tg iter fi) (ok : BlkOk X.N X.env.scope scope own)
    (hg : ∀ (s : Shared) (H : Hp) (C : Addr) (cl : List (Str × Addr)) (fp : List Addr), PGD (X.blk s H scope (compEnvC scope cl C X.env) fp) tg gt I) (ht : ∀ (s : Shared) (H : Hp) (C : Addr) (cl : List (Str × Addr)) (fp : List Addr), PTsD (X.blk s H scope (compEnvC scope cl C X.env) fp) WF ifs t)
    (he : ∀ (s : Shared) (H : Hp) (C : Addr) (cl : List (Str × Addr)) (fp : List Addr), PD (X.blk s H scope (compEnvC scope cl C X.env) fp) WF elt e) (hv : ∀ i ∈ I, i ∈ own.map (·.2) := by decide) (hs : ∀ x, foldedSetIterable iter X.env x = pure x := by intro _; rfl) :
    PLD X W (.ListComp elt [⟨tg, iter, ifs, 0⟩] scope pos) (fLc fi gt (own.map (·.2)) t e) := PE.imp (pe_lc hc hN hi ok hg ht he hs) fun σ H Q q => td_lc hv q
end
end Dl

/-! DL8: enumerate, zip of tuples; comprehensions of two clauses; methods of lists. -/
namespace Dl
open PySem PySem.Spec PyProof.Rows L2

/-! ### enumerate(tuple) -/
def ItEt (K : PySem.W.Frag) (a : Addr) : It :=
  ⟨fun i H => ∃ (xs : List V) (x : V), SqT K H a xs ∧ xs[i]? = some x, fun i H v H' => ∃ T x, v = .ref T ∧ H T = none ∧ H' = upd H T (.tup [.int (i : Nat), x]) ∧ ∀ xs, SqT K H a xs → xs[i]? = some x,
    fun i H => ∃ xs : List V, SqT K H a xs ∧ xs.length ≤ i⟩
theorem turn_enumT {P : Program} {w : World} {K : PySem.W.Frag} {elts : List Expr} {kk : Nat} {tpos : Pos} (a e it : Addr) :
    Turn P w K (.Tuple elts kk tpos) (ItEt K a) [e, it] e (fun i h => (∃ old, IsEnum h e it ((i : Nat) : Int) old) ∧ h.IsTupleIter it a i ∧ e ≠ it) where
  mem := by simp
  obj := fun i h st b hb => by
    obtain ⟨⟨old, he⟩, ⟨o, ho, hc, hd⟩, _⟩ := st
    have hb2 : b = e ∨ b = it := by simpa using hb
    rcases hb2 with rfl | rfl
    · exact ⟨_, he, fun v q => nomatch q⟩
    · exact ⟨o, ho, fun v q => by rw [hd] at q; cases q⟩
  keep := fun i h h' st k => by
    obtain ⟨⟨old, he⟩, hi, hne⟩ := st
    exact ⟨⟨old, k e (by simp) _ he⟩, hi.at fun o q => k it (by simp) o q, hne⟩
  item := by
    intro X hP hw hK hc i pins s σ H E I hf st hg
    subst hP hw hK
    obtain ⟨⟨old, he⟩, hit, hne⟩ := st
    obtain ⟨xs, x, hq, hx⟩ := hg
    obtain ⟨its, rv, p, hz⟩ := I.tuple hq
    obtain ⟨u, hu, ru⟩ := rv.get hx
    have pt : s.heap.IsTuple a its.toArray := p
    have hel : e < s.heap.objs.size := Heap.lt_size he
    have hil : it < s.heap.objs.size := by obtain ⟨_, q, _⟩ := hit; exact Heap.lt_size q
    have hai : a ≠ it := fun q => by
      obtain ⟨o1, h1, c1, _⟩ := pt
      obtain ⟨o2, h2, c2, _⟩ := hit
      rw [q, h2] at h1
      cases h1
      rw [c1] at c2
      exact absurd c2 (by decide)
    have hea : e ≠ a := fun q => by
      obtain ⟨o1, h1, c1, _⟩ := pt
      rw [← q, he] at h1
      cases h1
      simp at c1
    have hlt : i < its.toArray.size := by
      have := (List.getElem?_eq_some_iff.mp hu).1
      simpa using this
    refine wpAny_pyNext_enum_itemC (Draws.tuple (A := X.A.in1) (I.ok.hd hc) it a hai its.toArray) he ⟨hit, pt⟩ hlt hne (by simp [hne, hea]) fun y h' tk hy ho st' hT hsz hk => ?_
    have hyu : y = u := by
      have h2 : its.toArray[i]? = some y := hy
      rw [List.getElem?_toArray, hu] at h2
      exact (Option.some.inj h2).symm
    subst hyu
    refine ⟨_, rfl, wpAny_letOwnedTupleGo_enum (s := { s with heap := h', toks := tk + 1 }) ho fun h'' he' sb => ?_⟩
    have hT2 : h''.get? s.heap.objs.size = some { cls := .type "tuple", data := .seq #[.int i tk, y] } := (sb.2 _ (Nat.ne_of_gt hel)).trans hT
    have new : ObjOk X.prog X.w (upd H s.heap.objs.size (.tup [.int (i : Nat), x])) h'' s.heap.objs.size (.tup [.int (i : Nat), x]) :=
      ⟨by show 2 ≤ sizeLine; decide, [.int i tk, y], .cons ⟨_, rfl⟩ (.cons ru .nil), ⟨_, hT2, rfl, _, rfl⟩⟩
    have I1 : Inv X pins σ (upd H s.heap.objs.size (.tup [.int (i : Nat), x])) { s with heap := h'', toks := tk + 1 } :=
      I.turnedNew (ch := [e, it]) (fun b ob hb q => (sb.2 b (fun z => hb (by simp [z]))).trans (hk b ob (fun z => hb (by simp [z])) (fun z => hb (by simp [z])) q)) hf (Nat.le_refl _) new
    refine ⟨.ref s.heap.objs.size, _, I1, rfl, ⟨_, x, rfl, I.hok.fresh (Nat.le_refl _), rfl, fun ys hy => by rw [I.tuple_inj hy hq]; exact hx⟩, ⟨⟨y, ?_⟩, st'.1.at fun o q => (sb.2 it (Ne.symm hne)).trans q, hne⟩, fun b hb => ?_⟩
    · have e1 : ((i + 1 : Nat) : Int) = (i : Int) + 1 := by omega
      rw [e1]; exact he'
    · have hb2 : b = e ∨ b = it := by simpa using hb
      have hb' : b < s.heap.objs.size := by
        rcases hb2 with z | z
        · rw [z]; exact hel
        · rw [z]; exact hil
      rw [upd_ne (Nat.ne_of_lt hb')]
      exact (hf b hb).1
  done := by
    intro X hP hw hK hc i pins s σ H E I hf st hg
    subst hP hw hK
    obtain ⟨⟨old, he⟩, hit, hne⟩ := st
    obtain ⟨xs, hq, hx⟩ := hg
    obtain ⟨its, rv, p, hz⟩ := I.tuple hq
    obtain ⟨f0, f1, f2, f3, f4, f5⟩ := hf it (by simp)
    have pt : s.heap.IsTuple a its.toArray := p
    have hl := rv.length
    have hai : a ≠ it := fun q => by
      obtain ⟨o1, h1, c1, _⟩ := pt
      obtain ⟨o2, h2, c2, _⟩ := hit
      rw [q, h2] at h1
      cases h1
      rw [c1] at c2
      exact absurd c2 (by decide)
    unfold pyNext
    have hT : s.TypeIs (.ref e) "enumerate" := ⟨_, he, rfl⟩
    refine wpAny_bind (wpAny_attempt (wpAny_callSpecial?_slot (name := Str.ofString "__next__") hT F.slot_enumerate_next
      (wpAny_call_entry F.slot_enumerate_next hT F.entry_enumerate_next ?_ (F.args_enumerate_next_1 _))))
    show wpAny _ _ (field (.ref e) 2 >>= _) _ _ _
    refine wpAny_bind (wpAny_field he rfl (x := .ref it) rfl ?_)
    refine wpAny_bind (wpAny_nextOf_tuple_end (I.ok.hd hc) hit pt (by simp; omega) fun h' x he' hx' => ?_)
    obtain ⟨o, ho, hcl⟩ := hx'
    refine wpAny_bind (wpAny_isInstance (T := "StopIteration") (b := true) ⟨o, ho, hcl⟩ isSubtype_stop ?_)
    exact wpAny_pure ⟨rfl, I.turned (t' := s.toks) (fun b o hb q => he' b o hb q) f0 f1 f3 f4 f5⟩
  self := fun A i s Q E st h => by
    obtain ⟨⟨_, he⟩, _⟩ := st
    exact wpAny_pyIter_enum he h
set_option maxHeartbeats 4000000 in
theorem meets_enum1 {v : Value} {o : Obj} {H : Heap → Prop} (B : Begins v o H) :
    Meets (Builtin.«enumerate.__new__» ⟨[.type "enumerate", v], []⟩) (fun _ R s => H s.heap ∧
      R (.ok (.ret (.ref (s.heap.push o).objs.size))) { s with heap := (s.heap.push o).push { cls := .type "enumerate", data := .fields #[.none, .bool false, .ref s.heap.objs.size, rawInt 0, .none, .none] } }) :=
  .of_wp fun prog w A R s h => by
    obtain ⟨hp, g, d, tk, os⟩ := s
    obtain ⟨h1, h⟩ := h
    have hsub := sub_enumerate
    have q1 : ∀ {A' : Around} {E : Value → Shared → Prop} {Q : Value → Shared → Prop}, Q (.ref hp.objs.size) ⟨hp.push o, g, d, tk, os⟩ → wpAny (model prog w) A' (pyIter v) Q E ⟨hp, g, d, tk, os⟩ :=
      fun q => B.iter prog w _ _ ⟨hp, g, d, tk, os⟩ _ h1 q
    wp_walk using q1
    refine wpAny_stack_any fun st => wpAny_pure ?_
    split
    · rename_i c _ _ _ _ _
      cases (c == Value.type "enumerate")
      · wp_walk using q1
        exact ⟨_, rfl, h⟩
      · wp_walk using q1
        exact ⟨_, rfl, h⟩
    · wp_walk using q1
      exact ⟨_, rfl, h⟩
theorem enum_begins1 {prog : Program} {w : World} {A : Around} {E : Value → Shared → Prop} {s : Shared} {v : Value} {o : Obj} {H : Heap → Prop} {Q : Value → Shared → Prop} (B : Begins v o H) (h1 : H s.heap)
    (h : ∀ h', IsEnum h' (s.heap.objs.size + 1) s.heap.objs.size 0 .none → h'.get? s.heap.objs.size = some o → (∀ b o, s.heap.get? b = some o → h'.get? b = some o) → Q (.ref (s.heap.objs.size + 1)) { s with heap := h' }) :
    wpAny (model prog w) A (call (.type "enumerate") [v]) Q E s := by
  refine callType_new F.called_enumerate (by decide) (F.typeCall_enumerate_1 _) (F.newCall_enumerate_1 _) (fun obj => F.args_object_init_2 obj _) F.entry_enumerate_new (meets_enum1 B) ⟨h1, ?_⟩
  have hz : (s.heap.push o).objs.size = s.heap.objs.size + 1 := Heap.size_push ..
  show _ ∧ _
  rw [hz]
  have he : IsEnum ((s.heap.push o).push { cls := .type "enumerate", data := .fields #[.none, .bool false, .ref s.heap.objs.size, rawInt 0, .none, .none] }) (s.heap.objs.size + 1) s.heap.objs.size 0 .none := by
    have := Heap.get?_push_size (s.heap.push o) (o := { cls := .type "enumerate", data := .fields #[.none, .bool false, .ref s.heap.objs.size, rawInt 0, .none, .none] }) rfl
    rw [hz] at this
    exact this
  exact ⟨⟨_, he, rfl⟩, h _ he (Heap.get?_push_of_some _ (Heap.get?_push_size _ B.free)) fun b o x => Heap.get?_push_of_some _ (Heap.get?_push_of_some _ x)⟩
def iEnumA (K : PySem.W.Frag) (ta : TA) : TI := fun σ H R => ta σ H fun vs H1 => ∃ a, vs = [.ref a] ∧ (((∃ xs, SqL K H1 a xs) ∧ R (Ite K a) H1) ∨ ((∃ xs, SqT K H1 a xs) ∧ R (ItEt K a) H1))
theorem pi_enumA {X : Cx} {e : Expr} {ta : TA} {p pos tpos : Pos} {elts : List Expr} {kk : Nat} (hg : Gl X "enumerate") (hm : X.mg "enumerate" = none) (ha : PA X [e] ta) (hs : starEach [e] X.env = [(false, eval e X.env)] := by rfl) :
    PI X (.Tuple elts kk tpos) (.Call (.Name "enumerate" p) [e] [] pos) (iEnumA X.K ta) := by
  refine ⟨fun pins s σ H R I h => ?_⟩
  refine Call_ (ld_blt I hg hm boot_enumerate (PyProof.Rows.callWith_type1 (thn (ha.run pos pins s σ H _ I h) fun us s1 ⟨vs, H1, I1, r1, q1⟩ => ?_) hs rfl))
  obtain ⟨a, rfl, q1⟩ := q1
  obtain ⟨u, rfl, ru⟩ := vals1 r1
  cases ru
  have apart : ∀ b, b ∈ [s1.heap.objs.size + 1, s1.heap.objs.size] → s1.heap.objs.size ≤ b := fun b hb => by
    have hb2 : b = s1.heap.objs.size + 1 ∨ b = s1.heap.objs.size := by simpa using hb
    rcases hb2 with z | z
    · rw [z]; exact Nat.le_add_right _ _
    · rw [z]; exact Nat.le_refl _
  rcases q1 with ⟨⟨xs, hq⟩, q1⟩ | ⟨⟨xs, hq⟩, q1⟩
  · obtain ⟨its, rv, pl, hz⟩ := I1.list hq
    refine enum_begins1 (begins_list a its.toArray) pl.isList fun h' he hit hk => wpAny_pyIter_enum he ?_
    have I2 : Inv X pins σ H1 { s1 with heap := h' } := I1.kept (t' := s1.toks) hk
    exact ⟨s1.heap.objs.size + 1, [s1.heap.objs.size + 1, s1.heap.objs.size], _, _, H1, rfl, I2, turn_enum a (s1.heap.objs.size + 1) s1.heap.objs.size, ⟨⟨.none, he⟩, ⟨_, hit, rfl, rfl⟩, Nat.succ_ne_self _⟩, fun b hb => I1.fpOk (apart b hb) (I1.hok.fresh (apart b hb)), q1⟩
  · obtain ⟨its, rv, pt, hz⟩ := I1.tuple hq
    refine enum_begins1 (begins_tuple a its.toArray) pt fun h' he hit hk => wpAny_pyIter_enum he ?_
    have I2 : Inv X pins σ H1 { s1 with heap := h' } := I1.kept (t' := s1.toks) hk
    exact ⟨s1.heap.objs.size + 1, [s1.heap.objs.size + 1, s1.heap.objs.size], _, _, H1, rfl, I2, turn_enumT a (s1.heap.objs.size + 1) s1.heap.objs.size, ⟨⟨.none, he⟩, ⟨_, hit, rfl, rfl⟩, Nat.succ_ne_self _⟩, fun b hb => I1.fpOk (apart b hb) (I1.hok.fresh (apart b hb)), q1⟩
def pairI (i : Nat) (d : D) : D := .tup [.int i, d]
def srcTE (ds : List D) : Src := ⟨ds.length, fun _ i => (ds[i]?).map (pairI i), fun _ => true⟩
def srcLE (n : Nat) (k : Nat) : Src := ⟨k, fun m i => match m[n]? with
  | some (.lst ds) => if ds.length = k then (ds[i]?).map (pairI i) else none
  | _ => none, fun m => match m[n]? with
  | some (.lst ds) => decide (ds.length = k)
  | _ => false⟩
def srcEOf (m : M) : D → Option Src
  | .tup ds => some (srcTE ds)
  | .rol ds => some (srcTE ds)
  | .ref n => match m[n]? with
    | some (.lst ds) => some (srcLE n ds.length)
    | _ => none
  | _ => none
section
variable {K : PySem.W.Frag} {β0 : List Addr} {H0 : Hp}
theorem rp_pair {β : List Addr} {H : Hp} {m : M} {T : Addr} {i : Nat} {x : V} {d : D} (ok : MOk K β H m) (hT : H T = none) (r : Rp K β H x d) : Ext β β H (upd H T (.tup [.int (i : Nat), x])) ∧ MOk K β (upd H T (.tup [.int (i : Nat), x])) m ∧
    Rp K β (upd H T (.tup [.int (i : Nat), x])) (.ref T) (pairI i d) :=
  ⟨Ext.upd_new hT, ok.upd_new hT, .tup upd_same (.cons (.int _) (.cons (r.ext (Ext.upd_new hT)) .nil))⟩
theorem src_etup {a : Addr} {xs : List V} {ds : List D} (h : SqT K H0 a xs) (r : RpA K β0 H0 xs ds) : SrcOk K β0 H0 (srcTE ds) (ItEt K a) := fun β H m e ok => by
  refine ⟨fun i d hi hd => ?_, fun _ => ⟨xs, e.sqt h, by show xs.length ≤ ds.length; rw [r.length]; exact Nat.le_refl _⟩⟩
  simp only [srcTE] at hd
  cases hq : ds[i]? with
  | none => rw [hq] at hd; cases hd
  | some d0 =>
    rw [hq] at hd
    cases hd
    obtain ⟨v, hv, rv⟩ := r.get hq
    refine ⟨⟨xs, v, e.sqt h, hv⟩, fun x H' y => ?_⟩
    obtain ⟨T, x0, rfl, hT, rfl, y⟩ := y
    have hx := y xs (e.sqt h)
    rw [hv] at hx
    cases hx
    exact rp_pair ok hT (rv.mono e)
theorem src_erol {a : Addr} {xs : List V} {ds : List D} (h : SqF K H0 a xs) (r : RpA K β0 H0 xs ds) : SrcOk K β0 H0 (srcTE ds) (Ite K a) := fun β H m e ok => by
  refine ⟨fun i d hi hd => ?_, fun _ => ⟨xs, (e.sqf h).sql, by show xs.length ≤ ds.length; rw [r.length]; exact Nat.le_refl _⟩⟩
  simp only [srcTE] at hd
  cases hq : ds[i]? with
  | none => rw [hq] at hd; cases hd
  | some d0 =>
    rw [hq] at hd
    cases hd
    obtain ⟨v, hv, rv⟩ := r.get hq
    refine ⟨⟨xs, v, (e.sqf h).sql, hv⟩, fun x H' y => ?_⟩
    obtain ⟨T, x0, rfl, hT, rfl, y⟩ := y
    have hx := y xs (e.sqf h).sql
    rw [hv] at hx
    cases hx
    exact rp_pair ok hT (rv.mono e)
theorem src_elst {a : Addr} {n k : Nat} (hb : β0[n]? = some a) : SrcOk K β0 H0 (srcLE n k) (Ite K a) := fun β H m e ok => by
  have hb' := e.ix _ _ hb
  refine ⟨fun i d hi hd => ?_, fun hf => ?_⟩
  · simp only [srcLE] at hd
    split at hd
    · rename_i ds hds
      split at hd
      · obtain ⟨xs, h1, r1⟩ := ok.at' n _ a hds hb'
        cases hq : ds[i]? with
        | none => rw [hq] at hd; cases hd
        | some d0 =>
          rw [hq] at hd
          cases hd
          obtain ⟨v, hv, rv⟩ := r1.get hq
          refine ⟨⟨xs, v, SqL.of h1, hv⟩, fun x H' y => ?_⟩
          obtain ⟨T, x0, rfl, hT, rfl, y⟩ := y
          have hx := y xs (SqL.of h1)
          rw [hv] at hx
          cases hx
          exact rp_pair ok hT rv
      · cases hd
    · cases hd
  · simp only [srcLE] at hf
    split at hf
    · rename_i ds hds
      obtain ⟨xs, h1, r1⟩ := ok.at' n _ a hds hb'
      exact ⟨xs, SqL.of h1, by show xs.length ≤ k; rw [r1.length]; exact Nat.le_of_eq (of_decide_eq_true hf)⟩
    · cases hf
end
def fEnum (f : FE) : FI := fun ρ m => (f ρ m).bind fun d m => match srcEOf m d with
  | some s => .ok s m
  | none => .bad
theorem pid_enum {X : Cx} {W : WXD} {e : Expr} {f : FE} {p pos tpos : Pos} {elts : List Expr} {kk : Nat} (hg : Gl X "enumerate") (hm : X.mg "enumerate" = none) (ha : PD X W e f) (hs : starEach [e] X.env = [(false, eval e X.env)] := by rfl)
    (hs' : starEach [e] X.env = (false, eval e X.env) :: starEach [] X.env := by rfl) : PID X W (.Tuple elts kk tpos) (.Call (.Name "enumerate" p) [e] [] pos) (fEnum f) :=
  PI.imp (pi_enumA hg hm (pa_cons ha pa_nil hs') hs) fun σ H R q => by
    obtain ⟨β, m, ρ, s, q⟩ := q
    refine td_bind s q fun d m1 v β1 H1 e1 s1 rv q1 => ?_
    split at q1
    · rename_i src hsrc
      have fin : ∀ J, SrcOk X.K β1 H1 src J → R J H1 := q1.here s1.me
      cases rv with
      | tup hx rx => simp only [srcEOf] at hsrc; cases hsrc; exact ⟨_, rfl, .inr ⟨⟨_, SqT.of hx⟩, fin _ (src_etup (SqT.of hx) rx)⟩⟩
      | rol hx rx => simp only [srcEOf] at hsrc; cases hsrc; exact ⟨_, rfl, .inl ⟨⟨_, hx.sql⟩, fin _ (src_erol hx rx)⟩⟩
      | ref hb =>
        simp only [srcEOf] at hsrc
        split at hsrc
        · rename_i ds hds
          cases hsrc
          obtain ⟨xs, h1, r1⟩ := s1.me.at' _ _ _ hds hb
          exact ⟨_, rfl, .inl ⟨⟨xs, SqL.of h1⟩, fin _ (src_elst hb)⟩⟩
        · cases hsrc
      | non => simp only [srcEOf] at hsrc; cases hsrc
      | bl _ => simp only [srcEOf] at hsrc; cases hsrc
      | int _ => simp only [srcEOf] at hsrc; cases hsrc
      | str _ => simp only [srcEOf] at hsrc; cases hsrc
      | ty _ => simp only [srcEOf] at hsrc; cases hsrc
    · exact q1.elim

/-! ### zip of two tuples -/
def srcZ (ds es : List D) : Src := ⟨min ds.length es.length, fun _ i => match ds[i]?, es[i]? with
  | some d, some e => some (.tup [d, e])
  | _, _ => none, fun _ => true⟩
def fZipT (f g : FE) : FI := fun ρ m => (f ρ m).bind fun d m => (g ρ m).bind fun e m => match d, e with
  | .tup ds, .tup es => .ok (srcZ ds es) m
  | _, _ => .bad
theorem src_zipT {K : PySem.W.Frag} {β0 : List Addr} {H0 : Hp} {a b : Addr} {xs ys : List V} {ds es : List D} (h : SqT K H0 a xs) (r : RpA K β0 H0 xs ds) (h' : SqT K H0 b ys) (r' : RpA K β0 H0 ys es) : SrcOk K β0 H0 (srcZ ds es) (RZ.ItzT K a b) := fun β H m e ok => by
  refine ⟨fun i d hi hd => ?_, fun _ => ⟨xs, ys, e.sqt h, e.sqt h', by show xs.length ≤ min ds.length es.length ∨ ys.length ≤ min ds.length es.length; rw [r.length, r'.length]; omega⟩⟩
  simp only [srcZ] at hd
  split at hd
  · rename_i d1 d2 h1 h2
    cases hd
    obtain ⟨v, hv, rv⟩ := r.get h1
    obtain ⟨w, hw, rw'⟩ := r'.get h2
    refine ⟨⟨xs, ys, v, w, e.sqt h, e.sqt h', hv, hw⟩, fun x H' y => ?_⟩
    obtain ⟨T, x0, y0, rfl, hT, rfl, y1, y2⟩ := y
    have hx := y1 xs (e.sqt h)
    rw [hv] at hx
    cases hx
    have hy := y2 ys (e.sqt h')
    rw [hw] at hy
    cases hy
    exact ⟨Ext.upd_new hT, ok.upd_new hT, .tup upd_same (.cons ((rv.mono e).ext (Ext.upd_new hT)) (.cons ((rw'.mono e).ext (Ext.upd_new hT)) .nil))⟩
  · cases hd
theorem pid_zipT {X : Cx} {W : WXD} {e e2 : Expr} {f g : FE} {p pos tpos : Pos} {elts : List Expr} {kk : Nat} (hg : Gl X "zip") (hm : X.mg "zip" = none) (ha : PD X W e f) (hb : PD X W e2 g)
    (hs : starEach [e, e2] X.env = (false, eval e X.env) :: starEach [e2] X.env := by rfl) (hs2 : starEach [e2] X.env = (false, eval e2 X.env) :: starEach [] X.env := by rfl) (hpl : (backTo pos (starEach [e2] X.env)).any (·.1) = false := by rfl) :
    PID X W (.Tuple elts kk tpos) (.Call (.Name "zip" p) [e, e2] [] pos) (fZipT f g) :=
  PI.imp (RZ.pi_zipA hg hm (pa_cons ha (pa_cons hb pa_nil hs2) hs) hs hpl) fun σ H R q => by
    obtain ⟨β, m, ρ, s, q⟩ := q
    refine td_bind s q fun d m1 v β1 H1 e1 s1 rv q1 => ?_
    refine td_bind s1 q1 fun d2 m2 w β2 H2 e2 s2 rw q2 => ?_
    split at q2
    · have rv2 := rv.ext e2
      cases rv2 with
      | tup hx rx =>
        cases rw with
        | tup hy ry => exact ⟨_, _, _, _, rfl, .inr ⟨SqT.of hx, SqT.of hy, q2.here s2.me _ (src_zipT (SqT.of hx) rx (SqT.of hy) ry)⟩⟩
    · exact q2.elim
end Dl

/-! DL9: products, chains of comparisons, comprehensions of two clauses, methods of lists. -/
namespace Dl
open PySem PySem.Spec PyProof.Rows L2

/-! ### a * b -/
theorem tuple_mul1 (l : Addr) (items : Array Value) (n : Nat) (dx : Option Addr) (sx : Array (Option Value)) (u : Tok) :
    Meets (Builtin.«tuple.__mul__» ⟨[.ref l, .int 1 u], []⟩) (fun _ R s => s.heap.get? l = some ⟨.type "tuple", dx, .seq items n, sx⟩ ∧ R (.ok (.ret (.ref l))) s) :=
  .of_wp fun prog w A R s h => by
    obtain ⟨hp, g, d, tk, os⟩ := s
    obtain ⟨hl, h⟩ := h
    have f1 := AutoSeq1.idx_int
    have c1 : (items.isEmpty || (1 : Int) == 1) = true := by simp
    wp_walk using wpAny_loadPart' hl
    exact ⟨_, rfl, h⟩
def rRep1 (K : PySem.W.Frag) : R2 := fun x y H Q => ∃ l xs, x = .ref l ∧ y = .int 1 ∧ SqT K H l xs ∧ Q (.ref l) H
theorem op_rep1 {X : Cx} : OpR X (binaryOp .Mult) (rRep1 X.K) := by
  intro pins s σ H x y v u Q I rx ry h
  obtain ⟨l, xs, rfl, rfl, hT, q⟩ := h
  cases rx
  obtain ⟨t, rfl⟩ := ry
  obtain ⟨its, r, ⟨⟨cls, dd, data, sl⟩, ho, hc, n, hd⟩, hs⟩ := I.tuple hT
  simp only at hc hd
  subst hc hd
  have m1 := tuple_mul1 l its.toArray n dd sl t
  refine wpAny_binaryOp_repeat_ref (T := "tuple") (U := "int") (by decide) ⟨_, ho, rfl⟩ (fun s' => typeIs_int s' 1 t) noFill_tuple_mul F.fills_int_mul F.slot_int_rmul repeat_tuple F.slot_int_index.lookup
    (call_meets F.slot_int_rmul (typeIs_int s 1 t) F.entry_int_rmul (F.args_int_rmul_2 _ _) (int_rmul_tuple 1 t l its.toArray n dd sl) ⟨ho, rfl, ⟨_, ho, rfl⟩, call_meets F.slot_tuple_mul ⟨_, ho, rfl⟩ F.entry_tuple_mul (F.args_tuple_mul_2 _ _) m1 ⟨ho, ?_⟩⟩)
  exact ⟨.ref l, H, I.tok s.toks, rfl, q⟩
noncomputable def gMul : D → D → M → Res D := fun a b m => match a, b with
  | .int i, .int j => if cMul i j then .ok (.int (i * j)) m else .bad
  | .tup xs, .int k => if k = 1 then .ok (.tup xs) m else if 2 ≤ k ∧ k ≤ 1000 ∧ xs ≠ [] ∧ xs.length ≤ 1000 then .ok (.tup (List.replicate k.toNat xs).flatten) m else .bad
  | .ref n, .int k => match m[n]? with
    | some (.lst xs) => if 0 ≤ k ∧ k ≤ 1000 ∧ xs.length ≤ 100 then .ok (.ref m.length) (m ++ [.lst (List.replicate k.toNat xs).flatten]) else .bad
    | _ => .bad
  | _, _ => .bad
def rMulD (K : PySem.W.Frag) : R2 := fun x y H Q => (rI CMul fun i j => .int (i * j)) x y H Q ∨ rRep1 K x y H Q ∨ rRepT K x y H Q ∨ rRep x y H Q
theorem RpA.rep {K : PySem.W.Frag} {β : List Addr} {H : Hp} {xs : List V} {ds : List D} (r : RpA K β H xs ds) : ∀ n : Nat, RpA K β H (List.replicate n xs).flatten (List.replicate n ds).flatten
  | 0 => .nil
  | n + 1 => by
    rw [List.replicate_succ, List.replicate_succ, List.flatten_cons, List.flatten_cons]
    exact r.append (RpA.rep r n)
theorem opd_mulD {K : PySem.W.Frag} : OpD K (rMulD K) gMul := by
  intro Wx β H m x y a b Q ok ra rb h
  unfold gMul at h
  split at h
  · rename_i i j
    refine .inl (opd_mul Wx β H m x y (.int i) (.int j) Q ok ra rb ?_)
    exact h
  · rename_i xs k
    cases ra with
    | tup hx rx =>
      cases rb
      split at h
      · rename_i hk
        subst hk
        exact .inr (.inl ⟨_, _, rfl, rfl, SqT.of hx, h.here ok _ (.tup hx rx)⟩)
      · split at h
        · rename_i hk
          obtain ⟨h1, h2, h3, h4⟩ := hk
          refine .inr (.inr (.inl ⟨_, _, _, rfl, rfl, SqT.of hx, fun e => h3 (rx.nil_iff.mp e), h1, h2, by rw [rx.length]; exact h4, fun p hp => ?_⟩))
          exact h β _ (Ext.upd_new hp) (ok.upd_new hp) _ (.tup upd_same ((rx.ext (Ext.upd_new hp)).rep _))
        · exact h.elim
  · rename_i n k
    split at h
    · rename_i ds hn
      split at h
      · rename_i hk
        obtain ⟨h1, h2, h3⟩ := hk
        cases ra with
        | ref hb =>
          cases rb
          obtain ⟨xs, g1, g2⟩ := ok.at' _ _ _ hn hb
          have hm : xs.length * k.toNat ≤ 100 * 1000 := Nat.mul_le_mul (by rw [g2.length]; exact h3) (by omega)
          refine .inr (.inr (.inr ⟨_, k, xs, rfl, rfl, g1, by omega, by omega, by rw [sizeLine_eq]; omega, fun p hp => ?_⟩))
          exact h (β ++ [p]) _ (Ext.lay hp) (ok.lay hp (g2.rep _)) _ (Rp.last ok)
      · exact h.elim
    · exact h.elim
  · exact h.elim
theorem op_mulD {X : Cx} : OpR X (binaryOp .Mult) (rMulD X.K) := op_mul.or (op_rep1.or (op_repT.or op_rep))
section
variable {X : Cx} {W : WXD} {a b c : Expr} {pos : Pos} {fa fb fc : FE}
theorem pd_mul (ha : PD X W a fa) (hb : PD X W b fb) : PD X W (.BinOp a .Mult b pos) (fOp gMul fa fb) := pd_op op_mulD opd_mulD ha hb

/-! ### a op b op c -/
theorem pd_chain {op op' : CmpOp} {r r' : R2} {g g' : D → D → M → Res D} (ho : OpR X (compareOp op) r) (ho' : OpR X (compareOp op') r') (hg : OpD X.K r g) (hg' : OpD X.K r' g') (ha : PD X W a fa) (hb : PD X W b fb) (hc : PD X W c fc)
    (hm : lastMarks [op, op'] [b, c] = false := by with_unfolding_all rfl) : PD X W (.Compare a [op, op'] [b, c] pos) (fChain g g' fa fb fc) := PE.imp (pe_chain ho ho' ha hb hc hm) fun _ _ _ q => td_chain hg hg' q
theorem ptd_chain {op op' : CmpOp} {r r' : R2} {g g' : D → D → M → Res D} (ho : OpR X (compareOp op) r) (ho' : OpR X (compareOp op') r') (hg : OpD X.K r g) (hg' : OpD X.K r' g') (ha : PD X W a fa) (hb : PD X W b fb) (hc : PD X W c fc)
    (hm : lastMarks [op, op'] [b, c] = false := by with_unfolding_all rfl) : PTD X W (.Compare a [op, op'] [b, c] pos) (fTest (fChain g g' fa fb fc)) := PT.imp (pt_chain ho ho' ha hb hc hm) fun σ H Q h => by
  have q := td_test h
  unfold tTest at q ⊢
  exact td_chain hg hg' q
end

/-! ### methods of lists -/
/-- what the method makes of the list's items: the answer, the items then -/
abbrev MF := M → List D → List D → Option (D × List D)
def fMeth (g : MF) (fo : FE) (fa : FA) : FE := fun ρ m => (fo ρ m).bind fun o m1 => match o with
  | .ref n => match m1[n]? with
    | some (.lst _) => (fa ρ m1).bind fun as m2 => match m2[n]? with
      | some (.lst xs) => match g m2 xs as with
        | some (d, ys) => .ok d (m2.set n (.lst ys))
        | none => .bad
      | _ => .bad
    | _ => .bad
  | _ => .bad
def MtD (K : PySem.W.Frag) (r : V → List V → Hp → VK → Prop) (g : MF) : Prop :=
  ∀ (β : List Addr) (H : Hp) (m : M) (l : Addr) (xs vs : List V) (ds as : List D) (d : D) (es : List D) (Q : VK), MOk K β H m → H l = some (.lst xs) → RpA K β H xs ds → RpA K β H vs as → g m ds as = some (d, es) →
    (∀ v ys, Rp K β H v d → RpA K β H ys es → Q v (upd H l (.lst ys))) → r (.ref l) vs H Q
theorem td_meth {K : PySem.W.Frag} {W : WXD} {r : V → List V → Hp → VK → Prop} {g : MF} (hg : MtD K r g) {fo : FE} {fa : FA} {σ : Sg} {H : Hp} {Q : VK} (q : tD K W (fMeth g fo fa) σ H Q) : tBM K "list" r (tD K W fo) (tAD K W fa) σ H Q := by
  obtain ⟨β, m, ρ, s, q⟩ := q
  refine td_bind s q fun o m1 v β1 H1 e1 s1 rv q1 => ?_
  split at q1
  · rename_i n
    split at q1
    · rename_i ds0 hn0
      cases rv with
      | ref hb =>
        obtain ⟨xs0, h0, r0⟩ := s1.me.at' _ _ _ hn0 hb
        refine ⟨.inl ⟨rfl, _, .inl (.inl h0)⟩, tad_bind s1 q1 fun as m2 vs β2 H2 e2 s2 rs q2 => ?_⟩
        split at q2
        · rename_i ds hn
          split at q2
          · rename_i d es hge
            have hb2 := e2.ix hb
            obtain ⟨xs, h1, r1⟩ := s2.me.at' _ _ _ hn hb2
            refine hg β2 H2 m2 _ xs vs ds as d es Q s2.me h1 r1 rs hge fun u ys ru ry => ?_
            exact q2 β2 _ (Ext.write h1 hb2) (s2.me.write h1 hb2 ry) u (ru.ext (Ext.write h1 hb2))
          · exact q2.elim
        · exact q2.elim
    · exact q1.elim
  · exact q1.elim
def mAppend : MF := fun _ xs as => match as with
  | [y] => if xs.length < LIM then some (.non, xs ++ [y]) else none
  | _ => none
theorem mtd_append {K : PySem.W.Frag} : MtD K rAppend mAppend := by
  intro β H m l xs vs ds as d es Q ok h rx rv hg q
  unfold mAppend at hg
  split at hg
  · split at hg
    · rename_i hl
      obtain ⟨rfl, rfl⟩ : _ ∧ _ := by simpa using hg
      obtain ⟨y, rfl, ry⟩ := rv.one
      exact ⟨l, xs, y, rfl, rfl, h, lim_lt (by rw [rx.length]; exact hl), q _ _ .non (rx.append (.cons ry .nil))⟩
    · cases hg
  · cases hg
def mExtend : MF := fun m xs as => match as with
  | [.ref n] => match m[n]? with
    | some (.lst ys) => if xs.length + ys.length ≤ LIM then some (.non, xs ++ ys) else none
    | _ => none
  | _ => none
theorem mtd_extend {K : PySem.W.Frag} : MtD K rExtend mExtend := by
  intro β H m l xs vs ds as d es Q ok h rx rv hg q
  unfold mExtend at hg
  split at hg
  · split at hg
    · rename_i n es' hn
      split at hg
      · rename_i hl
        obtain ⟨rfl, rfl⟩ : _ ∧ _ := by simpa using hg
        obtain ⟨y, rfl, ry⟩ := rv.one
        cases ry with
        | ref hb =>
          obtain ⟨zs, h1, r1⟩ := ok.at' _ _ _ hn hb
          exact ⟨l, _, xs, zs, rfl, rfl, h, h1, lim_le (by rw [rx.length, r1.length]; exact hl), q _ _ .non (rx.append r1)⟩
      · cases hg
    · cases hg
  · cases hg
def mPop0 : MF := fun _ xs as => match as with
  | [.int 0] => match xs with
    | x :: r => some (x, r)
    | [] => none
  | [.int i] => if 0 ≤ i ∧ i < 1000000 then match xs[i.toNat]? with
      | some x => some (x, xs.eraseIdx i.toNat)
      | none => none
    else none
  | _ => none
theorem mtd_pop0 {K : PySem.W.Frag} : MtD K rPopAt mPop0 := by
  intro β H m l xs vs ds as d es Q ok h rx rv hg q
  unfold mPop0 at hg
  split at hg
  · split at hg
    · obtain ⟨rfl, rfl⟩ : _ ∧ _ := by simpa using hg
      obtain ⟨y, rfl, ry⟩ := rv.one
      cases ry
      cases rx with
      | @cons x xs d ds r1 r2 =>
        refine ⟨l, _, 0, 0, x, rfl, rfl, h, by decide, by decide, ?_, rfl, q _ _ r1 r2⟩
        unfold seqIndex?
        simp
    · cases hg
  · rename_i i _
    split at hg
    · rename_i hi
      split at hg
      · rename_i x hx
        obtain ⟨rfl, rfl⟩ : _ ∧ _ := by simpa using hg
        obtain ⟨y, rfl, ry⟩ := rv.one
        cases ry
        obtain ⟨u, hu, ru⟩ := rx.get hx
        have hlt : i.toNat < xs.length := (List.getElem?_eq_some_iff.mp hu).1
        exact ⟨l, _, i, i.toNat, u, rfl, rfl, h, by omega, by omega, seqIndex_of hi.1 (by omega), hu, q _ _ ru (rx.erase _)⟩
      · cases hg
    · cases hg
  · cases hg
section
variable {X : Cx} {W : WXD} {o e : Expr} {fo : FE} {fa : FA} {apos cpos : Pos} {name : Str} {id : String} {r : V → List V → Hp → VK → Prop} {g : MF}
theorem pd_meth (pl : PlainAttrs "list") (slot : Slot "list" name id) (hty : typeOf (.builtin id) = pure (.type "method_descriptor")) (hm : MtR X id r) (hg : MtD X.K r g) (ho : PD X W o fo) (ha : PAD X W [e] fa)
    (hbase : attributeBase o name X.env (eval o X.env) = eval o X.env := by rfl)
    (hfew : ((backTo cpos (starEach [e] X.env)).all (fun x => !x.1) && (backToKw cpos (keywordEach [] X.env)).all (fun x => x.1.isSome)
      && decide (([e] : List Expr).length + ([] : List Keyword).length + (if ([] : List Keyword).isEmpty then 0 else 1) < 30)) = true := by rfl)
    (hline : (apos.endLine == cpos.line) = true := by rfl) (hs : starEach [e] X.env = (false, eval e X.env) :: starEach [] X.env := by rfl) (hplain : (backTo cpos (starEach [] X.env)).any (·.1) = false := by rfl) :
    PD X W (.Call (.Attribute o name apos) [e] [] cpos) (fMeth g fo fa) :=
  PE.imp (pe_bm pl slot hty hm ho ha hbase hfew hline hs hplain) fun _ _ _ q => td_meth hg q
theorem pd_append (ho : PD X W o fo) (ha : PAD X W [e] fa)
    (hbase : attributeBase o "append" X.env (eval o X.env) = eval o X.env := by rfl)
    (hfew : ((backTo cpos (starEach [e] X.env)).all (fun x => !x.1) && (backToKw cpos (keywordEach [] X.env)).all (fun x => x.1.isSome)
      && decide (([e] : List Expr).length + ([] : List Keyword).length + (if ([] : List Keyword).isEmpty then 0 else 1) < 30)) = true := by rfl)
    (hline : (apos.endLine == cpos.line) = true := by rfl) (hs : starEach [e] X.env = (false, eval e X.env) :: starEach [] X.env := by rfl) (hplain : (backTo cpos (starEach [] X.env)).any (·.1) = false := by rfl) :
    PD X W (.Call (.Attribute o "append" apos) [e] [] cpos) (fMeth mAppend fo fa) := pd_meth PySem.F.plainAttrs_list PySem.F.slot_list_append PySem.F.type_list_append mt_append mtd_append ho ha hbase hfew hline hs hplain
theorem pd_extend (ho : PD X W o fo) (ha : PAD X W [e] fa)
    (hbase : attributeBase o "extend" X.env (eval o X.env) = eval o X.env := by rfl)
    (hfew : ((backTo cpos (starEach [e] X.env)).all (fun x => !x.1) && (backToKw cpos (keywordEach [] X.env)).all (fun x => x.1.isSome)
      && decide (([e] : List Expr).length + ([] : List Keyword).length + (if ([] : List Keyword).isEmpty then 0 else 1) < 30)) = true := by rfl)
    (hline : (apos.endLine == cpos.line) = true := by rfl) (hs : starEach [e] X.env = (false, eval e X.env) :: starEach [] X.env := by rfl) (hplain : (backTo cpos (starEach [] X.env)).any (·.1) = false := by rfl) :
    PD X W (.Call (.Attribute o "extend" apos) [e] [] cpos) (fMeth mExtend fo fa) := pd_meth PySem.F.plainAttrs_list PySem.F.slot_list_extend PySem.F.type_list_extend mt_extend mtd_extend ho ha hbase hfew hline hs hplain
theorem pd_pop0 (ho : PD X W o fo) (ha : PAD X W [e] fa)
    (hbase : attributeBase o "pop" X.env (eval o X.env) = eval o X.env := by rfl)
    (hfew : ((backTo cpos (starEach [e] X.env)).all (fun x => !x.1) && (backToKw cpos (keywordEach [] X.env)).all (fun x => x.1.isSome)
      && decide (([e] : List Expr).length + ([] : List Keyword).length + (if ([] : List Keyword).isEmpty then 0 else 1) < 30)) = true := by rfl)
    (hline : (apos.endLine == cpos.line) = true := by rfl) (hs : starEach [e] X.env = (false, eval e X.env) :: starEach [] X.env := by rfl) (hplain : (backTo cpos (starEach [] X.env)).any (·.1) = false := by rfl) :
    PD X W (.Call (.Attribute o "pop" apos) [e] [] cpos) (fMeth mPop0 fo fa) := pd_meth PySem.F.plainAttrs_list PySem.F.slot_list_pop PySem.F.type_list_pop mt_popAt mtd_pop0 ho ha hbase hfew hline hs hplain
end

/-! ### what is named no more goes -/
def lowM (L : Nat) (m : M) : Bool := (m.take L).all (O.blw L)
def gc (L : Nat) (d : D) (m : M) : D × M :=
  if lowM L m then
    if d.blw L then (d, m.take L) else match d with
      | .ref n => match m[n]? with
        | some o => if o.blw L then (.ref L, m.take L ++ [o]) else (d, m)
        | none => (d, m)
      | _ => (d, m)
  else (d, m)
section
variable {K : PySem.W.Frag} {β β' β'' : List Addr} {H H' : Hp} {L : Nat}
mutual
theorem Rp.low (h : ∀ (n : Nat) (a : Addr), n < L → β'[n]? = some a → β''[n]? = some a) : ∀ {v : V} {d : D}, d.blw L = true → Rp K β' H v d → Rp K β'' H v d
  | _, _, _, .non => .non
  | _, _, _, .bl b => .bl b
  | _, _, _, .int i => .int i
  | _, _, _, .str x => .str x
  | _, _, hd, .tup hs r => .tup hs (RpA.low h (by simpa only [D.blw] using hd) r)
  | _, _, hd, .rol hs r => .rol hs (RpA.low h (by simpa only [D.blw] using hd) r)
  | _, _, hd, .ref hb => .ref (h _ _ (by simpa only [D.blw, decide_eq_true_eq] using hd) hb)
  | _, _, _, .ty n => .ty n
theorem RpA.low (h : ∀ (n : Nat) (a : Addr), n < L → β'[n]? = some a → β''[n]? = some a) : ∀ {vs : List V} {ds : List D}, D.blws L ds = true → RpA K β' H vs ds → RpA K β'' H vs ds
  | _, _, _, .nil => .nil
  | _, _, hd, .cons r t => by
    simp only [D.blws, Bool.and_eq_true] at hd
    exact .cons (Rp.low h hd.1 r) (RpA.low h hd.2 t)
end
theorem KvR.low {κ : Type} {f : D → Option κ} (h : ∀ (n : Nat) (a : Addr), n < L → β'[n]? = some a → β''[n]? = some a) {r : List (κ × V)} {s : List (D × D)} (hb : D.blws L (s.map (·.2)) = true) (q : KvR K β' H f r s) : KvR K β'' H f r s := by
  induction q with
  | nil => exact .nil
  | cons h1 h2 _ ih =>
    simp only [List.map_cons, D.blws, Bool.and_eq_true] at hb
    exact .cons h1 (h2.low h hb.1) (ih hb.2)
theorem OOk.low (h : ∀ (n : Nat) (a : Addr), n < L → β'[n]? = some a → β''[n]? = some a) {a : Addr} {o : O} (hb : o.blw L = true) (q : OOk K β' H a o) : OOk K β'' H a o := by
  cases o with
  | lst ds =>
    obtain ⟨xs, h3, h4⟩ := q
    exact ⟨xs, h3, h4.low h hb⟩
  | dct t kvs =>
    cases t with
    | false =>
      obtain ⟨xs, h3, h4⟩ := q
      exact ⟨xs, h3, h4.low h hb⟩
    | true =>
      obtain ⟨xs, h3, h4⟩ := q
      exact ⟨xs, h3, h4.low h hb⟩
theorem gc_ok {m m' : M} {d : D} (ok : MOk K β H m) (e : Ext β β' H H') (ok' : MOk K β' H' m') : ∃ β2, Ext β β2 H H' ∧ MOk K β2 H' (gc m.length d m').2 ∧ ∀ v, Rp K β' H' v d → Rp K β2 H' v (gc m.length d m').1 := by
  have same : ∃ β2, Ext β β2 H H' ∧ MOk K β2 H' m' ∧ ∀ v, Rp K β' H' v d → Rp K β2 H' v d := ⟨β', e, ok', fun _ r => r⟩
  obtain ⟨γ, rfl⟩ := e.pre
  have hl := ok.len
  have hl' := ok'.len
  rw [List.length_append] at hl'
  have bx : ∀ (n : Nat) (a : Addr) (δ : List Addr), n < m.length → (β ++ γ)[n]? = some a → (β ++ δ)[n]? = some a := fun n a δ hn h => by
    rw [List.getElem?_append_left (by omega)] at h ⊢
    exact h
  have low : ∀ δ : List Addr, lowM m.length m' = true → ∀ (n : Nat) (o : O) (a : Addr), n < m.length → m'[n]? = some o → (β ++ γ)[n]? = some a → OOk K (β ++ δ) H' a o := fun δ hm n o a hn h1 h2 => by
    have hb : o.blw m.length = true := by
      refine List.all_eq_true.mp hm o ?_
      refine List.mem_of_getElem? (i := n) ?_
      rw [List.getElem?_take_of_lt hn]
      exact h1
    exact (ok'.at' n _ a h1 h2).low (fun n a hn h => bx n a δ hn h) hb
  unfold gc
  split
  · rename_i hm
    split
    · rename_i hd
      refine ⟨β, ⟨⟨[], by simp⟩, e.tup, e.frz, e.keep, fun a h1 h2 => absurd h1 h2⟩, ⟨?_, ok.nd, fun n o a h1 h2 => ?_⟩, fun v r => ?_⟩
      · rw [List.length_take]
        omega
      · have hn : n < m.length := by
          have := (List.getElem?_eq_some_iff.mp h2).1
          omega
        rw [List.getElem?_take_of_lt hn] at h1
        have z := low [] hm n o a hn h1 (by rw [List.getElem?_append_left (by omega)]; exact h2)
        rw [List.append_nil] at z
        exact z
      · exact r.low (fun n a hn h => by rw [List.getElem?_append_left (by omega)] at h; exact h) hd
    · split
      · rename_i n hd
        split
        · rename_i o ho
          split
          · rename_i hob
            have hn0 : ¬ n < m.length := by simpa [D.blw] using hd
            have hn1 := (List.getElem?_eq_some_iff.mp ho).1
            have hn2 : n < (β ++ γ).length := by rw [List.length_append]; omega
            have hp : (β ++ γ)[n]? = some ((β ++ γ)[n]) := List.getElem?_eq_getElem hn2
            generalize hpa : (β ++ γ)[n] = p at hp
            have nd := ok'.nd
            have hpg : p ∈ γ := by
              rw [List.getElem?_append_right (by omega)] at hp
              exact List.mem_of_getElem? hp
            have hpb : p ∉ β := fun h => (List.nodup_append.mp nd).2.2 p h p hpg rfl
            refine ⟨β ++ [p], ⟨⟨[p], rfl⟩, e.tup, e.frz, e.keep, fun a h1 h2 => ?_⟩, ⟨?_, ?_, fun k o' a h1 h2 => ?_⟩, fun v r => ?_⟩
            · have ha : a = p := by
                rcases List.mem_append.mp h1 with h | h
                · exact absurd h h2
                · simpa using h
              rw [ha]
              exact e.new p (List.mem_append_right _ hpg) hpb
            · rw [List.length_append, List.length_append, List.length_take, List.length_singleton, List.length_singleton]
              omega
            · refine List.nodup_append.mpr ⟨ok.nd, by simp, fun a h1 b h2 => ?_⟩
              have hb2 : b = p := by simpa using h2
              rw [hb2]
              intro q
              rw [q] at h1
              exact hpb h1
            · by_cases hk : k < m.length
              · rw [List.getElem?_append_left (by rw [List.length_take]; omega), List.getElem?_take_of_lt hk] at h1
                rw [List.getElem?_append_left (by omega)] at h2
                exact low [p] hm k o' a hk h1 (by rw [List.getElem?_append_left (by omega)]; exact h2)
              · have hk2 : k = m.length := by
                  have := (List.getElem?_eq_some_iff.mp h2).1
                  rw [List.length_append, List.length_singleton] at this
                  omega
                subst hk2
                rw [List.getElem?_append_right (by rw [List.length_take]; omega), List.length_take, show m.length - min m.length m'.length = 0 by omega] at h1
                rw [List.getElem?_append_right (by omega), show m.length - β.length = 0 by omega] at h2
                have e1 : o = o' := by simpa using h1
                have e2 : p = a := by simpa using h2
                subst e1 e2
                exact (ok'.at' n _ p ho hp).low (fun n a hn h => bx n a [p] hn h) hob
            · cases r with
              | ref hb =>
                rw [hp] at hb
                cases hb
                refine .ref ?_
                rw [List.getElem?_append_right (by omega), show m.length - β.length = 0 by omega]
                rfl
          · exact same
        · exact same
      · exact same
  · exact same
end
def gcR (L : Nat) : Res D → Res D
  | .ok d m => .ok (gc L d m).1 (gc L d m).2
  | r => r
theorem okD.gc {K : PySem.W.Frag} {Wx : Exn → List Addr → Hp → Prop} {β : List Addr} {H : Hp} {m : M} {r : Res D} {Q : VK} (ok : MOk K β H m) (h : okD K Wx β H (gcR m.length r) fun d _ β' H' => ∀ v, Rp K β' H' v d → Q v H') :
    okD K Wx β H r fun d _ β' H' => ∀ v, Rp K β' H' v d → Q v H' := by
  cases r with
  | ok d m1 =>
    intro β1 H1 e1 ok1 v rv
    obtain ⟨β2, e2, ok2, r2⟩ := gc_ok (d := d) ok e1 ok1
    exact h β2 H1 e2 ok2 v (r2 v rv)
  | exc e m1 => exact h
  | bad => exact h
def fGc (f : FE) : FE := fun ρ m => gcR m.length (f ρ m)
theorem td_gc {K : PySem.W.Frag} {W : WXD} {f : FE} {σ : Sg} {H : Hp} {Q : VK} (q : tD K W (fGc f) σ H Q) : tD K W f σ H Q := by
  obtain ⟨β, m, ρ, s, q⟩ := q
  exact ⟨β, m, ρ, s, okD.gc s.me q⟩
theorem pd_gc {X : Cx} {W : WXD} {e : Expr} {f : FE} (h : PD X W e f) : PD X W e (fGc f) := PE.imp h fun _ _ _ q => td_gc q
def gcB (L : Nat) : Res Bool → Res Bool
  | .ok b m => .ok b (gc L .non m).2
  | r => r
def fGcB (f : FT) : FT := fun ρ m => gcB m.length (f ρ m)
theorem ptd_gc {X : Cx} {W : WXD} {e : Expr} {f : FT} (h : PTD X W e f) : PTD X W e (fGcB f) := PT.imp h fun σ H Q q => by
  obtain ⟨β, m, ρ, s, q⟩ := q
  refine ⟨β, m, ρ, s, ?_⟩
  unfold fGcB at q
  cases hf : f ρ m with
  | ok b m1 =>
    rw [hf] at q
    intro β1 H1 e1 ok1
    obtain ⟨β2, e2, ok2, r2⟩ := gc_ok (d := .non) s.me e1 ok1
    exact q β2 H1 e2 ok2
  | exc e m1 => rw [hf] at q; exact q
  | bad => rw [hf] at q; exact q
end Dl

/-! DL10: comprehensions of two clauses; a name set by a comprehension. -/
namespace Dl
open PySem PySem.Spec PyProof.Rows L2
def lc2L (src : Src) (gt : GT) (ρw : Sl) (t : FT) (fj : FI) (gu : GT) (us : List Nat) (tj : FT) (e : FE) : Nat → Nat → List D → M → Res (List D)
  | 0, _, acc, m => if src.fin m then .ok acc m else .bad
  | k + 1, i, acc, m => match src.get m i with
    | none => .bad
    | some d => match gt d ρw with
      | none => .bad
      | some ρ2 => match t ρ2 m with
        | .ok true m1 => match fj ρ2 m1 with
          | .ok sj m2 => match lcL sj gu (wipeD ρ2 us) tj e sj.n 0 acc m2 with
            | .ok acc' m3 => lc2L src gt ρw t fj gu us tj e k (i + 1) acc' m3
            | _ => .bad
          | _ => .bad
        | .ok false m1 => lc2L src gt ρw t fj gu us tj e k (i + 1) acc m1
        | _ => .bad
def fLc2 (fi : FI) (gt : GT) (vs : List Nat) (t : FT) (fj : FI) (gu : GT) (us : List Nat) (tj : FT) (e : FE) : FA := fun ρ m => (fi ρ m).bind fun src m' => lc2L src gt (wipeD ρ vs) t fj gu us tj e src.n 0 [] m'
theorem Ext0.trans {β β' β'' : List Addr} {H H' H'' : Hp} (a : Ext0 β β' H H') (b : Ext0 β' β'' H' H'') : Ext0 β β'' H H'' := ⟨fun n x h => b.ix n x (a.ix n x h), fun x xs h => b.tup x xs (a.tup x xs h), fun x o u h => b.frz x o u (a.frz x o u h)⟩
theorem wipe_wipe (σ : Sg) (vs : List Nat) : L2.wipe (L2.wipe σ vs) vs = L2.wipe σ vs := by
  refine List.ext_getElem? fun j => ?_
  rw [wipe_get, wipe_get]
  by_cases hj : j ∈ vs
  · simp only [if_pos hj, L2.wipe_length]
  · simp only [if_neg hj, wipe_get]
theorem stepL {src : Src} {gt : GT} {ρw : Sl} {t : FT} {e : FE} {k i : Nat} {acc : List D} {m : M} {d : D} {ρ2 : Sl} (h1 : src.get m i = some d) (h2 : gt d ρw = some ρ2) :
    lcL src gt ρw t e (k + 1) i acc m = match t ρ2 m with
        | .ok true m1 => match e ρ2 m1 with
          | .ok y m2 => if acc.length < LIM then lcL src gt ρw t e k (i + 1) (acc ++ [y]) m2 else .bad
          | _ => .bad
        | .ok false m1 => lcL src gt ρw t e k (i + 1) acc m1
        | _ => .bad := by
  rw [lcL, h1]
  simp only [h2]
  all_goals
    cases ht : t ρ2 m with
    | bad => rfl
    | exc x m1 => rfl
    | ok b m1 =>
      cases b with
      | false => rfl
      | true =>
        simp only
        cases he : e ρ2 m1 <;> rfl
theorem td_lc2 {K : PySem.W.Frag} {W : WXD} {fi fj : FI} {gt gu : GT} {I J : List Nat} {vs us : List Nat} {t tj : FT} {e : FE} (hv : ∀ i ∈ I, i ∈ vs) (hu : ∀ i ∈ J, i ∈ us) {σ : Sg} {H : Hp} {Q : VK} (q : tLD K W (fLc2 fi gt vs t fj gu us tj e) σ H Q) :
    tLc2 (tID K W fi) (tGD K gt I) (tTD K WF t) (tID K WF fj) (tGD K gu J) (tTD K WF tj) (tD K WF e) vs us σ H Q := by
  obtain ⟨β, m, ρ, s, q⟩ := q
  refine ⟨β, m, ρ, s, ?_⟩
  unfold fLc2 at q
  cases hfi : fi ρ m with
  | exc x m1 => rw [hfi] at q; exact q
  | bad => rw [hfi] at q; exact q
  | ok src m1 =>
    rw [hfi] at q
    simp only [bind_ok] at q
    intro β1 H1 e1 ok1 Jo hJ Dl hD
    have hD0 : H Dl = none := e1.none_back ok1 hD
    have sw : RpS K β1 H1 (L2.wipe σ vs) (wipeD ρ vs) := (s.sl.ext e1).wipe vs
    refine ⟨fun i k H' => ∃ β' m' acc xs, i + k = src.n ∧ Ext β1 β' H1 H' ∧ MOk K β' H' m' ∧ Dl ∉ β' ∧ H' Dl = some (.lst xs) ∧ RpA K β' H' xs acc ∧
      okD K (W σ) β H (lc2L src gt (wipeD ρ vs) t fj gu us tj e k i acc m') fun ds m β' H' => ∀ p xs, H p = none → p ∉ β' → H' p = some (.lst xs) → RpA K β' H' xs ds → Q (.ref p) H',
      ⟨src.n, β1, m1, [], [], by omega, Ext.upd_new hD, ok1.upd_new hD, ok1.fresh hD, upd_same, .nil, q⟩, ?_⟩
    rintro i k H' ⟨β', m', acc, xs, hik, e', ok', hn', hl', ra, q'⟩
    obtain ⟨hgo, hstop⟩ := hJ β' H' m' e'.weak ok'
    cases k with
    | zero =>
      unfold lc2L at q'
      split at q'
      · rename_i hf
        have hi : i = src.n := by omega
        subst hi
        exact .inl ⟨hstop hf, q' β' H' (e1.trans e') ok' Dl xs hD0 hn' hl' ra⟩
      · exact q'.elim
    | succ k =>
      unfold lc2L at q'
      cases hd : src.get m' i with
      | none => rw [hd] at q'; exact q'.elim
      | some d =>
        rw [hd] at q'
        simp only at q'
        obtain ⟨g1, g2⟩ := hgo i d (by omega) hd
        refine .inr ⟨g1, fun H2 => ∃ β2 m2 acc2 xs2, Ext β1 β2 H1 H2 ∧ MOk K β2 H2 m2 ∧ Dl ∉ β2 ∧ H2 Dl = some (.lst xs2) ∧ RpA K β2 H2 xs2 acc2 ∧
          okD K (W σ) β H (lc2L src gt (wipeD ρ vs) t fj gu us tj e k (i + 1) acc2 m2) fun ds m β' H' => ∀ p xs, H p = none → p ∉ β' → H' p = some (.lst xs) → RpA K β' H' xs ds → Q (.ref p) H',
          fun H2 ⟨β2, m2, acc2, xs2, a1, a2, a3, a4, a5, a6⟩ => ⟨k, by omega, β2, m2, acc2, xs2, by omega, a1, a2, a3, a4, a5, a6⟩, fun x H2 y => ?_⟩
        obtain ⟨e2, ok2, rx⟩ := g2 x H2 y
        cases hgt : gt d (wipeD ρ vs) with
        | none => rw [hgt] at q'; exact q'.elim
        | some ρ2 =>
          rw [hgt] at q'
          simp only at q'
          have sw2 : Stt K β' H2 (L2.wipe σ vs) (wipeD ρ vs) m' := ⟨sw.ext (e'.trans e2), ok2⟩
          refine ⟨β', m', wipeD ρ vs, d, ρ2, sw2, rx, hgt, fun σ3 s3 ho => ⟨by rw [ho vs hv]; exact wipe_wipe σ vs, β', m', ρ2, s3, ?_⟩⟩
          cases ht : t ρ2 m' with
          | bad => rw [ht] at q'; exact q'.elim
          | exc x m2 => rw [ht] at q'; exact q'.elim
          | ok b m2 =>
            rw [ht] at q'
            intro β3 H3 e3 ok3
            have hn3 : Dl ∉ β3 := fun hm => by
              have := e3.new Dl hm hn'
              have h2 := e2.keep Dl _ hl' hn'
              rw [h2] at this
              cases this
            have hl3 : H3 Dl = some (.lst xs) := e3.keep Dl _ (e2.keep Dl _ hl' hn') hn'
            cases b with
            | false =>
              refine iteF ?_
              exact ⟨β3, m2, acc, xs, (e'.trans e2).trans e3, ok3, hn3, hl3, (ra.ext e2).ext e3, q'⟩
            | true =>
              refine iteT ?_
              refine ⟨β3, m2, ρ2, s3.ext e3 ok3, ?_⟩
              simp only at q'
              cases hfj : fj ρ2 m2 with
              | bad => rw [hfj] at q'; exact q'.elim
              | exc x m3 => rw [hfj] at q'; exact q'.elim
              | ok sj m3 =>
                rw [hfj] at q'
                simp only at q'
                intro β4 H4 e4 ok4 Ji hJi
                have hn4 : Dl ∉ β4 := fun hm => by
                  have := e4.new Dl hm hn3
                  rw [hl3] at this
                  cases this
                have hl4 : H4 Dl = some (.lst xs) := e4.keep Dl _ hl3 hn3
                have ra4 := ((ra.ext e2).ext e3).ext e4
                have s4 : RpS K β4 H4 σ3 ρ2 := (s3.sl.ext e3).ext e4
                have E14 : Ext β1 β4 H1 H4 := ((e'.trans e2).trans e3).trans e4
                refine ⟨fun j l H5 => ∃ β5 m5 acc5 xs5, j + l = sj.n ∧ Ext β1 β5 H1 H5 ∧ Ext0 β4 β5 H4 H5 ∧ MOk K β5 H5 m5 ∧ Dl ∉ β5 ∧ H5 Dl = some (.lst xs5) ∧ RpA K β5 H5 xs5 acc5 ∧
                  okD K (W σ) β H (match lcL sj gu (wipeD ρ2 us) tj e l j acc5 m5 with
                    | .ok acc' m3 => lc2L src gt (wipeD ρ vs) t fj gu us tj e k (i + 1) acc' m3
                    | _ => .bad) fun ds m β' H' => ∀ p xs, H p = none → p ∉ β' → H' p = some (.lst xs) → RpA K β' H' xs ds → Q (.ref p) H',
                  ⟨sj.n, β4, m3, acc, xs, by omega, E14, (Ext.refl : Ext β4 β4 H4 H4).weak, ok4, hn4, hl4, ra4, q'⟩, ?_⟩
                rintro j l H5 ⟨β5, m5, acc5, xs5, hjl, E5, W5, ok5, hn5, hl5, ra5, q5⟩
                obtain ⟨jgo, jstop⟩ := hJi β5 H5 m5 W5 ok5
                cases l with
                | zero =>
                  unfold lcL at q5
                  split at q5
                  · rename_i acc' m6 hacc
                    split at hacc
                    · rename_i hf
                      cases hacc
                      have hj : j = sj.n := by omega
                      subst hj
                      exact .inl ⟨jstop hf, β5, m5, acc5, xs5, E5, ok5, hn5, hl5, ra5, q5⟩
                    · cases hacc
                  · exact q5.elim
                | succ l =>
                  cases hdj : sj.get m5 j with
                  | none =>
                    unfold lcL at q5
                    rw [hdj] at q5
                    exact q5.elim
                  | some dj =>
                    obtain ⟨j1, j2⟩ := jgo j dj (by omega) hdj
                    refine .inr ⟨j1, fun H6 => ∃ β6 m6 acc6 xs6, Ext β1 β6 H1 H6 ∧ Ext0 β4 β6 H4 H6 ∧ MOk K β6 H6 m6 ∧ Dl ∉ β6 ∧ H6 Dl = some (.lst xs6) ∧ RpA K β6 H6 xs6 acc6 ∧
                      okD K (W σ) β H (match lcL sj gu (wipeD ρ2 us) tj e l (j + 1) acc6 m6 with
                        | .ok acc' m3 => lc2L src gt (wipeD ρ vs) t fj gu us tj e k (i + 1) acc' m3
                        | _ => .bad) fun ds m β' H' => ∀ p xs, H p = none → p ∉ β' → H' p = some (.lst xs) → RpA K β' H' xs ds → Q (.ref p) H',
                      fun H6 ⟨β6, m6, acc6, xs6, a1, a2, a3, a4, a5, a6, a7⟩ => ⟨l, by omega, β6, m6, acc6, xs6, by omega, a1, a2, a3, a4, a5, a6, a7⟩, fun x H6 y => ?_⟩
                    obtain ⟨e6, ok6, rx6⟩ := j2 x H6 y
                    cases hgu : gu dj (wipeD ρ2 us) with
                    | none =>
                      unfold lcL at q5
                      rw [hdj] at q5
                      simp only [hgu] at q5
                      exact q5.elim
                    | some ρ6 =>
                      rw [stepL hdj hgu] at q5
                      have sw6 : Stt K β5 H6 (L2.wipe σ3 us) (wipeD ρ2 us) m5 := ⟨⟨(s4.wipe us).len, fun i d h => let ⟨v, h1, h2⟩ := (s4.wipe us).at' i d h; ⟨v, h1, (h2.mono W5).ext e6⟩⟩, ok6⟩
                      refine ⟨β5, m5, wipeD ρ2 us, dj, ρ6, sw6, rx6, hgu, fun σ7 s7 ho7 => ⟨by rw [ho7 us hu]; exact wipe_wipe σ3 us, β5, m5, ρ6, s7, ?_⟩⟩
                      cases htj : tj ρ6 m5 with
                      | bad => rw [htj] at q5; exact q5.elim
                      | exc x m7 => rw [htj] at q5; exact q5.elim
                      | ok b7 m7 =>
                        rw [htj] at q5
                        intro β7 H7 e7 ok7
                        have hn7 : Dl ∉ β7 := fun hm => by
                          have := e7.new Dl hm hn5
                          rw [e6.keep Dl _ hl5 hn5] at this
                          cases this
                        have hl7 : H7 Dl = some (.lst xs5) := e7.keep Dl _ (e6.keep Dl _ hl5 hn5) hn5
                        have W7 : Ext0 β4 β7 H4 H7 := (W5.trans e6.weak).trans e7.weak
                        cases b7 with
                        | false =>
                          refine iteF ?_
                          exact ⟨β7, m7, acc5, xs5, (E5.trans e6).trans e7, W7, ok7, hn7, hl7, (ra5.ext e6).ext e7, q5⟩
                        | true =>
                          refine iteT ?_
                          refine ⟨β7, m7, ρ6, s7.ext e7 ok7, ?_⟩
                          simp only at q5
                          cases he : e ρ6 m7 with
                          | bad => rw [he] at q5; exact q5.elim
                          | exc x m8 => rw [he] at q5; exact q5.elim
                          | ok y8 m8 =>
                            rw [he] at q5
                            simp only at q5
                            by_cases hlim : acc5.length < LIM
                            · rw [if_pos hlim] at q5
                              intro β8 H8 e8 ok8 v rv
                              have hn8 : Dl ∉ β8 := fun hm => by
                                have := e8.new Dl hm hn7
                                rw [hl7] at this
                                cases this
                              have hl8 : H8 Dl = some (.lst xs5) := e8.keep Dl _ hl7 hn7
                              have ra8 := ((ra5.ext e6).ext e7).ext e8
                              have ei : Ext0 β8 β8 H8 (upd H8 Dl (.lst (xs5 ++ [v]))) := Ext0.side hl8
                              exact ⟨xs5, hl8, lim_lt (by rw [ra8.length]; exact hlim), β8, m8, acc5 ++ [y8], xs5 ++ [v], (((E5.trans e6).trans e7).trans e8).mut hD (.inl hl8), (W7.trans e8.weak).trans ei, ok8.side hn8 hl8, hn8, upd_same, (ra8.mono ei).append (.cons (rv.mono ei) .nil), q5⟩
                            · rw [if_neg hlim] at q5
                              exact q5.elim
section
variable {X : Cx} {W : WXD}
theorem pld_lc2 {elt tg iter tg1 iter1 : Expr} {ifs ifs1 : List Expr} {scope : Scope} {own : List (Str × Nat)} {us : List Nat} {pos : Pos} {fi fj : FI} {gt gu : GT} {I J : List Nat} {t tj : FT} {e : FE} (hc : X.calm = true) (hN : X.N.Nodup) (hi : PID X W tg iter fi) (ok : BlkOk X.N X.env.scope scope own) (hus : ∀ i ∈ us, i ∈ own.map (·.2))
    (hg : ∀ (s : Shared) (H : Hp) (C : Addr) (cl : List (Str × Addr)) (fp : List Addr), PGD (X.blk s H scope (compEnvC scope cl C X.env) fp) tg gt I) (ht : ∀ (s : Shared) (H : Hp) (C : Addr) (cl : List (Str × Addr)) (fp : List Addr), PTsD (X.blk s H scope (compEnvC scope cl C X.env) fp) WF ifs t)
    (hi1 : ∀ (s : Shared) (H : Hp) (C : Addr) (cl : List (Str × Addr)) (fp : List Addr), PID (X.blk s H scope (compEnvC scope cl C X.env) fp) WF tg1 iter1 fj)
    (hg1 : ∀ (s : Shared) (H : Hp) (C : Addr) (cl : List (Str × Addr)) (fp : List Addr), PGD (X.blk s H scope (compEnvC scope cl C X.env) fp) tg1 gu J) (ht1 : ∀ (s : Shared) (H : Hp) (C : Addr) (cl : List (Str × Addr)) (fp : List Addr), PTsD (X.blk s H scope (compEnvC scope cl C X.env) fp) WF ifs1 tj)
    (he : ∀ (s : Shared) (H : Hp) (C : Addr) (cl : List (Str × Addr)) (fp : List Addr), PD (X.blk s H scope (compEnvC scope cl C X.env) fp) WF elt e) (hv : ∀ i ∈ I, i ∈ own.map (·.2)) (hu : ∀ i ∈ J, i ∈ us)
    (hs : ∀ x, foldedSetIterable iter X.env x = pure x := by intro _; rfl) (hs1 : ∀ env x, foldedSetIterable iter1 env x = pure x := by intro _ _; rfl) :
    PLD X W (.ListComp elt [⟨tg, iter, ifs, 0⟩, ⟨tg1, iter1, ifs1, 0⟩] scope pos) (fLc2 fi gt (own.map (·.2)) t fj gu us tj e) := PE.imp (pe_lc2 hc hN hi ok hus hg ht hi1 hg1 ht1 he hs hs1) fun σ H Q q => td_lc2 hv hu q
/-- y = [..] -/
def sSetL (i : Nat) (f : FA) : FS := sSet i (fName f)
theorem ts_setL {K : PySem.W.Frag} {i : Nat} {f : FA} {E : Ends} {σ : Sg} {H : Hp} {t : TE} (ht : ∀ σ H Q, tLD K W f σ H Q → t σ H Q) (q : tSD K W (sSetL i f) E σ H) : tAsg t (gName i) E σ H := by
  obtain ⟨β, m, ρ, s, q⟩ := q
  refine ht σ H _ ?_
  unfold sSetL sSet fName at q
  refine ⟨β, m, ρ, s, ?_⟩
  cases hf : f ρ m with
  | ok ds m1 =>
    rw [hf] at q
    intro β1 H1 e1 ok1 p xs h1 h2 h3 h4
    exact q (β1 ++ [p]) H1 _ (Ext.adopt' h1 e1) ⟨(s.sl.ext (Ext.adopt' h1 e1)).set (Rp.last ok1), ok1.adopt h2 h3 h4⟩
  | exc e m1 => rw [hf] at q; exact fun β1 H1 e1 ok => q β1 H1 σ e1 (s.ext e1 ok)
  | bad => rw [hf] at q; exact q
theorem psd_setLc {i : Nat} {y : Str} {py : Pos} {elt tg iter : Expr} {ifs : List Expr} {scope : Scope} {own : List (Str × Nat)} {pos spos : Pos} {fi : FI} {gt : GT} {I : List Nat} {t : FT} {e : FE} (hc : X.calm = true) (hN : X.N.Nodup) (hy : X.N[i]? = some y) (hyl : X.env.scope.names.lookup y = some .local)
    (hsw : swapsWith (.ListComp elt [⟨tg, iter, ifs, 0⟩] scope pos) (some (.Name y py)) spos.line X.env = pure true) (hi : PID X W tg iter fi) (ok : BlkOk X.N X.env.scope scope own)
    (hg : ∀ (s : Shared) (H : Hp) (C : Addr) (cl : List (Str × Addr)) (fp : List Addr), PGD (X.blk s H scope (compEnvC scope cl C X.env) fp) tg gt I) (ht : ∀ (s : Shared) (H : Hp) (C : Addr) (cl : List (Str × Addr)) (fp : List Addr), PTsD (X.blk s H scope (compEnvC scope cl C X.env) fp) WF ifs t)
    (he : ∀ (s : Shared) (H : Hp) (C : Addr) (cl : List (Str × Addr)) (fp : List Addr), PD (X.blk s H scope (compEnvC scope cl C X.env) fp) WF elt e) (hv : ∀ i ∈ I, i ∈ own.map (·.2)) (hs : ∀ x, foldedSetIterable iter X.env x = pure x := by intro _; rfl) :
    PSD X W (.Assign [.Name y py] (.ListComp elt [⟨tg, iter, ifs, 0⟩] scope pos) spos) (sSetL i (fLc fi gt (own.map (·.2)) t e)) := PS.imp (ps_setLc hc hN hy hyl hsw hi ok hg ht he hs) fun _ _ _ q => ts_setL (fun _ _ _ z => td_lc hv z) q
theorem psd_setLc2 {i : Nat} {y : Str} {py : Pos} {elt tg iter tg1 iter1 : Expr} {ifs ifs1 : List Expr} {scope : Scope} {own : List (Str × Nat)} {us : List Nat} {pos spos : Pos} {fi fj : FI} {gt gu : GT} {I J : List Nat} {t tj : FT} {e : FE} (hc : X.calm = true) (hN : X.N.Nodup) (hy : X.N[i]? = some y) (hyl : X.env.scope.names.lookup y = some .local)
    (hsw : swapsWith (.ListComp elt [⟨tg, iter, ifs, 0⟩, ⟨tg1, iter1, ifs1, 0⟩] scope pos) (some (.Name y py)) spos.line X.env = pure true) (hi : PID X W tg iter fi) (ok : BlkOk X.N X.env.scope scope own) (hus : ∀ i ∈ us, i ∈ own.map (·.2))
    (hg : ∀ (s : Shared) (H : Hp) (C : Addr) (cl : List (Str × Addr)) (fp : List Addr), PGD (X.blk s H scope (compEnvC scope cl C X.env) fp) tg gt I) (ht : ∀ (s : Shared) (H : Hp) (C : Addr) (cl : List (Str × Addr)) (fp : List Addr), PTsD (X.blk s H scope (compEnvC scope cl C X.env) fp) WF ifs t)
    (hi1 : ∀ (s : Shared) (H : Hp) (C : Addr) (cl : List (Str × Addr)) (fp : List Addr), PID (X.blk s H scope (compEnvC scope cl C X.env) fp) WF tg1 iter1 fj)
    (hg1 : ∀ (s : Shared) (H : Hp) (C : Addr) (cl : List (Str × Addr)) (fp : List Addr), PGD (X.blk s H scope (compEnvC scope cl C X.env) fp) tg1 gu J) (ht1 : ∀ (s : Shared) (H : Hp) (C : Addr) (cl : List (Str × Addr)) (fp : List Addr), PTsD (X.blk s H scope (compEnvC scope cl C X.env) fp) WF ifs1 tj)
    (he : ∀ (s : Shared) (H : Hp) (C : Addr) (cl : List (Str × Addr)) (fp : List Addr), PD (X.blk s H scope (compEnvC scope cl C X.env) fp) WF elt e) (hv : ∀ i ∈ I, i ∈ own.map (·.2)) (hu : ∀ i ∈ J, i ∈ us)
    (hs : ∀ x, foldedSetIterable iter X.env x = pure x := by intro _; rfl) (hs1 : ∀ env x, foldedSetIterable iter1 env x = pure x := by intro _ _; rfl) :
    PSD X W (.Assign [.Name y py] (.ListComp elt [⟨tg, iter, ifs, 0⟩, ⟨tg1, iter1, ifs1, 0⟩] scope pos) spos) (sSetL i (fLc2 fi gt (own.map (·.2)) t fj gu us tj e)) := PS.imp (ps_setLc2 hc hN hy hyl hsw hi ok hus hg ht hi1 hg1 ht1 he hs hs1) fun _ _ _ q => ts_setL (fun _ _ _ z => td_lc2 hv hu z) q
end
end Dl

/-! DL11: defs, their calls. -/
namespace Dl
open PySem PySem.Spec PyProof.Rows L2

abbrev NoX : XK := fun _ _ _ => False
abbrev NoC : CXT := fun _ _ _ _ _ _ => False
/-- a def, by what it makes of plain data -/
structure FnG (P : Program) (w : World) (K : PySem.W.Frag) (mg : Str → Option Value) (base : Heap) (k : Nat) (f : Addr) (fd : FuncData) (ps : List Str) (F : List D → M → Res D) : Prop where
  run : ∀ (A : Around) (outer : List Env) (s : Shared) (H : Hp) (args : Args) (us : List Value) (vs : List V) (Q : VK) (β : List Addr) (m : M) (ds : List D), Room k A → A.guards = some [] → Env0 P w K mg base A outer s H →
    BindsTo s fd args (ps.zip us) → Vals vs us → vs.length = ps.length → RpA K β H vs ds → MOk K β H m → okD K (fun _ _ _ => False) β H (F ds m) (fun d _ β' H' => ∀ v, Rp K β' H' v d → Q v H') →
    codeAny (model P w) A (.call (.ref f) args) (CR NoC outer P w H s Q NoX) s
theorem FnG.mono {P : Program} {w : World} {K : PySem.W.Frag} {mg : Str → Option Value} {base : Heap} {j k : Nat} {f : Addr} {fd : FuncData} {ps : List Str} {F : List D → M → Res D} (h : FnG P w K mg base j f fd ps F) (hk : j ≤ k) : FnG P w K mg base k f fd ps F :=
  ⟨fun A outer s H args us vs Q β m ds hr => h.run A outer s H args us vs Q β m ds (hr.mono hk)⟩

def startD (n : Nat) (ds : List D) : Sl := ds.map some ++ List.replicate (n - ds.length) none
def resOf : Out → Res D
  | .nx _ m => .ok .non m
  | .rt d m => .ok d m
  | .exc _ e m => .exc e m
  | _ => .bad
/-- the body's outcome at these arguments -/
def runF (N : Nat) (np : Nat) (g : FS) (ds : List D) (m : M) : Res D := if ds.length = np then gcR m.length (resOf (g (startD N ds) m)) else .bad
theorem rps_start {K : PySem.W.Frag} {β : List Addr} {H : Hp} {N : List Str} {vs : List V} {ds : List D} (r : RpA K β H vs ds) : RpS K β H (L2.start N vs) (startD N.length ds) := by
  have hl := r.length
  refine ⟨?_, fun i d h => ?_⟩
  · unfold L2.start startD
    simp only [List.length_append, List.length_map, List.length_replicate, hl]
  · unfold startD at h
    by_cases hi : i < ds.length
    · rw [List.getElem?_append_left (by simpa using hi), List.getElem?_map] at h
      cases hd : ds[i]? with
      | none => rw [hd] at h; cases h
      | some d' =>
        rw [hd] at h
        cases h
        obtain ⟨v, hv, rv⟩ := r.get hd
        refine ⟨v, ?_, rv⟩
        unfold L2.start
        rw [List.getElem?_append_left (by simp only [List.length_map]; omega), List.getElem?_map, hv]
        rfl
    · rw [List.getElem?_append_right (by simpa using hi), List.getElem?_replicate] at h
      split at h
      · cases h
      · cases h
theorem ts_run {K : PySem.W.Frag} {W : WXD} {β : List Addr} {H : Hp} {m : M} {σ : Sg} {ρ : Sl} {g : FS} {Q : VK} (s : Stt K β H σ ρ m) (h : okD K (fun _ _ _ => False) β H (resOf (g ρ m)) fun d _ β' H' => ∀ v, Rp K β' H' v d → Q v H') :
    tSD K W g { nx := fun _ H' => Q .non H', rt := Q } σ H := by
  refine ⟨β, m, ρ, s, ?_⟩
  cases hg : g ρ m with
  | nx ρ' m' => rw [hg] at h; exact fun β' H' σ' e s' => h β' H' e s'.me .non .non
  | rt d m' => rw [hg] at h; exact fun β' H' v e ok r => h β' H' e ok v r
  | bk ρ' m' => rw [hg] at h; exact h.elim
  | ct ρ' m' => rw [hg] at h; exact h.elim
  | exc ρ' e m' => rw [hg] at h; exact fun β' H' σ' e s' => (h β' H' e s'.me).elim
  | bad => rw [hg] at h; exact h.elim
/-- the context of a def's body -/
abbrev cxD (P : Program) (w : World) (K : PySem.W.Frag) (mg : Str → Option Value) (base : Heap) (N : List Str) (qual : Str) (scope : Scope) (f : Addr) (cd : Value) (A : Around) (outer : List Env) (s : Shared) (H : Hp) : Cx := (cxOf NoC P w K mg base N qual scope f cd A outer s H NoX).nox
section
variable {P : Program} {w : World} {K : PySem.W.Frag} {mg : Str → Option Value} {base : Heap}
theorem fng_of {x qual : Str} {params : Arguments} {body : List Stmt} {scope : Scope} {dvs : List V} {kws : List (Str × V)} {f : Addr} {fd : FuncData} (F : FunD K x qual params body scope dvs kws f fd) {N ps : List Str} {k : Nat} {g : FS} {W : WXD} (S : FnScope N ps scope)
    (hbody : ∀ (cdv : Value) (A : Around) (outer : List Env) (s : Shared) (H : Hp), Room k (A.deeper (envOfC qual scope s.heap.objs.size f cdv)) → (A.deeper (envOfC qual scope s.heap.objs.size f cdv)).guards = some [] →
      PSsD (cxD P w K mg base N qual scope f cdv A outer s H) W body g) : FnG P w K mg base (k + 1) f fd ps (runF N.length ps.length g) := by
  obtain ⟨oc, od, dV, kV, doc, pm, an, cdv, ct, osl, rfl, lk, hcd, _, _⟩ := F.ex
  refine ⟨fun A outer s H args us vs Q β m ds room hgu e0 hb r hl ra ok hsp => ?_⟩
  have inK : K.In s.heap := e0.mod.kin.keeps fun b o e => (e0.bs b o e).1
  have noLim : s.heap.NoLimit := e0.mod.nolimit.keeps fun b o e => (e0.bs b o e).1
  have kinds : ∀ y ∈ ps.zip us, scope.names.lookup y.1 = some .local ∨ (scope.names.lookup y.1 = some .cell ∧ ((cellsFrom (s.heap.objs.size + 1) scope.names []).lookup y.1).isSome = true) := by
    rintro ⟨n, v⟩ hy
    rcases S.par n (List.of_mem_zip hy).1 with q | q
    · exact .inl q
    · exact .inr ⟨q, PySem.W.cellsFrom_some _ _ _ (.inl q)⟩
  refine codeAny_call_function room.depth (inK _ _ lk) rfl S.co S.gen rfl (PySem.W.codeRec_of inK hcd) (hb _ _ _ _ ?_)
  refine wpAny_newFunctionEnv_cells S.kind kinds fun env he s1 fresh => ?_
  subst he
  refine ⟨noLim.keeps fresh.toInCall.keep, codeAny_func ?_⟩
  have hrun := (PSs.nox (hbody cdv A outer s H (room.deeper _) hgu)).run [] s1 (L2.start N vs) H { nx := fun _ H' => Q .non H', rt := Q }
  have I0 : Inv (cxOf NoC P w K mg base N qual scope f cdv A outer s H NoX) [] (L2.start N vs) H s1 := inv_start S room.hd e0 hl r fresh
  have hds : ds.length = ps.length := ra.length.symm.trans hl
  have hres : okD K (fun _ _ _ => False) β H (resOf (g (startD N.length ds) m)) fun d _ β' H' => ∀ v, Rp K β' H' v d → Q v H' := by
    refine okD.gc ok ?_
    unfold runF at hsp
    rw [if_pos hds] at hsp
    exact hsp
  refine wpAny_mono (hrun I0 (ts_run ⟨rps_start ra, ok⟩ hres)) (fun fl s' hs => ?_) fun e s' hs => hs
  cases fl with
  | next =>
    obtain ⟨σ', H', J, q⟩ := hs
    exact ⟨.non, H', J.os, J.bare, J.base, J.hok, rfl, q⟩
  | ret u =>
    obtain ⟨v, σ', H', J, rv, q⟩ := hs
    exact ⟨v, H', J.os, J.bare, J.base, J.hok, rv, q⟩
  | brk =>
    obtain ⟨_, _, _, q⟩ := hs
    exact q.elim
  | cont =>
    obtain ⟨_, _, _, q⟩ := hs
    exact q.elim
end

/-! ### calls -/
section
variable {X : Cx} {k : Nat} {f : Addr} {fd : FuncData} {ps : List Str} {F : List D → M → Res D}
theorem run_fng {pins : List (Addr × Obj)} {σ : Sg} {H : Hp} {s : Shared} {Q : VK} {args : Args} {us : List Value} {vs : List V} {β : List Addr} {m : M} {ds : List D} (G : FnG X.prog X.w X.K X.mg X.base k f fd ps F) (hr : Room k X.A) (hgu : X.A.guards = some [])
    (hb : BindsTo s fd args (ps.zip us)) (I : Inv X pins σ H s) (r : Vals vs us) (hl : vs.length = ps.length) (ra : RpA X.K β H vs ds) (ok : MOk X.K β H m) (h : okD X.K (fun _ _ _ => False) β H (F ds m) fun d _ β' H' => ∀ v, Rp X.K β' H' v d → Q v H') :
    codeAny (model X.prog X.w) X.A (.call (.ref f) args) (fun r s' => match r with
      | .ok (.ret u) => EP X pins σ Q u s'
      | _ => False) s := by
  refine codeAny_mono (G.run X.A X.stack s H args us vs Q β m ds hr hgu I.env0 hb r hl ra ok h) fun r s' hq => ?_
  cases r with
  | error e => exact hq
  | ok fl =>
    cases fl with
    | ret u => exact I.after hq
    | next => exact hq
    | brk => exact hq
    | cont => exact hq
/-- a call by places -/
def fCall (F : List D → M → Res D) (fa : FA) : FE := fGc fun ρ m => (fa ρ m).bind F
def nPar (n : Nat) (F : List D → M → Res D) : Prop := ∀ ds m, ds.length ≠ n → F ds m = .bad
theorem nPar_run {N n : Nat} {g : FS} : nPar n (runF N n g) := fun ds m h => if_neg h
/-- what is known of a def that is called -/
structure Cle (P : Program) (w : World) (K : PySem.W.Frag) (mg : Str → Option Value) (base : Heap) (k : Nat) (x : Str) (n : Nat) (F : List D → M → Res D) : Prop where
  ex : ∃ (f : Addr) (fd : FuncData) (ps : List Str), ps.length = n ∧ FnG P w K mg base k f fd ps F ∧ mg x = some (.ref f) ∧ PySem.W.keepIn K (.ref f) = true ∧ (∀ (s : Shared) (us : List Value), us.length = n → BindsTo s fd ⟨us, []⟩ (ps.zip us))
theorem pd_call {x : Str} {n j : Nat} {p pos : Pos} {e : Expr} {es : List Expr} {fa : FA} (c : Cle X.prog X.w X.K X.mg X.base k x n F) (np : nPar n F) (hr : Room j X.A) (hk : k ≤ j) (hgu : X.A.guards = some []) (hg : Gl X x) (ha : PAD X WF (e :: es) fa)
    (hdb : (x == ("__debug__" : Str)) = false := by decide) (he : starEach (e :: es) X.env = (false, eval e X.env) :: starEach es X.env := by rfl) (hpl : (backTo pos (starEach es X.env)).any (·.1) = false := by rfl) :
    PD X WF (.Call (.Name x p) (e :: es) [] pos) (fCall F fa) := by
  obtain ⟨f, fd, ps, hps, G, hm, kp, hb⟩ := c.ex
  refine pd_gc ⟨fun pins s σ H Q I h => ?_⟩
  obtain ⟨β, m, ρ, st, h⟩ := h
  have h0 : tAD X.K WF fa σ H (fun vs H1 => ∃ (β1 : List Addr) (m1 : M) (ds : List D), vs.length = n ∧ RpA X.K β1 H1 vs ds ∧ MOk X.K β1 H1 m1 ∧ okD X.K (fun _ _ _ => False) β1 H1 (F ds m1) fun d _ β' H' => ∀ v, Rp X.K β' H' v d → Q v H') := by
    refine tad_bind st h fun ds m1 vs β1 H1 e1 s1 rs q1 => ⟨β1, m1, ds, ?_, rs, s1.me, q1⟩
    rw [rs.length]
    refine Decidable.byContradiction fun hn => ?_
    rw [np ds m1 hn] at q1
    exact q1
  refine wpAny_Call_Name_kw (ld_glob I hg hm ?_ hdb)
  refine PySem.W.callWith_K (h₀ := X.base) I.ok.mod.kin kp (thn (ha.run pos pins s σ H _ I h0) fun us s1 ⟨vs, H1, I1, r, β1, m1, ds, hl, ra, ok, q⟩ => ⟨I1.kIn, ?_⟩) he hpl
  refine wpAny_call (codeAny_mono (run_fng G (hr.mono hk) hgu (hb s1 us (r.length.symm.trans hl)) I1 r (hl.trans hps.symm) ra ok q) fun r s' hq => ?_)
  cases r with
  | error e => exact hq.elim
  | ok fl =>
    cases fl with
    | ret u => exact hq
    | next => exact hq.elim
    | brk => exact hq.elim
    | cont => exact hq.elim
/-- a call by names alone: g puts the values in the parameters' order -/
abbrev PKD (X : Cx) (kws : List Keyword) (f : FA) : Prop := PK X kws (tAD X.K WF f)
theorem PK.imp {X : Cx} {kws : List Keyword} {t t' : TA} (h : PK X kws t) (i : ∀ σ H Q, t' σ H Q → t σ H Q) : PK X kws t' := ⟨fun pos pins s σ H Q I q => h.run pos pins s σ H Q I (i σ H Q q)⟩
theorem pkd_nil : PKD X [] fNil := PK.imp pk_nil fun σ H Q h => by
  obtain ⟨β, m, ρ, s, h⟩ := h
  exact h.here s.me [] .nil
theorem pkd_cons {nm : Option Str} {e : Expr} {kpos : Pos} {kws : List Keyword} {fe : FE} {fa : FA} (he : PD X WF e fe) (hr : PKD X kws fa) : PKD X (⟨nm, e, kpos⟩ :: kws) (fCons fe fa) := PK.imp (pk_cons he hr) fun σ H Q h => by
  obtain ⟨β, m, ρ, s, h⟩ := h
  refine td_bind s h fun d m1 v β1 H1 e1 s1 rv h1 => ?_
  exact tad_bind s1 h1 fun ds m2 vs β2 H2 e2 s2 rs h2 => h2.here s2.me _ (.cons (rv.ext e2) rs)
structure Perm (g : {α : Type} → List α → List α) : Prop where
  len : ∀ {α : Type} (l : List α), (g l).length = l.length
  vals : ∀ {vs : List V} {us : List Value}, Vals vs us → Vals (g vs) (g us)
  rpa : ∀ {K : PySem.W.Frag} {β : List Addr} {H : Hp} {vs : List V} {ds : List D}, RpA K β H vs ds → RpA K β H (g vs) (g ds)
structure CleK (P : Program) (w : World) (K : PySem.W.Frag) (mg : Str → Option Value) (base : Heap) (k : Nat) (x : Str) (n : Nat) (F : List D → M → Res D) (ks : List Str) (g : {α : Type} → List α → List α) : Prop where
  ex : ∃ (f : Addr) (fd : FuncData) (ps : List Str), ps.length = n ∧ FnG P w K mg base k f fd ps F ∧ mg x = some (.ref f) ∧ PySem.W.keepIn K (.ref f) = true ∧ (∀ (s : Shared) (ws : List Value), ws.length = n → BindsTo s fd ⟨[], ks.zip ws⟩ (ps.zip (g ws)))
theorem pd_callK {x : Str} {n j : Nat} {p pos : Pos} {kws : List Keyword} {ks : List Str} {g : {α : Type} → List α → List α} {fk : FA} (c : CleK X.prog X.w X.K X.mg X.base k x n F ks g) (pm : Perm g) (np : nPar n F) (hr : Room j X.A) (hk : k ≤ j) (hgu : X.A.guards = some []) (hg : Gl X x) (hkw : PKD X kws fk)
    (hall : (backToKw pos (keywordEach kws X.env)).all (·.1.isSome) = true := by rfl) (hks : (backToKw pos (keywordEach kws X.env)).filterMap (·.1) = ks := by rfl)
    (hdb : (x == ("__debug__" : Str)) = false := by decide) (hpl : ((backTo pos (starEach [] X.env)).any (·.1) || (backToKw pos (keywordEach kws X.env)).any (·.1.isNone)) = false := by rfl) :
    PD X WF (.Call (.Name x p) [] kws pos) (fCall (fun ds m => F (g ds) m) fk) := by
  obtain ⟨f, fd, ps, hps, G, hm, kp, hb⟩ := c.ex
  refine pd_gc ⟨fun pins s σ H Q I h => ?_⟩
  obtain ⟨β, m, ρ, st, h⟩ := h
  have h0 : tAD X.K WF fk σ H (fun vs H1 => ∃ (β1 : List Addr) (m1 : M) (ds : List D), vs.length = n ∧ RpA X.K β1 H1 vs ds ∧ MOk X.K β1 H1 m1 ∧ okD X.K (fun _ _ _ => False) β1 H1 (F (g ds) m1) fun d _ β' H' => ∀ v, Rp X.K β' H' v d → Q v H') := by
    refine tad_bind st h fun ds m1 vs β1 H1 e1 s1 rs q1 => ⟨β1, m1, ds, ?_, rs, s1.me, q1⟩
    rw [rs.length]
    refine Decidable.byContradiction fun hn => ?_
    rw [np (g ds) m1 (by rw [pm.len]; exact hn)] at q1
    exact q1
  refine wpAny_Call_Name_kw (ld_glob I hg hm ?_ hdb)
  refine PySem.W.callWith_KW0 (h₀ := X.base) I.ok.mod.kin kp hall ?_ hpl
  refine thn (hkw.run pos pins s σ H _ I h0) fun ws s1 ⟨vs, H1, I1, r, β1, m1, ds, hl, ra, ok, q⟩ => ⟨I1.kIn, ?_⟩
  rw [hks]
  refine wpAny_call (codeAny_mono (run_fng G (hr.mono hk) hgu (hb s1 ws (r.length.symm.trans hl)) I1 (pm.vals r) (by rw [pm.len]; exact hl.trans hps.symm) (pm.rpa ra) ok q) fun r s' hq => ?_)
  cases r with
  | error e => exact hq.elim
  | ok fl =>
    cases fl with
    | ret u => exact hq
    | next => exact hq.elim
    | brk => exact hq.elim
    | cont => exact hq.elim
end
/-- a def that is called by places, from what the head tells -/
theorem cle_of {P : Program} {w : World} {K : PySem.W.Frag} {mg : Str → Option Value} {base : Heap} {k : Nat} {x qual : Str} {params : Arguments} {body : List Stmt} {scope : Scope} {kws : List (Str × V)} {f : Addr} {fd : FuncData} {ps : List Str} {n : Nat} {F : List D → M → Res D}
    (D0 : FunD K x qual params body scope [] kws f fd) (hm : mg x = some (.ref f)) (hps : ps.length = n) (G : FnG P w K mg base k f fd ps F)
    (h : ∀ (kV doc pm : Value) (an : Option Addr) (cdv ct : Value) (us : List Value), us.length = ps.length → bindArgs (PySem.W.fnOf x qual params body scope .none kV doc pm an cdv ct) ⟨us, []⟩ = pure (ps.zip us)) : Cle P w K mg base k x n F :=
  ⟨f, fd, ps, hps, G, hm, D0.kp, fun s us hl => D0.bindsA h s us (hl.trans hps.symm)⟩
theorem clek_of {P : Program} {w : World} {K : PySem.W.Frag} {mg : Str → Option Value} {base : Heap} {k : Nat} {x qual : Str} {params : Arguments} {body : List Stmt} {scope : Scope} {kws : List (Str × V)} {f : Addr} {fd : FuncData} {ps : List Str} {n : Nat} {F : List D → M → Res D} {ks : List Str} {g : {α : Type} → List α → List α}
    (D0 : FunD K x qual params body scope [] kws f fd) (hm : mg x = some (.ref f)) (hps : ps.length = n) (G : FnG P w K mg base k f fd ps F)
    (h : ∀ (kV doc pm : Value) (an : Option Addr) (cdv ct : Value) (us : List Value), us.length = n → bindArgs (PySem.W.fnOf x qual params body scope .none kV doc pm an cdv ct) ⟨[], ks.zip us⟩ = pure (ps.zip (g us))) : CleK P w K mg base k x n F ks g := by
  refine ⟨f, fd, ps, hps, G, hm, D0.kp, fun s us hl => ?_⟩
  obtain ⟨oc, od, dV, kV, doc, pm, an, cdv, ct, osl, rfl, lk, hcd, hD, hK⟩ := D0.ex
  rcases hD with ⟨_, rfl⟩ | ⟨e, _⟩
  · exact .of_eq (h kV doc pm an cdv ct us hl)
  · exact absurd rfl e
end Dl

/-! DL12: the end of a law; a try that runs through. -/
namespace Dl
open PySem PySem.Spec PyProof.Rows L2
def scriptD (ns : List Int) : D := .rol (ns.map D.int)
theorem rpa_ints {K : PySem.W.Frag} {β : List Addr} {H : Hp} : ∀ ns : List Int, RpA K β H (ns.map V.int) (ns.map D.int)
  | [] => .nil
  | n :: r => .cons (.int n) (rpa_ints r)
theorem mok_nil {K : PySem.W.Frag} {H : Hp} : MOk K [] H [] := ⟨rfl, .nil, fun n o a h => by simp at h⟩
section
variable {P : Program} {w : World} {K : PySem.W.Frag} {mg mb : Str → Option Value} {k : Nat} {fa a : Addr} {fd : FuncData} {x : Str} {s₁ : Shared} {vs : List Value} {ns : List Int} {FL : List D → M → Res D}
/-- from an abstract heap that tells the script alone -/
theorem law_at (KX : K.In s₁.heap) (hns : s₁.heap.Ns mainGlobals mg) (hb : s₁.heap.Ns builtinsNs mb) (hbb : ∀ x : Str, x ≠ "__name__" → mb x = bootBuiltins x) (hlim : s₁.heap.NoLimit) (hg : s₁.gens = #[])
    (ha : s₁.heap.get? a = some { cls := .type "list", data := .seq vs.toArray }) (hr : Room k callerA) (hgu : callerA.guards = some []) (F : ∀ base : Heap, K.In base → base.Ns mainGlobals mg → FnG P w K mg base k fa fd [x] FL)
    (hbind : ∀ (s : Shared) (u : Value), BindsTo s fd ⟨[u], []⟩ [(x, u)]) (hF : ∃ m, FL [scriptD ns] [] = .ok (.bl true) m)
    (H : Hp) (frz : ∀ b u, H b = some u → b = a ∧ ∃ o ys, u = .frz o (.lst ys)) (hS : SqF K H a (ns.map V.int)) (hok : HOk P w H s₁.heap) (hK : H a ≠ none → K.lookup a = none) :
    codeAny (model P w) callerA (.call (.ref fa) ⟨[.ref a], []⟩) (fun r s' => r = .ok (.ret (.bool true)) ∧ OldK s₁.heap s'.heap ∧ s'.os = s₁.os ∧ AllBare s'.gens) s₁ := by
  have noDict : ∀ {b : Addr} {o : Obj} {es : Array DictEntry} {ep : Nat}, s₁.heap.get? b = some o → o.data = .dict es ep → H b = none := by
    intro b o es ep e d
    cases q : H b with
    | none => rfl
    | some u =>
      obtain ⟨rfl, _⟩ := frz b u q
      rw [ha] at e
      cases e
      cases d
  have names : ∀ {b : Addr} {m : Str → Option Value}, s₁.heap.Ns b m → (hidT s₁.heap H).Ns b m := by
    rintro b m ⟨o, es, ep, e, d, r⟩
    exact ⟨o, es, ep, hidT_get e (noDict e d), d, r⟩
  have inB : K.In (hidT s₁.heap H) := by
    intro b o e
    refine hidT_get (KX b o e) ?_
    cases q : H b with
    | none => rfl
    | some u =>
      obtain ⟨rfl, _⟩ := frz b u q
      rw [hK (by rw [q]; simp)] at e
      cases e
  obtain ⟨mc, hl1, hl2⟩ := hlim
  have hM : Mod K mg (hidT s₁.heap H) := ⟨inB, names hns, ⟨mb, names hb, hbb⟩, ⟨mc, names hl1, hl2⟩⟩
  have e0 : Env0 P w K mg (hidT s₁.heap H) callerA [] s₁ H := ⟨rfl, hM, fun b o e => of_hidT e, Nat.le_of_eq (hidT_size _ _), trivial, fun b hb => (List.not_mem_nil hb).elim, hok, AllBare.of_eq hg⟩
  obtain ⟨m', hF⟩ := hF
  have hres : okD K (fun _ _ _ => False) [] H (FL [scriptD ns] []) (fun d _ β' H' => ∀ v, Rp K β' H' v d → (fun v _ => v = V.bl true) v H') := by
    rw [hF]
    intro β' H' _ _ v rv
    cases rv
    rfl
  refine codeAny_mono ((F _ inB (names hns)).run callerA [] s₁ H ⟨[.ref a], []⟩ [.ref a] [.ref a] (fun v _ => v = .bl true) [] [] [scriptD ns] hr hgu e0 (hbind s₁ (.ref a)) (.cons rfl .nil) rfl (.cons (.rol hS (rpa_ints ns)) .nil) mok_nil hres) fun r s' h => ?_
  cases r with
  | error e => exact h.elim
  | ok fl =>
    cases fl with
    | next => exact h.elim
    | brk => exact h.elim
    | cont => exact h.elim
    | ret u =>
      obtain ⟨v, H', os, bare, un, hok', r', rfl⟩ := h
      obtain rfl : u = Value.bool true := r'
      refine ⟨rfl, OldK.of_keep fun b o e => ?_, os, bare⟩
      cases q : H b with
      | none => exact un.keep b o e q (fun z => (List.not_mem_nil z).elim) (List.not_mem_nil)
      | some u =>
        obtain ⟨rfl, ob, ys, rfl⟩ := frz b u q
        obtain ⟨e1, _⟩ := hok b _ q
        obtain ⟨e2, _⟩ := hok' b _ (un.frzs b ob _ q)
        rw [e] at e1
        cases e1
        exact e2
theorem law_run (KX : K.In s₁.heap) (hns : s₁.heap.Ns mainGlobals mg) (hb : s₁.heap.Ns builtinsNs mb) (hbb : ∀ x : Str, x ≠ "__name__" → mb x = bootBuiltins x) (hlim : s₁.heap.NoLimit) (hg : s₁.gens = #[])
    (ha : s₁.heap.get? a = some { cls := .type "list", data := .seq vs.toArray }) (hi : IntsAre vs ns) (hl : ns.length ≤ sizeLine) (hr : Room k callerA) (hgu : callerA.guards = some []) (F : ∀ base : Heap, K.In base → base.Ns mainGlobals mg → FnG P w K mg base k fa fd [x] FL)
    (hbind : ∀ (s : Shared) (u : Value), BindsTo s fd ⟨[u], []⟩ [(x, u)]) (hF : ∃ m, FL [scriptD ns] [] = .ok (.bl true) m) :
    codeAny (model P w) callerA (.call (.ref fa) ⟨[.ref a], []⟩) (fun r s' => r = .ok (.ret (.bool true)) ∧ OldK s₁.heap s'.heap ∧ s'.os = s₁.os ∧ AllBare s'.gens) s₁ := by
  have rv := vals_ints hi
  have go := fun H frz hS hok hK => law_at (P := P) (w := w) KX hns hb hbb hlim hg ha hr hgu F hbind hF H frz hS hok hK
  cases hk : K.lookup a with
  | some o =>
    have e := KX a o hk
    rw [ha] at e
    cases e
    exact go (fun _ => none) (fun b u z => by cases z) (.inr ⟨_, vs.toArray, _, hk, rfl, rfl, rfl, by rw [List.size_toArray, hi.length]; exact hl, by simpa using rv⟩) (fun b u z => by cases z) fun z => absurd rfl z
  | none =>
    let H0 : Hp := fun b => if b = a then some (.frz { cls := .type "list", data := .seq vs.toArray } (.lst (ns.map V.int))) else none
    have at0 : ∀ b u, H0 b = some u → b = a ∧ u = .frz { cls := .type "list", data := .seq vs.toArray } (.lst (ns.map V.int)) := by
      intro b u z
      by_cases h : b = a
      · exact ⟨h, (Option.some.inj ((if_pos h).symm.trans z)).symm⟩
      · cases (if_neg h).symm.trans z
    refine go H0 (fun b u z => ⟨(at0 b u z).1, _, _, (at0 b u z).2⟩) (.inl ⟨_, if_pos rfl⟩) (fun b u z => ?_) fun _ => hk
    obtain ⟨rfl, rfl⟩ := at0 b u z
    exact ⟨ha, by rw [List.length_map]; exact hl, vs, _, rv, ha⟩
end
/-- the law, from what its def makes of any script -/
theorem walk_D {l : PySem.W.OpenLaw} {n k : Nat} {q : Program} {loose : List Str} {XP : (Str → Option Value) → Heap → Prop} {YP : World → Heap → Prop} {d : DefRec} {x : Str} {FL : List D → M → Res D}
    (hn : l.most = some n) (hn2 : n ≤ sizeLine) (hdf : d.params.defaults = []) (hr : Room k callerA) (hgu : callerA.guards = some [])
    (F : ∀ (w : World) (mg : Str → Option Value) (fa : Addr) (h : Heap), YP w h → h.Ns mainGlobals mg → mg d.name = some (.ref fa) →
      ∃ (K : PySem.W.Frag) (fd : FuncData), K.In h ∧ (∀ (s : Shared) (u : Value), BindsTo s fd ⟨[u], []⟩ [(x, u)]) ∧ ∀ base : Heap, K.In base → base.Ns mainGlobals mg → FnG l.prog w K mg base k fa fd [x] FL)
    (hF : ∀ ns : List Int, ns.length ≤ n → ∃ m, FL [scriptD ns] [] = .ok (.bl true) m) :
    PySem.W.WalkO q loose XP YP l.row.toRowW d [] (fun f vs => PySem.call f vs) := by
  refine Att.attach_call hn hdf fun w s₀ s₁ mg mb fa o pm cd doc a vs ns G Y ho hd hcd hmg hobj hints hlen hg => ?_
  obtain ⟨K, fd, KX, hb, hG⟩ := F w mg fa _ Y G.T.g hmg
  exact law_run KX G.T.g G.T.b G.T.builtins G.T.nolimit hg hobj hints (Nat.le_trans hlen hn2) hr hgu hG hb (hF ns hlen)
theorem caller_guards : callerA.guards = some [] := rfl

/-- a try whose body runs through -/
theorem psd_try {X : Cx} {W : WXD} {body : List Stmt} {h₀ : ExceptHandler} {hs : List ExceptHandler} {pos : Pos} {g : FS} (hb : PSsD X.nox W body g) : PSD X W (.Try body (h₀ :: hs) [] [] pos) g := PS.imp (ps_try_thru0 hb) fun _ _ _ q => q
end Dl

/-! DL13: calls of built-ins, by name. -/
namespace Dl
open PySem PySem.Spec PyProof.Rows L2
section
variable {X : Cx} {W : WXD} {p pos : Pos} {e e2 : Expr} {f f2 : FE} {fa : FA}
abbrev One (e : Expr) (X : Cx) : Prop := starEach [e] X.env = (false, eval e X.env) :: starEach [] X.env
abbrev Two (e e2 : Expr) (X : Cx) : Prop := starEach [e, e2] X.env = (false, eval e X.env) :: starEach [e2] X.env
theorem b_len (hg : Gl X "len") (hm : X.mg "len" = none) (ha : PD X W e f) (h1 : One e X := by rfl) : PD X W (.Call (.Name "len" p) [e] [] pos) (fCB gLen (fCons f fNil)) :=
  pd_callB cr_len cd_len hg hm (by decide +kernel) (pad_cons ha pad_nil h1) (he := h1) (hpl := rfl)
theorem b_lenL (hg : Gl X "len") (hm : X.mg "len" = none) (ha : PLD X W e fa) (h1 : One e X := by rfl) : PD X W (.Call (.Name "len" p) [e] [] pos) (fCB gLenL fa) :=
  pd_callBL cr_len cdl_len hg hm (by decide +kernel) ha (he := h1)
theorem b_tuple (hg : Gl X "tuple") (hm : X.mg "tuple" = none) (ha : PD X W e f) (h1 : One e X := by rfl) : PD X W (.Call (.Name "tuple" p) [e] [] pos) (fCB gTuple (fCons f fNil)) :=
  pd_callTy call_tuple_of cd_tuple hg hm (by decide +kernel) (pad_cons ha pad_nil h1) (he := h1) (hpl := rfl)
theorem b_tupleL (hg : Gl X "tuple") (hm : X.mg "tuple" = none) (ha : PLD X W e fa) (h1 : One e X := by rfl) : PD X W (.Call (.Name "tuple" p) [e] [] pos) (fCB gTupleL fa) :=
  pd_callTyL call_tuple_of cdl_tuple hg hm (by decide +kernel) ha (he := h1)
theorem b_list (hg : Gl X "list") (hm : X.mg "list" = none) (ha : PD X W e f) (h1 : One e X := by rfl) : PD X W (.Call (.Name "list" p) [e] [] pos) (fCB gList (fCons f fNil)) :=
  pd_callTy call_list_of cd_list hg hm (by decide +kernel) (pad_cons ha pad_nil h1) (he := h1) (hpl := rfl)
theorem b_allL (hc : X.calm = true) (hg : Gl X "all") (hm : X.mg "all" = none) (ha : PLD X W e fa) (h1 : One e X := by rfl) : PD X W (.Call (.Name "all" p) [e] [] pos) (fCB gAllL fa) :=
  pd_callBL (cr_all hc) cdl_all hg hm (by decide +kernel) ha (he := h1)
theorem b_anyL (hc : X.calm = true) (hg : Gl X "any") (hm : X.mg "any" = none) (ha : PLD X W e fa) (h1 : One e X := by rfl) : PD X W (.Call (.Name "any" p) [e] [] pos) (fCB gAnyL fa) :=
  pd_callBL (cr_any hc) cdl_any hg hm (by decide +kernel) ha (he := h1)
theorem b_maxL (hc : X.calm = true) (hg : Gl X "max") (hm : X.mg "max" = none) (ha : PLD X W e fa) (h1 : One e X := by rfl) : PD X W (.Call (.Name "max" p) [e] [] pos) (fCB gMaxL fa) :=
  pd_callBL (cr_max hc) cdl_max hg hm (by decide +kernel) ha (he := h1)
theorem b_sumL (hc : X.calm = true) (hg : Gl X "sum") (hm : X.mg "sum" = none) (ha : PLD X W e fa) (h1 : One e X := by rfl) : PD X W (.Call (.Name "sum" p) [e] [] pos) (fCB gSumL fa) :=
  pd_callBL (cr_sum hc) cdl_sum hg hm (by decide +kernel) ha (he := h1)
theorem b_min2 (hc : X.calm = true) (hg : Gl X "min") (hm : X.mg "min" = none) (ha : PD X W e f) (hb : PD X W e2 f2) (h1 : Two e e2 X := by rfl) (h2 : One e2 X := by rfl) (hpl : (backTo pos (starEach [e2] X.env)).any (·.1) = false := by rfl) :
    PD X W (.Call (.Name "min" p) [e, e2] [] pos) (fCB gMin2 (fCons f (fCons f2 fNil))) :=
  pd_callB (call_min2 hc) cd_min2 hg hm (by decide +kernel) (pad_cons ha (pad_cons hb pad_nil h2) h1) (he := h1) (hpl := hpl)
theorem b_max2 (hc : X.calm = true) (hg : Gl X "max") (hm : X.mg "max" = none) (ha : PD X W e f) (hb : PD X W e2 f2) (h1 : Two e e2 X := by rfl) (h2 : One e2 X := by rfl) (hpl : (backTo pos (starEach [e2] X.env)).any (·.1) = false := by rfl) :
    PD X W (.Call (.Name "max" p) [e, e2] [] pos) (fCB gMax2 (fCons f (fCons f2 fNil))) :=
  pd_callB (call_max2 hc) cd_max2 hg hm (by decide +kernel) (pad_cons ha (pad_cons hb pad_nil h2) h1) (he := h1) (hpl := hpl)
theorem b_abs (hg : Gl X "abs") (hm : X.mg "abs" = none) (ha : PD X W e f) (h1 : One e X := by rfl) : PD X W (.Call (.Name "abs" p) [e] [] pos) (fCB gAbs (fCons f fNil)) :=
  pd_callB call_abs cd_abs hg hm (by decide +kernel) (pad_cons ha pad_nil h1) (he := h1) (hpl := rfl)
theorem b_int (hg : Gl X "int") (hm : X.mg "int" = none) (ha : PD X W e f) (h1 : One e X := by rfl) : PD X W (.Call (.Name "int" p) [e] [] pos) (fCB gInt (fCons f fNil)) :=
  pd_callTy call_int1 cd_int hg hm (by decide +kernel) (pad_cons ha pad_nil h1) (he := h1) (hpl := rfl)
theorem b_repr (hgu : X.A.guards = some []) (hu : X.A.units + 64 < cLine) (hg : Gl X "repr") (hm : X.mg "repr" = none) (ha : PD X W e f) (h1 : One e X := by rfl) : PD X W (.Call (.Name "repr" p) [e] [] pos) (fCB gRepr (fCons f fNil)) :=
  pd_callB (cr_repr hgu hu) cd_repr hg hm (by decide +kernel) (pad_cons ha pad_nil h1) (he := h1) (hpl := rfl)
theorem b_isi {T : String} {x : Str} {p2 : Pos} (hg : Gl X "isinstance") (hm : X.mg "isinstance" = none) (hgT : Gl X x) (hmT : X.mg x = none) (hvT : bootBuiltins x = some (.type T)) (he : PD X W e f)
    (hn : x ≠ "__name__" := by decide) (hd : (x == ("__debug__" : Str)) = false := by decide) (hs : starEach [e, .Name x p2] X.env = (false, eval e X.env) :: starEach [.Name x p2] X.env := by rfl) (hs2 : starEach [.Name x p2] X.env = (false, eval (.Name x p2) X.env) :: starEach [] X.env := by rfl)
    (hpl : (backTo pos (starEach [.Name x p2] X.env)).any (·.1) = false := by rfl) : PD X W (.Call (.Name "isinstance" p) [e, .Name x p2] [] pos) (fIsi T f) := pd_isi hg hm hgT hmT hvT he hn hd hs hs2 hpl
end
theorem room_units {k : Nat} {A : Around} (r : Room k A) : A.units + 64 < cLine := by
  have := r.un
  omega
end Dl

/-! DL14: in, is of bools, displays of dicts, list(range(..)). -/
namespace Dl
open PySem PySem.Spec PyProof.Rows L2

/-! ### in, not in -/
def inS (m : M) (a b : D) : Option Bool := match pdM DEEP m a, pdM DEEP m b with
  | some p, some (.list qs) => if PyData.plainAll qs && (p.plain && decide (p.depth ≤ 60)) then some (qs.any fun y => PyData.eqv y p) else none
  | some p, some (.tuple qs) => if PyData.plainAll qs && (p.plain && decide (p.depth ≤ 60)) then some (qs.any fun y => PyData.eqv y p) else none
  | _, _ => none
def inD (m : M) (a b : D) : Option Bool := match b with
  | .ref n => match m[n]? with
    | some (.dct t kvs) => if keyOk t a then some (valD kvs a).isSome else none
    | _ => inS m a (.ref n)
  | b => inS m a b
def gIn : D → D → M → Res D := fun a b m => match inD m a b with
  | some r => .ok (.bl r) m
  | none => .bad
def gNotIn : D → D → M → Res D := fun a b m => match inD m a b with
  | some r => .ok (.bl (!r)) m
  | none => .bad
def rInA (K : PySem.W.Frag) (f : Bool → Bool) : R2 := fun x y H Q => (∃ a o, y = .ref a ∧ DGet H a x o ∧ Q (.bl (f o.isSome)) H) ∨
  ∃ p qs, Dp K H x p ∧ (Dp K H y (.list qs) ∨ Dp K H y (.tuple qs)) ∧ PyData.plainAll qs = true ∧ p.plain = true ∧ p.depth ≤ 60 ∧ Q (.bl (f (qs.any fun z => PyData.eqv z p))) H
section
variable {X : Cx}
theorem in_room {A : Around} {qs : List PyData} {p : PyData} (hu : A.units + 64 < cLine) (h : p.depth ≤ 60) : A.units + 1 + min (PyData.depthAll qs) p.depth < cLine := by
  have := Nat.min_le_right (PyData.depthAll qs) p.depth
  omega
theorem op_inA (hu : X.A.units + 64 < cLine) : OpR X (compareOp .In) (rInA X.K id) := by
  rintro pins s σ H x y v u Q I rx ry (⟨a, o, rfl, g, q⟩ | ⟨p, qs, hp, hq, h1, h2, h3, q⟩)
  · obtain rfl : u = Value.ref a := ry
    exact d_in (by omega) I g rx fun s' I' => ⟨.bl o.isSome, H, I', rfl, q⟩
  · obtain ⟨as, r1⟩ := Dp.reads I p x v hp rx
    rcases hq with hq | hq
    · obtain ⟨bs, r2⟩ := Dp.reads I _ y u hq ry
      exact SeqAt.in_list_data r2 r1 h1 h2 (in_room hu h3) ⟨.bl _, H, I, rfl, q⟩
    · obtain ⟨bs, r2⟩ := Dp.reads I _ y u hq ry
      exact SeqAt.in_tuple_data r2 r1 h1 h2 (in_room hu h3) ⟨.bl _, H, I, rfl, q⟩
theorem op_notInA (hu : X.A.units + 64 < cLine) : OpR X (compareOp .NotIn) (rInA X.K not) := by
  rintro pins s σ H x y v u Q I rx ry (⟨a, o, rfl, g, q⟩ | ⟨p, qs, hp, hq, h1, h2, h3, q⟩)
  · obtain rfl : u = Value.ref a := ry
    exact d_notIn (by omega) I g rx fun s' I' => ⟨.bl (!o.isSome), H, I', rfl, q⟩
  · obtain ⟨as, r1⟩ := Dp.reads I p x v hp rx
    rcases hq with hq | hq
    · obtain ⟨bs, r2⟩ := Dp.reads I _ y u hq ry
      exact SeqAt.notIn_list_data r2 r1 h1 h2 (in_room hu h3) ⟨.bl _, H, I, rfl, q⟩
    · obtain ⟨bs, r2⟩ := Dp.reads I _ y u hq ry
      exact SeqAt.notIn_tuple_data r2 r1 h1 h2 (in_room hu h3) ⟨.bl _, H, I, rfl, q⟩
end
theorem rin_of {K : PySem.W.Frag} {β : List Addr} {H : Hp} {m : M} {x y : V} {a b : D} {f : Bool → Bool} {r : Bool} {Q : VK} (ok : MOk K β H m) (ra : Rp K β H x a) (rb : Rp K β H y b) (h : inD m a b = some r) (q : Q (.bl (f r)) H) : rInA K f x y H Q := by
  have hS : ∀ {b : D}, Rp K β H y b → inS m a b = some r → rInA K f x y H Q := by
    intro b rb h
    unfold inS at h
    split at h
    · rename_i p qs hp hq
      split at h
      · rename_i hs
        cases h
        simp only [Bool.and_eq_true, decide_eq_true_eq] at hs
        exact .inr ⟨p, qs, dp_pdM ok _ ra hp, .inl (dp_pdM ok _ rb hq), hs.1, hs.2.1, hs.2.2, q⟩
      · exact nomatch h
    · rename_i p qs hp hq
      split at h
      · rename_i hs
        cases h
        simp only [Bool.and_eq_true, decide_eq_true_eq] at hs
        exact .inr ⟨p, qs, dp_pdM ok _ ra hp, .inr (dp_pdM ok _ rb hq), hs.1, hs.2.1, hs.2.2, q⟩
      · exact nomatch h
    · exact nomatch h
  unfold inD at h
  split at h
  · rename_i n
    split at h
    · rename_i t kvs hn
      split at h
      · rename_i hk
        cases h
        cases rb with
        | ref ha =>
          obtain ⟨o, g, e⟩ := dget_of ok hn ha ra hk
          refine .inl ⟨_, o, rfl, g, ?_⟩
          rcases e with ⟨e1, e2⟩ | ⟨v, e', e1, e2, r'⟩
          · rw [e2] at q
            rw [e1]
            exact q
          · rw [e2] at q
            rw [e1]
            exact q
      · exact nomatch h
    · exact hS rb h
  · exact hS rb h
theorem opd_in {K : PySem.W.Frag} : OpD K (rInA K id) gIn := by
  intro Wx β H m x y a b Q ok ra rb h
  unfold gIn at h
  split at h
  · rename_i r hr
    exact rin_of ok ra rb hr (h.here ok _ (.bl _))
  · exact h.elim
theorem opd_notIn {K : PySem.W.Frag} : OpD K (rInA K not) gNotIn := by
  intro Wx β H m x y a b Q ok ra rb h
  unfold gNotIn at h
  split at h
  · rename_i r hr
    exact rin_of ok ra rb hr (h.here ok _ (.bl _))
  · exact h.elim
/-! ### is, is not: of bools -/
def gIsB : D → D → M → Res D := fun a b m => match a, b with
  | .bl x, .bl y => .ok (.bl (decide (x = y))) m
  | _, _ => .bad
def gNotB : D → D → M → Res D := fun a b m => match a, b with
  | .bl x, .bl y => .ok (.bl (!decide (x = y))) m
  | _, _ => .bad
theorem opd_isB {K : PySem.W.Frag} : OpD K rIsB gIsB := by
  intro Wx β H m x y a b Q ok ra rb h
  unfold gIsB at h
  split at h
  · cases ra
    cases rb
    exact ⟨_, _, rfl, rfl, h.here ok _ (.bl _)⟩
  · exact h.elim
theorem opd_notB {K : PySem.W.Frag} : OpD K rNotB gNotB := by
  intro Wx β H m x y a b Q ok ra rb h
  unfold gNotB at h
  split at h
  · cases ra
    cases rb
    exact ⟨_, _, rfl, rfl, h.here ok _ (.bl _)⟩
  · exact h.elim
section
variable {X : Cx} {W : WXD} {a b : Expr} {pos : Pos} {fa fb : FE}
theorem pd_in (hu : X.A.units + 64 < cLine) (ha : PD X W a fa) (hb : PD X W b fb) (hm : behindInMarks .In b = false := by with_unfolding_all rfl) : PD X W (.Compare a [.In] [b] pos) (fOp gIn fa fb) := pd_cmp (op_inA hu) opd_in ha hb hm
theorem pd_notIn (hu : X.A.units + 64 < cLine) (ha : PD X W a fa) (hb : PD X W b fb) (hm : behindInMarks .NotIn b = false := by with_unfolding_all rfl) : PD X W (.Compare a [.NotIn] [b] pos) (fOp gNotIn fa fb) := pd_cmp (op_notInA hu) opd_notIn ha hb hm
theorem ptd_in (hu : X.A.units + 64 < cLine) (ha : PD X W a fa) (hb : PD X W b fb) (hm : behindInMarks .In b = false := by with_unfolding_all rfl) : PTD X W (.Compare a [.In] [b] pos) (fTest (fOp gIn fa fb)) := ptd_cmp (op_inA hu) opd_in ha hb hm
theorem ptd_notIn (hu : X.A.units + 64 < cLine) (ha : PD X W a fa) (hb : PD X W b fb) (hm : behindInMarks .NotIn b = false := by with_unfolding_all rfl) : PTD X W (.Compare a [.NotIn] [b] pos) (fTest (fOp gNotIn fa fb)) := ptd_cmp (op_notInA hu) opd_notIn ha hb hm
theorem pd_isB (ha : PD X W a fa) (hb : PD X W b fb) : PD X W (.Compare a [.Is] [b] pos) (fOp gIsB fa fb) := pd_cmp op_isBl opd_isB ha hb (nomark _)
theorem pd_notB (ha : PD X W a fa) (hb : PD X W b fb) : PD X W (.Compare a [.IsNot] [b] pos) (fOp gNotB fa fb) := pd_cmp op_notBl opd_notB ha hb (nomark _)
theorem ptd_isB (ha : PD X W a fa) (hb : PD X W b fb) : PTD X W (.Compare a [.Is] [b] pos) (fTest (fOp gIsB fa fb)) := ptd_cmp op_isBl opd_isB ha hb (nomark _)
theorem ptd_notB (ha : PD X W a fa) (hb : PD X W b fb) : PTD X W (.Compare a [.IsNot] [b] pos) (fTest (fOp gNotB fa fb)) := ptd_cmp op_notBl opd_notB ha hb (nomark _)
end
/-! ### list(range(..)), tuple(range(..)) -/
def rgD (a b : Int) : List D := (List.range (b - a).toNat).map fun i => D.int (a + (i : Nat))
def rgOk (a b : Int) : Bool := decide (-(LIM : Int) ≤ a ∧ a ≤ LIM ∧ -(LIM : Int) ≤ b ∧ b ≤ LIM ∧ b - a ≤ LIM)
theorem rgOk_of {a b : Int} (h : rgOk a b = true) : RgOk a b := by
  have h := of_decide_eq_true h
  unfold LIM at h
  exact ⟨by omega, by omega, by omega, by omega, by omega⟩
theorem rpa_rg {K : PySem.W.Frag} {β : List Addr} {H : Hp} (a b : Int) : RpA K β H (rgV a b) (rgD a b) := by
  unfold rgV rgD
  induction List.range (b - a).toNat with
  | nil => exact .nil
  | cons i r ih => exact .cons (.int _) ih
def fRgA1 (f : FE) : FA := fun ρ m => (f ρ m).bind fun d m => match d with
  | .int n => if rgOk 0 n then .ok (rgD 0 n) m else .bad
  | _ => .bad
def fRgA2 (f g : FE) : FA := fun ρ m => (f ρ m).bind fun d m => (g ρ m).bind fun e m => match d, e with
  | .int a, .int b => if rgOk a b then .ok (rgD a b) m else .bad
  | _, _ => .bad
def fLstA (f : FA) : FE := fun ρ m => (f ρ m).bind fun ds m => .ok (.ref m.length) (m ++ [.lst ds])
def fTupA (f : FA) : FE := fun ρ m => (f ρ m).bind fun ds m => .ok (.tup ds) m
/-- a range's bounds, by data -/
def PRgD (X : Cx) (W : WXD) (e : Expr) (f : FA) : Prop := ∃ te : L2.St → Hp → (Int → Int → Hp → Prop) → Prop, PRg X e te ∧ ∀ (σ : Sg) (H : Hp) (Q : Int → Int → Hp → Prop),
  (∃ β m ρ, Stt X.K β H σ ρ m ∧ okD X.K (W σ) β H (f ρ m) fun ds _ β' H' => ∀ a b, RgOk a b → ds = rgD a b → Q a b H') → te σ H fun a b H1 => RgOk a b ∧ Q a b H1
section
variable {X : Cx} {W : WXD} {a b : Expr} {p pos p2 pos2 : Pos} {fa fb : FE}
theorem prgd_1 (hg : Gl X "range") (hm : X.mg "range" = none) (ha : PD X W a fa) (na : starEach [a] X.env = (false, eval a X.env) :: starEach [] X.env := by rfl) : PRgD X W (.Call (.Name "range" p) [a] [] pos) (fRgA1 fa) :=
  ⟨_, prg_1 hg hm ha na, fun σ H Q h => by
    obtain ⟨β, m, ρ, s, q⟩ := h
    refine td_bind s q fun d m1 v β1 H1 e1 s1 rv q1 => ?_
    split at q1
    · split at q1
      · rename_i n hn
        cases rv
        exact ⟨_, rfl, rgOk_of hn, q1.here s1.me _ _ (rgOk_of hn) rfl⟩
      · exact q1.elim
    · exact q1.elim⟩
theorem prgd_2 (hg : Gl X "range") (hm : X.mg "range" = none) (ha : PD X W a fa) (hb : PD X W b fb) (na : starEach [a, b] X.env = (false, eval a X.env) :: starEach [b] X.env := by rfl)
    (nb : starEach [b] X.env = (false, eval b X.env) :: starEach [] X.env := by rfl) (hp : (backTo pos (starEach [b] X.env)).any (·.1) = false := by rfl) : PRgD X W (.Call (.Name "range" p) [a, b] [] pos) (fRgA2 fa fb) :=
  ⟨_, prg_2 hg hm ha hb na nb hp, fun σ H Q h => by
    obtain ⟨β, m, ρ, s, q⟩ := h
    refine td_bind s q fun d m1 v β1 H1 e1 s1 rv q1 => ?_
    refine td_bind s1 q1 fun d2 m2 v2 β2 H2 e2 s2 rv2 q2 => ?_
    split at q2
    · split at q2
      · rename_i hn
        cases rv
        cases rv2
        exact ⟨_, _, rfl, rfl, rgOk_of hn, q2.here s2.me _ _ (rgOk_of hn) rfl⟩
      · exact q2.elim
    · exact q2.elim⟩
theorem pd_listRg {e : Expr} {f : FA} (hc : X.calm = true) (hg : Gl X "list") (hm : X.mg "list" = none) (he : PRgD X W e f) (na : starEach [e] X.env = (false, eval e X.env) :: starEach [] X.env := by rfl) : PD X W (.Call (.Name "list" p) [e] [] pos) (fLstA f) := by
  obtain ⟨te, h1, h2⟩ := he
  refine PE.imp (pe_listRg hc hg hm h1 na) fun σ H Q h => ?_
  obtain ⟨β, m, ρ, s, q⟩ := h
  refine h2 σ H (fun a b H1 => ∀ q, H1 q = none → Q (.ref q) (upd H1 q (.lst (rgV a b)))) ⟨β, m, ρ, s, ?_⟩
  unfold fLstA at q
  refine okD.imp (okD.bind q) fun ds m1 β1 H1 _ e1 ok1 q1 a b hab hds p hp => ?_
  subst hds
  exact q1 (β1 ++ [p]) _ (Ext.lay hp) (ok1.lay hp (rpa_rg a b)) _ (Rp.last ok1)
theorem pd_tupRg {e : Expr} {f : FA} (hc : X.calm = true) (hg : Gl X "tuple") (hm : X.mg "tuple" = none) (he : PRgD X W e f) (na : starEach [e] X.env = (false, eval e X.env) :: starEach [] X.env := by rfl) : PD X W (.Call (.Name "tuple" p) [e] [] pos) (fTupA f) := by
  obtain ⟨te, h1, h2⟩ := he
  refine PE.imp (pe_tupRg hc hg hm h1 na) fun σ H Q h => ?_
  obtain ⟨β, m, ρ, s, q⟩ := h
  refine h2 σ H (fun a b H1 => ∀ q, H1 q = none → Q (.ref q) (upd H1 q (.tup (rgV a b)))) ⟨β, m, ρ, s, ?_⟩
  unfold fTupA at q
  refine okD.imp (okD.bind q) fun ds m1 β1 H1 _ e1 ok1 q1 a b hab hds p hp => ?_
  subst hds
  exact q1 β1 _ (Ext.upd_new hp) (ok1.upd_new hp) _ (.tup upd_same ((rpa_rg a b).ext (Ext.upd_new hp)))
end
/-! ### displays of dicts -/
theorem mutO {β β' : List Addr} {H H' : Hp} {p : Addr} {o : HO} (e : Ext β β' H H') (hp : H p = none) (hl : ∃ u, H' p = some u ∧ Mutb u) : Ext β β' H (upd H' p o) := by
  refine ⟨e.pre, fun a ys h => ?_, fun a u x h => ?_, fun a u h hn => ?_, e.new⟩
  · rw [upd_ne (ne_of_none h hp)]; exact e.tup a ys h
  · rw [upd_ne (ne_of_none h hp)]; exact e.frz a u x h
  · rw [upd_ne (ne_of_none h hp)]; exact e.keep a u h hn
theorem side0 {β : List Addr} {H : Hp} {p : Addr} {u o : HO} (hp : H p = some u) (hm : Mutb u) : Ext0 β β H (upd H p o) :=
  ⟨fun _ _ h => h, fun a xs h => by
    rw [upd_ne fun z => by subst z; rw [hp] at h; exact hm.1 _ (Option.some.inj h)]; exact h, fun a x v h => by
    rw [upd_ne fun z => by subst z; rw [hp] at h; exact hm.2 _ _ (Option.some.inj h)]; exact h⟩
theorem sideM {K : PySem.W.Frag} {β : List Addr} {H : Hp} {m : M} {p : Addr} {u o : HO} (ok : MOk K β H m) (hp : H p = some u) (hm : Mutb u) (hb : p ∉ β) : MOk K β (upd H p o) m :=
  ⟨ok.len, ok.nd, fun n x a h1 h2 => (ok.at' n x a h1 h2).mono (side0 hp hm) fun v hv => by
    rw [upd_ne (fun q => hb (by rw [← q]; exact List.mem_of_getElem? h2))]; exact hv⟩
abbrev FP := Sl → M → Res (List (D × D))
def fPNil : FP := fun _ m => .ok [] m
def fPCons (fk fv : FE) (fp : FP) : FP := fun ρ m => (fk ρ m).bind fun k m => (fv ρ m).bind fun v m => (fp ρ m).bind fun r m => .ok ((k, v) :: r) m
inductive RpP (K : PySem.W.Frag) (β : List Addr) (H : Hp) : List (V × V) → List (D × D) → Prop
  | nil : RpP K β H [] []
  | cons {v w : V} {d e : D} {r : List (V × V)} {s : List (D × D)} : Rp K β H v d → Rp K β H w e → RpP K β H r s → RpP K β H ((v, w) :: r) ((d, e) :: s)
def PPsD (X : Cx) (W : WXD) (pos : Pos) (keys : List (Option Expr)) (values : List Expr) (fp : FP) : Prop := ∃ trs, PPs X pos keys values trs ∧ ∀ (σ : Sg) (H : Hp) (Q : List (V × V) → Hp → Prop),
  (∃ β m ρ, Stt X.K β H σ ρ m ∧ okD X.K (W σ) β H (fp ρ m) fun kvs _ β' H' => ∀ ps, RpP X.K β' H' ps kvs → Q ps H') → tPairs trs σ H Q
def mergeD (kvs more : List (D × D)) : List (D × D) := more.foldl (fun acc kv => putD acc kv.1 kv.2) kvs
def fDict (fp : FP) : FE := fun ρ m => (fp ρ m).bind fun kvs m => if kvs.length ≤ 15 ∧ kvs.all (fun kv => (keyD kv.1).isSome) = true then .ok (.ref m.length) (m ++ [.dct false (mergeD [] kvs)]) else .bad
def fDict0 (t : Bool) : FE := fun _ m => .ok (.ref m.length) (m ++ [.dct t []])
section
variable {X : Cx} {W : WXD} {pos : Pos} {fk fv : FE} {fp : FP}
theorem ppsd_nil : PPsD X W pos [] [] fPNil := ⟨_, pps_nil, fun σ H Q h => by
  obtain ⟨β, m, ρ, s, q⟩ := h
  exact q.here s.me [] .nil⟩
theorem ppsd_cons {k v : Expr} {ks : List (Option Expr)} {vs : List Expr} (hk : PD X W k fk) (hv : PD X W v fv) (hr : PPsD X W pos ks vs fp) : PPsD X W pos (some k :: ks) (v :: vs) (fPCons fk fv fp) := by
  obtain ⟨trs, h1, h2⟩ := hr
  refine ⟨_, pps_cons hk hv h1, fun σ H Q h => ?_⟩
  obtain ⟨β, m, ρ, s, q⟩ := h
  refine td_bind s q fun d m1 x β1 H1 e1 s1 rx q1 => ?_
  refine td_bind s1 q1 fun d2 m2 y β2 H2 e2 s2 ry q2 => ?_
  refine h2 σ H2 _ ⟨β2, m2, ρ, s2, okD.imp (okD.bind q2) fun kvs m3 β3 H3 _ e3 ok3 q3 ps rp => ?_⟩
  exact q3.here ok3 _ (.cons ((rx.ext e2).ext e3) (ry.ext e3) rp)
theorem rpp_keys {K : PySem.W.Frag} {β : List Addr} {H : Hp} {ps : List (V × V)} {kvs : List (D × D)} (r : RpP K β H ps kvs) (h : kvs.all (fun kv => (keyD kv.1).isSome) = true) :
    ∃ xs : List (Key × V), ps = xs.map (fun kv => (kV kv.1, kv.2)) ∧ xs.length = kvs.length ∧ ∀ {acc : List (Key × V)} {acd : List (D × D)}, KvR K β H keyD acc acd → KvR K β H keyD (mergeK acc xs) (mergeD acd kvs) := by
  induction r with
  | nil => exact ⟨[], rfl, rfl, fun q => q⟩
  | @cons v w d e r s rv rw' _ ih =>
    rw [List.all_cons, Bool.and_eq_true] at h
    obtain ⟨xs, h1, h2, h3⟩ := ih h.2
    obtain ⟨k, hk⟩ := Option.isSome_iff_exists.mp h.1
    refine ⟨(k, w) :: xs, ?_, by rw [List.length_cons, List.length_cons, h2], fun q => ?_⟩
    · rw [List.map_cons, h1, key_rp rv hk]
    · exact h3 (q.put (fun a b => keyD_inj a b) hk rw')
theorem pd_dict {keys : List (Option Expr)} {values : List Expr} (h : PPsD X W pos keys values fp) (hall : keys.all (·.isSome) = true := by rfl) (hl : keys.length = values.length := by rfl) (h0 : keys ≠ [] := by exact List.cons_ne_nil _ _)
    (h15 : keys.length ≤ 15 := by decide) : PD X W (.Dict keys values pos) (fDict fp) := by
  obtain ⟨trs, h1, h2⟩ := h
  refine PE.imp (pe_disp h1 hall hl h0 h15) fun σ H Q hq p hp => ?_
  obtain ⟨β, m, ρ, s, q⟩ := hq
  have s' : Stt X.K β (upd H p (.dK [])) σ ρ m := s.ext (Ext.upd_new hp) (s.me.upd_new hp)
  have hb : p ∉ β := s.me.fresh hp
  refine h2 σ _ _ ⟨β, m, ρ, s', ?_⟩
  unfold fDict at q
  cases hfp : fp ρ m with
  | bad => rw [hfp] at q; exact q.elim
  | exc x m1 => rw [hfp] at q; exact okD.ext (r := .exc x m1) (Ext.upd_new hp) q
  | ok kvs m1 =>
    rw [hfp] at q
    intro β1 H1 e1 ok1 ps rp
    have hp1 : H1 p = some (.dK []) := e1.keep p _ upd_same hb
    refine ⟨hp1, ?_⟩
    change okD X.K (W σ) β H (if kvs.length ≤ 15 ∧ kvs.all (fun kv => (keyD kv.1).isSome) = true then Res.ok (D.ref m1.length) (m1 ++ [O.dct false (mergeD [] kvs)]) else Res.bad) _ at q
    split at q
    · rename_i hk
      obtain ⟨xs, h4, h5, h6⟩ := rpp_keys rp hk.2
      refine ⟨xs, h4, by rw [h5]; exact hk.1, ?_⟩
      have hb1 : p ∉ β1 := fun hb1 => by
        have := e1.new p hb1 hb
        rw [upd_same] at this
        exact nomatch this
      have e2 : Ext β β1 H (upd H1 p (.dK (mergeK [] xs))) := mutO ((Ext.upd_new hp).trans e1) hp ⟨_, hp1, mutb_dK⟩
      have e3 : Ext0 β1 β1 H1 (upd H1 p (.dK (mergeK [] xs))) := side0 hp1 mutb_dK
      have e4 : Ext0 β1 (β1 ++ [p]) H1 (upd H1 p (.dK (mergeK [] xs))) := e3.trans (Ext0.more _)
      have ok2 : MOk X.K β1 (upd H1 p (.dK (mergeK [] xs))) m1 := sideM ok1 hp1 mutb_dK hb1
      exact q (β1 ++ [p]) _ (Ext.adopt' hp e2) (ok2.adoptO hb1 ⟨_, upd_same, (h6 .nil).mono e4⟩) _ (Rp.last ok1)
    · exact q.elim
theorem pd_dict0 : PD X W (.Dict [] [] pos) (fDict0 false) := PE.imp pe_dnewK fun σ H Q hq p hp => by
  obtain ⟨β, m, ρ, s, q⟩ := hq
  exact q (β ++ [p]) _ (Ext.lay hp) ((s.me.upd_new hp).adoptO (s.me.fresh hp) ⟨[], upd_same, .nil⟩) _ (Rp.last s.me)
theorem pd_dict0T : PD X W (.Dict [] [] pos) (fDict0 true) := PE.imp pe_dnewT fun σ H Q hq p hp => by
  obtain ⟨β, m, ρ, s, q⟩ := hq
  exact q (β ++ [p]) _ (Ext.lay hp) ((s.me.upd_new hp).adoptO (s.me.fresh hp) ⟨[], upd_same, .nil⟩) _ (Rp.last s.me)
end
/-! ### x += i of ints -/
def gAddI : D → D → M → Res D := gI fun i j => .int (i + j)
theorem opd_addI {K : PySem.W.Frag} : OpD K (rI0 fun i j => .int (i + j)) gAddI := opd_I0 fun _ _ _ _ => .int _
/-! ### a, b, .. = [..] -/
def sAsgL (n : Nat) (f : FA) (g : GTs) : FS := fun ρ m => (f ρ m).out ρ fun ds m' => if ds.length = n then (match g ds ρ with
  | some ρ' => .nx ρ' m'
  | none => .bad) else .bad
theorem psd_asgL {X : Cx} {W : WXD} {es : List Expr} {e : Expr} {k : Nat} {p2 pos : Pos} {n : Nat} {f : FA} {gs : GTs} {I : List Nat} (hc : X.calm = true) (he : PLD X W e f) (h : PGsD X es gs I)
    (hn : (assignEach es X.env).length = n := by rfl) (hst : (assignEach es X.env).findIdx? (·.1) = none := by rfl)
    (hs : swapsWithSole [.Tuple es k p2] e pos.line X.env = pure false := by rfl) (hw : swappedStores [.Tuple es k p2] e X.env = pure none := by rfl)
    (h1 : (assignEach [.Tuple es k p2] X.env).map (·.2) = [assign (.Tuple es k p2) X.env] := by rfl) : PSD X W (.Assign [.Tuple es k p2] e pos) (sAsgL n f gs) :=
  PS.imp (ps_asg he (pg_unl hc h hn hst) hs hw h1) fun E σ H q => by
    obtain ⟨β, m, ρ, s, q⟩ := q
    refine tsl_bind s q fun ds m1 p xs β1 H1 e1 s1 hp hb hl rs q1 => ?_
    split at q1
    · rename_i hk
      cases hg : gs ds ρ with
      | none => simp only [hg] at q1; exact q1.elim
      | some ρ' =>
        simp only [hg] at q1
        exact ⟨_, xs, rfl, SqL.of hl, by rw [rs.length]; exact hk, β1, m1, ρ, _, ρ', s1, rs, hg, fun σ2 s2 _ => q1 β1 H1 σ2 e1 s2⟩
    · exact q1.elim
end Dl

/-! PL1: evaluation, plain. -/
namespace Dl
open PySem PyProof.Rows L2

/-! ### unfolding -/
@[simp] theorem e_var (i : Nat) (ρ : Sl) (m : M) : fVar i ρ m = match ρ[i]? with
  | some (some d) => .ok d m
  | _ => .bad := nrfl rfl
@[simp] theorem e_c (d : D) (ρ : Sl) (m : M) : fC d ρ m = .ok d m := nrfl rfl
@[simp] theorem e_op (g : D → D → M → Res D) (a b : FE) (ρ : Sl) (m : M) : fOp g a b ρ m = (a ρ m).bind fun x m1 => (b ρ m1).bind fun y m2 => g x y m2 := nrfl rfl
@[simp] theorem e_test (f : FE) (ρ : Sl) (m : M) : fTest f ρ m = asB (f ρ m) := nrfl rfl
@[simp] theorem e_asB (b : Bool) (m : M) : asB (.ok (.bl b) m) = .ok b m := nrfl rfl
@[simp] theorem e_nil (ρ : Sl) (m : M) : fNil ρ m = .ok [] m := nrfl rfl
@[simp] theorem e_cons (f : FE) (g : FA) (ρ : Sl) (m : M) : fCons f g ρ m = (f ρ m).bind fun d m => (g ρ m).bind fun ds m => .ok (d :: ds) m := nrfl rfl
@[simp] theorem e_tup (f : FA) (ρ : Sl) (m : M) : fTup f ρ m = (f ρ m).bind fun ds m => if ds.length ≤ LIM then .ok (.tup ds) m else .bad := nrfl rfl
@[simp] theorem e_lst (f : FA) (ρ : Sl) (m : M) : fLst f ρ m = (f ρ m).bind fun ds m => if ds.length ≤ LIM then .ok ds m else .bad := nrfl rfl
@[simp] theorem e_name (f : FA) (ρ : Sl) (m : M) : fName f ρ m = (f ρ m).bind fun ds m => .ok (.ref m.length) (m ++ [.lst ds]) := nrfl rfl
@[simp] theorem e_cb (g : List D → M → Res D) (f : FA) (ρ : Sl) (m : M) : fCB g f ρ m = (f ρ m).bind g := nrfl rfl
@[simp] theorem e_call (F : List D → M → Res D) (f : FA) (ρ : Sl) (m : M) : fCall F f ρ m = gcR m.length ((f ρ m).bind F) := nrfl rfl
@[simp] theorem e_gc (f : FE) (ρ : Sl) (m : M) : fGc f ρ m = gcR m.length (f ρ m) := nrfl rfl
@[simp] theorem e_gcB (f : FT) (ρ : Sl) (m : M) : fGcB f ρ m = gcB m.length (f ρ m) := nrfl rfl
@[simp] theorem e_yes (ρ : Sl) (m : M) : fYes ρ m = .ok true m := nrfl rfl
@[simp] theorem e_andT (t u : FT) (ρ : Sl) (m : M) : fAndT t u ρ m = (t ρ m).bind fun b m => if b then u ρ m else .ok false m := nrfl rfl
@[simp] theorem e_orT (t u : FT) (ρ : Sl) (m : M) : fOrT t u ρ m = (t ρ m).bind fun b m => if b then .ok true m else u ρ m := nrfl rfl
@[simp] theorem e_notT (t : FT) (ρ : Sl) (m : M) : fNotT t ρ m = (t ρ m).bind fun b m => .ok (!b) m := nrfl rfl
@[simp] theorem e_if (t : FT) (f g : FE) (ρ : Sl) (m : M) : fIf t f g ρ m = (t ρ m).bind fun b m => if b then f ρ m else g ρ m := nrfl rfl
def andK (d : D) (m : M) (r : Res D) : Res D := match d with
  | .bl true => r
  | .bl false => .ok (.bl false) m
  | _ => .bad
def orK (d : D) (m : M) (r : Res D) : Res D := match d with
  | .bl true => .ok (.bl true) m
  | .bl false => r
  | _ => .bad
@[simp] theorem e_andV (f g : FE) (ρ : Sl) (m : M) : fAndV f g ρ m = (f ρ m).bind fun d m => andK d m (g ρ m) := nrfl rfl
@[simp] theorem e_orV (f g : FE) (ρ : Sl) (m : M) : fOrV f g ρ m = (f ρ m).bind fun d m => orK d m (g ρ m) := nrfl rfl
@[simp] theorem e_andK (b : Bool) (m : M) (r : Res D) : andK (.bl b) m r = if b then r else .ok (.bl false) m := by cases b <;> rfl
@[simp] theorem e_orK (b : Bool) (m : M) (r : Res D) : orK (.bl b) m r = if b then .ok (.bl true) m else r := by cases b <;> rfl
def notK (d : D) (m : M) : Res D := match d with
  | .bl b => .ok (.bl (!b)) m
  | _ => .bad
@[simp] theorem e_notV (f : FE) (ρ : Sl) (m : M) : fNotV f ρ m = (f ρ m).bind notK := nrfl rfl
@[simp] theorem e_notK (b : Bool) (m : M) : notK (.bl b) m = .ok (.bl (!b)) m := nrfl rfl
@[simp] theorem e_chain (g g' : D → D → M → Res D) (a b c : FE) (ρ : Sl) (m : M) : fChain g g' a b c ρ m = (a ρ m).bind fun x m => (b ρ m).bind fun y m => (g x y m).bind fun d m => andK d m ((c ρ m).bind fun z m => g' y z m) := nrfl rfl
@[simp] theorem e_cut (f : FE) (l h : FO) (ρ : Sl) (m : M) : fCut f l h ρ m = (f ρ m).bind fun a m => (l ρ m).bind fun lo m => (h ρ m).bind fun hi m => gCut lo hi a m := nrfl rfl
@[simp] theorem e_noPart (ρ : Sl) (m : M) : fNoPart ρ m = .ok none m := nrfl rfl
@[simp] theorem e_part (f : FE) (ρ : Sl) (m : M) : fPart f ρ m = (f ρ m).bind fun d m => match d with
  | .int i => .ok (some i) m
  | _ => .bad := nrfl rfl
@[simp] theorem e_gcut (lo hi : Option Int) (xs : List D) (m : M) : gCut lo hi (.tup xs) m = .ok (.tup (cutD xs lo hi)) m := nrfl rfl
@[simp] theorem e_add (i j : Int) (m : M) : gAdd (.int i) (.int j) m = .ok (.int (i + j)) m := nrfl rfl
@[simp] theorem e_addT (xs ys : List D) (m : M) : gAdd (.tup xs) (.tup ys) m = if xs.length + ys.length ≤ LIM then .ok (.tup (xs ++ ys)) m else .bad := nrfl rfl
@[simp] theorem e_sub (i j : Int) (m : M) : gSub (.int i) (.int j) m = .ok (.int (i - j)) m := nrfl rfl
@[simp] theorem e_mul (i j : Int) (m : M) : gMul (.int i) (.int j) m = if cMul i j then .ok (.int (i * j)) m else .bad := nrfl rfl
@[simp] theorem e_mulI (i j : Int) (m : M) : gMulI (.int i) (.int j) m = if cMul i j then .ok (.int (i * j)) m else .bad := nrfl rfl
@[simp] theorem e_fdiv (i j : Int) (m : M) : gFdiv (.int i) (.int j) m = if cDiv i j then .ok (.int (i / j)) m else .bad := nrfl rfl
@[simp] theorem e_mod (i j : Int) (m : M) : gMod (.int i) (.int j) m = if cMod i j then .ok (.int (i % j)) m else .bad := nrfl rfl
@[simp] theorem e_lt (i j : Int) (m : M) : gLt (.int i) (.int j) m = .ok (.bl (decide (i < j))) m := nrfl rfl
@[simp] theorem e_le (i j : Int) (m : M) : gLe (.int i) (.int j) m = .ok (.bl (decide (i ≤ j))) m := nrfl rfl
@[simp] theorem e_gt (i j : Int) (m : M) : gGt (.int i) (.int j) m = .ok (.bl (decide (j < i))) m := nrfl rfl
@[simp] theorem e_ge (i j : Int) (m : M) : gGe (.int i) (.int j) m = .ok (.bl (decide (j ≤ i))) m := nrfl rfl
@[simp] theorem e_len (d : D) (m : M) : gLen [d] m = match itemsD m d with
    | some xs => .ok (.int xs.length) m
    | none => match d with
      | .str z => if z.length ≤ LIM then .ok (.int z.length) m else .bad
      | _ => .bad := nrfl rfl
@[simp] theorem e_lenL (ds : List D) (m : M) : gLenL ds m = .ok (.int ds.length) m := nrfl rfl
@[simp] theorem e_tuple (d : D) (m : M) : gTuple [d] m = match itemsD m d with
    | some xs => .ok (.tup xs) m
    | none => .bad := nrfl rfl
@[simp] theorem e_tupleL (ds : List D) (m : M) : gTupleL ds m = .ok (.tup ds) m := nrfl rfl
@[simp] theorem e_list (d : D) (m : M) : gList [d] m = match itemsD m d with
    | some xs => .ok (.ref m.length) (m ++ [.lst xs])
    | none => .bad := nrfl rfl
@[simp] theorem e_itT (m : M) (ds : List D) : itemsD m (.tup ds) = some ds := nrfl rfl
@[simp] theorem e_itR (m : M) (ds : List D) : itemsD m (.rol ds) = some ds := nrfl rfl
@[simp] theorem e_itL (m : M) (n : Nat) : itemsD m (.ref n) = match m[n]? with
    | some (.lst ds) => some ds
    | _ => none := nrfl rfl
@[simp] theorem e_abs (i : Int) (m : M) : gAbs [.int i] m = .ok (.int (if i < 0 then -i else i)) m := nrfl rfl
@[simp] theorem e_int (i : Int) (m : M) : gInt [.int i] m = .ok (.int i) m := nrfl rfl
@[simp] theorem e_min2 (i j : Int) (m : M) : gMin2 [.int i, .int j] m = .ok (.int (if j < i then j else i)) m := nrfl rfl
theorem kit_int_int : kitB "int" "int" = some true := by decide +kernel
theorem kit_int_bool : kitB "int" "bool" = some false := by decide +kernel
theorem isi_list : isi2 "list" "list" "tuple" = some true := by decide +kernel
theorem isi_tuple : isi2 "tuple" "list" "tuple" = some true := by decide +kernel
theorem isi_int : isi2 "int" "list" "tuple" = some false := by decide +kernel
@[simp] theorem e_isi (T : String) (f : FE) (ρ : Sl) (m : M) : fIsi T f ρ m = (f ρ m).bind fun d m => match tyD m d with
  | some t => match kitB t T with
    | some b => .ok (.bl b) m
    | none => .bad
  | none => .bad := nrfl rfl
@[simp] theorem e_isi2 (T U : String) (f : FE) (ρ : Sl) (m : M) : fIsi2 T U f ρ m = (f ρ m).bind fun d m => match tyD m d with
  | some t => match isi2 t T U with
    | some b => .ok (.bl b) m
    | none => .bad
  | none => .bad := nrfl rfl

/-! ### statements -/
@[simp] theorem s_next (ρ : Sl) (m : M) : sNext ρ m = .nx ρ m := nrfl rfl
def seqK (o : Out) (h : FS) : Out := match o with
  | .nx ρ' m' => h ρ' m'
  | o => o
@[simp] theorem s_seq (g h : FS) (ρ : Sl) (m : M) : sSeq g h ρ m = seqK (g ρ m) h := by unfold sSeq seqK; cases g ρ m <;> rfl
@[simp] theorem seqK_nx (ρ : Sl) (m : M) (h : FS) : seqK (.nx ρ m) h = h ρ m := nrfl rfl
@[simp] theorem seqK_rt (d : D) (m : M) (h : FS) : seqK (.rt d m) h = .rt d m := nrfl rfl
@[simp] theorem s_drop (f : FE) (ρ : Sl) (m : M) : sDrop f ρ m = (f ρ m).out ρ fun _ m' => .nx ρ m' := nrfl rfl
@[simp] theorem s_ret (f : FE) (ρ : Sl) (m : M) : sRet f ρ m = (f ρ m).out ρ fun d m' => .rt d m' := nrfl rfl
@[simp] theorem s_if (t : FT) (g h : FS) (ρ : Sl) (m : M) : sIf t g h ρ m = (t ρ m).out ρ fun b m' => if b then g ρ m' else h ρ m' := nrfl rfl
@[simp] theorem s_set (i : Nat) (f : FE) (ρ : Sl) (m : M) : sSet i f ρ m = (f ρ m).out ρ fun d m' => .nx (ρ.set i (some d)) m' := nrfl rfl
@[simp] theorem s_setL (i : Nat) (f : FA) (ρ : Sl) (m : M) : sSetL i f ρ m = (f ρ m).out ρ fun ds m' => .nx (ρ.set i (some (.ref m'.length))) (m' ++ [.lst ds]) := by
  show (fName f ρ m).out ρ _ = _
  simp only [e_name]
  cases f ρ m <;> rfl
def asgK (o : Option Sl) (m : M) : Out := match o with
  | some ρ' => .nx ρ' m
  | none => .bad
@[simp] theorem asgK_some (ρ : Sl) (m : M) : asgK (some ρ) m = .nx ρ m := nrfl rfl
@[simp] theorem s_asg (f : FE) (g : GT) (ρ : Sl) (m : M) : sAsg f g ρ m = (f ρ m).out ρ fun d m' => asgK (g d ρ) m' := nrfl rfl
@[simp] theorem s_par (i j : Nat) (f : FA) (ρ : Sl) (m : M) : sPar i j f ρ m = (f ρ m).out ρ fun ds m' => match ds with
  | [d, e] => .nx ((ρ.set i (some d)).set j (some e)) m'
  | _ => .bad := nrfl rfl
@[simp] theorem s_for (fi : FI) (gt : GT) (body : FS) (ρ : Sl) (m : M) : sFor fi gt body ρ m = (fi ρ m).out ρ fun src m' => forL src gt body src.n 0 ρ m' := nrfl rfl
@[simp] theorem t_n (i : Nat) (d : D) (ρ : Sl) : gN i d ρ = some (ρ.set i (some d)) := nrfl rfl
@[simp] theorem t_nil (ρ : Sl) : gNil' [] ρ = some ρ := nrfl rfl
@[simp] theorem t_cons (g : GT) (gs : GTs) (d : D) (ds : List D) (ρ : Sl) : gCons' g gs (d :: ds) ρ = (g d ρ).bind (gs ds) := nrfl rfl
@[simp] theorem t_t (n : Nat) (gs : GTs) (ds : List D) (ρ : Sl) : gT n gs (.tup ds) ρ = if ds.length = n then gs ds ρ else none := nrfl rfl
@[simp] theorem r_nx (ρ : Sl) (m : M) : resOf (.nx ρ m) = .ok .non m := nrfl rfl
@[simp] theorem r_rt (d : D) (m : M) : resOf (.rt d m) = .ok d m := nrfl rfl

/-! ### what goes -/
theorem gc_same (d : D) (m : M) : gc m.length d m = (d, m) := by
  have ht : m.take m.length = m := List.take_length
  have hn : ∀ n : Nat, ¬ n < m.length → m[n]? = none := fun n h => List.getElem?_eq_none (by omega)
  unfold gc
  split
  · split
    · rw [ht]
    · split
      · rename_i n hd
        have hn0 : ¬ n < m.length := by simpa [D.blw] using hd
        rw [hn n hn0]
      · rfl
  · rfl
@[simp] theorem gcR_same (d : D) (m : M) : gcR m.length (.ok d m) = .ok d m := by
  show Res.ok (gc m.length d m).1 (gc m.length d m).2 = _
  rw [gc_same]
@[simp] theorem gcR_same' {L : Nat} {m : M} (d : D) (h : L = m.length) : gcR L (.ok d m) = .ok d m := by
  subst h
  exact gcR_same d m
/-- every list's items name lists that stand -/
def Wf (m : M) : Prop := lowM m.length m = true
theorem wf_iff {m : M} : Wf m ↔ ∀ o ∈ m, O.blw m.length o = true := by
  unfold Wf lowM
  rw [List.take_length, List.all_eq_true]
theorem lowM_app {m j : M} (h : Wf m) : lowM m.length (m ++ j) = true := by
  unfold lowM
  rw [List.take_append_of_le_length (Nat.le_refl _)]
  exact h
theorem gc_junk {m j : M} {d : D} (h : Wf m) (hd : d.blw m.length = true) : gc m.length d (m ++ j) = (d, m) := by
  unfold gc
  rw [if_pos (lowM_app h), if_pos hd, List.take_append_of_le_length (Nat.le_refl _), List.take_length]
theorem gcR_junk {L : Nat} {m j : M} {d : D} (hl : L = m.length) (h : Wf m) (hd : d.blw m.length = true) : gcR L (.ok d (m ++ j)) = .ok d m := by
  subst hl
  show Res.ok (gc _ d (m ++ j)).1 (gc _ d (m ++ j)).2 = _
  rw [gc_junk h hd]
theorem gcB_junk {L : Nat} {m j : M} {b : Bool} (hl : L = m.length) (h : Wf m) : gcB L (.ok b (m ++ j)) = .ok b m := by
  subst hl
  show Res.ok b (gc _ .non (m ++ j)).2 = _
  rw [gc_junk h rfl]
@[simp] theorem gcB_same (b : Bool) (m : M) : gcB m.length (.ok b m) = .ok b m := by
  show Res.ok b (gc m.length .non m).2 = _
  rw [gc_same]
/-- a new list that is told -/
theorem gcR_new {L : Nat} {m j : M} {n : Nat} {o : O} (hl : L = m.length) (h : Wf m) (hn : m.length ≤ n) (ho : (m ++ j)[n]? = some o) (hb : o.blw m.length = true) : gcR L (.ok (.ref n) (m ++ j)) = .ok (.ref m.length) (m ++ [o]) := by
  subst hl
  show Res.ok (gc _ (.ref n) (m ++ j)).1 (gc _ (.ref n) (m ++ j)).2 = _
  have e : gc m.length (.ref n) (m ++ j) = (.ref m.length, m ++ [o]) := by
    unfold gc
    rw [if_pos (lowM_app h), if_neg (by simp only [D.blw, decide_eq_true_eq]; omega)]
    simp only [ho, hb, if_true]
    rw [List.take_append_of_le_length (Nat.le_refl _), List.take_length]
  rw [e]
theorem runF_rt {N np : Nat} {g : FS} {ds : List D} {m : M} {d : D} (hl : ds.length = np) (h : g (startD N ds) m = .rt d m) : runF N np g ds m = .ok d m := by
  unfold runF
  rw [if_pos hl, h]
  exact gcR_same d m
theorem runF_rtJ {N np : Nat} {g : FS} {ds : List D} {m m' j : M} {d : D} (hl : ds.length = np) (h : g (startD N ds) m = .rt d (m' ++ j)) (hm : m.length = m'.length) (hw : Wf m') (hd : d.blw m'.length = true) : runF N np g ds m = .ok d m' := by
  unfold runF
  rw [if_pos hl, h]
  exact gcR_junk hm hw hd
theorem runF_rtS {N np : Nat} {g : FS} {ds : List D} {m m' : M} {d : D} (hl : ds.length = np) (h : g (startD N ds) m = .rt d m') (hm : m.length = m'.length) : runF N np g ds m = .ok d m' := by
  unfold runF
  rw [if_pos hl, h]
  show gcR m.length (.ok d m') = _
  rw [hm]
  exact gcR_same d m'
theorem Wf.set {m : M} {n : Nat} {o : O} (h : Wf m) (ho : o.blw m.length = true) : Wf (m.set n o) := by
  rw [wf_iff] at h ⊢
  intro x hx
  rw [List.length_set]
  rcases List.mem_or_eq_of_mem_set hx with hx | rfl
  · exact h x hx
  · exact ho
mutual
theorem blw_mono {L L' : Nat} (h : L ≤ L') : ∀ {d : D}, d.blw L = true → d.blw L' = true
  | .non, _ => rfl
  | .bl _, _ => rfl
  | .int _, _ => rfl
  | .str _, _ => rfl
  | .tup ds, hd => by simp only [D.blw] at hd ⊢; exact blws_mono h hd
  | .rol ds, hd => by simp only [D.blw] at hd ⊢; exact blws_mono h hd
  | .ref n, hd => by simp only [D.blw, decide_eq_true_eq] at hd ⊢; omega
  | .ty _, _ => rfl
theorem blws_mono {L L' : Nat} (h : L ≤ L') : ∀ {ds : List D}, D.blws L ds = true → D.blws L' ds = true
  | [], _ => rfl
  | d :: r, hd => by
    simp only [D.blws, Bool.and_eq_true] at hd ⊢
    exact ⟨blw_mono h hd.1, blws_mono h hd.2⟩
end
theorem Wf.app {m : M} {o : O} (h : Wf m) (ho : o.blw (m.length + 1) = true) : Wf (m ++ [o]) := by
  rw [wf_iff] at h ⊢
  intro x hx
  rw [List.length_append, List.length_singleton]
  rcases List.mem_append.mp hx with hx | hx
  · have := h x hx
    cases x <;> exact blws_mono (by omega) this
  · have e : x = o := by simpa using hx
    rw [e]
    exact ho
theorem wf_nil : Wf [] := rfl

/-! ### loops -/
/-- src gives xs at m -/
structure SrcIs (src : Src) (xs : List D) (m : M) : Prop where
  n : src.n = xs.length
  get : ∀ i, i < xs.length → src.get m i = xs[i]?
  fin : src.fin m = true
theorem isT (xs : List D) (m : M) : SrcIs (srcT xs) xs m := ⟨rfl, fun _ _ => rfl, rfl⟩
theorem isR (k : Nat) (m : M) : SrcIs (srcR 0 k) ((List.range k).map fun i => .int (i : Nat)) m := by
  refine ⟨by simp [srcR], fun i hi => ?_, rfl⟩
  have hi' : i < k := by simpa using hi
  simp [srcR, hi']
theorem isTE (xs : List D) (m : M) : SrcIs (srcTE xs) (xs.zipIdx.map fun p => .tup [.int (p.2 : Nat), p.1]) m := by
  refine ⟨by simp [srcTE], fun i hi => ?_, rfl⟩
  have hi' : i < xs.length := by simpa using hi
  simp [srcTE, pairI, hi']
theorem isZ (xs ys : List D) (m : M) : SrcIs (srcZ xs ys) ((xs.zip ys).map fun p => .tup [p.1, p.2]) m := by
  refine ⟨by simp [srcZ], fun i hi => ?_, rfl⟩
  have hi' : i < xs.length ∧ i < ys.length := by
    rw [List.length_map, List.length_zip] at hi
    omega
  rw [List.getElem?_eq_getElem hi]
  simp [srcZ, hi'.1, hi'.2]
theorem isL {n k : Nat} {xs : List D} {m : M} (h : m[n]? = some (.lst xs)) (hk : k = xs.length) : SrcIs (srcL n k) xs m := by
  subst hk
  refine ⟨rfl, fun i hi => ?_, ?_⟩
  · simp [srcL, h]
  · simp [srcL, h]
/-- a comprehension, each turn told -/
theorem lcL_inv {src : Src} {gt : GT} {ρw : Sl} {t : FT} {e : FE} {n : Nat} (I : Nat → List D → M → Prop) (hn : src.n = n)
    (hs : ∀ i acc m, i < n → I i acc m → ∃ d ρ', src.get m i = some d ∧ gt d ρw = some ρ' ∧ ((∃ m1, t ρ' m = .ok false m1 ∧ I (i + 1) acc m1) ∨ ∃ m1 y m2, t ρ' m = .ok true m1 ∧ e ρ' m1 = .ok y m2 ∧ acc.length < LIM ∧ I (i + 1) (acc ++ [y]) m2))
    (hf : ∀ acc m, I n acc m → src.fin m = true) : ∀ (k i : Nat) (acc : List D) (m : M), i + k = n → I i acc m → ∃ acc' m', lcL src gt ρw t e k i acc m = .ok acc' m' ∧ I n acc' m'
  | 0, i, acc, m, hik, h => by
    have e1 : i = n := by omega
    subst e1
    exact ⟨acc, m, by unfold lcL; rw [if_pos (hf acc m h)], h⟩
  | k + 1, i, acc, m, hik, h => by
    obtain ⟨d, ρ', h1, h2, h3⟩ := hs i acc m (by omega) h
    rw [stepL h1 h2]
    rcases h3 with ⟨m1, ht, hi⟩ | ⟨m1, y, m2, ht, he, hl, hi⟩
    · rw [ht]
      exact lcL_inv I hn hs hf k (i + 1) acc m1 (by omega) hi
    · rw [ht]
      simp only [he, if_pos hl]
      exact lcL_inv I hn hs hf k (i + 1) (acc ++ [y]) m2 (by omega) hi
/-- all of it, the memory as it is -/
theorem lcL_map {src : Src} {gt : GT} {ρw : Sl} {t : FT} {e : FE} {xs : List D} {m : M} (F : D → Option D) (hs : SrcIs src xs m) (hx : ∀ x ∈ xs, ∃ ρ', gt x ρw = some ρ' ∧ ((t ρ' m = .ok false m ∧ F x = none) ∨ ∃ y, t ρ' m = .ok true m ∧ e ρ' m = .ok y m ∧ F x = some y)) :
    ∀ (k i : Nat) (acc : List D), i + k = xs.length → acc.length + k ≤ LIM → lcL src gt ρw t e k i acc m = .ok (acc ++ (xs.drop i).filterMap F) m
  | 0, i, acc, hik, hl => by
    unfold lcL
    rw [if_pos hs.fin, List.drop_eq_nil_of_le (by omega)]
    simp
  | k + 1, i, acc, hik, hl => by
    have hi : i < xs.length := by omega
    obtain ⟨ρ', h2, h3⟩ := hx xs[i] (List.getElem_mem hi)
    rw [stepL (d := xs[i]) (by rw [hs.get i hi]; simp) h2, List.drop_eq_getElem_cons hi, List.filterMap_cons]
    rcases h3 with ⟨ht, hF⟩ | ⟨y, ht, he, hF⟩
    · rw [ht, hF]
      exact lcL_map F hs hx k (i + 1) acc (by omega) (by omega)
    · rw [ht, hF]
      simp only [he, if_pos (show acc.length < LIM by omega)]
      rw [lcL_map F hs hx k (i + 1) (acc ++ [y]) (by omega) (by rw [List.length_append, List.length_singleton]; omega)]
      simp
theorem fLc_map {fi : FI} {gt : GT} {vs : List Nat} {t : FT} {e : FE} {ρ : Sl} {m : M} {src : Src} {xs : List D} (F : D → Option D) (h1 : fi ρ m = .ok src m) (hs : SrcIs src xs m)
    (hx : ∀ x ∈ xs, ∃ ρ', gt x (wipeD ρ vs) = some ρ' ∧ ((t ρ' m = .ok false m ∧ F x = none) ∨ ∃ y, t ρ' m = .ok true m ∧ e ρ' m = .ok y m ∧ F x = some y)) (hl : xs.length ≤ LIM) : fLc fi gt vs t e ρ m = .ok (xs.filterMap F) m := by
  unfold fLc
  rw [h1]
  simp only [bind_ok]
  rw [hs.n, lcL_map F hs hx xs.length 0 [] (by omega) (by simpa using hl)]
  simp
/-- .. of every one -/
theorem fLc_all {fi : FI} {gt : GT} {vs : List Nat} {e : FE} {ρ : Sl} {m : M} {src : Src} {xs : List D} (F : D → D) (h1 : fi ρ m = .ok src m) (hs : SrcIs src xs m)
    (hx : ∀ x ∈ xs, ∃ ρ', gt x (wipeD ρ vs) = some ρ' ∧ e ρ' m = .ok (F x) m) (hl : xs.length ≤ LIM) : fLc fi gt vs fYes e ρ m = .ok (xs.map F) m := by
  rw [fLc_map (fun x => some (F x)) h1 hs (fun x hm => ?_) hl, List.filterMap_eq_map']
  obtain ⟨ρ', a, b⟩ := hx x hm
  exact ⟨ρ', a, .inr ⟨F x, rfl, b, rfl⟩⟩
/-- a loop, each turn told -/
theorem forL_inv {src : Src} {gt : GT} {body : FS} {n : Nat} (I : Nat → Sl → M → Prop) (hn : src.n = n)
    (hs : ∀ i ρ m, i < n → I i ρ m → ∃ d ρ' ρ2 m2, src.get m i = some d ∧ gt d ρ = some ρ' ∧ body ρ' m = .nx ρ2 m2 ∧ I (i + 1) ρ2 m2)
    (hf : ∀ ρ m, I n ρ m → src.fin m = true) : ∀ (k i : Nat) (ρ : Sl) (m : M), i + k = n → I i ρ m → ∃ ρ' m', forL src gt body k i ρ m = .nx ρ' m' ∧ I n ρ' m'
  | 0, i, ρ, m, hik, h => by
    have e1 : i = n := by omega
    subst e1
    exact ⟨ρ, m, by unfold forL; rw [if_pos (hf ρ m h)], h⟩
  | k + 1, i, ρ, m, hik, h => by
    obtain ⟨d, ρ', ρ2, m2, h1, h2, h3, h4⟩ := hs i ρ m (by omega) h
    unfold forL
    rw [h1]
    simp only [h2, h3]
    exact forL_inv I hn hs hf k (i + 1) ρ2 m2 (by omega) h4
end Dl

/-! PL2: more of evaluation: sources, equality, repr, parts of rows. -/
namespace Dl
open PySem PyProof.Rows L2
@[simp] theorem startD_eq (n : Nat) (ds : List D) : startD n ds = ds.map some ++ List.replicate (n - ds.length) none := nrfl rfl
abbrev iD (n : Nat) : D := .int (n : Int)
def tI (l : List Nat) : D := .tup (l.map iD)
def srcK (m : M) (d : D) : Res Src := match srcOf m d with
  | some s => .ok s m
  | none => .bad
@[simp] theorem e_walk (f : FE) (ρ : Sl) (m : M) : fWalk f ρ m = (f ρ m).bind fun d m => srcK m d := nrfl rfl
@[simp] theorem srcK_t (m : M) (xs : List D) : srcK m (.tup xs) = .ok (srcT xs) m := nrfl rfl
theorem srcK_l {m : M} {n : Nat} {xs : List D} (h : m[n]? = some (.lst xs)) : srcK m (.ref n) = .ok (srcL n xs.length) m := by
  simp [srcK, srcOf, h]
noncomputable def rngK (d : D) (m : M) : Res Src := match d with
  | .int n => if okR n then .ok (srcR 0 n.toNat) m else .bad
  | _ => .bad
@[simp] theorem e_rng (f : FE) (ρ : Sl) (m : M) : fRng1 f ρ m = (f ρ m).bind rngK := nrfl rfl
theorem rngK_n {k : Nat} (h : k ≤ LIM) (m : M) : rngK (.int (k : Int)) m = .ok (srcR 0 k) m := by
  have hk : okR (k : Int) = true := by
    have : (LIM : Nat) = 100000 := rfl
    exact okR_iff.mpr (by omega)
  simp [rngK, hk]
def enumK (m : M) (d : D) : Res Src := match srcEOf m d with
  | some s => .ok s m
  | none => .bad
@[simp] theorem e_enum (f : FE) (ρ : Sl) (m : M) : fEnum f ρ m = (f ρ m).bind fun d m => enumK m d := nrfl rfl
@[simp] theorem enumK_t (m : M) (xs : List D) : enumK m (.tup xs) = .ok (srcTE xs) m := nrfl rfl
theorem enumK_l {m : M} {n : Nat} {xs : List D} (h : m[n]? = some (.lst xs)) : enumK m (.ref n) = .ok (srcLE n xs.length) m := by
  simp [enumK, srcEOf, h]
def zipK (m : M) (d e : D) : Res Src := match d, e with
  | .tup ds, .tup es => .ok (srcZ ds es) m
  | _, _ => .bad
@[simp] theorem e_zip (f g : FE) (ρ : Sl) (m : M) : fZipT f g ρ m = (f ρ m).bind fun d m => (g ρ m).bind fun e m => zipK m d e := nrfl rfl
@[simp] theorem zipK_t (m : M) (xs ys : List D) : zipK m (.tup xs) (.tup ys) = .ok (srcZ xs ys) m := nrfl rfl
theorem isLE {n k : Nat} {xs : List D} {m : M} (h : m[n]? = some (.lst xs)) (hk : k = xs.length) : SrcIs (srcLE n k) (xs.zipIdx.map fun p => .tup [.int (p.2 : Nat), p.1]) m := by
  subst hk
  refine ⟨by simp [srcLE], fun i hi => ?_, ?_⟩
  · have hi' : i < xs.length := by simpa using hi
    simp [srcLE, h, pairI, hi']
  · simp [srcLE, h]
theorem allL_ok {ds : List D} (h : ∀ d ∈ ds, d = .bl true) (m : M) : gAllL ds m = .ok (.bl true) m := by
  have e : ∃ bs, blsD ds = some bs ∧ bs.all id = true := by
    induction ds with
    | nil => exact ⟨[], rfl, rfl⟩
    | cons d r ih =>
      obtain ⟨bs, h1, h2⟩ := ih fun x hx => h x (List.mem_cons_of_mem _ hx)
      have hd := h d List.mem_cons_self
      subst hd
      exact ⟨true :: bs, by simp [blsD, h1], by simpa using h2⟩
  obtain ⟨bs, h1, h2⟩ := e
  unfold gAllL
  rw [h1]
  simp only [h2]

/-! ### indexing -/
def getK (o : Option D) (m : M) : Res D := match o with
  | some d => .ok d m
  | none => .bad
@[simp] theorem getK_some (d : D) (m : M) : getK (some d) m = .ok d m := nrfl rfl
@[simp] theorem e_ixT (xs : List D) (i : Int) (m : M) : gIx (.tup xs) (.int i) m = getK (atI xs i) m := nrfl rfl
@[simp] theorem e_ixR (xs : List D) (i : Int) (m : M) : gIx (.rol xs) (.int i) m = getK (atI xs i) m := nrfl rfl
theorem e_ixL {n : Nat} {xs : List D} {m : M} (i : Int) (h : m[n]? = some (.lst xs)) : gIx (.ref n) (.int i) m = getK (atI xs i) m := by
  have e : gIx (.ref n) (.int i) m = gIxS (.ref n) (.int i) m := by
    show (match m[n]? with
      | some (.dct t kvs) => if keyOk t (.int i) then (match valD kvs (.int i) with
        | some d => Res.ok d m
        | none => .bad) else .bad
      | _ => gIxS (.ref n) (.int i) m) = _
    rw [h]
  rw [e]
  show (match m[n]? with
      | some (.lst xs) => match atI xs i with
        | some d => Res.ok d m
        | none => .bad
      | _ => .bad) = _
  rw [h]
  rfl
@[simp] theorem at0 {α : Type} (x : α) (r : List α) : atI (x :: r) 0 = some x := by
  unfold atI ixN
  rw [if_pos (by omega), if_pos (by rw [List.length_cons]; omega)]
  rfl
@[simp] theorem at1 {α : Type} (x y : α) (r : List α) : atI (x :: y :: r) 1 = some y := by
  unfold atI ixN
  rw [if_pos (by omega), if_pos (by rw [List.length_cons, List.length_cons]; omega)]
  rfl
theorem at_nat {α : Type} {xs : List α} {k : Nat} {x : α} (h : xs[k]? = some x) : atI xs (k : Int) = some x := by
  have hk := (List.getElem?_eq_some_iff.mp h).1
  unfold atI ixN
  rw [if_pos (by omega), if_pos (by omega)]
  simpa using h

/-! ### equality -/
mutual
/-- whole numbers and rows of such -/
def D.num : D → Bool
  | .int _ => true
  | .tup ds => D.nums ds
  | _ => false
def D.nums : List D → Bool
  | [] => true
  | d :: r => D.num d && D.nums r
end
mutual
def D.dep : D → Nat
  | .tup ds => D.deps ds + 1
  | _ => 0
def D.deps : List D → Nat
  | [] => 0
  | d :: r => max (D.dep d) (D.deps r)
end
mutual
theorem toP_num (r : Nat → Option PyData) : ∀ {d : D}, d.num = true → ∃ p, d.toP r = some p ∧ p.plain = true ∧ p.depth ≤ d.dep
  | .int i, _ => ⟨.int i, rfl, rfl, Nat.le_refl _⟩
  | .tup ds, h => by
    obtain ⟨ps, h1, h2, h3⟩ := toPs_num r (ds := ds) (by simpa only [D.num] using h)
    exact ⟨.tuple ps, by simp only [D.toP, h1, Option.map_some], by simpa only [PyData.plain] using h2, by simp only [PyData.depth, D.dep]; omega⟩
  | .non, h => by simp [D.num] at h
  | .bl _, h => by simp [D.num] at h
  | .str _, h => by simp [D.num] at h
  | .rol _, h => by simp [D.num] at h
  | .ref _, h => by simp [D.num] at h
  | .ty _, h => by simp [D.num] at h
theorem toPs_num (r : Nat → Option PyData) : ∀ {ds : List D}, D.nums ds = true → ∃ ps, D.toPs r ds = some ps ∧ PyData.plainAll ps = true ∧ PyData.depthAll ps ≤ D.deps ds
  | [], _ => ⟨[], rfl, rfl, Nat.le_refl _⟩
  | d :: t, h => by
    simp only [D.nums, Bool.and_eq_true] at h
    obtain ⟨p, a1, a2, a3⟩ := toP_num r (d := d) h.1
    obtain ⟨ps, b1, b2, b3⟩ := toPs_num r (ds := t) h.2
    refine ⟨p :: ps, by simp only [D.toPs, a1, b1], by simp only [PyData.plainAll, a2, b2, Bool.and_self], ?_⟩
    simp only [PyData.depthAll, D.deps]
    omega
end
mutual
theorem eqv_num {r : Nat → Option PyData} : ∀ {a b : D} {p q : PyData}, a.num = true → b.num = true → a.toP r = some p → b.toP r = some q → PyData.eqv p q = D.beq a b
  | .int i, .int j, p, q, _, _, hp, hq => by simp only [D.toP] at hp hq; cases hp; cases hq; simp only [PyData.eqv, D.beq]; by_cases e : i = j <;> simp [e]
  | .int i, .tup es, p, q, _, hb, hp, hq => by
    simp only [D.toP] at hp hq
    cases hp
    cases h : D.toPs r es with
    | none => rw [h] at hq; cases hq
    | some ps => rw [h] at hq; cases hq; simp [PyData.eqv, D.beq]
  | .tup es, .int i, p, q, _, hb, hp, hq => by
    simp only [D.toP] at hp hq
    cases hq
    cases h : D.toPs r es with
    | none => rw [h] at hp; cases hp
    | some ps => rw [h] at hp; cases hp; simp [PyData.eqv, D.beq]
  | .tup ds, .tup es, p, q, ha, hb, hp, hq => by
    simp only [D.toP] at hp hq
    cases h : D.toPs r ds with
    | none => rw [h] at hp; cases hp
    | some ps =>
      rw [h] at hp
      cases h' : D.toPs r es with
      | none => rw [h'] at hq; cases hq
      | some qs =>
        rw [h'] at hq
        cases hp
        cases hq
        simp only [PyData.eqv, D.beq]
        exact eqvs_num (by simpa only [D.num] using ha) (by simpa only [D.num] using hb) h h'
  | .non, _, _, _, h, _, _, _ => by simp [D.num] at h
  | .bl _, _, _, _, h, _, _, _ => by simp [D.num] at h
  | .str _, _, _, _, h, _, _, _ => by simp [D.num] at h
  | .rol _, _, _, _, h, _, _, _ => by simp [D.num] at h
  | .ref _, _, _, _, h, _, _, _ => by simp [D.num] at h
  | .ty _, _, _, _, h, _, _, _ => by simp [D.num] at h
  | .int _, .non, _, _, _, h, _, _ => by simp [D.num] at h
  | .int _, .bl _, _, _, _, h, _, _ => by simp [D.num] at h
  | .int _, .str _, _, _, _, h, _, _ => by simp [D.num] at h
  | .int _, .rol _, _, _, _, h, _, _ => by simp [D.num] at h
  | .int _, .ref _, _, _, _, h, _, _ => by simp [D.num] at h
  | .int _, .ty _, _, _, _, h, _, _ => by simp [D.num] at h
  | .tup _, .non, _, _, _, h, _, _ => by simp [D.num] at h
  | .tup _, .bl _, _, _, _, h, _, _ => by simp [D.num] at h
  | .tup _, .str _, _, _, _, h, _, _ => by simp [D.num] at h
  | .tup _, .rol _, _, _, _, h, _, _ => by simp [D.num] at h
  | .tup _, .ref _, _, _, _, h, _, _ => by simp [D.num] at h
  | .tup _, .ty _, _, _, _, h, _, _ => by simp [D.num] at h
theorem eqvs_num {r : Nat → Option PyData} : ∀ {a b : List D} {p q : List PyData}, D.nums a = true → D.nums b = true → D.toPs r a = some p → D.toPs r b = some q → PyData.eqvAll p q = D.beqs a b
  | [], [], _, _, _, _, hp, hq => by simp only [D.toPs] at hp hq; cases hp; cases hq; rfl
  | a :: s, [], p, q, ha, _, hp, hq => by
    simp only [D.toPs] at hp hq
    cases hq
    split at hp
    · cases hp; rfl
    · cases hp
  | [], b :: t, p, q, _, hb, hp, hq => by
    simp only [D.toPs] at hp hq
    cases hp
    split at hq
    · cases hq; rfl
    · cases hq
  | a :: s, b :: t, p, q, ha, hb, hp, hq => by
    simp only [D.nums, Bool.and_eq_true] at ha hb
    simp only [D.toPs] at hp hq
    split at hp
    · rename_i p1 ps h1 h2
      cases hp
      split at hq
      · rename_i q1 qs h3 h4
        cases hq
        simp only [PyData.eqvAll, D.beqs, eqv_num ha.1 hb.1 h1 h3, eqvs_num ha.2 hb.2 h2 h4]
      · cases hq
    · cases hp
end
theorem beq_dec (a b : D) : D.beq a b = decide (a = b) := by
  by_cases h : a = b
  · rw [h, D.beq_refl]; simp
  · rw [decide_eq_false h]
    cases e : D.beq a b with
    | false => rfl
    | true => exact absurd (D.beq_eq e) h
theorem shaped_num {p : PyData} {d : D} (h1 : p.plain = true) (h2 : p.depth ≤ d.dep) (h3 : d.dep ≤ 64) : flatP p = true := by
  unfold flatP
  rw [h1, Bool.true_and]
  exact decide_eq_true (by omega)
theorem pdM_r (m : M) : ∃ r, ∀ d, pdM DEEP m d = d.toP r := ⟨_, fun _ => rfl⟩
theorem gEq_num {a b : D} (ha : a.num = true) (hb : b.num = true) (da : a.dep ≤ 64) (db : b.dep ≤ 64) (m : M) : gEq a b m = .ok (.bl (decide (a = b))) m := by
  unfold gEq
  obtain ⟨r, hr⟩ := pdM_r m
  rw [hr, hr]
  obtain ⟨p, h1, h2, h3⟩ := toP_num r ha
  obtain ⟨q, g1, g2, g3⟩ := toP_num r hb
  simp only [h1, g1, shaped_num h2 h3 da, shaped_num g2 g3 db, Bool.and_self, if_true, eqv_num ha hb h1 g1, beq_dec]
theorem gNe_num {a b : D} (ha : a.num = true) (hb : b.num = true) (da : a.dep ≤ 64) (db : b.dep ≤ 64) (m : M) : gNe a b m = .ok (.bl (!decide (a = b))) m := by
  unfold gNe
  obtain ⟨r, hr⟩ := pdM_r m
  rw [hr, hr]
  obtain ⟨p, h1, h2, h3⟩ := toP_num r ha
  obtain ⟨q, g1, g2, g3⟩ := toP_num r hb
  simp only [h1, g1, shaped_num h2 h3 da, shaped_num g2 g3 db, Bool.and_self, if_true, eqv_num ha hb h1 g1, beq_dec]
@[simp] theorem gEq_int (i j : Int) (m : M) : gEq (.int i) (.int j) m = .ok (.bl (decide (i = j))) m := by
  rw [gEq_num rfl rfl (Nat.zero_le _) (Nat.zero_le _)]
  simp
@[simp] theorem gNe_int (i j : Int) (m : M) : gNe (.int i) (.int j) m = .ok (.bl (!decide (i = j))) m := by
  rw [gNe_num rfl rfl (Nat.zero_le _) (Nat.zero_le _)]
  simp
theorem nums_iff {ds : List D} : D.nums ds = true ↔ ∀ d ∈ ds, d.num = true := by
  induction ds with
  | nil => simp [D.nums]
  | cons d r ih => simp [D.nums, ih]
theorem deps_le {ds : List D} {k : Nat} (h : ∀ d ∈ ds, d.dep ≤ k) : D.deps ds ≤ k := by
  induction ds with
  | nil => exact Nat.zero_le _
  | cons d r ih =>
    simp only [D.deps]
    have := h d List.mem_cons_self
    have := ih fun x hx => h x (List.mem_cons_of_mem _ hx)
    omega
mutual
theorem num_pure : ∀ {d : D}, d.num = true → d.pure = true
  | .int _, _ => rfl
  | .tup ds, h => by
    simp only [D.num] at h
    simp only [D.pure]
    exact nums_pure h
  | .non, h => by simp [D.num] at h
  | .bl _, h => by simp [D.num] at h
  | .str _, h => by simp [D.num] at h
  | .rol _, h => by simp [D.num] at h
  | .ref _, h => by simp [D.num] at h
  | .ty _, h => by simp [D.num] at h
theorem nums_pure : ∀ {ds : List D}, D.nums ds = true → D.pures ds = true
  | [], _ => rfl
  | d :: r, h => by
    simp only [D.nums, Bool.and_eq_true] at h
    simp only [D.pures, Bool.and_eq_true]
    exact ⟨num_pure h.1, nums_pure h.2⟩
end
theorem num_blw {d : D} (h : d.num = true) (L : Nat) : d.blw L = true := D.blw_of_pure (num_pure h)

/-! ### repr of such -/
mutual
def D.small : D → Bool
  | .int i => decide (i.natAbs < 10 ^ 18)
  | .tup ds => D.smalls ds
  | _ => false
def D.smalls : List D → Bool
  | [] => true
  | d :: r => D.small d && D.smalls r
end
mutual
def D.wt : D → Nat
  | .tup ds => D.wts ds + 3
  | _ => 20
def D.wts : List D → Nat
  | [] => 0
  | d :: r => D.wt d + 2 + D.wts r
end
mutual
theorem toP_ind (r r' : Nat → Option PyData) : ∀ {d : D}, d.small = true → d.toP r = d.toP r'
  | .int _, _ => rfl
  | .tup ds, h => by simp only [D.small] at h; simp only [D.toP, toPs_ind r r' h]
  | .non, h => by simp [D.small] at h
  | .bl _, h => by simp [D.small] at h
  | .str _, h => by simp [D.small] at h
  | .rol _, h => by simp [D.small] at h
  | .ref _, h => by simp [D.small] at h
  | .ty _, h => by simp [D.small] at h
theorem toPs_ind (r r' : Nat → Option PyData) : ∀ {ds : List D}, D.smalls ds = true → D.toPs r ds = D.toPs r' ds
  | [], _ => rfl
  | d :: t, h => by
    simp only [D.smalls, Bool.and_eq_true] at h
    simp only [D.toPs, toP_ind r r' h.1, toPs_ind r r' h.2]
end
theorem tup_len (ts : List Str) : (tupleText ts).length ≤ piled ts + 3 := by
  unfold tupleText
  rw [strLen_append, strLen_append]
  have e1 : ((("(" : String) : Str)).length = 1 := rfl
  have e3 : (((if ts.length == 1 then ",)" else ")" : String) : Str)).length ≤ 2 := by split <;> decide
  by_cases h : ts = []
  · subst h
    have e4 : (Str.join ", " ([] : List Str)).length = 0 := rfl
    omega
  · have := join_length_add ts h
    omega
mutual
theorem shown_small (r : Nat → Option PyData) : ∀ {d : D}, d.small = true → ∃ p, d.toP r = some p ∧ p.shown.length ≤ d.wt ∧ p.showable = true ∧ p.hasDict = false ∧ p.depth ≤ d.dep
  | .int i, h => by
    have hi : i.natAbs < 10 ^ 18 := of_decide_eq_true (by simpa only [D.small] using h)
    refine ⟨.int i, rfl, ?_, ?_, rfl, Nat.le_refl _⟩
    · have := int_text_length_le10 (a := i) (k := 18) (by decide) hi
      show (Str.ofString (toString i)).length ≤ 20
      rw [PySem.ofString_length]
      omega
    · show decide (i.natAbs.log2 < 1920) = true
      refine decide_eq_true ?_
      by_cases h0 : i.natAbs = 0
      · rw [h0]; decide
      · exact (Nat.log2_lt h0).mpr (Nat.lt_of_lt_of_le hi (by
          have : (10 : Nat) ^ 18 ≤ 2 ^ 60 := by decide
          exact Nat.le_trans this (Nat.pow_le_pow_right (by decide) (by decide))))
  | .tup ds, h => by
    obtain ⟨ps, h1, h2, h3, h4, h5⟩ := showns_small r (ds := ds) (by simpa only [D.small] using h)
    refine ⟨.tuple ps, by simp only [D.toP, h1, Option.map_some], ?_, by simpa only [PyData.showable] using h3, by simpa only [PyData.hasDict] using h4, by simp only [PyData.depth, D.dep]; omega⟩
    show (tupleText (PyData.shownAll ps)).length ≤ D.wts ds + 3
    have := tup_len (PyData.shownAll ps)
    omega
  | .non, h => by simp [D.small] at h
  | .bl _, h => by simp [D.small] at h
  | .str _, h => by simp [D.small] at h
  | .rol _, h => by simp [D.small] at h
  | .ref _, h => by simp [D.small] at h
  | .ty _, h => by simp [D.small] at h
theorem showns_small (r : Nat → Option PyData) : ∀ {ds : List D}, D.smalls ds = true → ∃ ps, D.toPs r ds = some ps ∧ piled (PyData.shownAll ps) ≤ D.wts ds ∧ PyData.showableAll ps = true ∧ PyData.hasDictAll ps = false ∧ PyData.depthAll ps ≤ D.deps ds
  | [], _ => ⟨[], rfl, Nat.le_refl _, rfl, rfl, Nat.le_refl _⟩
  | d :: t, h => by
    simp only [D.smalls, Bool.and_eq_true] at h
    obtain ⟨p, a1, a2, a3, a4, a5⟩ := shown_small r (d := d) h.1
    obtain ⟨ps, b1, b2, b3, b4, b5⟩ := showns_small r (ds := t) h.2
    refine ⟨p :: ps, by simp only [D.toPs, a1, b1], ?_, by simp only [PyData.showableAll, a3, b3, Bool.and_self], by simp only [PyData.hasDictAll, a4, b4, Bool.or_self], ?_⟩
    · show piled (p.shown :: PyData.shownAll ps) ≤ D.wt d + 2 + D.wts t
      rw [piled_cons]
      omega
    · simp only [PyData.depthAll, D.deps]
      omega
end
/-- its text -/
def rpr (d : D) : Str := match d.toP (fun _ => none) with
  | some p => p.shown
  | none => match d with
    | .bl true => "True"
    | .bl false => "False"
    | _ => ""
theorem gRepr_small {d : D} (h : d.small = true) (hw : d.wt ≤ 1000000) (hd : d.dep ≤ 60) (m : M) : gRepr [d] m = .ok (.str (rpr d)) m := by
  unfold gRepr
  obtain ⟨r, hr⟩ := pdM_r m
  obtain ⟨p, h1, h2, h3, h4, h5⟩ := shown_small r h
  have e : rpr d = p.shown := by
    unfold rpr
    rw [toP_ind (fun _ => none) r h, h1]
  simp only [hr, h1, h3, h4, e]
  rw [if_pos]
  simp only [Bool.not_false, Bool.and_self, Bool.true_and, Bool.and_eq_true, decide_eq_true_eq]
  refine ⟨by omega, ?_⟩
  rw [sizeLine_eq]
  omega
theorem gRepr_bl (b : Bool) (m : M) : gRepr [.bl b] m = .ok (.str (rpr (.bl b))) m := by
  unfold gRepr
  obtain ⟨r, hr⟩ := pdM_r m
  cases b
  · simp only [hr, D.toP]
    rfl
  · simp only [hr, D.toP]
    rfl
theorem eqv_str (x : Str) : PyData.eqv (.str x) (.str x) = true := by simp [PyData.eqv]
theorem gNe_str (x : Str) (m : M) : gNe (.str x) (.str x) m = .ok (.bl false) m := by
  unfold gNe
  obtain ⟨r, hr⟩ := pdM_r m
  simp only [hr, D.toP, eqv_str]
  rfl
end Dl

/-! PL3: comprehensions of two clauses; all vectors; places. -/
namespace Dl
open PySem PyProof.Rows L2
theorem lc2L_map {src : Src} {gt : GT} {ρw : Sl} {fj : FI} {gu : GT} {us : List Nat} {e : FE} {xs : List D} {m : M} (F : D → List D) (hs : SrcIs src xs m)
    (hx : ∀ x ∈ xs, ∃ ρ' sj ys, gt x ρw = some ρ' ∧ fj ρ' m = .ok sj m ∧ SrcIs sj ys m ∧ ∃ G : D → D, (∀ y ∈ ys, ∃ ρ'', gu y (wipeD ρ' us) = some ρ'' ∧ e ρ'' m = .ok (G y) m) ∧ F x = ys.map G) :
    ∀ (k i : Nat) (acc : List D), i + k = xs.length → acc.length + ((xs.drop i).flatMap F).length ≤ LIM → lc2L src gt ρw fYes fj gu us fYes e k i acc m = .ok (acc ++ (xs.drop i).flatMap F) m
  | 0, i, acc, hik, hl => by
    unfold lc2L
    rw [if_pos hs.fin, List.drop_eq_nil_of_le (by omega)]
    simp
  | k + 1, i, acc, hik, hl => by
    have hi : i < xs.length := by omega
    obtain ⟨ρ', sj, ys, h1, h2, h3, G, h4, h5⟩ := hx xs[i] (List.getElem_mem hi)
    rw [List.drop_eq_getElem_cons hi, List.flatMap_cons, List.length_append] at hl
    rw [List.drop_eq_getElem_cons hi, List.flatMap_cons]
    have hlen : (F xs[i]).length = ys.length := by rw [h5, List.length_map]
    unfold lc2L
    rw [show src.get m i = some xs[i] by rw [hs.get i hi]; simp]
    simp only [h1, e_yes, h2]
    rw [h3.n, lcL_map (fun y => some (G y)) h3 (fun y hy => ?_) ys.length 0 acc (by omega) (by omega), List.filterMap_eq_map', List.drop_zero, ← h5]
    · simp only
      rw [lc2L_map F hs hx k (i + 1) (acc ++ F xs[i]) (by omega) (by rw [List.length_append]; omega), List.append_assoc]
    · obtain ⟨ρ'', a, b⟩ := h4 y hy
      exact ⟨ρ'', a, .inr ⟨G y, rfl, b, rfl⟩⟩
theorem fLc2_all {fi : FI} {gt : GT} {vs : List Nat} {fj : FI} {gu : GT} {us : List Nat} {e : FE} {ρ : Sl} {m : M} {src : Src} {xs : List D} (F : D → List D) (h1 : fi ρ m = .ok src m) (hs : SrcIs src xs m)
    (hx : ∀ x ∈ xs, ∃ ρ' sj ys, gt x (wipeD ρ vs) = some ρ' ∧ fj ρ' m = .ok sj m ∧ SrcIs sj ys m ∧ ∃ G : D → D, (∀ y ∈ ys, ∃ ρ'', gu y (wipeD ρ' us) = some ρ'' ∧ e ρ'' m = .ok (G y) m) ∧ F x = ys.map G)
    (hl : (xs.flatMap F).length ≤ LIM) : fLc2 fi gt vs fYes fj gu us fYes e ρ m = .ok (xs.flatMap F) m := by
  unfold fLc2
  rw [h1]
  simp only [bind_ok]
  rw [hs.n, lc2L_map F hs hx xs.length 0 [] (by omega) (by simpa using hl)]
  simp

theorem revInd {α : Type} {P : List α → Prop} (h0 : P []) (h1 : ∀ l a, P l → P (l ++ [a])) (l : List α) : P l := by
  have h : ∀ l : List α, P l.reverse := by
    intro l
    induction l with
    | nil => exact h0
    | cons a r ih => rw [List.reverse_cons]; exact h1 _ _ ih
  have := h l.reverse
  rwa [List.reverse_reverse] at this
/-! ### vectors -/
def stepV (acc : List (List Nat)) (n : Nat) : List (List Nat) := acc.flatMap fun v => (List.range (n + 1)).map fun k => v ++ [k]
def vecs (cs : List Nat) : List (List Nat) := cs.foldl stepV [[]]
def prd (cs : List Nat) : Nat := (cs.map (· + 1)).prod
theorem vecs_snoc (cs : List Nat) (n : Nat) : vecs (cs ++ [n]) = stepV (vecs cs) n := by
  unfold vecs
  rw [List.foldl_append]
  rfl
theorem stepV_len (acc : List (List Nat)) (n : Nat) : (stepV acc n).length = acc.length * (n + 1) := by
  unfold stepV
  induction acc with
  | nil => simp
  | cons a r ih => rw [List.flatMap_cons, List.length_append, ih, List.length_map, List.length_range, List.length_cons, Nat.succ_mul]; omega
theorem prd_snoc (cs : List Nat) (n : Nat) : prd (cs ++ [n]) = prd cs * (n + 1) := by
  unfold prd
  rw [List.map_append, List.prod_append]
  simp
theorem vecs_len (cs : List Nat) : (vecs cs).length = prd cs := by
  induction cs using revInd with
  | h0 => rfl
  | h1 cs n ih => rw [vecs_snoc, stepV_len, prd_snoc, ih]
theorem prd_pos (cs : List Nat) : 1 ≤ prd cs := by
  induction cs with
  | nil => exact Nat.le_refl _
  | cons n r ih =>
    unfold prd at ih ⊢
    rw [List.map_cons, List.prod_cons]
    exact Nat.le_trans ih (Nat.le_mul_of_pos_left _ (by omega))
theorem prd_app (as bs : List Nat) : prd (as ++ bs) = prd as * prd bs := by
  unfold prd
  rw [List.map_append, List.prod_append]
theorem prd_take (cs : List Nat) (i : Nat) : prd (cs.take i) ≤ prd cs := by
  have h : prd cs = prd (cs.take i) * prd (cs.drop i) := by rw [← prd_app, List.take_append_drop]
  rw [h]
  exact Nat.le_mul_of_pos_right _ (prd_pos _)
/-- v within cs -/
def Within (cs v : List Nat) : Prop := v.length = cs.length ∧ ∀ (i : Nat) (n k : Nat), cs[i]? = some n → v[i]? = some k → k ≤ n
theorem mem_vecs {cs v : List Nat} : v ∈ vecs cs ↔ Within cs v := by
  induction cs using revInd generalizing v with
  | h0 =>
    simp only [vecs, List.foldl_nil, List.mem_singleton, Within]
    constructor
    · rintro rfl
      exact ⟨rfl, fun i n k h => by simp at h⟩
    · rintro ⟨h, _⟩
      exact List.eq_nil_of_length_eq_zero h
  | h1 cs n ih =>
    rw [vecs_snoc]
    unfold stepV
    simp only [List.mem_flatMap, List.mem_map, List.mem_range]
    constructor
    · rintro ⟨u, hu, k, hk, rfl⟩
      obtain ⟨h1, h2⟩ := ih.mp hu
      refine ⟨by simp [h1], fun i a b ha hb => ?_⟩
      by_cases hi : i < cs.length
      · rw [List.getElem?_append_left hi] at ha
        rw [List.getElem?_append_left (by omega)] at hb
        exact h2 i a b ha hb
      · rw [List.getElem?_append_right (by omega)] at ha
        rw [List.getElem?_append_right (by omega)] at hb
        rw [h1] at hb
        cases hj : i - cs.length with
        | zero => rw [hj] at ha hb; simp at ha hb; omega
        | succ j => rw [hj] at ha; simp at ha
    · rintro ⟨h1, h2⟩
      rw [List.length_append, List.length_singleton] at h1
      have hv : v = v.take cs.length ++ [v[cs.length]'(by omega)] := by
        rw [List.take_append_getElem]
        rw [← h1, List.take_length]
      refine ⟨v.take cs.length, ih.mpr ⟨by simp; omega, fun i a b ha hb => ?_⟩, v[cs.length]'(by omega), ?_, hv.symm⟩
      · have hi : i < cs.length := (List.getElem?_eq_some_iff.mp ha).1
        rw [List.getElem?_take_of_lt hi] at hb
        exact h2 i a b (by rw [List.getElem?_append_left hi]; exact ha) hb
      · have := h2 cs.length n (v[cs.length]'(by omega)) (by simp) (by simp)
        omega
/-- the place of v among them -/
def plc (cs v : List Nat) : Nat := (v.zip cs).foldl (fun a p => a * (p.2 + 1) + p.1) 0
theorem stepV_at {acc : List (List Nat)} {n i k : Nat} {v : List Nat} (hv : acc[i]? = some v) (hk : k ≤ n) : (stepV acc n)[i * (n + 1) + k]? = some (v ++ [k]) := by
  induction acc generalizing i with
  | nil => simp at hv
  | cons a r ih =>
    unfold stepV
    rw [List.flatMap_cons]
    have hl : ((List.range (n + 1)).map fun k => a ++ [k]).length = n + 1 := by simp
    cases i with
    | zero =>
      simp at hv
      subst hv
      have hkl : k < ((List.range (n + 1)).map fun k => a ++ [k]).length := by rw [hl]; omega
      rw [Nat.zero_mul, Nat.zero_add, List.getElem?_append_left hkl, List.getElem?_map, List.getElem?_range (by omega)]
      rfl
    | succ i =>
      rw [List.getElem?_append_right (by rw [hl, Nat.succ_mul]; omega), hl, show (i + 1) * (n + 1) + k - (n + 1) = i * (n + 1) + k by rw [Nat.succ_mul]; omega]
      exact ih (by simpa using hv)
theorem plc_snoc {cs v : List Nat} {n k : Nat} (h : v.length = cs.length) : plc (cs ++ [n]) (v ++ [k]) = plc cs v * (n + 1) + k := by
  unfold plc
  rw [List.zip_append h, List.foldl_append]
  rfl
theorem vecs_at {cs v : List Nat} (h : Within cs v) : (vecs cs)[plc cs v]? = some v := by
  induction cs using revInd generalizing v with
  | h0 =>
    have : v = [] := List.eq_nil_of_length_eq_zero h.1
    subst this
    rfl
  | h1 cs n ih =>
    have hm := mem_vecs.mpr h
    rw [vecs_snoc] at hm
    unfold stepV at hm
    simp only [List.mem_flatMap, List.mem_map, List.mem_range] at hm
    obtain ⟨u, hu, k, hk, rfl⟩ := hm
    have hw := mem_vecs.mp hu
    rw [vecs_snoc, plc_snoc hw.1]
    exact stepV_at (ih hw) (by omega)
end Dl

/-! PL4: methods, parts of rows, plain. -/
namespace Dl
open PySem PyProof.Rows L2
theorem LIM_eq : LIM = 100000 := rfl
theorem meth_ok {g : MF} {fo : FE} {fa : FA} {ρ : Sl} {m m1 m2 : M} {n : Nat} {xs0 xs as ys : List D} {d : D} (h1 : fo ρ m = .ok (.ref n) m1) (h2 : m1[n]? = some (.lst xs0)) (h3 : fa ρ m1 = .ok as m2) (h4 : m2[n]? = some (.lst xs)) (h5 : g m2 xs as = some (d, ys)) :
    fMeth g fo fa ρ m = .ok d (m2.set n (.lst ys)) := by
  unfold fMeth
  rw [h1]
  simp only [bind_ok, h2, h3, h4, h5]
theorem append_ok {m : M} {xs : List D} {y : D} (h : xs.length < LIM) : mAppend m xs [y] = some (.non, xs ++ [y]) := if_pos h
theorem cut_take {xs : List D} {k : Nat} (h : k ≤ xs.length) : cutD xs none (some (k : Int)) = xs.take k := by
  unfold cutD
  have e1 : HT.sIx xs.length 0 none = 0 := rfl
  have e2 : HT.sIx xs.length xs.length (some (k : Int)) = k := by rw [HT.sIx_nat]; omega
  rw [e1, e2]
  simp
theorem cut_drop {xs : List D} {k : Nat} (h : k ≤ xs.length) : cutD xs (some (k : Int)) none = xs.drop k := by
  unfold cutD
  have e1 : HT.sIx xs.length 0 (some (k : Int)) = k := by rw [HT.sIx_nat]; omega
  have e2 : HT.sIx xs.length xs.length none = xs.length := rfl
  rw [e1, e2]
  rw [List.take_of_length_le (by rw [List.length_drop]; omega)]
theorem set_parts {α : Type} {l : List α} {k : Nat} (h : k < l.length) (x : α) : l.set k x = l.take k ++ [x] ++ l.drop (k + 1) := by
  rw [List.set_eq_take_append_cons_drop, if_pos h]
  simp
theorem tI_take (l : List Nat) (k : Nat) : (l.map iD).take k = (l.take k).map iD := by rw [List.map_take]
/-- an entry that stands -/
theorem tI_at {l : List Nat} {k x : Nat} (h : l[k]? = some x) (m : M) : gIx (tI l) (.int (k : Int)) m = .ok (iD x) m := by
  show getK (atI (l.map iD) (k : Int)) m = _
  rw [at_nat (x := iD x) (by simp [h])]
  rfl
theorem tup_at {l : List D} {k : Nat} {x : D} (h : l[k]? = some x) (m : M) : gIx (.tup l) (.int (k : Int)) m = .ok x m := by
  show getK (atI l (k : Int)) m = _
  rw [at_nat h]
  rfl
theorem aug_ok {i : Nat} {f : FE} {g : D → D → M → Res D} {ρ : Sl} {m m1 m2 : M} {x y z : D} (h : ρ[i]? = some (some x)) (h1 : f ρ m = .ok y m1) (h2 : g x y m1 = .ok z m2) : sAug i f g ρ m = .nx (ρ.set i (some z)) m2 := by
  unfold sAug
  rw [h]
  simp only [h1, out_ok, h2]
theorem sub_ok {f fo fi : FE} {ρ : Sl} {m m1 m2 m3 : M} {d : D} {n j : Nat} {k : Int} {xs : List D} (h1 : f ρ m = .ok d m1) (h2 : fo ρ m1 = .ok (.ref n) m2) (h3 : fi ρ m2 = .ok (.int k) m3) (h4 : m3[n]? = some (.lst xs)) (h5 : ixN xs.length k = some j) :
    sSub f fo fi ρ m = .nx ρ (m3.set n (.lst (xs.set j d))) := by
  unfold sSub
  simp only [h1, out_ok, h2, h3, h4, h5]
theorem ixN_nat {n k : Nat} (h : k < n) : ixN n (k : Int) = some k := by
  unfold ixN
  rw [if_pos (by omega), if_pos (by omega)]
  simp
theorem set_snoc (m : M) (o o' : O) : (m ++ [o]).set m.length o' = m ++ [o'] := by
  simp [List.set_append]
theorem at_snoc (m : M) (o : O) : (m ++ [o])[m.length]? = some o := by simp
end Dl

/-! PL5: tables of histories, plain. -/
namespace Dl
open PySem PyProof.Rows L2
abbrev Hist := List (Nat × Nat)
def num1 (h : Hist) (j : Nat) : Nat := (h.filter fun p => p.1 == j).length
def cnt (hs : Nat) (h : Hist) : List Nat := (List.range hs).map (num1 h)
def bmp (cs : List Nat) (j : Nat) : List Nat := cs.set j (cs.getD j 0 + 1)
def drp (cs : List Nat) (j : Nat) : List Nat := cs.set j (cs.getD j 0 - 1)
def stp (maps : List (List Nat)) (s : Nat × List Nat) (p : Nat × Nat) : Nat × List Nat := if 0 < s.2.getD p.1 0 then ((maps.getD p.2 []).getD s.1 0, s.2.set p.1 (s.2.getD p.1 0 - 1)) else s
def stF (maps : List (List Nat)) (s : Nat × List Nat) (h : Hist) : Nat × List Nat := h.foldl (stp maps) s
def brd (maps : List (List Nat)) (start : Nat) (h : Hist) (v : List Nat) : Nat := (stF maps (start, v) h).1
theorem cnt_len (hs : Nat) (h : Hist) : (cnt hs h).length = hs := by simp [cnt]
theorem cnt_at {hs j : Nat} (h : Hist) (hj : j < hs) : (cnt hs h)[j]? = some (num1 h j) := by simp [cnt, hj]
theorem num1_nil (j : Nat) : num1 [] j = 0 := rfl
theorem num1_cons (p : Nat × Nat) (h : Hist) (j : Nat) : num1 (p :: h) j = (if p.1 = j then 1 else 0) + num1 h j := by
  unfold num1
  by_cases e : p.1 = j
  · simp [e]; omega
  · simp [e]
theorem num1_app (a b : Hist) (j : Nat) : num1 (a ++ b) j = num1 a j + num1 b j := by simp [num1]
theorem num1_le (h : Hist) (j : Nat) : num1 h j ≤ h.length := List.length_filter_le _ _
theorem getD_set (v : List Nat) (i j x : Nat) : (v.set i x).getD j 0 = if i = j ∧ j < v.length then x else v.getD j 0 := by
  simp only [List.getD_eq_getElem?_getD, List.getElem?_set]
  by_cases e : i = j
  · subst e
    by_cases h : i < v.length
    · simp [h]
    · simp [h, List.getElem?_eq_none (Nat.le_of_not_lt h)]
  · simp [e]
theorem stF_cons (maps : List (List Nat)) (s : Nat × List Nat) (p : Nat × Nat) (h : Hist) : stF maps s (p :: h) = stF maps (stp maps s p) h := rfl
theorem stF_app (maps : List (List Nat)) (s : Nat × List Nat) (a b : Hist) : stF maps s (a ++ b) = stF maps (stF maps s a) b := List.foldl_append ..
theorem stp_len (maps : List (List Nat)) (s : Nat × List Nat) (p : Nat × Nat) : (stp maps s p).2.length = s.2.length := by
  unfold stp
  split <;> simp
theorem stF_left (maps : List (List Nat)) : ∀ (h : Hist) (s : Nat × List Nat) (j : Nat), (stF maps s h).2.getD j 0 = s.2.getD j 0 - num1 h j
  | [], s, j => by rw [num1_nil]; rfl
  | p :: h, s, j => by
    rw [stF_cons, stF_left maps h, num1_cons]
    unfold stp
    by_cases hp : 0 < s.2.getD p.1 0
    · rw [if_pos hp]
      simp only [getD_set]
      have hl : p.1 < s.2.length := by
        refine Decidable.byContradiction fun q => ?_
        rw [List.getD_eq_getElem?_getD, List.getElem?_eq_none (by omega)] at hp
        exact absurd hp (by simp)
      by_cases e : p.1 = j
      · subst e
        simp only [hl, and_self, if_true]
        omega
      · simp [e]
    · rw [if_neg hp]
      by_cases e : p.1 = j
      · subst e
        simp only [if_true]
        omega
      · simp [e]
/-- the boards are as one where the numbers differ above what is there -/
theorem brd_agree (maps : List (List Nat)) : ∀ (h : Hist) (b : Nat) (v w : List Nat), v.length = w.length → (∀ i, v.getD i 0 = w.getD i 0 ∨ (num1 h i ≤ v.getD i 0 ∧ num1 h i ≤ w.getD i 0)) → (stF maps (b, v) h).1 = (stF maps (b, w) h).1
  | [], b, v, w, _, _ => rfl
  | p :: h, b, v, w, hl, hh => by
    rw [stF_cons, stF_cons]
    have hp := hh p.1
    rw [num1_cons, if_pos rfl] at hp
    unfold stp
    by_cases hv : 0 < v.getD p.1 0
    · have hw : 0 < w.getD p.1 0 := by
        rcases hp with e | e
        · rw [← e]; exact hv
        · omega
      simp only [hv, hw, if_true]
      refine brd_agree maps h _ _ _ (by simp [hl]) fun i => ?_
      simp only [getD_set]
      have hi := hh i
      rw [num1_cons] at hi
      by_cases e : p.1 = i
      · subst e
        simp only [if_true] at hi
        by_cases hlt : p.1 < v.length
        · simp only [hlt, show p.1 < w.length by omega, and_self, if_true]
          omega
        · simp only [hlt, show ¬ p.1 < w.length by omega, and_false, if_false]
          omega
      · simp only [e, false_and, if_false] at hi ⊢
        simpa using hi
    · have hw : ¬ 0 < w.getD p.1 0 := by
        rcases hp with e | e
        · rw [← e]; exact hv
        · omega
      simp only [hv, hw, if_false]
      refine brd_agree maps h _ _ _ hl fun i => ?_
      have hi := hh i
      rw [num1_cons] at hi
      omega
theorem cnt_snoc {hs j : Nat} (h : Hist) (d : Nat) (hj : j < hs) : cnt hs (h ++ [(j, d)]) = bmp (cnt hs h) j := by
  refine List.ext_getElem? fun i => ?_
  unfold bmp
  rw [List.getElem?_set, cnt_len, List.getD_eq_getElem?_getD, cnt_at h hj]
  by_cases hi : i < hs
  · rw [cnt_at _ hi, num1_app, num1_cons, num1_nil]
    by_cases e : j = i
    · subst e
      simp [hj]
    · simp only [e, if_false]
      rw [cnt_at _ hi]
      rfl
  · rw [List.getElem?_eq_none (by rw [cnt_len]; omega)]
    have e : ¬ j = i := by omega
    simp only [e, if_false]
    rw [List.getElem?_eq_none (by rw [cnt_len]; omega)]
theorem cnt_gone {hs j : Nat} (a b : Hist) (d : Nat) (hj : j < hs) : cnt hs (a ++ b) = drp (cnt hs (a ++ (j, d) :: b)) j := by
  refine List.ext_getElem? fun i => ?_
  unfold drp
  rw [List.getElem?_set, cnt_len, List.getD_eq_getElem?_getD, cnt_at _ hj]
  by_cases hi : i < hs
  · rw [cnt_at _ hi, num1_app]
    by_cases e : j = i
    · subst e
      simp only [hj, if_true, num1_app, num1_cons, Option.getD_some]
      congr 1
      omega
    · simp only [e, if_false]
      rw [cnt_at _ hi, num1_app, num1_cons]
      simp [e]
  · rw [List.getElem?_eq_none (by rw [cnt_len]; omega)]
    have e : ¬ j = i := by omega
    simp only [e, if_false]
    rw [List.getElem?_eq_none (by rw [cnt_len]; omega)]
/-- the entries of a grown table -/
def grow (cs : List Nat) (j : Nat) (st : List Nat) (f : List Nat → Nat) (v : List Nat) : Nat := if v.getD j 0 < cs.getD j 0 + 1 then f v else st.getD (f (v.set j (v.getD j 0 - 1))) 0
theorem getD_some {l : List Nat} {i x : Nat} (h : l[i]? = some x) : l.getD i 0 = x := by rw [List.getD_eq_getElem?_getD, h]; rfl
theorem grow_brd {hs j d : Nat} {maps : List (List Nat)} {st : List Nat} {start : Nat} {h : Hist} {v : List Nat} (hj : j < hs) (hst : maps[d]? = some st) (hv : Within (bmp (cnt hs h) j) v) :
    grow (cnt hs h) j st (brd maps start h) v = brd maps start (h ++ [(j, d)]) v := by
  have hcj := getD_some (cnt_at h hj)
  have hvl : v.length = hs := by rw [hv.1]; simp [bmp, cnt_len]
  have hjv : j < v.length := by omega
  have hvj : v.getD j 0 ≤ num1 h j + 1 := by
    refine hv.2 j (num1 h j + 1) (v.getD j 0) ?_ ?_
    · unfold bmp
      rw [List.getElem?_set_self (by rw [cnt_len]; exact hj), hcj]
    · rw [List.getD_eq_getElem?_getD, List.getElem?_eq_getElem hjv]
      rfl
  unfold grow brd
  rw [stF_app, stF_cons, hcj]
  have hleft := stF_left maps h (start, v) j
  show _ = (stp maps (stF maps (start, v) h) (j, d)).1
  unfold stp
  by_cases hlt : v.getD j 0 < num1 h j + 1
  · rw [if_pos hlt, if_neg (by rw [hleft]; show ¬ 0 < v.getD j 0 - num1 h j; omega)]
  · rw [if_neg hlt, if_pos (by rw [hleft]; show 0 < v.getD j 0 - num1 h j; omega)]
    have e1 : maps.getD d [] = st := by rw [List.getD_eq_getElem?_getD, hst]; rfl
    rw [e1]
    congr 1
    refine brd_agree maps h start _ _ (by simp) fun i => ?_
    simp only [getD_set]
    by_cases e : j = i
    · subst e
      simp only [hjv, and_self, if_true]
      omega
    · simp [e]
theorem brd_gone {hs j d : Nat} {maps : List (List Nat)} {start : Nat} {a b : Hist} {v : List Nat} (hv : v.getD j 0 ≤ num1 a j) : brd maps start (a ++ (j, d) :: b) v = brd maps start (a ++ b) v := by
  unfold brd
  rw [stF_app, stF_app, stF_cons]
  have hleft := stF_left maps a (start, v) j
  congr 2
  unfold stp
  rw [if_neg (by rw [hleft]; show ¬ 0 < v.getD j 0 - num1 a j; omega)]
theorem brd_lt {b : Nat} {maps : List (List Nat)} (hm : ∀ f ∈ maps, f.length = b) (he : ∀ f ∈ maps, ∀ x ∈ f, x < b) : ∀ (h : Hist) (s : Nat × List Nat), (∀ p ∈ h, p.2 < maps.length) → s.1 < b → (stF maps s h).1 < b
  | [], s, _, hs => hs
  | p :: h, s, hd, hs => by
    rw [stF_cons]
    refine brd_lt hm he h _ (fun q hq => hd q (List.mem_cons_of_mem _ hq)) ?_
    unfold stp
    split
    · have hp := hd p List.mem_cons_self
      have e1 : maps.getD p.2 [] = maps[p.2] := by rw [List.getD_eq_getElem?_getD, List.getElem?_eq_getElem hp]; rfl
      have hf : maps[p.2] ∈ maps := List.getElem_mem hp
      have hl := hm _ hf
      simp only [e1]
      rw [List.getD_eq_getElem?_getD, List.getElem?_eq_getElem (by omega)]
      exact he _ hf _ (List.getElem_mem _)
    · exact hs
theorem prd_le {cs : List Nat} (h4 : cs.length ≤ 4) (h : ∀ n ∈ cs, n ≤ 12) : prd cs ≤ 30000 := by
  have key : ∀ cs : List Nat, (∀ n ∈ cs, n ≤ 12) → prd cs ≤ 13 ^ cs.length := by
    intro cs
    induction cs with
    | nil => intro _; exact Nat.le_refl _
    | cons n r ih =>
      intro h
      have h1 := ih fun x hx => h x (List.mem_cons_of_mem _ hx)
      have h2 := h n List.mem_cons_self
      have e : prd (n :: r) = (n + 1) * prd r := by unfold prd; simp
      rw [e, List.length_cons, Nat.pow_succ, Nat.mul_comm (13 ^ r.length)]
      exact Nat.mul_le_mul (by omega) h1
  have h1 := key cs h
  have h2 : 13 ^ cs.length ≤ 13 ^ 4 := Nat.pow_le_pow_right (by decide) h4
  omega
theorem cnt_le {hs : Nat} {h : Hist} {k : Nat} (hl : h.length ≤ k) : ∀ n ∈ cnt hs h, n ≤ k := by
  intro n hn
  unfold cnt at hn
  obtain ⟨j, _, rfl⟩ := List.mem_map.mp hn
  exact Nat.le_trans (num1_le h j) hl
end Dl

/-! PL6: what is to hold behind: runs by their posts. -/
namespace Dl
open PySem PyProof.Rows L2
def RW {α : Type} (r : Res α) (Q : α → M → Prop) : Prop := match r with
  | .ok a m => Q a m
  | _ => False
structure Pst where
  nx : Sl → M → Prop
  rt : D → M → Prop
  bk : Sl → M → Prop
  ct : Sl → M → Prop
def OW (o : Out) (E : Pst) : Prop := match o with
  | .nx ρ m => E.nx ρ m
  | .rt d m => E.rt d m
  | .bk ρ m => E.bk ρ m
  | .ct ρ m => E.ct ρ m
  | _ => False
def thenP (h : FS) (E : Pst) : Pst := ⟨fun ρ m => OW (h ρ m) E, E.rt, E.bk, E.ct⟩
def endP (Q : D → M → Prop) : Pst := ⟨fun _ m => Q .non m, Q, fun _ _ => False, fun _ _ => False⟩
def loopP (I : Sl → M → Prop) (E : Pst) : Pst := ⟨I, E.rt, E.nx, I⟩
@[simp] theorem RW_ok {α : Type} (a : α) (m : M) (Q : α → M → Prop) : RW (.ok a m) Q = Q a m := nrfl rfl
@[simp] theorem RW_bind {α γ : Type} (r : Res α) (k : α → M → Res γ) (Q : γ → M → Prop) : RW (r.bind k) Q = RW r fun a m => RW (k a m) Q := by cases r <;> rfl
@[simp] theorem RW_ite {α : Type} (c : Prop) [Decidable c] (a b : Res α) (Q : α → M → Prop) : RW (if c then a else b) Q = if c then RW a Q else RW b Q := by split <;> rfl
@[simp] theorem RW_asB (r : Res D) (Q : Bool → M → Prop) : RW (asB r) Q = RW r fun d m => match d with
  | .bl b => Q b m
  | _ => False := by
  unfold asB
  rw [RW_bind]
  congr 1
  funext d m
  cases d <;> rfl
@[simp] theorem RW_gcR (L : Nat) (r : Res D) (Q : D → M → Prop) : RW (gcR L r) Q = RW r fun d m => Q (gc L d m).1 (gc L d m).2 := by cases r <;> rfl
@[simp] theorem RW_gcB (L : Nat) (r : Res Bool) (Q : Bool → M → Prop) : RW (gcB L r) Q = RW r fun b m => Q b (gc L .non m).2 := by cases r <;> rfl
@[simp] theorem OW_nx (ρ : Sl) (m : M) (E : Pst) : OW (.nx ρ m) E = E.nx ρ m := nrfl rfl
@[simp] theorem OW_rt (d : D) (m : M) (E : Pst) : OW (.rt d m) E = E.rt d m := nrfl rfl
@[simp] theorem OW_bk (ρ : Sl) (m : M) (E : Pst) : OW (.bk ρ m) E = E.bk ρ m := nrfl rfl
@[simp] theorem OW_ct (ρ : Sl) (m : M) (E : Pst) : OW (.ct ρ m) E = E.ct ρ m := nrfl rfl
@[simp] theorem OW_out {α : Type} (r : Res α) (ρ : Sl) (k : α → M → Out) (E : Pst) : OW (r.out ρ k) E = RW r fun a m => OW (k a m) E := by cases r <;> rfl
@[simp] theorem OW_seqK (o : Out) (h : FS) (E : Pst) : OW (seqK o h) E = OW o (thenP h E) := by cases o <;> rfl
@[simp] theorem OW_ite (c : Prop) [Decidable c] (a b : Out) (E : Pst) : OW (if c then a else b) E = if c then OW a E else OW b E := by split <;> rfl
@[simp] theorem thenP_nx (h : FS) (E : Pst) (ρ : Sl) (m : M) : (thenP h E).nx ρ m = OW (h ρ m) E := nrfl rfl
@[simp] theorem thenP_rt (h : FS) (E : Pst) : (thenP h E).rt = E.rt := nrfl rfl
@[simp] theorem thenP_bk (h : FS) (E : Pst) : (thenP h E).bk = E.bk := nrfl rfl
@[simp] theorem thenP_ct (h : FS) (E : Pst) : (thenP h E).ct = E.ct := nrfl rfl
@[simp] theorem endP_nx (Q : D → M → Prop) (ρ : Sl) (m : M) : (endP Q).nx ρ m = Q .non m := nrfl rfl
@[simp] theorem endP_rt (Q : D → M → Prop) : (endP Q).rt = Q := nrfl rfl
@[simp] theorem loopP_nx (I : Sl → M → Prop) (E : Pst) (ρ : Sl) (m : M) : (loopP I E).nx ρ m = I ρ m := nrfl rfl
@[simp] theorem loopP_ct (I : Sl → M → Prop) (E : Pst) (ρ : Sl) (m : M) : (loopP I E).ct ρ m = I ρ m := nrfl rfl
@[simp] theorem loopP_bk (I : Sl → M → Prop) (E : Pst) : (loopP I E).bk = E.nx := nrfl rfl
@[simp] theorem loopP_rt (I : Sl → M → Prop) (E : Pst) : (loopP I E).rt = E.rt := nrfl rfl
theorem RW.eq {α : Type} {r : Res α} {a : α} {m : M} (h : RW r fun b m' => b = a ∧ m' = m) : r = .ok a m := by
  cases r with
  | ok b m' => obtain ⟨rfl, rfl⟩ := h; rfl
  | exc _ _ => exact h.elim
  | bad => exact h.elim
theorem RW.get {α : Type} {r : Res α} {Q : α → M → Prop} (h : RW r Q) : ∃ a m, r = .ok a m ∧ Q a m := by
  cases r with
  | ok a m => exact ⟨a, m, rfl, h⟩
  | exc _ _ => exact h.elim
  | bad => exact h.elim
theorem RW.of {α : Type} {r : Res α} {Q : α → M → Prop} {a : α} {m : M} (e : r = .ok a m) (h : Q a m) : RW r Q := by rw [e]; exact h
theorem RW.imp {α : Type} {r : Res α} {Q R : α → M → Prop} (h : RW r Q) (i : ∀ a m, Q a m → R a m) : RW r R := by
  cases r with
  | ok a m => exact i a m h
  | exc _ _ => exact h.elim
  | bad => exact h.elim
theorem OW.imp {o : Out} {E F : Pst} (h : OW o E) (h1 : ∀ ρ m, E.nx ρ m → F.nx ρ m) (h2 : ∀ d m, E.rt d m → F.rt d m) (h3 : ∀ ρ m, E.bk ρ m → F.bk ρ m) (h4 : ∀ ρ m, E.ct ρ m → F.ct ρ m) : OW o F := by
  cases o with
  | nx ρ m => exact h1 _ _ h
  | rt d m => exact h2 _ _ h
  | bk ρ m => exact h3 _ _ h
  | ct ρ m => exact h4 _ _ h
  | exc _ _ _ => exact h.elim
  | bad => exact h.elim
theorem run_w {N np : Nat} {g : FS} {ds : List D} {m : M} {Q : D → M → Prop} (hl : ds.length = np) (h : OW (g (startD N ds) m) (endP fun d m' => Q (gc m.length d m').1 (gc m.length d m').2)) : RW (runF N np g ds m) Q := by
  unfold runF
  rw [if_pos hl]
  cases e : g (startD N ds) m with
  | nx ρ m' => rw [e] at h; exact h
  | rt d m' => rw [e] at h; exact h
  | bk ρ m' => rw [e] at h; exact h.elim
  | ct ρ m' => rw [e] at h; exact h.elim
  | exc _ _ _ => rw [e] at h; exact h.elim
  | bad => rw [e] at h; exact h.elim
theorem gc_len {L : Nat} {d : D} {m : M} (h : m.length = L) : gc L d m = (d, m) := by subst h; exact gc_same d m
theorem gc_j {L : Nat} {m j : M} {d : D} (hl : m.length = L) (h : Wf m) (hd : d.blw L = true) : gc L d (m ++ j) = (d, m) := by subst hl; exact gc_junk h hd
theorem gc_n {L : Nat} {m j : M} {n : Nat} {o : O} (hl : m.length = L) (h : Wf m) (hn : L ≤ n) (ho : (m ++ j)[n]? = some o) (hb : o.blw L = true) : gc L (.ref n) (m ++ j) = (.ref L, m ++ [o]) := by
  subst hl
  unfold gc
  rw [if_pos (lowM_app h), if_neg (by simp only [D.blw, decide_eq_true_eq]; omega)]
  simp only [ho, hb, if_true]
  rw [List.take_append_of_le_length (Nat.le_refl _), List.take_length]

/-! ### slots that change -/
def upd : Sl → List Nat → List (Option D) → Sl
  | ρ, i :: S, v :: vs => upd (ρ.set i v) S vs
  | ρ, _, _ => ρ
@[simp] theorem upd_cons (ρ : Sl) (i : Nat) (S : List Nat) (v : Option D) (vs : List (Option D)) : upd ρ (i :: S) (v :: vs) = upd (ρ.set i v) S vs := nrfl rfl
@[simp] theorem upd_nil (ρ : Sl) (vs : List (Option D)) : upd ρ [] vs = ρ := by cases vs <;> rfl
@[simp] theorem upd_nil' (ρ : Sl) (S : List Nat) : upd ρ S [] = ρ := by cases S <;> rfl
def slots (ρ : Sl) (S : List Nat) : List (Option D) := S.map fun i => ρ.getD i none
@[simp] theorem slots_nil (ρ : Sl) : slots ρ [] = [] := nrfl rfl
@[simp] theorem slots_cons (ρ : Sl) (i : Nat) (S : List Nat) : slots ρ (i :: S) = ρ.getD i none :: slots ρ S := nrfl rfl
theorem set_getD (ρ : Sl) (i : Nat) : ρ.set i (ρ.getD i none) = ρ := by
  refine List.ext_getElem? fun j => ?_
  rw [List.getElem?_set]
  split
  · rename_i e
    subst e
    split
    · rename_i h
      rw [List.getD_eq_getElem?_getD, List.getElem?_eq_getElem h]
      rfl
    · rename_i h
      rw [List.getElem?_eq_none (by omega)]
  · rfl
theorem upd_same : ∀ (S : List Nat) (ρ : Sl), upd ρ S (slots ρ S) = ρ
  | [], ρ => by simp
  | i :: S, ρ => by rw [slots_cons, upd_cons, set_getD, upd_same S ρ]
def bodyAt (gt : GT) (body : FS) (d : D) (ρ : Sl) (m : M) : Out := match gt d ρ with
  | some ρ' => body ρ' m
  | none => .bad
@[simp] theorem bodyAt_n (i : Nat) (body : FS) (d : D) (ρ : Sl) (m : M) : bodyAt (gN i) body d ρ m = body (ρ.set i (some d)) m := nrfl rfl
theorem bodyAt_some {gt : GT} {body : FS} {d : D} {ρ ρ' : Sl} {m : M} (h : gt d ρ = some ρ') : bodyAt gt body d ρ m = body ρ' m := by unfold bodyAt; rw [h]
@[simp] theorem bodyAt_t2 (i j : Nat) (body : FS) (d e : D) (ρ : Sl) (m : M) : bodyAt (gT 2 (gCons' (gN i) (gCons' (gN j) gNil'))) body (.tup [d, e]) ρ m = body ((ρ.set i (some d)).set j (some e)) m := nrfl rfl
/-- what gives the same items whatever the memory -/
structure SrcC (src : Src) (xs : List D) : Prop where
  n : src.n = xs.length
  get : ∀ m i, i < xs.length → src.get m i = xs[i]?
  fin : ∀ m, src.fin m = true
theorem cT (xs : List D) : SrcC (srcT xs) xs := ⟨rfl, fun _ _ _ => rfl, fun _ => rfl⟩
theorem cR (k : Nat) : SrcC (srcR 0 k) ((List.range k).map iD) := ⟨(isR k []).n, fun m => (isR k m).get, fun m => (isR k m).fin⟩
theorem cTE (xs : List D) : SrcC (srcTE xs) (xs.zipIdx.map fun p => .tup [.int (p.2 : Nat), p.1]) := ⟨(isTE xs []).n, fun m => (isTE xs m).get, fun m => (isTE xs m).fin⟩
theorem cZ (xs ys : List D) : SrcC (srcZ xs ys) ((xs.zip ys).map fun p => .tup [p.1, p.2]) := ⟨(isZ xs ys []).n, fun m => (isZ xs ys m).get, fun m => (isZ xs ys m).fin⟩
theorem for_g {src : Src} {gt : GT} {body : FS} {ρ : Sl} {E : Pst} {α : Type} (l : List α) (f : α → D) (S : List Nat) (I : List α → List (Option D) → M → Prop)
    (hget : ∀ pre a post vs m, l = pre ++ a :: post → I pre vs m → src.get m pre.length = some (f a))
    (hb : ∀ pre a post vs m, l = pre ++ a :: post → I pre vs m → OW (bodyAt gt body (f a) (upd ρ S vs) m) (loopP (fun ρ2 m2 => ∃ vs', ρ2 = upd ρ S vs' ∧ I (pre ++ [a]) vs' m2) E))
    (he : ∀ vs m, I l vs m → src.fin m = true ∧ E.nx (upd ρ S vs) m) : ∀ (post pre : List α) (vs : List (Option D)) (m : M) (k : Nat), l = pre ++ post → k = post.length → I pre vs m → OW (forL src gt body k pre.length (upd ρ S vs) m) E
  | [], pre, vs, m, k, hl, hk, h => by
    subst hk
    have : pre = l := by rw [hl, List.append_nil]
    subst this
    unfold forL
    obtain ⟨h1, h2⟩ := he vs m h
    rw [List.length_nil]
    simp only [h1, if_true]
    exact h2
  | a :: post, pre, vs, m, k, hl, hk, h => by
    subst hk
    have h1 := hget pre a post vs m hl h
    have h2 := hb pre a post vs m hl h
    rw [List.length_cons]
    unfold forL
    simp only [h1]
    unfold bodyAt at h2
    cases hg : gt (f a) (upd ρ S vs) with
    | none => rw [hg] at h2; exact h2.elim
    | some ρ' =>
      rw [hg] at h2
      simp only at h2 ⊢
      have go : ∀ ρ2 m2, (∃ vs', ρ2 = upd ρ S vs' ∧ I (pre ++ [a]) vs' m2) → OW (forL src gt body post.length (pre.length + 1) ρ2 m2) E := by
        rintro ρ2 m2 ⟨vs', rfl, h3⟩
        have := for_g l f S I hget hb he post (pre ++ [a]) vs' m2 post.length (by rw [hl]; simp) rfl h3
        rw [List.length_append, List.length_singleton] at this
        exact this
      cases hbd : body ρ' m with
      | nx ρ2 m2 => rw [hbd] at h2; exact go _ _ h2
      | ct ρ2 m2 => rw [hbd] at h2; exact go _ _ h2
      | bk ρ2 m2 => rw [hbd] at h2; exact h2
      | rt d m2 => rw [hbd] at h2; exact h2
      | exc _ _ _ => rw [hbd] at h2; exact h2
      | bad => rw [hbd] at h2; exact h2
/-- a loop over what does not change -/
theorem for_c {src : Src} {gt : GT} {body : FS} {ρ : Sl} {m : M} {E : Pst} {k : Nat} {α : Type} (l : List α) (f : α → D) (hs : SrcC src (l.map f)) (hk : k = l.length) (S : List Nat) (I : List α → List (Option D) → M → Prop)
    (h0 : I [] (slots ρ S) m)
    (hb : ∀ pre a post vs m, l = pre ++ a :: post → I pre vs m → OW (bodyAt gt body (f a) (upd ρ S vs) m) (loopP (fun ρ2 m2 => ∃ vs', ρ2 = upd ρ S vs' ∧ I (pre ++ [a]) vs' m2) E))
    (he : ∀ vs m, I l vs m → E.nx (upd ρ S vs) m) : OW (forL src gt body k 0 ρ m) E := by
  have := for_g (src := src) (gt := gt) (body := body) (ρ := ρ) (E := E) l f S I (fun pre a post vs m hl _ => by rw [hs.get m pre.length (by rw [hl]; simp), hl]; simp) hb (fun vs m h => ⟨hs.fin m, he vs m h⟩) l [] (slots ρ S) m k rfl hk h0
  rw [upd_same] at this
  exact this
/-- a loop over a list, which stands -/
theorem for_l {n : Nat} {gt : GT} {body : FS} {ρ : Sl} {m : M} {E : Pst} {k k' : Nat} {α : Type} (l : List α) (f : α → D) (hk : k = l.length) (hk' : k' = l.length) (S : List Nat) (I : List α → List (Option D) → M → Prop)
    (h0 : I [] (slots ρ S) m) (hm : ∀ pre vs m, I pre vs m → m[n]? = some (.lst (l.map f)))
    (hb : ∀ pre a post vs m, l = pre ++ a :: post → I pre vs m → OW (bodyAt gt body (f a) (upd ρ S vs) m) (loopP (fun ρ2 m2 => ∃ vs', ρ2 = upd ρ S vs' ∧ I (pre ++ [a]) vs' m2) E))
    (he : ∀ vs m, I l vs m → E.nx (upd ρ S vs) m) : OW (forL (srcL n k') gt body k 0 ρ m) E := by
  have := for_g (src := srcL n k') (gt := gt) (body := body) (ρ := ρ) (E := E) l f S I (fun pre a post vs m hl h => by
    have := (isL (hm pre vs m h) (k := k') (by rw [hk']; simp)).get pre.length (by rw [hl]; simp)
    rw [this, hl]
    simp) hb (fun vs m h => ⟨(isL (hm _ vs m h) (k := k') (by rw [hk']; simp)).fin, he vs m h⟩) l [] (slots ρ S) m k rfl hk h0
  rw [upd_same] at this
  exact this
theorem for_le {n : Nat} {gt : GT} {body : FS} {ρ : Sl} {m : M} {E : Pst} {k k' : Nat} (l : List D) (hk : k = l.length) (hk' : k' = l.length) (S : List Nat) (I : List (D × Nat) → List (Option D) → M → Prop)
    (h0 : I [] (slots ρ S) m) (hm : ∀ pre vs m, I pre vs m → m[n]? = some (.lst l))
    (hb : ∀ pre a post vs m, l.zipIdx = pre ++ a :: post → I pre vs m → OW (bodyAt gt body (.tup [.int (a.2 : Nat), a.1]) (upd ρ S vs) m) (loopP (fun ρ2 m2 => ∃ vs', ρ2 = upd ρ S vs' ∧ I (pre ++ [a]) vs' m2) E))
    (he : ∀ vs m, I l.zipIdx vs m → E.nx (upd ρ S vs) m) : OW (forL (srcLE n k') gt body k 0 ρ m) E := by
  have := for_g (src := srcLE n k') (gt := gt) (body := body) (ρ := ρ) (E := E) l.zipIdx (fun a => .tup [.int (a.2 : Nat), a.1]) S I (fun pre a post vs m hl h => by
    have := (isLE (hm pre vs m h) (k := k') hk').get pre.length (by rw [List.length_map, hl]; simp)
    rw [this, hl]
    simp) hb (fun vs m h => ⟨(isLE (hm _ vs m h) (k := k') hk').fin, he vs m h⟩) l.zipIdx [] (slots ρ S) m k rfl (by simpa using hk) h0
  rw [upd_same] at this
  exact this
/-- a loop by a measure -/
theorem while_g {t : FT} {body : FS} {ρ : Sl} {E : Pst} (S : List Nat) (I : Nat → List (Option D) → M → Prop)
    (hb : ∀ k vs m, I k vs m → RW (t (upd ρ S vs) m) fun b m1 => if b = true then OW (body (upd ρ S vs) m1) (loopP (fun ρ2 m2 => ∃ k' vs', k' < k ∧ ρ2 = upd ρ S vs' ∧ I k' vs' m2) E) else E.nx (upd ρ S vs) m1) :
    ∀ (fu k : Nat) (vs : List (Option D)) (m : M), k < fu → I k vs m → OW (whileL t body fu (upd ρ S vs) m) E
  | 0, k, vs, m, hk, _ => absurd hk (by omega)
  | fu + 1, k, vs, m, hk, h => by
    obtain ⟨b, m1, e, h1⟩ := (hb k vs m h).get
    unfold whileL
    rw [e]
    show OW (if b = true then _ else _) E
    cases b with
    | false => simpa using h1
    | true =>
      simp only [if_true] at h1 ⊢
      have go : ∀ ρ2 m2, (∃ k' vs', k' < k ∧ ρ2 = upd ρ S vs' ∧ I k' vs' m2) → OW (whileL t body fu ρ2 m2) E := by
        rintro ρ2 m2 ⟨k', vs', h2, rfl, h3⟩
        exact while_g S I hb fu k' vs' m2 (by omega) h3
      cases hbd : body (upd ρ S vs) m1 with
      | nx ρ2 m2 => rw [hbd] at h1; exact go _ _ h1
      | ct ρ2 m2 => rw [hbd] at h1; exact go _ _ h1
      | bk ρ2 m2 => rw [hbd] at h1; exact h1
      | rt d m2 => rw [hbd] at h1; exact h1
      | exc _ _ _ => rw [hbd] at h1; exact h1
      | bad => rw [hbd] at h1; exact h1
theorem while_w {t : FT} {body : FS} {ρ : Sl} {m : M} {E : Pst} (S : List Nat) (k : Nat) (I : Nat → List (Option D) → M → Prop) (hk : k < 1000000) (h0 : I k (slots ρ S) m)
    (hb : ∀ k vs m, I k vs m → RW (t (upd ρ S vs) m) fun b m1 => if b = true then OW (body (upd ρ S vs) m1) (loopP (fun ρ2 m2 => ∃ k' vs', k' < k ∧ ρ2 = upd ρ S vs' ∧ I k' vs' m2) E) else E.nx (upd ρ S vs) m1) : OW (sWhile t body ρ m) E := by
  have := while_g S I hb FUEL k (slots ρ S) m hk h0
  rw [upd_same] at this
  exact this
/-! ### comprehensions by typed rows -/
theorem fLc_t {α : Type} {fi : FI} {gt : GT} {vs : List Nat} {t : FT} {e : FE} {ρ : Sl} {m : M} {src : Src} (l : List α) (f : α → D) (p : α → Bool) (G : α → D) (h1 : fi ρ m = .ok src m) (hs : SrcIs src (l.map f) m) (hl : l.length ≤ LIM)
    (hx : ∀ a ∈ l, ∃ ρ', gt (f a) (wipeD ρ vs) = some ρ' ∧ t ρ' m = .ok (p a) m ∧ (p a = true → e ρ' m = .ok (G a) m)) : fLc fi gt vs t e ρ m = .ok ((l.filter p).map G) m := by
  have go : ∀ (post pre : List α) (acc : List D), l = pre ++ post → acc.length + post.length ≤ LIM → lcL src gt (wipeD ρ vs) t e post.length pre.length acc m = .ok (acc ++ (post.filter p).map G) m := by
    intro post
    induction post with
    | nil => intro pre acc hl _; unfold lcL; simp [hs.fin]
    | cons a post ih =>
      intro pre acc hl hlen
      rw [List.length_cons] at hlen ⊢
      obtain ⟨ρ', h2, h3, h4⟩ := hx a (by rw [hl]; simp)
      rw [stepL (d := f a) (by rw [hs.get pre.length (by rw [hl]; simp), hl]; simp) h2, h3]
      have hnext := ih (pre ++ [a])
      rw [List.length_append, List.length_singleton] at hnext
      by_cases hp : p a = true
      · rw [hp]
        simp only [h4 hp, if_pos (show acc.length < LIM by omega)]
        rw [hnext _ (by rw [hl]; simp) (by rw [List.length_append, List.length_singleton]; omega), List.filter_cons_of_pos hp]
        simp
      · simp only [show p a = false by simpa using hp]
        rw [hnext _ (by rw [hl]; simp) (by omega), List.filter_cons_of_neg hp]
  unfold fLc
  rw [h1]
  simp only [bind_ok]
  rw [show src.n = l.length by rw [hs.n]; simp]
  have := go l [] [] rfl (by simpa using hl)
  simpa using this
theorem fLc_y {α : Type} {fi : FI} {gt : GT} {vs : List Nat} {e : FE} {ρ : Sl} {m : M} {src : Src} (l : List α) (f : α → D) (G : α → D) (h1 : fi ρ m = .ok src m) (hs : SrcIs src (l.map f) m) (hl : l.length ≤ LIM)
    (hx : ∀ a ∈ l, ∃ ρ', gt (f a) (wipeD ρ vs) = some ρ' ∧ e ρ' m = .ok (G a) m) : fLc fi gt vs fYes e ρ m = .ok (l.map G) m := by
  rw [fLc_t l f (fun _ => true) G h1 hs hl fun a ha => ?_]
  · rw [List.filter_eq_self.mpr (fun _ _ => rfl)]
  · obtain ⟨ρ', h2, h3⟩ := hx a ha
    exact ⟨ρ', h2, rfl, fun _ => h3⟩
/-- a comprehension that changes the memory -/
theorem lc_w {α : Type} {fi : FI} {gt : GT} {vs : List Nat} {t : FT} {e : FE} {ρ : Sl} {m : M} {src : Src} {Q : List D → M → Prop} (l : List α) (f : α → D) (I : List α → List D → M → Prop) (h1 : fi ρ m = .ok src m) (hs : SrcC src (l.map f)) (h0 : I [] [] m)
    (hb : ∀ pre a post acc m, l = pre ++ a :: post → I pre acc m → acc.length < LIM ∧ ∃ ρ', gt (f a) (wipeD ρ vs) = some ρ' ∧ RW (t ρ' m) fun b m1 => if b = true then RW (e ρ' m1) fun y m2 => I (pre ++ [a]) (acc ++ [y]) m2 else I (pre ++ [a]) acc m1)
    (he : ∀ acc m, I l acc m → Q acc m) : RW (fLc fi gt vs t e ρ m) Q := by
  have go : ∀ (post pre : List α) (acc : List D) (m : M), l = pre ++ post → I pre acc m → RW (lcL src gt (wipeD ρ vs) t e post.length pre.length acc m) Q := by
    intro post
    induction post with
    | nil =>
      intro pre acc m hl h
      have : pre = l := by rw [hl, List.append_nil]
      subst this
      unfold lcL
      simpa [hs.fin] using he acc m h
    | cons a post ih =>
      intro pre acc m hl h
      obtain ⟨hlen, ρ', h2, h3⟩ := hb pre a post acc m hl h
      rw [List.length_cons, stepL (d := f a) (by rw [hs.get m pre.length (by rw [hl]; simp), hl]; simp) h2]
      have hnext := ih (pre ++ [a])
      rw [List.length_append, List.length_singleton] at hnext
      obtain ⟨b, m1, e1, h4⟩ := h3.get
      rw [e1]
      cases b with
      | false => exact hnext acc m1 (by rw [hl]; simp) (by simpa using h4)
      | true =>
        simp only [if_true] at h4
        obtain ⟨y, m2, e2, h5⟩ := h4.get
        simp only [e2, if_pos hlen]
        exact hnext _ m2 (by rw [hl]; simp) h5
  unfold fLc
  rw [h1]
  simp only [bind_ok]
  rw [show src.n = l.length by rw [hs.n]; simp]
  exact go l [] [] m rfl h0
end Dl

/-! PL7: equality, being in, dicts, plain. -/
namespace Dl
open PySem PyProof.Rows L2
mutual
/-- numbers, texts, None, rows of such -/
def bareP : PyData → Bool
  | .none => true
  | .int _ => true
  | .str _ => true
  | .list xs => barePs xs
  | .tuple xs => barePs xs
  | .bool _ => false
  | .dict _ => false
def barePs : List PyData → Bool
  | [] => true
  | x :: r => bareP x && barePs r
end
mutual
theorem eqv_bare : ∀ {p q : PyData}, bareP p = true → bareP q = true → (PyData.eqv p q = true ↔ p = q)
  | .none, .none, _, _ => by simp [PyData.eqv]
  | .int a, .int b, _, _ => by simp [PyData.eqv]
  | .str a, .str b, _, _ => by simp [PyData.eqv]
  | .list a, .list b, h, g => by
    simp only [bareP] at h g
    simp only [PyData.eqv, PyData.list.injEq]
    exact eqvs_bare h g
  | .tuple a, .tuple b, h, g => by
    simp only [bareP] at h g
    simp only [PyData.eqv, PyData.tuple.injEq]
    exact eqvs_bare h g
  | .none, .int _, _, _ => by simp [PyData.eqv]
  | .none, .str _, _, _ => by simp [PyData.eqv]
  | .none, .list _, _, _ => by simp [PyData.eqv]
  | .none, .tuple _, _, _ => by simp [PyData.eqv]
  | .int _, .none, _, _ => by simp [PyData.eqv]
  | .int _, .str _, _, _ => by simp [PyData.eqv]
  | .int _, .list _, _, _ => by simp [PyData.eqv]
  | .int _, .tuple _, _, _ => by simp [PyData.eqv]
  | .str _, .none, _, _ => by simp [PyData.eqv]
  | .str _, .int _, _, _ => by simp [PyData.eqv]
  | .str _, .list _, _, _ => by simp [PyData.eqv]
  | .str _, .tuple _, _, _ => by simp [PyData.eqv]
  | .list _, .none, _, _ => by simp [PyData.eqv]
  | .list _, .int _, _, _ => by simp [PyData.eqv]
  | .list _, .str _, _, _ => by simp [PyData.eqv]
  | .list _, .tuple _, _, _ => by simp [PyData.eqv]
  | .tuple _, .none, _, _ => by simp [PyData.eqv]
  | .tuple _, .int _, _, _ => by simp [PyData.eqv]
  | .tuple _, .str _, _, _ => by simp [PyData.eqv]
  | .tuple _, .list _, _, _ => by simp [PyData.eqv]
  | .bool _, _, h, _ => by simp [bareP] at h
  | .dict _, _, h, _ => by simp [bareP] at h
  | .none, .bool _, _, h => by simp [bareP] at h
  | .int _, .bool _, _, h => by simp [bareP] at h
  | .str _, .bool _, _, h => by simp [bareP] at h
  | .list _, .bool _, _, h => by simp [bareP] at h
  | .tuple _, .bool _, _, h => by simp [bareP] at h
  | .none, .dict _, _, h => by simp [bareP] at h
  | .int _, .dict _, _, h => by simp [bareP] at h
  | .str _, .dict _, _, h => by simp [bareP] at h
  | .list _, .dict _, _, h => by simp [bareP] at h
  | .tuple _, .dict _, _, h => by simp [bareP] at h
theorem eqvs_bare : ∀ {p q : List PyData}, barePs p = true → barePs q = true → (PyData.eqvAll p q = true ↔ p = q)
  | [], [], _, _ => by simp [PyData.eqvAll]
  | [], _ :: _, _, _ => by simp [PyData.eqvAll]
  | _ :: _, [], _, _ => by simp [PyData.eqvAll]
  | a :: r, b :: s, h, g => by
    simp only [barePs, Bool.and_eq_true] at h g
    simp only [PyData.eqvAll, Bool.and_eq_true, List.cons.injEq]
    rw [eqv_bare h.1 g.1, eqvs_bare h.2 g.2]
end
mutual
theorem plain_bare : ∀ {p : PyData}, bareP p = true → p.plain = true
  | .none, _ => rfl
  | .int _, _ => rfl
  | .str _, _ => rfl
  | .list xs, h => by simp only [bareP] at h; simp only [PyData.plain]; exact plains_bare h
  | .tuple xs, h => by simp only [bareP] at h; simp only [PyData.plain]; exact plains_bare h
  | .bool _, h => by simp [bareP] at h
  | .dict _, h => by simp [bareP] at h
theorem plains_bare : ∀ {p : List PyData}, barePs p = true → PyData.plainAll p = true
  | [], _ => rfl
  | a :: r, h => by
    simp only [barePs, Bool.and_eq_true] at h
    simp only [PyData.plainAll, plain_bare h.1, plains_bare h.2, Bool.and_self]
end
/-- d stands for p at m, which is bare and not deep -/
structure Ps (k : Nat) (m : M) (d : D) (p : PyData) (n : Nat) : Prop where
  e : pdM k m d = some p
  b : bareP p = true
  d : p.depth ≤ n
structure Pss (k : Nat) (m : M) (ds : List D) (ps : List PyData) (n : Nat) : Prop where
  e : pdM.allS (ds.map (pdM k m)) = some ps
  b : barePs ps = true
  d : PyData.depthAll ps ≤ n
theorem ps_int (k : Nat) (m : M) (i : Int) : Ps k m (.int i) (.int i) 0 := ⟨by cases k <;> rfl, rfl, Nat.le_refl _⟩
theorem ps_str (k : Nat) (m : M) (x : Str) : Ps k m (.str x) (.str x) 0 := ⟨by cases k <;> rfl, rfl, Nat.le_refl _⟩
theorem ps_non (k : Nat) (m : M) : Ps k m .non .none 0 := ⟨by cases k <;> rfl, rfl, Nat.le_refl _⟩
theorem pss_nil (k : Nat) (m : M) : Pss k m [] [] 0 := ⟨rfl, rfl, Nat.le_refl _⟩
theorem pss_cons {k : Nat} {m : M} {d : D} {p : PyData} {ds : List D} {ps : List PyData} {n : Nat} (h : Ps k m d p n) (t : Pss k m ds ps n) : Pss k m (d :: ds) (p :: ps) n := by
  refine ⟨?_, ?_, ?_⟩
  · rw [List.map_cons, h.e]
    simp only [pdM.allS, t.e, Option.map_some]
  · simp only [barePs, h.b, t.b, Bool.and_self]
  · simp only [PyData.depthAll]
    have := h.d
    have := t.d
    omega
theorem pss_map {α : Type} {k : Nat} {m : M} {n : Nat} (l : List α) (f : α → D) (g : α → PyData) (h : ∀ x ∈ l, Ps k m (f x) (g x) n) : Pss k m (l.map f) (l.map g) n := by
  induction l with
  | nil => exact ⟨rfl, rfl, Nat.zero_le _⟩
  | cons a r ih => exact pss_cons (h a List.mem_cons_self) (ih fun x hx => h x (List.mem_cons_of_mem _ hx))
theorem toPs_allS (r : Nat → Option PyData) : ∀ ds : List D, D.toPs r ds = pdM.allS (ds.map (D.toP r))
  | [] => rfl
  | d :: t => by
    rw [List.map_cons]
    simp only [D.toPs]
    rw [toPs_allS r t]
    cases D.toP r d with
    | none => rfl
    | some p => simp only [pdM.allS]; cases pdM.allS (List.map (D.toP r) t) <;> rfl
theorem ps_tup {k : Nat} {m : M} {ds : List D} {ps : List PyData} {n : Nat} (h : Pss k m ds ps n) : Ps k m (.tup ds) (.tuple ps) (n + 1) := by
  refine ⟨?_, by simp only [bareP]; exact h.b, by simp only [PyData.depth]; have := h.d; omega⟩
  have e := h.e
  cases k with
  | zero =>
    show (D.toPs _ ds).map PyData.tuple = _
    rw [toPs_allS]
    show (pdM.allS (ds.map (pdM 0 m))).map PyData.tuple = _
    rw [e]
    rfl
  | succ k =>
    show (D.toPs _ ds).map PyData.tuple = _
    rw [toPs_allS]
    show (pdM.allS (ds.map (pdM (k + 1) m))).map PyData.tuple = _
    rw [e]
    rfl
theorem ps_ref {k : Nat} {m : M} {j : Nat} {ds : List D} {ps : List PyData} {n : Nat} (hj : m[j]? = some (.lst ds)) (h : Pss k m ds ps n) : Ps (k + 1) m (.ref j) (.list ps) (n + 1) := by
  refine ⟨?_, by simp only [bareP]; exact h.b, by simp only [PyData.depth]; have := h.d; omega⟩
  show (match m[j]? with
    | some (.lst ds) => (pdM.allS (ds.map (pdM k m))).map PyData.list
    | _ => none) = _
  rw [hj]
  simp only
  rw [h.e]
  rfl
def pI (n : Nat) : PyData := .int (n : Int)
theorem pI_inj {a b : Nat} (h : pI a = pI b) : a = b := by
  unfold pI at h
  injection h with h
  omega
theorem ps_tI (k : Nat) (m : M) (l : List Nat) : Ps k m (tI l) (.tuple (l.map pI)) 1 := ps_tup (pss_map l iD pI fun x _ => ps_int k m x)
theorem ps_lI {k : Nat} {m : M} {j : Nat} {l : List Nat} (h : m[j]? = some (.lst (l.map iD))) : Ps (k + 1) m (.ref j) (.list (l.map pI)) 1 := ps_ref h (pss_map l iD pI fun x _ => ps_int k m x)
theorem map_inj {α β : Type} {f : α → β} (hf : ∀ {a b}, f a = f b → a = b) : ∀ {l l' : List α}, l.map f = l'.map f → l = l'
  | [], [], _ => rfl
  | [], _ :: _, h => by simp at h
  | _ :: _, [], h => by simp at h
  | a :: r, b :: s, h => by
    simp only [List.map_cons, List.cons.injEq] at h
    rw [hf h.1, map_inj hf h.2]
theorem pIs_inj {l l' : List Nat} (h : l.map pI = l'.map pI) : l = l' := map_inj pI_inj h
theorem gEq_ps {m : M} {a b : D} {p q : PyData} {n k : Nat} (ha : Ps DEEP m a p n) (hb : Ps DEEP m b q k) (hn : n ≤ 60) (hk : k ≤ 60) : ∃ t : Bool, gEq a b m = .ok (.bl t) m ∧ (t = true ↔ p = q) := by
  refine ⟨PyData.eqv p q, ?_, eqv_bare ha.b hb.b⟩
  unfold gEq
  rw [ha.e, hb.e]
  have h1 : flatP p = true := by unfold flatP; rw [plain_bare ha.b, Bool.true_and]; exact decide_eq_true (by have := ha.d; omega)
  have h2 : flatP q = true := by unfold flatP; rw [plain_bare hb.b, Bool.true_and]; exact decide_eq_true (by have := hb.d; omega)
  simp only [h1, h2, Bool.and_self, if_true]
theorem gNe_ps {m : M} {a b : D} {p q : PyData} {n k : Nat} (ha : Ps DEEP m a p n) (hb : Ps DEEP m b q k) (hn : n ≤ 60) (hk : k ≤ 60) : ∃ t : Bool, gNe a b m = .ok (.bl (!t)) m ∧ (t = true ↔ p = q) := by
  refine ⟨PyData.eqv p q, ?_, eqv_bare ha.b hb.b⟩
  unfold gNe
  rw [ha.e, hb.e]
  have h1 : flatP p = true := by unfold flatP; rw [plain_bare ha.b, Bool.true_and]; exact decide_eq_true (by have := ha.d; omega)
  have h2 : flatP q = true := by unfold flatP; rw [plain_bare hb.b, Bool.true_and]; exact decide_eq_true (by have := hb.d; omega)
  simp only [h1, h2, Bool.and_self, if_true]
theorem any_bare {qs : List PyData} {p : PyData} (hq : barePs qs = true) (hp : bareP p = true) : (qs.any fun y => PyData.eqv y p) = true ↔ p ∈ qs := by
  induction qs with
  | nil => simp
  | cons a r ih =>
    simp only [barePs, Bool.and_eq_true] at hq
    rw [List.any_cons, Bool.or_eq_true, eqv_bare hq.1 hp, ih hq.2, List.mem_cons]
    exact ⟨fun h => h.imp (fun e => e.symm) id, fun h => h.imp (fun e => e.symm) id⟩
/-- being in a list or a tuple -/
theorem inS_ps {m : M} {a b : D} {p : PyData} {qs : List PyData} {n k : Nat} (ha : Ps DEEP m a p n) (hb : Ps DEEP m b (.list qs) k ∨ Ps DEEP m b (.tuple qs) k) (hn : n ≤ 60) : ∃ t : Bool, inS m a b = some t ∧ (t = true ↔ p ∈ qs) := by
  have hq : barePs qs = true := by
    rcases hb with hb | hb <;> simpa only [bareP] using hb.b
  refine ⟨qs.any fun y => PyData.eqv y p, ?_, any_bare hq ha.b⟩
  have h1 : (PyData.plainAll qs && (p.plain && decide (p.depth ≤ 60))) = true := by
    rw [plains_bare hq, plain_bare ha.b, Bool.true_and, Bool.true_and]
    exact decide_eq_true (by have := ha.d; omega)
  unfold inS
  rcases hb with hb | hb
  · rw [ha.e, hb.e]
    simp only [h1, if_true]
  · rw [ha.e, hb.e]
    simp only [h1, if_true]
theorem inD_ref {m : M} {a : D} {j : Nat} {ds : List D} (h : m[j]? = some (.lst ds)) : inD m a (.ref j) = inS m a (.ref j) := by
  show (match m[j]? with
    | some (.dct t kvs) => if keyOk t a then some (valD kvs a).isSome else none
    | _ => inS m a (.ref j)) = _
  rw [h]
theorem inD_tup {m : M} {a : D} {ds : List D} : inD m a (.tup ds) = inS m a (.tup ds) := rfl
theorem mem_pI {l : List Nat} {x : Nat} : pI x ∈ l.map pI ↔ x ∈ l := by
  rw [List.mem_map]
  exact ⟨fun ⟨y, hy, e⟩ => by rw [← pI_inj e]; exact hy, fun h => ⟨x, h, rfl⟩⟩
theorem bool_dec {t : Bool} {P : Prop} [Decidable P] (h : t = true ↔ P) : t = decide P := by
  cases t with
  | true => exact (decide_eq_true (h.mp rfl)).symm
  | false => exact (decide_eq_false fun p => by have := h.mpr p; cases this).symm
theorem in_lI {m : M} {x j : Nat} {l : List Nat} (h : m[j]? = some (.lst (l.map iD))) : gIn (iD x) (.ref j) m = .ok (.bl (decide (x ∈ l))) m := by
  obtain ⟨t, e, ht⟩ := inS_ps (a := iD x) (b := .ref j) (ps_int DEEP m x) (.inl (ps_lI h)) (Nat.zero_le _)
  unfold gIn
  rw [inD_ref h, e]
  rw [show (PyData.int (x : Int)) = pI x from rfl, mem_pI] at ht
  rw [bool_dec ht]
theorem notIn_lI {m : M} {x j : Nat} {l : List Nat} (h : m[j]? = some (.lst (l.map iD))) : gNotIn (iD x) (.ref j) m = .ok (.bl (!decide (x ∈ l))) m := by
  obtain ⟨t, e, ht⟩ := inS_ps (a := iD x) (b := .ref j) (ps_int DEEP m x) (.inl (ps_lI h)) (Nat.zero_le _)
  unfold gNotIn
  rw [inD_ref h, e]
  rw [show (PyData.int (x : Int)) = pI x from rfl, mem_pI] at ht
  rw [bool_dec ht]

@[simp] theorem at2 {α : Type} (x y z : α) (r : List α) : atI (x :: y :: z :: r) 2 = some z := by
  unfold atI ixN
  rw [if_pos (by omega), if_pos (by simp only [List.length_cons]; omega)]
  rfl
@[simp] theorem at3 {α : Type} (x y z w : α) (r : List α) : atI (x :: y :: z :: w :: r) 3 = some w := by
  unfold atI ixN
  rw [if_pos (by omega), if_pos (by simp only [List.length_cons]; omega)]
  rfl
theorem bls_map {α : Type} (l : List α) (p : α → Bool) : blsD (l.map fun a => D.bl (p a)) = some (l.map p) := by
  induction l with
  | nil => rfl
  | cons a r ih => simp only [List.map_cons, blsD, ih, Option.map_some]
theorem allL_p {α : Type} (l : List α) (p : α → Bool) (m : M) : gAllL (l.map fun a => D.bl (p a)) m = .ok (.bl (l.all p)) m := by
  unfold gAllL
  rw [bls_map]
  simp [List.all_map, Function.comp_def]
theorem anyL_p {α : Type} (l : List α) (p : α → Bool) (m : M) : gAnyL (l.map fun a => D.bl (p a)) m = .ok (.bl (l.any p)) m := by
  unfold gAnyL
  rw [bls_map]
  simp [List.any_map, Function.comp_def]
/-! ### dicts -/
theorem keyOk_int (i : Int) : keyOk false (.int i) = true := rfl
theorem keysD_tI (l : List Nat) : (keysD (l.map iD)).isSome = true := by
  induction l with
  | nil => rfl
  | cons a r ih =>
    rw [List.map_cons]
    cases h : keysD (r.map iD) with
    | none => rw [h] at ih; cases ih
    | some ks => simp [keysD, keyD, h]
theorem keyOk_tI (l : List Nat) : keyOk true (tI l) = true := keysD_tI l
/-- rows of keys and values by plain ones -/
def kvD {α β : Type} (f : α → D) (g : β → D) (l : List (α × β)) : List (D × D) := l.map fun p => (f p.1, g p.2)
section
variable {α β : Type} [DecidableEq α] {f : α → D} {g : β → D}
def lookP (l : List (α × β)) (k : α) : Option β := (l.find? fun p => decide (p.1 = k)).map (·.2)
theorem val_kv (hf : ∀ {a b}, f a = f b → a = b) (l : List (α × β)) (k : α) : valD (kvD f g l) (f k) = (lookP l k).map g := by
  unfold valD kvD lookP
  induction l with
  | nil => rfl
  | cons p r ih =>
    rw [List.map_cons, List.find?_cons, List.find?_cons]
    by_cases e : p.1 = k
    · simp [e]
    · have e' : ¬ f p.1 = f k := fun q => e (hf q)
      simp only [e, e', decide_false]
      exact ih
theorem look_none {l : List (α × β)} {k : α} : lookP l k = none ↔ k ∉ l.map (·.1) := by
  unfold lookP
  rw [Option.map_eq_none_iff, List.find?_eq_none]
  constructor
  · intro h hk
    obtain ⟨p, hp, rfl⟩ := List.mem_map.mp hk
    exact absurd (decide_eq_true rfl) (h p hp)
  · intro h p hp q
    exact h (List.mem_map.mpr ⟨p, hp, of_decide_eq_true q⟩)
theorem look_isSome (l : List (α × β)) (k : α) : (lookP l k).isSome = decide (k ∈ l.map (·.1)) := by
  cases h : lookP l k with
  | none => rw [decide_eq_false (look_none.mp h)]; rfl
  | some x =>
    rw [decide_eq_true]
    · rfl
    · refine Decidable.byContradiction fun q => ?_
      rw [look_none.mpr q] at h
      cases h
theorem look_at {l : List (α × β)} (hn : (l.map (·.1)).Nodup) {i : Nat} {p : α × β} (h : l[i]? = some p) : lookP l p.1 = some p.2 := by
  unfold lookP
  induction l generalizing i with
  | nil => simp at h
  | cons q r ih =>
    rw [List.map_cons, List.nodup_cons] at hn
    rw [List.find?_cons]
    cases i with
    | zero =>
      simp at h
      subst h
      simp
    | succ i =>
      have h' : r[i]? = some p := by simpa using h
      have : q.1 ≠ p.1 := fun e => hn.1 (by rw [e]; exact List.mem_map.mpr ⟨p, List.mem_of_getElem? h', rfl⟩)
      simp only [this, decide_false]
      exact ih hn.2 h'
theorem put_new (hf : ∀ {a b}, f a = f b → a = b) {l : List (α × β)} {k : α} {v : β} (h : k ∉ l.map (·.1)) : putD (kvD f g l) (f k) (g v) = kvD f g (l ++ [(k, v)]) := by
  unfold putD
  have e : ((kvD f g l).any fun kv => decide (kv.1 = f k)) = false := by
    rw [List.any_eq_false]
    intro x hx q
    obtain ⟨p, hp, rfl⟩ := List.mem_map.mp hx
    exact h (List.mem_map.mpr ⟨p, hp, hf (of_decide_eq_true q)⟩)
  rw [e]
  simp [kvD]
theorem in_dct (hf : ∀ {a b}, f a = f b → a = b) {m : M} {n : Nat} {t : Bool} {l : List (α × β)} {k : α} (h : m[n]? = some (.dct t (kvD f g l))) (hk : keyOk t (f k) = true) : inD m (f k) (.ref n) = some (decide (k ∈ l.map (·.1))) := by
  show (match m[n]? with
    | some (.dct t kvs) => if keyOk t (f k) then some (valD kvs (f k)).isSome else none
    | _ => inS m (f k) (.ref n)) = _
  rw [h]
  simp only [hk, if_true, val_kv hf, Option.isSome_map, look_isSome]
theorem gIn_dct (hf : ∀ {a b}, f a = f b → a = b) {m : M} {n : Nat} {t : Bool} {l : List (α × β)} {k : α} (h : m[n]? = some (.dct t (kvD f g l))) (hk : keyOk t (f k) = true) : gIn (f k) (.ref n) m = .ok (.bl (decide (k ∈ l.map (·.1)))) m := by
  unfold gIn
  rw [in_dct hf h hk]
theorem gNotIn_dct (hf : ∀ {a b}, f a = f b → a = b) {m : M} {n : Nat} {t : Bool} {l : List (α × β)} {k : α} (h : m[n]? = some (.dct t (kvD f g l))) (hk : keyOk t (f k) = true) : gNotIn (f k) (.ref n) m = .ok (.bl (!decide (k ∈ l.map (·.1)))) m := by
  unfold gNotIn
  rw [in_dct hf h hk]
theorem gIx_dct (hf : ∀ {a b}, f a = f b → a = b) {m : M} {n : Nat} {t : Bool} {l : List (α × β)} {k : α} {v : β} (h : m[n]? = some (.dct t (kvD f g l))) (hk : keyOk t (f k) = true) (hv : lookP l k = some v) : gIx (.ref n) (f k) m = .ok (g v) m := by
  show (match m[n]? with
    | some (.dct t kvs) => if keyOk t (f k) then (match valD kvs (f k) with
      | some d => Res.ok d m
      | none => .bad) else .bad
    | _ => gIxS (.ref n) (f k) m) = _
  rw [h]
  simp only [hk, if_true, val_kv hf, hv, Option.map_some]
end
theorem iD_inj {a b : Nat} (h : iD a = iD b) : a = b := by
  injection h with h
  omega
theorem tI_inj {a b : List Nat} (h : tI a = tI b) : a = b := by
  unfold tI at h
  injection h with h
  exact map_inj iD_inj h
theorem subD_ok {f fo fi : FE} {ρ : Sl} {m m1 m2 m3 : M} {d k : D} {n : Nat} {t : Bool} {kvs : List (D × D)} (h1 : f ρ m = .ok d m1) (h2 : fo ρ m1 = .ok (.ref n) m2) (h3 : fi ρ m2 = .ok k m3) (h4 : m3[n]? = some (.dct t kvs)) (h5 : keyOk t k = true) (h6 : kvs.length < LIM) :
    sSub f fo fi ρ m = .nx ρ (m3.set n (.dct t (putD kvs k d))) := by
  unfold sSub
  simp only [h1, out_ok, h2, h3]
  cases k <;> simp only [h4] <;> exact if_pos ⟨h5, h6⟩
/-! ### rows by getD -/
theorem tI_getD {l : List Nat} {k : Nat} (h : k < l.length) (m : M) : gIx (tI l) (.int (k : Int)) m = .ok (iD (l.getD k 0)) m := tI_at (by rw [List.getD_eq_getElem?_getD, List.getElem?_eq_getElem h]; rfl) m
theorem tup_getD {α : Type} {l : List α} {f : α → D} {k : Nat} {x : α} (h : l[k]? = some x) (m : M) : gIx (.tup (l.map f)) (.int (k : Int)) m = .ok (f x) m := tup_at (by rw [List.getElem?_map, h]; rfl) m
theorem ref_getD {α : Type} {m : M} {n : Nat} {l : List α} {f : α → D} {k : Nat} {x : α} (hn : m[n]? = some (.lst (l.map f))) (h : l[k]? = some x) : gIx (.ref n) (.int (k : Int)) m = .ok (f x) m := by
  rw [e_ixL _ hn, at_nat (x := f x) (by rw [List.getElem?_map, h]; rfl)]
  rfl
/-- a loop over what gives the same as long as the invariant holds -/
theorem for_s {src : Src} {gt : GT} {body : FS} {ρ : Sl} {m : M} {E : Pst} {k : Nat} {α : Type} (l : List α) (f : α → D) (hk : k = l.length) (S : List Nat) (I : List α → List (Option D) → M → Prop)
    (h0 : I [] (slots ρ S) m) (hs : ∀ pre vs m, I pre vs m → SrcIs src (l.map f) m)
    (hb : ∀ pre a post vs m, l = pre ++ a :: post → I pre vs m → OW (bodyAt gt body (f a) (upd ρ S vs) m) (loopP (fun ρ2 m2 => ∃ vs', ρ2 = upd ρ S vs' ∧ I (pre ++ [a]) vs' m2) E))
    (he : ∀ vs m, I l vs m → E.nx (upd ρ S vs) m) : OW (forL src gt body k 0 ρ m) E := by
  have := for_g (src := src) (gt := gt) (body := body) (ρ := ρ) (E := E) l f S I (fun pre a post vs m hl h => by rw [(hs pre vs m h).get pre.length (by rw [hl]; simp), hl]; simp) hb (fun vs m h => ⟨(hs _ vs m h).fin, he vs m h⟩) l [] (slots ρ S) m k rfl hk h0
  rw [upd_same] at this
  exact this
/-- a loop that looks for the first: found, told; else nothing but its own slots is changed -/
theorem for_find {src : Src} {gt : GT} {body : FS} {ρ : Sl} {m : M} {k : Nat} {α : Type} (l : List α) (f : α → D) (hs : SrcIs src (l.map f) m) (hk : k = l.length) (S : List Nat) (F : α → Option D) (V : List (Option D) → Prop) (h0 : V (slots ρ S))
    (hb : ∀ a ∈ l, ∀ vs, V vs → (∀ d, F a = some d → bodyAt gt body (f a) (upd ρ S vs) m = .rt d m) ∧ (F a = none → ∃ vs', V vs' ∧ bodyAt gt body (f a) (upd ρ S vs) m = .nx (upd ρ S vs') m)) :
    (∀ d, l.findSome? F = some d → forL src gt body k 0 ρ m = .rt d m) ∧ (l.findSome? F = none → ∃ vs', V vs' ∧ forL src gt body k 0 ρ m = .nx (upd ρ S vs') m) := by
  subst hk
  have go : ∀ (post pre : List α) (vs : List (Option D)), l = pre ++ post → V vs → (∀ d, post.findSome? F = some d → forL src gt body post.length pre.length (upd ρ S vs) m = .rt d m) ∧ (post.findSome? F = none → ∃ vs', V vs' ∧ forL src gt body post.length pre.length (upd ρ S vs) m = .nx (upd ρ S vs') m) := by
    intro post
    induction post with
    | nil =>
      intro pre vs hl hv
      refine ⟨fun d h => by simp at h, fun _ => ⟨vs, hv, ?_⟩⟩
      rw [List.length_nil]
      unfold forL
      rw [if_pos hs.fin]
    | cons a r ih =>
      intro pre vs hl hv
      have hg : src.get m pre.length = some (f a) := by rw [hs.get pre.length (by rw [hl]; simp), hl]; simp
      obtain ⟨b1, b2⟩ := hb a (by rw [hl]; simp) vs hv
      have st : forL src gt body (a :: r).length pre.length (upd ρ S vs) m = match bodyAt gt body (f a) (upd ρ S vs) m with
        | .nx ρ2 m2 => forL src gt body r.length (pre.length + 1) ρ2 m2
        | .ct ρ2 m2 => forL src gt body r.length (pre.length + 1) ρ2 m2
        | .bk ρ2 m2 => .nx ρ2 m2
        | o => o := by
        rw [List.length_cons]
        conv => lhs; unfold forL
        rw [hg]
        unfold bodyAt
        simp only
        cases gt (f a) (upd ρ S vs) <;> rfl
      rw [st, List.findSome?_cons]
      cases hF : F a with
      | some d =>
        rw [b1 d hF]
        exact ⟨fun d' h => by simp at h; rw [h], fun h => by simp at h⟩
      | none =>
        obtain ⟨vs', hv', e⟩ := b2 hF
        rw [e]
        have := ih (pre ++ [a]) vs' (by rw [hl]; simp) hv'
        rw [List.length_append, List.length_singleton] at this
        exact this
  have := go l [] (slots ρ S) rfl h0
  rw [upd_same] at this
  exact this
end Dl

/-! PB1: boards that come, with first rows of deeds, plain. -/
namespace Dl
open PySem PyProof.Rows L2
abbrev Br := List (Nat × List Nat)
def ext1 (p : Nat × List Nat) (S : Br) (fd : List Nat × Nat) : Br := if fd.1.getD p.1 0 ∈ S.map (·.1) then S else S ++ [(fd.1.getD p.1 0, p.2 ++ [fd.2])]
def extA (maps : List (List Nat)) (S : Br) (p : Nat × List Nat) : Br := maps.zipIdx.foldl (ext1 p) S
def bfsS (maps : List (List Nat)) (S : Br) (k : Nat) : Br := match S[k]? with
  | some p => extA maps S p
  | none => S
def bfs (maps : List (List Nat)) (s : Nat) : Nat → Br
  | 0 => [(s, [])]
  | k + 1 => bfsS maps (bfs maps s k) k
def led (maps : List (List Nat)) (s : Nat) (row : List Nat) : Nat := row.foldl (fun b d => (maps.getD d []).getD b 0) s
theorem led_snoc (maps : List (List Nat)) (s : Nat) (row : List Nat) (d : Nat) : led maps s (row ++ [d]) = (maps.getD d []).getD (led maps s row) 0 := by simp [led]
/-- what holds of the boards found -/
structure BrOk (maps : List (List Nat)) (s b : Nat) (S : Br) : Prop where
  nd : (S.map (·.1)).Nodup
  lt : ∀ p ∈ S, p.1 < b
  deed : ∀ p ∈ S, ∀ d ∈ p.2, d < maps.length
  len : ∀ (i : Nat) (p : Nat × List Nat), S[i]? = some p → p.2.length ≤ i
  led : ∀ p ∈ S, led maps s p.2 = p.1
theorem BrOk.one {maps : List (List Nat)} {s b : Nat} (h : s < b) : BrOk maps s b [(s, [])] := by
  refine ⟨by simp, fun p hp => ?_, fun p hp => ?_, fun i p hp => ?_, fun p hp => ?_⟩
  · rw [List.mem_singleton.mp hp]; exact h
  · rw [List.mem_singleton.mp hp]; intro d hd; simp at hd
  · cases i with
    | zero => simp at hp; subst hp; exact Nat.le_refl _
    | succ i => simp at hp
  · rw [List.mem_singleton.mp hp]; rfl
theorem nodup_lt : ∀ {b : Nat} {l : List Nat}, l.Nodup → (∀ x ∈ l, x < b) → l.length ≤ b
  | 0, l, _, hl => by
    cases l with
    | nil => exact Nat.le_refl _
    | cons x t => exact absurd (hl x List.mem_cons_self) (Nat.not_lt_zero _)
  | b + 1, l, h, hl => by
    have h1 := nodup_lt (b := b) (l := l.erase b) (h.erase b) fun x hx => by
      obtain ⟨h2, h3⟩ := h.mem_erase_iff.mp hx
      have := hl x h3
      omega
    by_cases hb : b ∈ l
    · rw [List.length_erase_of_mem hb] at h1
      omega
    · rw [List.erase_of_not_mem hb] at h1
      omega
theorem BrOk.le {maps : List (List Nat)} {s b : Nat} {S : Br} (h : BrOk maps s b S) : S.length ≤ b := by
  have := nodup_lt h.nd (b := b) (fun x hx => by
    obtain ⟨p, hp, rfl⟩ := List.mem_map.mp hx
    exact h.lt p hp)
  simpa using this
section
variable {maps : List (List Nat)} {s b : Nat} (hl : ∀ f ∈ maps, f.length = b) (he : ∀ f ∈ maps, ∀ x ∈ f, x < b)
include hl he
theorem map_lt {f : List Nat} (hf : f ∈ maps) {x : Nat} (hx : x < b) : f.getD x 0 < b := by
  rw [List.getD_eq_getElem?_getD, List.getElem?_eq_getElem (by rw [hl f hf]; exact hx)]
  exact he f hf _ (List.getElem_mem _)
theorem ext1_ok {S : Br} (h : BrOk maps s b S) {p : Nat × List Nat} (hp : p ∈ S) {k : Nat} (hk : S[k]? = some p) {f : List Nat} {d : Nat} (hf : maps[d]? = some f) : BrOk maps s b (ext1 p S (f, d)) := by
  unfold ext1
  split
  · exact h
  · rename_i hn
    have hfm := List.mem_of_getElem? hf
    have hdl := (List.getElem?_eq_some_iff.mp hf).1
    have hkl := (List.getElem?_eq_some_iff.mp hk).1
    refine ⟨?_, fun q hq => ?_, fun q hq => ?_, fun i q hq => ?_, fun q hq => ?_⟩
    · rw [List.map_append, List.nodup_append]
      refine ⟨h.nd, by simp, fun x hx y hy => ?_⟩
      intro e
      subst e
      simp at hy
      subst hy
      exact hn hx
    · rcases List.mem_append.mp hq with hq | hq
      · exact h.lt q hq
      · rw [List.mem_singleton.mp hq]; exact map_lt hl he hfm (h.lt p hp)
    · rcases List.mem_append.mp hq with hq | hq
      · exact h.deed q hq
      · rw [List.mem_singleton.mp hq]
        intro x hx
        rcases List.mem_append.mp hx with hx | hx
        · exact h.deed p hp x hx
        · rw [List.mem_singleton.mp hx]; exact hdl
    · by_cases hi : i < S.length
      · rw [List.getElem?_append_left hi] at hq
        exact h.len i q hq
      · rw [List.getElem?_append_right (by omega)] at hq
        have : i - S.length = 0 := by
          have := (List.getElem?_eq_some_iff.mp hq).1
          simp at this
          exact this
        rw [this] at hq
        simp at hq
        subst hq
        have := h.len k p hk
        simp
        omega
    · rcases List.mem_append.mp hq with hq | hq
      · exact h.led q hq
      · rw [List.mem_singleton.mp hq]
        show led maps s (p.2 ++ [d]) = f.getD p.1 0
        rw [led_snoc, h.led p hp, List.getD_eq_getElem?_getD (l := maps), hf]
        rfl
omit hl he in
theorem ext1_pre (p : Nat × List Nat) (S : Br) (fd : List Nat × Nat) : ∃ t, ext1 p S fd = S ++ t := by
  unfold ext1
  split
  · exact ⟨[], by simp⟩
  · exact ⟨_, rfl⟩
/-- the first so many deeds done -/
def extN (maps : List (List Nat)) (S : Br) (p : Nat × List Nat) (j : Nat) : Br := (maps.zipIdx.take j).foldl (ext1 p) S
omit hl he in
theorem extN_pre (S : Br) (p : Nat × List Nat) : ∀ l : List (List Nat × Nat), ∃ t, l.foldl (ext1 p) S = S ++ t := by
  intro l
  induction l generalizing S with
  | nil => exact ⟨[], by simp⟩
  | cons a r ih =>
    obtain ⟨t, e⟩ := ext1_pre p S a
    obtain ⟨t2, e2⟩ := ih (ext1 p S a)
    exact ⟨t ++ t2, by rw [List.foldl_cons, e2, e, List.append_assoc]⟩
theorem fold_ok {S : Br} (h : BrOk maps s b S) {p : Nat × List Nat} {k : Nat} (hk : S[k]? = some p) : ∀ l : List (List Nat × Nat), (∀ q ∈ l, maps[q.2]? = some q.1) → BrOk maps s b (l.foldl (ext1 p) S) := by
  intro l
  induction l generalizing S with
  | nil => intro _; exact h
  | cons a r ih =>
    intro hq
    rw [List.foldl_cons]
    obtain ⟨t, e⟩ := ext1_pre p S a
    refine ih (ext1_ok hl he h (List.mem_of_getElem? hk) hk (hq a List.mem_cons_self)) ?_ fun q hm => hq q (List.mem_cons_of_mem _ hm)
    rw [e, List.getElem?_append_left (List.getElem?_eq_some_iff.mp hk).1]
    exact hk
omit hl he in
theorem zip_get {maps : List (List Nat)} : ∀ q ∈ maps.zipIdx, maps[q.2]? = some q.1 := by
  rintro ⟨f, d⟩ hq
  have := List.mem_zipIdx hq
  simp at this
  obtain ⟨h1, h2⟩ := this
  rw [List.getElem?_eq_getElem h1, h2]
theorem bfsS_ok {S : Br} (h : BrOk maps s b S) (k : Nat) : BrOk maps s b (bfsS maps S k) := by
  unfold bfsS
  cases hk : S[k]? with
  | none => exact h
  | some p => exact fold_ok hl he h hk _ zip_get
theorem bfs_ok (hs : s < b) : ∀ k, BrOk maps s b (bfs maps s k)
  | 0 => BrOk.one hs
  | k + 1 => bfsS_ok hl he (bfs_ok hs k) k
omit hl he in
theorem bfs_stop {k : Nat} (h : (bfs maps s k).length ≤ k) : ∀ j, bfs maps s (k + j) = bfs maps s k
  | 0 => rfl
  | j + 1 => by
    rw [Nat.add_succ]
    show bfsS maps (bfs maps s (k + j)) (k + j) = _
    rw [bfs_stop h j]
    unfold bfsS
    rw [List.getElem?_eq_none (by omega)]
end
end Dl

/-! PL8: what can be told the same, plain. -/
namespace Dl
open PySem PyProof.Rows L2
mutual
def D.smb : D → Bool
  | .non => true
  | .bl _ => true
  | .int _ => true
  | .str _ => true
  | .tup ds => decide (ds.length ≤ 90000) && D.smbs ds
  | .rol _ => false
  | .ref _ => false
  | .ty _ => false
def D.smbs : List D → Bool
  | [] => true
  | d :: r => D.smb d && D.smbs r
end
theorem smbs_iff {ds : List D} : D.smbs ds = true ↔ ∀ d ∈ ds, d.smb = true := by
  induction ds with
  | nil => simp [D.smbs]
  | cons d r ih => simp [D.smbs, ih]
theorem dep_mem {ds : List D} {d : D} (h : d ∈ ds) : d.dep ≤ D.deps ds := by
  induction ds with
  | nil => simp at h
  | cons x r ih =>
    simp only [D.deps]
    rcases List.mem_cons.mp h with rfl | h
    · omega
    · have := ih h
      omega
theorem kb1 : kitB "NoneType" "tuple" = some false := by decide +kernel
theorem kb2 : kitB "bool" "tuple" = some false := by decide +kernel
theorem kb3 : kitB "int" "tuple" = some false := by decide +kernel
theorem kb4 : kitB "str" "tuple" = some false := by decide +kernel
theorem kb5 : kitB "tuple" "tuple" = some true := by decide +kernel
theorem kb6 : kitB "bool" "bool" = some true := by decide +kernel
theorem kb7 : kitB "str" "bool" = some false := by decide +kernel
theorem kb8 : kitB "str" "int" = some false := by decide +kernel
theorem kb9 : kitB "str" "str" = some true := by decide +kernel
theorem kb10 : kitB "list" "tuple" = some false := by decide +kernel
theorem kb11 : kitB "list" "list" = some true := by decide +kernel
theorem kb12 : kitB "tuple" "list" = some false := by decide +kernel
theorem kb13 : kitB "int" "list" = some false := by decide +kernel
theorem kb14 : kitB "bool" "int" = some true := by decide +kernel
theorem isi_bool : isi2 "bool" "list" "tuple" = some false := by decide +kernel
theorem isi_str : isi2 "str" "list" "tuple" = some false := by decide +kernel
theorem isi_none : isi2 "NoneType" "list" "tuple" = some false := by decide +kernel
@[simp] theorem e_isNT (f : FE) (ρ : Sl) (m : M) : fIsNT f ρ m = (f ρ m).bind fun d m => .ok d.isN m := nrfl rfl
@[simp] theorem e_notNT (f : FE) (ρ : Sl) (m : M) : fNotNT f ρ m = (f ρ m).bind fun d m => .ok (!d.isN) m := nrfl rfl
@[simp] theorem e_un (g : D → M → Res D) (f : FE) (ρ : Sl) (m : M) : fUn g f ρ m = (f ρ m).bind g := nrfl rfl
@[simp] theorem e_isN (d : D) (m : M) : gIsN d m = .ok (.bl d.isN) m := nrfl rfl
@[simp] theorem e_notN (d : D) (m : M) : gNotN d m = .ok (.bl (!d.isN)) m := nrfl rfl
@[simp] theorem isN_non : D.isN .non = true := nrfl rfl
@[simp] theorem isN_bl (b : Bool) : D.isN (.bl b) = false := nrfl rfl
@[simp] theorem isN_int (i : Int) : D.isN (.int i) = false := nrfl rfl
@[simp] theorem isN_str (x : Str) : D.isN (.str x) = false := nrfl rfl
@[simp] theorem isN_tup (ds : List D) : D.isN (.tup ds) = false := nrfl rfl
@[simp] theorem isN_ref (n : Nat) : D.isN (.ref n) = false := nrfl rfl
@[simp] theorem e_isB (a b : Bool) (m : M) : gIsB (.bl a) (.bl b) m = .ok (.bl (decide (a = b))) m := nrfl rfl
@[simp] theorem e_notB (a b : Bool) (m : M) : gNotB (.bl a) (.bl b) m = .ok (.bl (!decide (a = b))) m := nrfl rfl
theorem gEq_bl (b : Bool) (m : M) : gEq (.bl b) (.bl b) m = .ok (.bl true) m := by cases b <;> rfl
theorem gEq_str (x y : Str) (m : M) : gEq (.str x) (.str y) m = .ok (.bl (decide (x = y))) m := by
  obtain ⟨t, e, h⟩ := gEq_ps (ps_str DEEP m x) (ps_str DEEP m y) (Nat.zero_le _) (Nat.zero_le _)
  rw [e]
  have : t = decide (x = y) := bool_dec (h.trans ⟨fun e => by injection e, fun e => by rw [e]⟩)
  rw [this]
theorem gEq_nils {m : M} {i j : Nat} (hi : m[i]? = some (.lst [])) (hj : m[j]? = some (.lst [])) : gEq (.ref i) (.ref j) m = .ok (.bl true) m := by
  obtain ⟨t, e, h⟩ := gEq_ps (ps_ref hi (pss_nil 2 m)) (ps_ref hj (pss_nil 2 m)) (by omega) (by omega)
  rw [e, h.mpr rfl]
theorem num_smb {d : D} : d.num = true → d.dep ≤ 60 → True := fun _ _ => trivial
end Dl

/-! The walk, printed. -/
namespace K93
open PySem PySem.Spec PyProof.Rows L2 Dl
def top (i : Nat) : Stmt := PySem.Challenge.pw_ownback_k93_whole_clashes_of_many_boards.main.body.getD i (.Pass ⟨0, 0, 0, 0⟩)
abbrev FnP (K : PySem.W.Frag) (x : Str) (st : Stmt) (f : Addr) (fd : FuncData) : Prop := FunD K x x (defArgs st) (defBody st) (defScope st) [] [] f fd
abbrev s_is_integer : Stmt := top 11
abbrev N_is_integer : List Str := ["value"]
abbrev ps_is_integer : List Str := ["value"]
abbrev s_is_number : Stmt := top 12
abbrev N_is_number : List Str := ["value"]
abbrev ps_is_number : List Str := ["value"]
abbrev s_is_below : Stmt := top 13
abbrev N_is_below : List Str := ["value", "most"]
abbrev ps_is_below : List Str := ["value", "most"]
abbrev s_is_sequence : Stmt := top 15
abbrev N_is_sequence : List Str := ["value"]
abbrev ps_is_sequence : List Str := ["value"]
abbrev s_are_below : Stmt := top 16
abbrev N_are_below : List Str := ["value", "most", "one"]
abbrev ps_are_below : List Str := ["value", "most"]
abbrev s_is_map : Stmt := top 19
abbrev N_is_map : List Str := ["value", "boards"]
abbrev ps_is_map : List Str := ["value", "boards"]
abbrev s_are_deeds : Stmt := top 20
abbrev N_are_deeds : List Str := ["value", "boards", "one"]
abbrev ps_are_deeds : List Str := ["value"]
abbrev s_check_machine : Stmt := top 21
abbrev N_check_machine : List Str := ["value", "one"]
abbrev ps_check_machine : List Str := ["value"]
abbrev s_rows_to : Stmt := top 42
abbrev N_rows_to : List Str := ["machine", "start", "deeds", "found", "line", "at", "here", "deed", "made", "board"]
abbrev ps_rows_to : List Str := ["machine"]
abbrev s_clash : Stmt := top 43
abbrev N_clash : List Str := ["machine", "told", "deeds", "board", "row", "one", "made", "other"]
abbrev ps_clash : List Str := ["machine"]
abbrev s_costs_nothing : Stmt := top 44
abbrev N_costs_nothing : List Str := ["machine"]
abbrev ps_costs_nothing : List Str := ["machine"]
abbrev s_two_of_one_rim : Stmt := top 45
abbrev N_two_of_one_rim : List Str := ["machine", "found", "row", "one", "other", "begun", "deed"]
abbrev ps_two_of_one_rim : List Str := ["machine"]
abbrev s_is_positive : Stmt := top 14
abbrev N_is_positive : List Str := ["value"]
abbrev ps_is_positive : List Str := ["value"]
abbrev s_is_hands : Stmt := top 17
abbrev N_is_hands : List Str := ["value"]
abbrev ps_is_hands : List Str := ["value"]
abbrev s_need_hands : Stmt := top 23
abbrev N_need_hands : List Str := ["value"]
abbrev ps_need_hands : List Str := ["value"]
abbrev s_is_letter : Stmt := top 24
abbrev N_is_letter : List Str := ["value", "hands", "deeds"]
abbrev ps_is_letter : List Str := ["value", "hands", "deeds"]
abbrev s_check_row : Stmt := top 25
abbrev N_check_row : List Str := ["hands", "deeds", "value", "at", "letter"]
abbrev ps_check_row : List Str := ["hands", "deeds", "value"]
abbrev s_check_history : Stmt := top 26
abbrev N_check_history : List Str := ["machine", "hands", "value", "rules"]
abbrev ps_check_history : List Str := ["machine", "hands", "value"]
abbrev s_are_counts : Stmt := top 28
abbrev N_are_counts : List Str := ["value", "many"]
abbrev ps_are_counts : List Str := ["value"]
abbrev s_check_part : Stmt := top 33
abbrev N_check_part : List Str := ["value", "boards", "size", "many", "one"]
abbrev ps_check_part : List Str := ["value", "boards"]
abbrev s_need_hand : Stmt := top 34
abbrev N_need_hand : List Str := ["told", "value"]
abbrev ps_need_hand : List Str := ["told", "value"]
abbrev s_need_counts : Stmt := top 29
abbrev N_need_counts : List Str := ["value"]
abbrev ps_need_counts : List Str := ["value"]
abbrev s_vectors : Stmt := top 30
abbrev N_vectors : List Str := ["counts", "found", "many", "vector", "here"]
abbrev ps_vectors : List Str := ["counts"]
abbrev s_is_vector : Stmt := top 31
abbrev N_is_vector : List Str := ["counts", "value", "here", "many"]
abbrev ps_is_vector : List Str := ["counts", "value"]
abbrev s_place_of : Stmt := top 32
abbrev N_place_of : List Str := ["counts", "vector", "told", "found", "here", "many"]
abbrev ps_place_of : List Str := ["counts", "vector"]
abbrev s_part_of : Stmt := top 35
abbrev N_part_of : List Str := ["table", "vector", "told", "one"]
abbrev ps_part_of : List Str := ["table", "vector"]
abbrev s_rim : Stmt := top 36
abbrev N_rim : List Str := ["table", "hand", "told", "alone", "place", "many"]
abbrev ps_rim : List Str := ["table", "hand"]
abbrev s_first_table : Stmt := top 37
abbrev N_first_table : List Str := ["machine", "hands", "told"]
abbrev ps_first_table : List Str := ["machine", "hands"]
abbrev s_grown : Stmt := top 38
abbrev N_grown : List Str := ["machine", "told", "hand", "deed", "counts", "step", "found", "vector", "less", "place", "many"]
abbrev ps_grown : List Str := ["machine", "told", "hand", "deed"]
abbrev s_table_of : Stmt := top 39
abbrev N_table_of : List Str := ["machine", "hands", "history", "rules", "found", "hand", "deed"]
abbrev ps_table_of : List Str := ["machine", "hands", "history"]
abbrev s_is_row_of : Stmt := top 46
abbrev N_is_row_of : List Str := ["machine", "hands", "value"]
abbrev ps_is_row_of : List Str := ["machine", "hands", "value"]
abbrev s_rims_hold : Stmt := top 47
abbrev N_rims_hold : List Str := ["machine", "hands", "value", "told", "one", "other", "line", "hand"]
abbrev ps_rims_hold : List Str := ["machine", "hands", "value"]
abbrev s__law_box : Stmt := top 49
abbrev N__law_box : List Str := ["script", "k", "cell", "great"]
abbrev ps__law_box : List Str := ["script", "k"]
abbrev s__law_take : Stmt := top 50
abbrev N__law_take : List Str := ["box", "many", "digit", "raw"]
abbrev ps__law_take : List Str := ["box", "many"]
abbrev s__law_same : Stmt := top 52
abbrev N__law_same : List Str := ["told", "due", "place"]
abbrev ps__law_same : List Str := ["told", "due"]
abbrev s__law_pick : Stmt := top 51
abbrev N__law_pick : List Str := ["box", "some"]
abbrev ps__law_pick : List Str := ["box", "some"]
abbrev s__law_rings : Stmt := top 57
abbrev N__law_rings : List Str := ["many", "one", "other", "cut", "board"]
abbrev ps__law_rings : List Str := ["many", "one", "other"]
abbrev s__law_map : Stmt := top 58
abbrev N__law_map : List Str := ["box", "many", "style", "by", "other", "board"]
abbrev ps__law_map : List Str := ["box", "many", "style"]
abbrev s__law_machine : Stmt := top 59
abbrev N__law_machine : List Str := ["box", "many", "style", "maps", "turn", "row", "left", "names", "found", "made", "board", "deed"]
abbrev ps__law_machine : List Str := ["box"]
abbrev s__law_rows : Stmt := top 60
abbrev N__law_rows : List Str := ["machine", "found", "at", "deed", "row", "goal", "board", "deeds"]
abbrev ps__law_rows : List Str := ["machine"]
abbrev s__law_clash : Stmt := top 61
abbrev N__law_clash : List Str := ["machine", "board", "deeds", "one", "first", "other", "second"]
abbrev ps__law_clash : List Str := ["machine"]
abbrev s__law_pair : Stmt := top 62
abbrev N__law_pair : List Str := ["found", "ahead", "deed"]
abbrev ps__law_pair : List Str := ["found"]
abbrev s__law_mixed : Stmt := top 63
abbrev N__law_mixed : List Str := ["box", "hands", "history", "rows", "found", "turn", "row", "hand", "one"]
abbrev ps__law_mixed : List Str := ["box", "hands", "history"]
abbrev s__law_counts : Stmt := top 53
abbrev N__law_counts : List Str := ["hands", "history", "hand", "one"]
abbrev ps__law_counts : List Str := ["hands", "history"]
abbrev s__law_vectors : Stmt := top 54
abbrev N__law_vectors : List Str := ["counts", "found", "many", "longer", "vector", "here"]
abbrev ps__law_vectors : List Str := ["counts"]
abbrev s__law_board : Stmt := top 55
abbrev N__law_board : List Str := ["machine", "history", "vector", "board", "left", "hand", "deed"]
abbrev ps__law_board : List Str := ["machine", "history", "vector"]
abbrev s__law_table : Stmt := top 56
abbrev N__law_table : List Str := ["machine", "hands", "history", "counts", "vector"]
abbrev ps__law_table : List Str := ["machine", "hands", "history"]
abbrev s__law_rims : Stmt := top 64
abbrev N__law_rims : List Str := ["machine", "hands", "history", "found", "hand", "row", "one", "deed"]
abbrev ps__law_rims : List Str := ["machine", "hands", "history"]
abbrev s__law_holds : Stmt := top 65
abbrev N__law_holds : List Str := ["machine", "hands", "one", "other"]
abbrev ps__law_holds : List Str := ["machine", "hands", "one", "other"]
abbrev s__law_rims_right : Stmt := top 66
abbrev N__law_rims_right : List Str := ["box", "machine", "hands", "many", "one", "other", "at", "value", "turn"]
abbrev ps__law_rims_right : List Str := ["box", "machine", "hands"]
abbrev s_law : Stmt := top 67
abbrev N_law : List Str := ["script", "k", "box", "machine", "hands", "found", "turn"]
abbrev ps_law : List Str := ["script"]
def pm_2_1_0 {α : Type} : List α → List α := fun l => match l with
  | [a0, a1, a2] => [a2, a1, a0]
  | l => l
/-- what the head tells -/
structure Hd (K : PySem.W.Frag) (mg : Str → Option Value) : Prop where
  d_is_integer : ∃ fd, FnP K "is_integer" s_is_integer (He.ga K "is_integer") fd
  g_is_integer : mg "is_integer" = some (.ref (He.ga K "is_integer"))
  d_is_number : ∃ fd, FnP K "is_number" s_is_number (He.ga K "is_number") fd
  g_is_number : mg "is_number" = some (.ref (He.ga K "is_number"))
  d_is_below : ∃ fd, FnP K "is_below" s_is_below (He.ga K "is_below") fd
  g_is_below : mg "is_below" = some (.ref (He.ga K "is_below"))
  d_is_sequence : ∃ fd, FnP K "is_sequence" s_is_sequence (He.ga K "is_sequence") fd
  g_is_sequence : mg "is_sequence" = some (.ref (He.ga K "is_sequence"))
  d_are_below : ∃ fd, FnP K "are_below" s_are_below (He.ga K "are_below") fd
  g_are_below : mg "are_below" = some (.ref (He.ga K "are_below"))
  d_is_map : ∃ fd, FnP K "is_map" s_is_map (He.ga K "is_map") fd
  g_is_map : mg "is_map" = some (.ref (He.ga K "is_map"))
  d_are_deeds : ∃ fd, FnP K "are_deeds" s_are_deeds (He.ga K "are_deeds") fd
  g_are_deeds : mg "are_deeds" = some (.ref (He.ga K "are_deeds"))
  d_check_machine : ∃ fd, FnP K "check_machine" s_check_machine (He.ga K "check_machine") fd
  g_check_machine : mg "check_machine" = some (.ref (He.ga K "check_machine"))
  d_rows_to : ∃ fd, FnP K "rows_to" s_rows_to (He.ga K "rows_to") fd
  g_rows_to : mg "rows_to" = some (.ref (He.ga K "rows_to"))
  d_clash : ∃ fd, FnP K "clash" s_clash (He.ga K "clash") fd
  g_clash : mg "clash" = some (.ref (He.ga K "clash"))
  d_costs_nothing : ∃ fd, FnP K "costs_nothing" s_costs_nothing (He.ga K "costs_nothing") fd
  g_costs_nothing : mg "costs_nothing" = some (.ref (He.ga K "costs_nothing"))
  d_two_of_one_rim : ∃ fd, FnP K "two_of_one_rim" s_two_of_one_rim (He.ga K "two_of_one_rim") fd
  g_two_of_one_rim : mg "two_of_one_rim" = some (.ref (He.ga K "two_of_one_rim"))
  d_is_positive : ∃ fd, FnP K "is_positive" s_is_positive (He.ga K "is_positive") fd
  g_is_positive : mg "is_positive" = some (.ref (He.ga K "is_positive"))
  d_is_hands : ∃ fd, FnP K "is_hands" s_is_hands (He.ga K "is_hands") fd
  g_is_hands : mg "is_hands" = some (.ref (He.ga K "is_hands"))
  d_need_hands : ∃ fd, FnP K "need_hands" s_need_hands (He.ga K "need_hands") fd
  g_need_hands : mg "need_hands" = some (.ref (He.ga K "need_hands"))
  d_is_letter : ∃ fd, FnP K "is_letter" s_is_letter (He.ga K "is_letter") fd
  g_is_letter : mg "is_letter" = some (.ref (He.ga K "is_letter"))
  d_check_row : ∃ fd, FnP K "check_row" s_check_row (He.ga K "check_row") fd
  g_check_row : mg "check_row" = some (.ref (He.ga K "check_row"))
  d_check_history : ∃ fd, FnP K "check_history" s_check_history (He.ga K "check_history") fd
  g_check_history : mg "check_history" = some (.ref (He.ga K "check_history"))
  d_are_counts : ∃ fd, FnP K "are_counts" s_are_counts (He.ga K "are_counts") fd
  g_are_counts : mg "are_counts" = some (.ref (He.ga K "are_counts"))
  d_check_part : ∃ fd, FnP K "check_part" s_check_part (He.ga K "check_part") fd
  g_check_part : mg "check_part" = some (.ref (He.ga K "check_part"))
  d_need_hand : ∃ fd, FnP K "need_hand" s_need_hand (He.ga K "need_hand") fd
  g_need_hand : mg "need_hand" = some (.ref (He.ga K "need_hand"))
  d_need_counts : ∃ fd, FnP K "need_counts" s_need_counts (He.ga K "need_counts") fd
  g_need_counts : mg "need_counts" = some (.ref (He.ga K "need_counts"))
  d_vectors : ∃ fd, FnP K "vectors" s_vectors (He.ga K "vectors") fd
  g_vectors : mg "vectors" = some (.ref (He.ga K "vectors"))
  d_is_vector : ∃ fd, FnP K "is_vector" s_is_vector (He.ga K "is_vector") fd
  g_is_vector : mg "is_vector" = some (.ref (He.ga K "is_vector"))
  d_place_of : ∃ fd, FnP K "place_of" s_place_of (He.ga K "place_of") fd
  g_place_of : mg "place_of" = some (.ref (He.ga K "place_of"))
  d_part_of : ∃ fd, FnP K "part_of" s_part_of (He.ga K "part_of") fd
  g_part_of : mg "part_of" = some (.ref (He.ga K "part_of"))
  d_rim : ∃ fd, FnP K "rim" s_rim (He.ga K "rim") fd
  g_rim : mg "rim" = some (.ref (He.ga K "rim"))
  d_first_table : ∃ fd, FnP K "first_table" s_first_table (He.ga K "first_table") fd
  g_first_table : mg "first_table" = some (.ref (He.ga K "first_table"))
  d_grown : ∃ fd, FnP K "grown" s_grown (He.ga K "grown") fd
  g_grown : mg "grown" = some (.ref (He.ga K "grown"))
  d_table_of : ∃ fd, FnP K "table_of" s_table_of (He.ga K "table_of") fd
  g_table_of : mg "table_of" = some (.ref (He.ga K "table_of"))
  d_is_row_of : ∃ fd, FnP K "is_row_of" s_is_row_of (He.ga K "is_row_of") fd
  g_is_row_of : mg "is_row_of" = some (.ref (He.ga K "is_row_of"))
  d_rims_hold : ∃ fd, FnP K "rims_hold" s_rims_hold (He.ga K "rims_hold") fd
  g_rims_hold : mg "rims_hold" = some (.ref (He.ga K "rims_hold"))
  d__law_box : ∃ fd, FnP K "_law_box" s__law_box (He.ga K "_law_box") fd
  g__law_box : mg "_law_box" = some (.ref (He.ga K "_law_box"))
  d__law_take : ∃ fd, FnP K "_law_take" s__law_take (He.ga K "_law_take") fd
  g__law_take : mg "_law_take" = some (.ref (He.ga K "_law_take"))
  d__law_same : ∃ fd, FnP K "_law_same" s__law_same (He.ga K "_law_same") fd
  g__law_same : mg "_law_same" = some (.ref (He.ga K "_law_same"))
  d__law_pick : ∃ fd, FnP K "_law_pick" s__law_pick (He.ga K "_law_pick") fd
  g__law_pick : mg "_law_pick" = some (.ref (He.ga K "_law_pick"))
  d__law_rings : ∃ fd, FnP K "_law_rings" s__law_rings (He.ga K "_law_rings") fd
  g__law_rings : mg "_law_rings" = some (.ref (He.ga K "_law_rings"))
  d__law_map : ∃ fd, FnP K "_law_map" s__law_map (He.ga K "_law_map") fd
  g__law_map : mg "_law_map" = some (.ref (He.ga K "_law_map"))
  d__law_machine : ∃ fd, FnP K "_law_machine" s__law_machine (He.ga K "_law_machine") fd
  g__law_machine : mg "_law_machine" = some (.ref (He.ga K "_law_machine"))
  d__law_rows : ∃ fd, FnP K "_law_rows" s__law_rows (He.ga K "_law_rows") fd
  g__law_rows : mg "_law_rows" = some (.ref (He.ga K "_law_rows"))
  d__law_clash : ∃ fd, FnP K "_law_clash" s__law_clash (He.ga K "_law_clash") fd
  g__law_clash : mg "_law_clash" = some (.ref (He.ga K "_law_clash"))
  d__law_pair : ∃ fd, FnP K "_law_pair" s__law_pair (He.ga K "_law_pair") fd
  g__law_pair : mg "_law_pair" = some (.ref (He.ga K "_law_pair"))
  d__law_mixed : ∃ fd, FnP K "_law_mixed" s__law_mixed (He.ga K "_law_mixed") fd
  g__law_mixed : mg "_law_mixed" = some (.ref (He.ga K "_law_mixed"))
  d__law_counts : ∃ fd, FnP K "_law_counts" s__law_counts (He.ga K "_law_counts") fd
  g__law_counts : mg "_law_counts" = some (.ref (He.ga K "_law_counts"))
  d__law_vectors : ∃ fd, FnP K "_law_vectors" s__law_vectors (He.ga K "_law_vectors") fd
  g__law_vectors : mg "_law_vectors" = some (.ref (He.ga K "_law_vectors"))
  d__law_board : ∃ fd, FnP K "_law_board" s__law_board (He.ga K "_law_board") fd
  g__law_board : mg "_law_board" = some (.ref (He.ga K "_law_board"))
  d__law_table : ∃ fd, FnP K "_law_table" s__law_table (He.ga K "_law_table") fd
  g__law_table : mg "_law_table" = some (.ref (He.ga K "_law_table"))
  d__law_rims : ∃ fd, FnP K "_law_rims" s__law_rims (He.ga K "_law_rims") fd
  g__law_rims : mg "_law_rims" = some (.ref (He.ga K "_law_rims"))
  d__law_holds : ∃ fd, FnP K "_law_holds" s__law_holds (He.ga K "_law_holds") fd
  g__law_holds : mg "_law_holds" = some (.ref (He.ga K "_law_holds"))
  d__law_rims_right : ∃ fd, FnP K "_law_rims_right" s__law_rims_right (He.ga K "_law_rims_right") fd
  g__law_rims_right : mg "_law_rims_right" = some (.ref (He.ga K "_law_rims_right"))
  d_law : ∃ fd, FnP K "law" s_law (He.ga K "law") fd
  g_law : mg "law" = some (.ref (He.ga K "law"))
  b_abs : mg "abs" = none
  b_all : mg "all" = none
  b_bool : mg "bool" = none
  b_enumerate : mg "enumerate" = none
  b_int : mg "int" = none
  b_isinstance : mg "isinstance" = none
  b_len : mg "len" = none
  b_list : mg "list" = none
  b_min : mg "min" = none
  b_range : mg "range" = none
  b_str : mg "str" = none
  b_tuple : mg "tuple" = none
  b_zip : mg "zip" = none
  i_MOST_BOARDS : ∃ t, mg "MOST_BOARDS" = some (.int 8 t)
  i_MOST_DEEDS : ∃ t, mg "MOST_DEEDS" = some (.int 6 t)
  i_MOST_HANDS : ∃ t, mg "MOST_HANDS" = some (.int 4 t)
  i_TWO : ∃ t, mg "TWO" = some (.int 2 t)
theorem b_abs {K : PySem.W.Frag} {mg : Str → Option Value} (h : Hd K mg) : mg "abs" = none := h.b_abs
theorem b_all {K : PySem.W.Frag} {mg : Str → Option Value} (h : Hd K mg) : mg "all" = none := h.b_all
theorem b_bool {K : PySem.W.Frag} {mg : Str → Option Value} (h : Hd K mg) : mg "bool" = none := h.b_bool
theorem b_enumerate {K : PySem.W.Frag} {mg : Str → Option Value} (h : Hd K mg) : mg "enumerate" = none := h.b_enumerate
theorem b_int {K : PySem.W.Frag} {mg : Str → Option Value} (h : Hd K mg) : mg "int" = none := h.b_int
theorem b_isinstance {K : PySem.W.Frag} {mg : Str → Option Value} (h : Hd K mg) : mg "isinstance" = none := h.b_isinstance
theorem b_len {K : PySem.W.Frag} {mg : Str → Option Value} (h : Hd K mg) : mg "len" = none := h.b_len
theorem b_list {K : PySem.W.Frag} {mg : Str → Option Value} (h : Hd K mg) : mg "list" = none := h.b_list
theorem b_min {K : PySem.W.Frag} {mg : Str → Option Value} (h : Hd K mg) : mg "min" = none := h.b_min
theorem b_range {K : PySem.W.Frag} {mg : Str → Option Value} (h : Hd K mg) : mg "range" = none := h.b_range
theorem b_str {K : PySem.W.Frag} {mg : Str → Option Value} (h : Hd K mg) : mg "str" = none := h.b_str
theorem b_tuple {K : PySem.W.Frag} {mg : Str → Option Value} (h : Hd K mg) : mg "tuple" = none := h.b_tuple
theorem b_zip {K : PySem.W.Frag} {mg : Str → Option Value} (h : Hd K mg) : mg "zip" = none := h.b_zip
theorem i_MOST_BOARDS {K : PySem.W.Frag} {mg : Str → Option Value} (h : Hd K mg) : ∃ t, mg "MOST_BOARDS" = some (.int 8 t) := h.i_MOST_BOARDS
theorem i_MOST_DEEDS {K : PySem.W.Frag} {mg : Str → Option Value} (h : Hd K mg) : ∃ t, mg "MOST_DEEDS" = some (.int 6 t) := h.i_MOST_DEEDS
theorem i_MOST_HANDS {K : PySem.W.Frag} {mg : Str → Option Value} (h : Hd K mg) : ∃ t, mg "MOST_HANDS" = some (.int 4 t) := h.i_MOST_HANDS
theorem i_TWO {K : PySem.W.Frag} {mg : Str → Option Value} (h : Hd K mg) : ∃ t, mg "TWO" = some (.int 2 t) := h.i_TWO
theorem pm_2_1_0_ok : Perm pm_2_1_0 where
  len := fun l => by unfold pm_2_1_0; split <;> rfl
  vals := fun r => by
    cases r with
    | nil => exact .nil
    | cons r0 t =>
      cases t with
      | nil => exact (.cons r0 .nil)
      | cons r1 t =>
        cases t with
        | nil => exact (.cons r0 (.cons r1 .nil))
        | cons r2 t =>
          cases t with
          | nil => exact (.cons r2 (.cons r1 (.cons r0 .nil)))
          | cons r3 t => exact (.cons r0 (.cons r1 (.cons r2 (.cons r3 t))))
  rpa := fun r => by
    cases r with
    | nil => exact .nil
    | cons r0 t =>
      cases t with
      | nil => exact (.cons r0 .nil)
      | cons r1 t =>
        cases t with
        | nil => exact (.cons r0 (.cons r1 .nil))
        | cons r2 t =>
          cases t with
          | nil => exact (.cons r2 (.cons r1 (.cons r0 .nil)))
          | cons r3 t => exact (.cons r0 (.cons r1 (.cons r2 (.cons r3 t))))
/-! ### is_integer -/
noncomputable def g_is_integer : FS :=
 (sRet (fAndV (fIsi "int" (fVar 0)) (fNotV (fIsi "bool" (fVar 0)))))
noncomputable def F_is_integer : List D → M → Res D := runF 1 1 g_is_integer
theorem sc_is_integer : FnScope N_is_integer ps_is_integer (defScope s_is_integer) := C8.fnScope_by (by decide +kernel)
theorem fn_is_integer {P : Program} {w : World} {K : PySem.W.Frag} {mg : Str → Option Value} {base : Heap} (h : Hd K mg) {fd : FuncData} (D0 : FnP K "is_integer" s_is_integer (He.ga K "is_integer") fd) : FnG P w K mg base 1 (He.ga K "is_integer") fd ps_is_integer F_is_integer := by
  refine fng_of (N := N_is_integer) (W := WF) D0 sc_is_integer fun cdv A outer s H room gu => ?_
  exact (pssd_one (psd_ret (pd_and (Dl.b_isi (T := "int") rfl (b_isinstance h) rfl (b_int h) (by decide +kernel) (pd_var 0)) (pd_one (pd_not (Dl.b_isi (T := "bool") rfl (b_isinstance h) rfl (b_bool h) (by decide +kernel) (pd_var 0)))))))
theorem c_is_integer {P : Program} {w : World} {K : PySem.W.Frag} {mg : Str → Option Value} {base : Heap} (h : Hd K mg) : Cle P w K mg base 1 "is_integer" 1 F_is_integer := by
  obtain ⟨fd, D0⟩ := h.d_is_integer
  exact cle_of D0 h.g_is_integer rfl (fn_is_integer h D0) fun _ _ _ _ _ _ us hl => match us, hl with | [_], _ => rfl
/-! ### is_number -/
noncomputable def g_is_number : FS :=
 (sRet (fAndV (fCall F_is_integer (fCons (fVar 0) fNil)) (fOp gGe (fVar 0) (fC (.int 0)))))
noncomputable def F_is_number : List D → M → Res D := runF 1 1 g_is_number
theorem sc_is_number : FnScope N_is_number ps_is_number (defScope s_is_number) := C8.fnScope_by (by decide +kernel)
theorem fn_is_number {P : Program} {w : World} {K : PySem.W.Frag} {mg : Str → Option Value} {base : Heap} (h : Hd K mg) {fd : FuncData} (D0 : FnP K "is_number" s_is_number (He.ga K "is_number") fd) : FnG P w K mg base 2 (He.ga K "is_number") fd ps_is_number F_is_number := by
  refine fng_of (N := N_is_number) (W := WF) D0 sc_is_number fun cdv A outer s H room gu => ?_
  exact (pssd_one (psd_ret (pd_and (pd_call (c_is_integer h) nPar_run room (by decide) gu rfl (pad_cons (pd_var 0) pad_nil)) (pd_one (pd_ge (pd_var 0) pd_int)))))
theorem c_is_number {P : Program} {w : World} {K : PySem.W.Frag} {mg : Str → Option Value} {base : Heap} (h : Hd K mg) : Cle P w K mg base 2 "is_number" 1 F_is_number := by
  obtain ⟨fd, D0⟩ := h.d_is_number
  exact cle_of D0 h.g_is_number rfl (fn_is_number h D0) fun _ _ _ _ _ _ us hl => match us, hl with | [_], _ => rfl
/-! ### is_below -/
noncomputable def g_is_below : FS :=
 (sRet (fAndV (fCall F_is_number (fCons (fVar 0) fNil)) (fOp gLt (fVar 0) (fVar 1))))
noncomputable def F_is_below : List D → M → Res D := runF 2 2 g_is_below
theorem sc_is_below : FnScope N_is_below ps_is_below (defScope s_is_below) := C8.fnScope_by (by decide +kernel)
theorem fn_is_below {P : Program} {w : World} {K : PySem.W.Frag} {mg : Str → Option Value} {base : Heap} (h : Hd K mg) {fd : FuncData} (D0 : FnP K "is_below" s_is_below (He.ga K "is_below") fd) : FnG P w K mg base 3 (He.ga K "is_below") fd ps_is_below F_is_below := by
  refine fng_of (N := N_is_below) (W := WF) D0 sc_is_below fun cdv A outer s H room gu => ?_
  exact (pssd_one (psd_ret (pd_and (pd_call (c_is_number h) nPar_run room (by decide) gu rfl (pad_cons (pd_var 0) pad_nil)) (pd_one (pd_lt (pd_var 0) (pd_var 1))))))
theorem c_is_below {P : Program} {w : World} {K : PySem.W.Frag} {mg : Str → Option Value} {base : Heap} (h : Hd K mg) : Cle P w K mg base 3 "is_below" 2 F_is_below := by
  obtain ⟨fd, D0⟩ := h.d_is_below
  exact cle_of D0 h.g_is_below rfl (fn_is_below h D0) fun _ _ _ _ _ _ us hl => match us, hl with | [_, _], _ => rfl
/-! ### is_sequence -/
noncomputable def g_is_sequence : FS :=
 (sRet (fIsi2 "list" "tuple" (fVar 0)))
noncomputable def F_is_sequence : List D → M → Res D := runF 1 1 g_is_sequence
theorem sc_is_sequence : FnScope N_is_sequence ps_is_sequence (defScope s_is_sequence) := C8.fnScope_by (by decide +kernel)
theorem fn_is_sequence {P : Program} {w : World} {K : PySem.W.Frag} {mg : Str → Option Value} {base : Heap} (h : Hd K mg) {fd : FuncData} (D0 : FnP K "is_sequence" s_is_sequence (He.ga K "is_sequence") fd) : FnG P w K mg base 1 (He.ga K "is_sequence") fd ps_is_sequence F_is_sequence := by
  refine fng_of (N := N_is_sequence) (W := WF) D0 sc_is_sequence fun cdv A outer s H room gu => ?_
  exact (pssd_one (psd_ret (pd_isi2 (T1 := "list") (T2 := "tuple") rfl (b_isinstance h) rfl (b_list h) (by decide +kernel) rfl (b_tuple h) (by decide +kernel) (pd_var 0))))
theorem c_is_sequence {P : Program} {w : World} {K : PySem.W.Frag} {mg : Str → Option Value} {base : Heap} (h : Hd K mg) : Cle P w K mg base 1 "is_sequence" 1 F_is_sequence := by
  obtain ⟨fd, D0⟩ := h.d_is_sequence
  exact cle_of D0 h.g_is_sequence rfl (fn_is_sequence h D0) fun _ _ _ _ _ _ us hl => match us, hl with | [_], _ => rfl
/-! ### are_below -/
noncomputable def g_are_below : FS :=
 (sRet (fAndV (fCall F_is_sequence (fCons (fVar 0) fNil)) (fCB gAllL (fLc (fWalk (fVar 0)) (gN 2) [2] fYes (fCall F_is_below (fCons (fVar 2) (fCons (fVar 1) fNil)))))))
noncomputable def F_are_below : List D → M → Res D := runF 3 2 g_are_below
theorem sc_are_below : FnScope N_are_below ps_are_below (defScope s_are_below) := C8.fnScope_by (by decide +kernel)
theorem fn_are_below {P : Program} {w : World} {K : PySem.W.Frag} {mg : Str → Option Value} {base : Heap} (h : Hd K mg) {fd : FuncData} (D0 : FnP K "are_below" s_are_below (He.ga K "are_below") fd) : FnG P w K mg base 4 (He.ga K "are_below") fd ps_are_below F_are_below := by
  refine fng_of (N := N_are_below) (W := WF) D0 sc_are_below fun cdv A outer s H room gu => ?_
  exact (pssd_one (psd_ret (pd_and (pd_call (c_is_sequence h) nPar_run room (by decide) gu rfl (pad_cons (pd_var 0) pad_nil)) (pd_one (Dl.b_allL rfl rfl (b_all h) (pld_lc (own := [("one", 2)]) rfl sc_are_below.nd (pid_seq (pd_var 0)) (blkOk_by (N := N_are_below) (sc := defScope s_are_below) (own := [("one", 2)]) (by decide +kernel)) (fun _ _ _ _ _ => (pgd_name (i := 2) sc_are_below.nd rfl (by first | exact Or.inl rfl | exact Or.inr rfl))) (fun _ _ _ _ _ => ptsd_nil) (fun _ _ _ _ _ => (pd_call (c_is_below h) nPar_run room (by decide) gu rfl (pad_cons (pd_var 2) (pad_cons (pd_var 1) pad_nil)))) (by decide)))))))
theorem c_are_below {P : Program} {w : World} {K : PySem.W.Frag} {mg : Str → Option Value} {base : Heap} (h : Hd K mg) : Cle P w K mg base 4 "are_below" 2 F_are_below := by
  obtain ⟨fd, D0⟩ := h.d_are_below
  exact cle_of D0 h.g_are_below rfl (fn_are_below h D0) fun _ _ _ _ _ _ us hl => match us, hl with | [_, _], _ => rfl
/-! ### is_map -/
noncomputable def g_is_map : FS :=
 (sRet (fAndV (fCall F_are_below (fCons (fVar 0) (fCons (fVar 1) fNil))) (fOp gEq (fCB gLen (fCons (fVar 0) fNil)) (fVar 1))))
noncomputable def F_is_map : List D → M → Res D := runF 2 2 g_is_map
theorem sc_is_map : FnScope N_is_map ps_is_map (defScope s_is_map) := C8.fnScope_by (by decide +kernel)
theorem fn_is_map {P : Program} {w : World} {K : PySem.W.Frag} {mg : Str → Option Value} {base : Heap} (h : Hd K mg) {fd : FuncData} (D0 : FnP K "is_map" s_is_map (He.ga K "is_map") fd) : FnG P w K mg base 5 (He.ga K "is_map") fd ps_is_map F_is_map := by
  refine fng_of (N := N_is_map) (W := WF) D0 sc_is_map fun cdv A outer s H room gu => ?_
  exact (pssd_one (psd_ret (pd_and (pd_call (c_are_below h) nPar_run room (by decide) gu rfl (pad_cons (pd_var 0) (pad_cons (pd_var 1) pad_nil))) (pd_one (pd_eq (room_units room) (Dl.b_len rfl (b_len h) (pd_var 0)) (pd_var 1))))))
theorem c_is_map {P : Program} {w : World} {K : PySem.W.Frag} {mg : Str → Option Value} {base : Heap} (h : Hd K mg) : Cle P w K mg base 5 "is_map" 2 F_is_map := by
  obtain ⟨fd, D0⟩ := h.d_is_map
  exact cle_of D0 h.g_is_map rfl (fn_is_map h D0) fun _ _ _ _ _ _ us hl => match us, hl with | [_, _], _ => rfl
/-! ### are_deeds -/
noncomputable def g_are_deeds : FS :=
 (sSeq (sIf (fOrT (fNotT (fTest (fCall F_is_sequence (fCons (fVar 0) fNil)))) (fOrT (fNotT (fTest (fChain gLe gLe (fC (.int 1)) (fCB gLen (fCons (fVar 0) fNil)) (fC (.int 6))))) (fNotT (fTest (fCall F_is_sequence (fCons (fOp gIx (fVar 0) (fC (.int 0))) fNil))))))
 (sRet (fC (.bl false)))
 sNext)
 (sSeq (sSet 1 (fCB gLen (fCons (fOp gIx (fVar 0) (fC (.int 0))) fNil)))
 (sRet (fAndV (fChain gLe gLe (fC (.int 1)) (fVar 1) (fC (.int 8))) (fCB gAllL (fLc (fWalk (fVar 0)) (gN 2) [2] fYes (fCall F_is_map (fCons (fVar 2) (fCons (fVar 1) fNil)))))))))
noncomputable def F_are_deeds : List D → M → Res D := runF 3 1 g_are_deeds
theorem sc_are_deeds : FnScope N_are_deeds ps_are_deeds (defScope s_are_deeds) := C8.fnScope_by (by decide +kernel)
theorem fn_are_deeds {P : Program} {w : World} {K : PySem.W.Frag} {mg : Str → Option Value} {base : Heap} (h : Hd K mg) {fd : FuncData} (D0 : FnP K "are_deeds" s_are_deeds (He.ga K "are_deeds") fd) : FnG P w K mg base 6 (He.ga K "are_deeds") fd ps_are_deeds F_are_deeds := by
  refine fng_of (N := N_are_deeds) (W := WF) D0 sc_are_deeds fun cdv A outer s H room gu => ?_
  exact (pssd_cons (psd_if (ptd_w (pwd_or (ptd_not (ptd_val (pd_call (c_is_sequence h) nPar_run room (by decide) gu rfl (pad_cons (pd_var 0) pad_nil)))) (pwd_or (ptd_not (ptd_chain op_le op_le opd_le opd_le pd_int (Dl.b_len rfl (b_len h) (pd_var 0)) (pd_glob rfl (i_MOST_DEEDS h)))) (pwd_or1 (ptd_not (ptd_val (pd_call (c_is_sequence h) nPar_run room (by decide) gu rfl (pad_cons (pd_ix (room_units room) (pd_var 0) pd_int) pad_nil))))))))
 (pssd_one (psd_ret pd_bl))
 pssd_nil)
 (pssd_cons (psd_set (i := 1) sc_are_deeds.nd rfl (by first | exact Or.inl rfl | exact Or.inr rfl) (Dl.b_len rfl (b_len h) (pd_ix (room_units room) (pd_var 0) pd_int)))
 (pssd_one (psd_ret (pd_and (pd_chain op_le op_le opd_le opd_le pd_int (pd_var 1) (pd_glob rfl (i_MOST_BOARDS h))) (pd_one (Dl.b_allL rfl rfl (b_all h) (pld_lc (own := [("one", 2)]) rfl sc_are_deeds.nd (pid_seq (pd_var 0)) (blkOk_by (N := N_are_deeds) (sc := defScope s_are_deeds) (own := [("one", 2)]) (by decide +kernel)) (fun _ _ _ _ _ => (pgd_name (i := 2) sc_are_deeds.nd rfl (by first | exact Or.inl rfl | exact Or.inr rfl))) (fun _ _ _ _ _ => ptsd_nil) (fun _ _ _ _ _ => (pd_call (c_is_map h) nPar_run room (by decide) gu rfl (pad_cons (pd_var 2) (pad_cons (pd_var 1) pad_nil)))) (by decide)))))))))
theorem c_are_deeds {P : Program} {w : World} {K : PySem.W.Frag} {mg : Str → Option Value} {base : Heap} (h : Hd K mg) : Cle P w K mg base 6 "are_deeds" 1 F_are_deeds := by
  obtain ⟨fd, D0⟩ := h.d_are_deeds
  exact cle_of D0 h.g_are_deeds rfl (fn_are_deeds h D0) fun _ _ _ _ _ _ us hl => match us, hl with | [_], _ => rfl
/-! ### check_machine -/
noncomputable def g_check_machine : FS :=
 (sSeq (sIf (fOrT (fNotT (fTest (fCall F_is_sequence (fCons (fVar 0) fNil)))) (fTest (fOp gNe (fCB gLen (fCons (fVar 0) fNil)) (fC (.int 2)))))
 sNever
 sNext)
 (sSeq (sIf (fNotT (fTest (fCall F_are_deeds (fCons (fOp gIx (fVar 0) (fC (.int 1))) fNil))))
 sNever
 sNext)
 (sSeq (sIf (fNotT (fTest (fCall F_is_below (fCons (fOp gIx (fVar 0) (fC (.int 0))) (fCons (fCB gLen (fCons (fOp gIx (fOp gIx (fVar 0) (fC (.int 1))) (fC (.int 0))) fNil)) fNil)))))
 sNever
 sNext)
 (sRet (fTup (fCons (fOp gIx (fVar 0) (fC (.int 0))) (fCons (fCB gTupleL (fLc (fWalk (fOp gIx (fVar 0) (fC (.int 1)))) (gN 1) [1] fYes (fCB gTuple (fCons (fVar 1) fNil)))) fNil)))))))
noncomputable def F_check_machine : List D → M → Res D := runF 2 1 g_check_machine
theorem sc_check_machine : FnScope N_check_machine ps_check_machine (defScope s_check_machine) := C8.fnScope_by (by decide +kernel)
theorem fn_check_machine {P : Program} {w : World} {K : PySem.W.Frag} {mg : Str → Option Value} {base : Heap} (h : Hd K mg) {fd : FuncData} (D0 : FnP K "check_machine" s_check_machine (He.ga K "check_machine") fd) : FnG P w K mg base 7 (He.ga K "check_machine") fd ps_check_machine F_check_machine := by
  refine fng_of (N := N_check_machine) (W := WF) D0 sc_check_machine fun cdv A outer s H room gu => ?_
  exact (pssd_cons (psd_if (ptd_w (pwd_or (ptd_not (ptd_val (pd_call (c_is_sequence h) nPar_run room (by decide) gu rfl (pad_cons (pd_var 0) pad_nil)))) (pwd_or1 (ptd_ne (room_units room) (Dl.b_len rfl (b_len h) (pd_var 0)) pd_int))))
 (pssd_one psd_never)
 pssd_nil)
 (pssd_cons (psd_if (ptd_not (ptd_val (pd_call (c_are_deeds h) nPar_run room (by decide) gu rfl (pad_cons (pd_ix (room_units room) (pd_var 0) pd_int) pad_nil))))
 (pssd_one psd_never)
 pssd_nil)
 (pssd_cons (psd_if (ptd_not (ptd_val (pd_call (c_is_below h) nPar_run room (by decide) gu rfl (pad_cons (pd_ix (room_units room) (pd_var 0) pd_int) (pad_cons (Dl.b_len rfl (b_len h) (pd_ix (room_units room) (pd_ix (room_units room) (pd_var 0) pd_int) pd_int)) pad_nil)))))
 (pssd_one psd_never)
 pssd_nil)
 (pssd_one (psd_ret (pd_tup (pad_cons (pd_ix (room_units room) (pd_var 0) pd_int) (pad_cons (Dl.b_tupleL rfl (b_tuple h) (pld_lc (own := [("one", 1)]) rfl sc_check_machine.nd (pid_seq (pd_ix (room_units room) (pd_var 0) pd_int)) (blkOk_by (N := N_check_machine) (sc := defScope s_check_machine) (own := [("one", 1)]) (by decide +kernel)) (fun _ _ _ _ _ => (pgd_name (i := 1) sc_check_machine.nd rfl (by first | exact Or.inl rfl | exact Or.inr rfl))) (fun _ _ _ _ _ => ptsd_nil) (fun _ _ _ _ _ => (Dl.b_tuple rfl (b_tuple h) (pd_var 1))) (by decide))) pad_nil))))))))
theorem c_check_machine {P : Program} {w : World} {K : PySem.W.Frag} {mg : Str → Option Value} {base : Heap} (h : Hd K mg) : Cle P w K mg base 7 "check_machine" 1 F_check_machine := by
  obtain ⟨fd, D0⟩ := h.d_check_machine
  exact cle_of D0 h.g_check_machine rfl (fn_check_machine h D0) fun _ _ _ _ _ _ us hl => match us, hl with | [_], _ => rfl
/-! ### rows_to -/
noncomputable def g_rows_to : FS :=
 (sSeq (sAsg (fVar 0) (gT 2 (gCons' (gN 1) (gCons' (gN 2) gNil'))))
 (sSeq (sAsg (fTup (fCons (fDict (fPCons (fVar 1) (fTup fNil) fPNil)) (fCons (fName (fLst (fCons (fVar 1) fNil))) (fCons (fC (.int 0)) fNil)))) (gT 3 (gCons' (gN 3) (gCons' (gN 4) (gCons' (gN 5) gNil')))))
 (sSeq (sWhile (fTest (fOp gLt (fVar 5) (fCB gLen (fCons (fVar 4) fNil))))
 (sSeq (sSet 6 (fOp gIx (fVar 4) (fVar 5)))
 (sSeq (sFor (fEnum (fVar 2)) (gT 2 (gCons' (gN 7) (gCons' (gN 8) gNil')))
 (sIf (fTest (fOp gNotIn (fOp gIx (fVar 8) (fVar 6)) (fVar 3)))
 (sSeq (sSub (fOp gAdd (fOp gIx (fVar 3) (fVar 6)) (fTup (fCons (fVar 7) fNil))) (fVar 3) (fOp gIx (fVar 8) (fVar 6)))
 (sDrop (fMeth mAppend (fVar 4) (fCons (fOp gIx (fVar 8) (fVar 6)) fNil))))
 sNext))
 (sAug 5 (fC (.int 1)) gAddI))))
 (sRet (fName (fLc (fWalk (fVar 4)) (gN 9) [9] fYes (fTup (fCons (fVar 9) (fCons (fOp gIx (fVar 3) (fVar 9)) fNil)))))))))
noncomputable def F_rows_to : List D → M → Res D := runF 10 1 g_rows_to
theorem sc_rows_to : FnScope N_rows_to ps_rows_to (defScope s_rows_to) := C8.fnScope_by (by decide +kernel)
theorem fn_rows_to {P : Program} {w : World} {K : PySem.W.Frag} {mg : Str → Option Value} {base : Heap} (h : Hd K mg) {fd : FuncData} (D0 : FnP K "rows_to" s_rows_to (He.ga K "rows_to") fd) : FnG P w K mg base 1 (He.ga K "rows_to") fd ps_rows_to F_rows_to := by
  refine fng_of (N := N_rows_to) (W := WF) D0 sc_rows_to fun cdv A outer s H room gu => ?_
  exact (pssd_cons (psd_asg (pd_var 0) (pgd_tup rfl (pgsd_cons (pgd_name (i := 1) sc_rows_to.nd rfl (by first | exact Or.inl rfl | exact Or.inr rfl)) (pgsd_cons (pgd_name (i := 2) sc_rows_to.nd rfl (by first | exact Or.inl rfl | exact Or.inr rfl)) pgsd_nil))))
 (pssd_cons (psd_asg (pd_tup (pad_cons (pd_dict (ppsd_cons (pd_var 1) (pd_tup pad_nil) ppsd_nil)) (pad_cons (pd_name (pld_lst (pad_cons (pd_var 1) pad_nil))) (pad_cons pd_int pad_nil)))) (pgd_tup rfl (pgsd_cons (pgd_name (i := 3) sc_rows_to.nd rfl (by first | exact Or.inl rfl | exact Or.inr rfl)) (pgsd_cons (pgd_name (i := 4) sc_rows_to.nd rfl (by first | exact Or.inl rfl | exact Or.inr rfl)) (pgsd_cons (pgd_name (i := 5) sc_rows_to.nd rfl (by first | exact Or.inl rfl | exact Or.inr rfl)) pgsd_nil)))))
 (pssd_cons (psd_while PassesOwn.never (ptd_lt (pd_var 5) (Dl.b_len rfl (b_len h) (pd_var 4)))
 (pssd_cons (psd_set (i := 6) sc_rows_to.nd rfl (by first | exact Or.inl rfl | exact Or.inr rfl) (pd_ix (room_units room) (pd_var 4) (pd_var 5)))
 (pssd_cons (psd_for PassesOwn.never rfl (pid_enum rfl (b_enumerate h) (pd_var 2)) (pgd_tup rfl (pgsd_cons (pgd_name (i := 7) sc_rows_to.nd rfl (by first | exact Or.inl rfl | exact Or.inr rfl)) (pgsd_cons (pgd_name (i := 8) sc_rows_to.nd rfl (by first | exact Or.inl rfl | exact Or.inr rfl)) pgsd_nil)))
 (pssd_one (psd_if (ptd_notIn (room_units room) (pd_ix (room_units room) (pd_var 8) (pd_var 6)) (pd_var 3))
 (pssd_cons (psd_sub (room_units room) (pd_add (pd_ix (room_units room) (pd_var 3) (pd_var 6)) (pd_tup (pad_cons (pd_var 7) pad_nil))) (pd_var 3) (pd_ix (room_units room) (pd_var 8) (pd_var 6)))
 (pssd_one (psd_expr (pd_append (pd_var 4) (pad_cons (pd_ix (room_units room) (pd_var 8) (pd_var 6)) pad_nil)))))
 pssd_nil)))
 (pssd_one (psd_aug (i := 5) sc_rows_to.nd rfl (by first | exact Or.inl rfl | exact Or.inr rfl) pd_int iop_add opd_addI)))))
 (pssd_one (psd_ret (pd_name (pld_lc (own := [("board", 9)]) rfl sc_rows_to.nd (pid_seq (pd_var 4)) (blkOk_by (N := N_rows_to) (sc := defScope s_rows_to) (own := [("board", 9)]) (by decide +kernel)) (fun _ _ _ _ _ => (pgd_name (i := 9) sc_rows_to.nd rfl (by first | exact Or.inl rfl | exact Or.inr rfl))) (fun _ _ _ _ _ => ptsd_nil) (fun _ _ _ _ _ => (pd_tup (pad_cons (pd_var 9) (pad_cons (pd_ix (room_units room) (pd_var 3) (pd_var 9)) pad_nil)))) (by decide))))))))
theorem c_rows_to {P : Program} {w : World} {K : PySem.W.Frag} {mg : Str → Option Value} {base : Heap} (h : Hd K mg) : Cle P w K mg base 1 "rows_to" 1 F_rows_to := by
  obtain ⟨fd, D0⟩ := h.d_rows_to
  exact cle_of D0 h.g_rows_to rfl (fn_rows_to h D0) fun _ _ _ _ _ _ us hl => match us, hl with | [_], _ => rfl
/-! ### clash -/
noncomputable def g_clash : FS :=
 (sSeq (sSet 1 (fCall F_check_machine (fCons (fVar 0) fNil)))
 (sSeq (sSet 2 (fOp gIx (fVar 1) (fC (.int 1))))
 (sSeq (sFor (fWalk (fCall F_rows_to (fCons (fVar 1) fNil))) (gT 2 (gCons' (gN 3) (gCons' (gN 4) gNil')))
 (sFor (fEnum (fVar 2)) (gT 2 (gCons' (gN 5) (gCons' (gN 6) gNil')))
 (sFor (fRng2 (fOp gAdd (fVar 5) (fC (.int 1))) (fCB gLen (fCons (fVar 2) fNil))) (gN 7)
 (sIf (fTest (fOp gNe (fOp gIx (fVar 6) (fOp gIx (fOp gIx (fVar 2) (fVar 7)) (fVar 3))) (fOp gIx (fOp gIx (fVar 2) (fVar 7)) (fOp gIx (fVar 6) (fVar 3)))))
 (sRet (fTup (fCons (fVar 4) (fCons (fVar 5) (fCons (fVar 7) fNil)))))
 sNext))))
 (sRet (fC .non)))))
noncomputable def F_clash : List D → M → Res D := runF 8 1 g_clash
theorem sc_clash : FnScope N_clash ps_clash (defScope s_clash) := C8.fnScope_by (by decide +kernel)
theorem fn_clash {P : Program} {w : World} {K : PySem.W.Frag} {mg : Str → Option Value} {base : Heap} (h : Hd K mg) {fd : FuncData} (D0 : FnP K "clash" s_clash (He.ga K "clash") fd) : FnG P w K mg base 8 (He.ga K "clash") fd ps_clash F_clash := by
  refine fng_of (N := N_clash) (W := WF) D0 sc_clash fun cdv A outer s H room gu => ?_
  exact (pssd_cons (psd_set (i := 1) sc_clash.nd rfl (by first | exact Or.inl rfl | exact Or.inr rfl) (pd_call (c_check_machine h) nPar_run room (by decide) gu rfl (pad_cons (pd_var 0) pad_nil)))
 (pssd_cons (psd_set (i := 2) sc_clash.nd rfl (by first | exact Or.inl rfl | exact Or.inr rfl) (pd_ix (room_units room) (pd_var 1) pd_int))
 (pssd_cons (psd_for PassesOwn.never rfl (pid_seq (pd_call (c_rows_to h) nPar_run room (by decide) gu rfl (pad_cons (pd_var 1) pad_nil))) (pgd_tup rfl (pgsd_cons (pgd_name (i := 3) sc_clash.nd rfl (by first | exact Or.inl rfl | exact Or.inr rfl)) (pgsd_cons (pgd_name (i := 4) sc_clash.nd rfl (by first | exact Or.inl rfl | exact Or.inr rfl)) pgsd_nil)))
 (pssd_one (psd_for PassesOwn.never rfl (pid_enum rfl (b_enumerate h) (pd_var 2)) (pgd_tup rfl (pgsd_cons (pgd_name (i := 5) sc_clash.nd rfl (by first | exact Or.inl rfl | exact Or.inr rfl)) (pgsd_cons (pgd_name (i := 6) sc_clash.nd rfl (by first | exact Or.inl rfl | exact Or.inr rfl)) pgsd_nil)))
 (pssd_one (psd_for PassesOwn.never rfl (pid_range2 rfl (b_range h) (pd_add (pd_var 5) pd_int) (Dl.b_len rfl (b_len h) (pd_var 2))) (pgd_name (i := 7) sc_clash.nd rfl (by first | exact Or.inl rfl | exact Or.inr rfl))
 (pssd_one (psd_if (ptd_ne (room_units room) (pd_ix (room_units room) (pd_var 6) (pd_ix (room_units room) (pd_ix (room_units room) (pd_var 2) (pd_var 7)) (pd_var 3))) (pd_ix (room_units room) (pd_ix (room_units room) (pd_var 2) (pd_var 7)) (pd_ix (room_units room) (pd_var 6) (pd_var 3))))
 (pssd_one (psd_ret (pd_tup (pad_cons (pd_var 4) (pad_cons (pd_var 5) (pad_cons (pd_var 7) pad_nil))))))
 pssd_nil)))))))
 (pssd_one (psd_ret pd_non)))))
theorem c_clash {P : Program} {w : World} {K : PySem.W.Frag} {mg : Str → Option Value} {base : Heap} (h : Hd K mg) : Cle P w K mg base 8 "clash" 1 F_clash := by
  obtain ⟨fd, D0⟩ := h.d_clash
  exact cle_of D0 h.g_clash rfl (fn_clash h D0) fun _ _ _ _ _ _ us hl => match us, hl with | [_], _ => rfl
/-! ### costs_nothing -/
noncomputable def g_costs_nothing : FS :=
 (sRet (fUn gIsN (fCall F_clash (fCons (fVar 0) fNil))))
noncomputable def F_costs_nothing : List D → M → Res D := runF 1 1 g_costs_nothing
theorem sc_costs_nothing : FnScope N_costs_nothing ps_costs_nothing (defScope s_costs_nothing) := C8.fnScope_by (by decide +kernel)
theorem fn_costs_nothing {P : Program} {w : World} {K : PySem.W.Frag} {mg : Str → Option Value} {base : Heap} (h : Hd K mg) {fd : FuncData} (D0 : FnP K "costs_nothing" s_costs_nothing (He.ga K "costs_nothing") fd) : FnG P w K mg base 9 (He.ga K "costs_nothing") fd ps_costs_nothing F_costs_nothing := by
  refine fng_of (N := N_costs_nothing) (W := WF) D0 sc_costs_nothing fun cdv A outer s H room gu => ?_
  exact (pssd_one (psd_ret (pd_isN (pd_call (c_clash h) nPar_run room (by decide) gu rfl (pad_cons (pd_var 0) pad_nil)))))
theorem c_costs_nothing {P : Program} {w : World} {K : PySem.W.Frag} {mg : Str → Option Value} {base : Heap} (h : Hd K mg) : Cle P w K mg base 9 "costs_nothing" 1 F_costs_nothing := by
  obtain ⟨fd, D0⟩ := h.d_costs_nothing
  exact cle_of D0 h.g_costs_nothing rfl (fn_costs_nothing h D0) fun _ _ _ _ _ _ us hl => match us, hl with | [_], _ => rfl
/-! ### two_of_one_rim -/
noncomputable def g_two_of_one_rim : FS :=
 (sSeq (sSet 1 (fCall F_clash (fCons (fVar 0) fNil)))
 (sSeq (sIf (fIsNT (fVar 1))
 (sRet (fC .non))
 sNext)
 (sSeq (sAsg (fVar 1) (gT 3 (gCons' (gN 2) (gCons' (gN 3) (gCons' (gN 4) gNil')))))
 (sSeq (sSet 5 (fCB gTupleL (fLc (fWalk (fVar 2)) (gN 6) [6] fYes (fTup (fCons (fC (.int 0)) (fCons (fVar 6) fNil))))))
 (sRet (fTup (fCons (fOp gAdd (fVar 5) (fTup (fCons (fTup (fCons (fC (.int 0)) (fCons (fVar 3) fNil))) (fCons (fTup (fCons (fC (.int 1)) (fCons (fVar 4) fNil))) fNil)))) (fCons (fOp gAdd (fVar 5) (fTup (fCons (fTup (fCons (fC (.int 1)) (fCons (fVar 4) fNil))) (fCons (fTup (fCons (fC (.int 0)) (fCons (fVar 3) fNil))) fNil)))) fNil))))))))
noncomputable def F_two_of_one_rim : List D → M → Res D := runF 7 1 g_two_of_one_rim
theorem sc_two_of_one_rim : FnScope N_two_of_one_rim ps_two_of_one_rim (defScope s_two_of_one_rim) := C8.fnScope_by (by decide +kernel)
theorem fn_two_of_one_rim {P : Program} {w : World} {K : PySem.W.Frag} {mg : Str → Option Value} {base : Heap} (h : Hd K mg) {fd : FuncData} (D0 : FnP K "two_of_one_rim" s_two_of_one_rim (He.ga K "two_of_one_rim") fd) : FnG P w K mg base 9 (He.ga K "two_of_one_rim") fd ps_two_of_one_rim F_two_of_one_rim := by
  refine fng_of (N := N_two_of_one_rim) (W := WF) D0 sc_two_of_one_rim fun cdv A outer s H room gu => ?_
  exact (pssd_cons (psd_set (i := 1) sc_two_of_one_rim.nd rfl (by first | exact Or.inl rfl | exact Or.inr rfl) (pd_call (c_clash h) nPar_run room (by decide) gu rfl (pad_cons (pd_var 0) pad_nil)))
 (pssd_cons (psd_if (ptd_isN (pd_var 1))
 (pssd_one (psd_ret pd_non))
 pssd_nil)
 (pssd_cons (psd_asg (pd_var 1) (pgd_tup rfl (pgsd_cons (pgd_name (i := 2) sc_two_of_one_rim.nd rfl (by first | exact Or.inl rfl | exact Or.inr rfl)) (pgsd_cons (pgd_name (i := 3) sc_two_of_one_rim.nd rfl (by first | exact Or.inl rfl | exact Or.inr rfl)) (pgsd_cons (pgd_name (i := 4) sc_two_of_one_rim.nd rfl (by first | exact Or.inl rfl | exact Or.inr rfl)) pgsd_nil)))))
 (pssd_cons (psd_set (i := 5) sc_two_of_one_rim.nd rfl (by first | exact Or.inl rfl | exact Or.inr rfl) (Dl.b_tupleL rfl (b_tuple h) (pld_lc (own := [("deed", 6)]) rfl sc_two_of_one_rim.nd (pid_seq (pd_var 2)) (blkOk_by (N := N_two_of_one_rim) (sc := defScope s_two_of_one_rim) (own := [("deed", 6)]) (by decide +kernel)) (fun _ _ _ _ _ => (pgd_name (i := 6) sc_two_of_one_rim.nd rfl (by first | exact Or.inl rfl | exact Or.inr rfl))) (fun _ _ _ _ _ => ptsd_nil) (fun _ _ _ _ _ => (pd_tup (pad_cons pd_int (pad_cons (pd_var 6) pad_nil)))) (by decide))))
 (pssd_one (psd_ret (pd_tup (pad_cons (pd_add (pd_var 5) (pd_tup (pad_cons (pd_tup (pad_cons pd_int (pad_cons (pd_var 3) pad_nil))) (pad_cons (pd_tup (pad_cons pd_int (pad_cons (pd_var 4) pad_nil))) pad_nil)))) (pad_cons (pd_add (pd_var 5) (pd_tup (pad_cons (pd_tup (pad_cons pd_int (pad_cons (pd_var 4) pad_nil))) (pad_cons (pd_tup (pad_cons pd_int (pad_cons (pd_var 3) pad_nil))) pad_nil)))) pad_nil)))))))))
theorem c_two_of_one_rim {P : Program} {w : World} {K : PySem.W.Frag} {mg : Str → Option Value} {base : Heap} (h : Hd K mg) : Cle P w K mg base 9 "two_of_one_rim" 1 F_two_of_one_rim := by
  obtain ⟨fd, D0⟩ := h.d_two_of_one_rim
  exact cle_of D0 h.g_two_of_one_rim rfl (fn_two_of_one_rim h D0) fun _ _ _ _ _ _ us hl => match us, hl with | [_], _ => rfl
/-! ### is_positive -/
noncomputable def g_is_positive : FS :=
 (sRet (fAndV (fCall F_is_integer (fCons (fVar 0) fNil)) (fOp gGe (fVar 0) (fC (.int 1)))))
noncomputable def F_is_positive : List D → M → Res D := runF 1 1 g_is_positive
theorem sc_is_positive : FnScope N_is_positive ps_is_positive (defScope s_is_positive) := C8.fnScope_by (by decide +kernel)
theorem fn_is_positive {P : Program} {w : World} {K : PySem.W.Frag} {mg : Str → Option Value} {base : Heap} (h : Hd K mg) {fd : FuncData} (D0 : FnP K "is_positive" s_is_positive (He.ga K "is_positive") fd) : FnG P w K mg base 2 (He.ga K "is_positive") fd ps_is_positive F_is_positive := by
  refine fng_of (N := N_is_positive) (W := WF) D0 sc_is_positive fun cdv A outer s H room gu => ?_
  exact (pssd_one (psd_ret (pd_and (pd_call (c_is_integer h) nPar_run room (by decide) gu rfl (pad_cons (pd_var 0) pad_nil)) (pd_one (pd_ge (pd_var 0) pd_int)))))
theorem c_is_positive {P : Program} {w : World} {K : PySem.W.Frag} {mg : Str → Option Value} {base : Heap} (h : Hd K mg) : Cle P w K mg base 2 "is_positive" 1 F_is_positive := by
  obtain ⟨fd, D0⟩ := h.d_is_positive
  exact cle_of D0 h.g_is_positive rfl (fn_is_positive h D0) fun _ _ _ _ _ _ us hl => match us, hl with | [_], _ => rfl
/-! ### is_hands -/
noncomputable def g_is_hands : FS :=
 (sRet (fAndV (fCall F_is_positive (fCons (fVar 0) fNil)) (fOp gLe (fVar 0) (fC (.int 4)))))
noncomputable def F_is_hands : List D → M → Res D := runF 1 1 g_is_hands
theorem sc_is_hands : FnScope N_is_hands ps_is_hands (defScope s_is_hands) := C8.fnScope_by (by decide +kernel)
theorem fn_is_hands {P : Program} {w : World} {K : PySem.W.Frag} {mg : Str → Option Value} {base : Heap} (h : Hd K mg) {fd : FuncData} (D0 : FnP K "is_hands" s_is_hands (He.ga K "is_hands") fd) : FnG P w K mg base 3 (He.ga K "is_hands") fd ps_is_hands F_is_hands := by
  refine fng_of (N := N_is_hands) (W := WF) D0 sc_is_hands fun cdv A outer s H room gu => ?_
  exact (pssd_one (psd_ret (pd_and (pd_call (c_is_positive h) nPar_run room (by decide) gu rfl (pad_cons (pd_var 0) pad_nil)) (pd_one (pd_le (pd_var 0) (pd_glob rfl (i_MOST_HANDS h)))))))
theorem c_is_hands {P : Program} {w : World} {K : PySem.W.Frag} {mg : Str → Option Value} {base : Heap} (h : Hd K mg) : Cle P w K mg base 3 "is_hands" 1 F_is_hands := by
  obtain ⟨fd, D0⟩ := h.d_is_hands
  exact cle_of D0 h.g_is_hands rfl (fn_is_hands h D0) fun _ _ _ _ _ _ us hl => match us, hl with | [_], _ => rfl
/-! ### need_hands -/
noncomputable def g_need_hands : FS :=
 (sSeq (sIf (fNotT (fTest (fCall F_is_hands (fCons (fVar 0) fNil))))
 sNever
 sNext)
 (sRet (fVar 0)))
noncomputable def F_need_hands : List D → M → Res D := runF 1 1 g_need_hands
theorem sc_need_hands : FnScope N_need_hands ps_need_hands (defScope s_need_hands) := C8.fnScope_by (by decide +kernel)
theorem fn_need_hands {P : Program} {w : World} {K : PySem.W.Frag} {mg : Str → Option Value} {base : Heap} (h : Hd K mg) {fd : FuncData} (D0 : FnP K "need_hands" s_need_hands (He.ga K "need_hands") fd) : FnG P w K mg base 4 (He.ga K "need_hands") fd ps_need_hands F_need_hands := by
  refine fng_of (N := N_need_hands) (W := WF) D0 sc_need_hands fun cdv A outer s H room gu => ?_
  exact (pssd_cons (psd_if (ptd_not (ptd_val (pd_call (c_is_hands h) nPar_run room (by decide) gu rfl (pad_cons (pd_var 0) pad_nil))))
 (pssd_one psd_never)
 pssd_nil)
 (pssd_one (psd_ret (pd_var 0))))
theorem c_need_hands {P : Program} {w : World} {K : PySem.W.Frag} {mg : Str → Option Value} {base : Heap} (h : Hd K mg) : Cle P w K mg base 4 "need_hands" 1 F_need_hands := by
  obtain ⟨fd, D0⟩ := h.d_need_hands
  exact cle_of D0 h.g_need_hands rfl (fn_need_hands h D0) fun _ _ _ _ _ _ us hl => match us, hl with | [_], _ => rfl
/-! ### is_letter -/
noncomputable def g_is_letter : FS :=
 (sRet (fAndV (fCall F_is_sequence (fCons (fVar 0) fNil)) (fAndV (fOp gEq (fCB gLen (fCons (fVar 0) fNil)) (fC (.int 2))) (fAndV (fCall F_is_below (fCons (fOp gIx (fVar 0) (fC (.int 0))) (fCons (fVar 1) fNil))) (fCall F_is_below (fCons (fOp gIx (fVar 0) (fC (.int 1))) (fCons (fVar 2) fNil)))))))
noncomputable def F_is_letter : List D → M → Res D := runF 3 3 g_is_letter
theorem sc_is_letter : FnScope N_is_letter ps_is_letter (defScope s_is_letter) := C8.fnScope_by (by decide +kernel)
theorem fn_is_letter {P : Program} {w : World} {K : PySem.W.Frag} {mg : Str → Option Value} {base : Heap} (h : Hd K mg) {fd : FuncData} (D0 : FnP K "is_letter" s_is_letter (He.ga K "is_letter") fd) : FnG P w K mg base 4 (He.ga K "is_letter") fd ps_is_letter F_is_letter := by
  refine fng_of (N := N_is_letter) (W := WF) D0 sc_is_letter fun cdv A outer s H room gu => ?_
  exact (pssd_one (psd_ret (pd_and (pd_call (c_is_sequence h) nPar_run room (by decide) gu rfl (pad_cons (pd_var 0) pad_nil)) (pd_and (pd_eq (room_units room) (Dl.b_len rfl (b_len h) (pd_var 0)) pd_int) (pd_and (pd_call (c_is_below h) nPar_run room (by decide) gu rfl (pad_cons (pd_ix (room_units room) (pd_var 0) pd_int) (pad_cons (pd_var 1) pad_nil))) (pd_one (pd_call (c_is_below h) nPar_run room (by decide) gu rfl (pad_cons (pd_ix (room_units room) (pd_var 0) pd_int) (pad_cons (pd_var 2) pad_nil)))))))))
theorem c_is_letter {P : Program} {w : World} {K : PySem.W.Frag} {mg : Str → Option Value} {base : Heap} (h : Hd K mg) : Cle P w K mg base 4 "is_letter" 3 F_is_letter := by
  obtain ⟨fd, D0⟩ := h.d_is_letter
  exact cle_of D0 h.g_is_letter rfl (fn_is_letter h D0) fun _ _ _ _ _ _ us hl => match us, hl with | [_, _, _], _ => rfl
/-! ### check_row -/
noncomputable def g_check_row : FS :=
 (sSeq (sDrop (fCall F_need_hands (fCons (fVar 0) fNil)))
 (sSeq (sIf (fNotT (fTest (fCall F_is_sequence (fCons (fVar 2) fNil))))
 sNever
 sNext)
 (sSeq (sFor (fEnum (fVar 2)) (gT 2 (gCons' (gN 3) (gCons' (gN 4) gNil')))
 (sIf (fNotT (fTest (fCall F_is_letter (fCons (fVar 4) (fCons (fVar 0) (fCons (fVar 1) fNil))))))
 sNever
 sNext))
 (sRet (fCB gTupleL (fLc (fWalk (fVar 2)) (gN 4) [4] fYes (fCB gTuple (fCons (fVar 4) fNil))))))))
noncomputable def F_check_row : List D → M → Res D := runF 5 3 g_check_row
theorem sc_check_row : FnScope N_check_row ps_check_row (defScope s_check_row) := C8.fnScope_by (by decide +kernel)
theorem fn_check_row {P : Program} {w : World} {K : PySem.W.Frag} {mg : Str → Option Value} {base : Heap} (h : Hd K mg) {fd : FuncData} (D0 : FnP K "check_row" s_check_row (He.ga K "check_row") fd) : FnG P w K mg base 5 (He.ga K "check_row") fd ps_check_row F_check_row := by
  refine fng_of (N := N_check_row) (W := WF) D0 sc_check_row fun cdv A outer s H room gu => ?_
  exact (pssd_cons (psd_expr (pd_call (c_need_hands h) nPar_run room (by decide) gu rfl (pad_cons (pd_var 0) pad_nil)))
 (pssd_cons (psd_if (ptd_not (ptd_val (pd_call (c_is_sequence h) nPar_run room (by decide) gu rfl (pad_cons (pd_var 2) pad_nil))))
 (pssd_one psd_never)
 pssd_nil)
 (pssd_cons (psd_for PassesOwn.never rfl (pid_enum rfl (b_enumerate h) (pd_var 2)) (pgd_tup rfl (pgsd_cons (pgd_name (i := 3) sc_check_row.nd rfl (by first | exact Or.inl rfl | exact Or.inr rfl)) (pgsd_cons (pgd_name (i := 4) sc_check_row.nd rfl (by first | exact Or.inl rfl | exact Or.inr rfl)) pgsd_nil)))
 (pssd_one (psd_if (ptd_not (ptd_val (pd_call (c_is_letter h) nPar_run room (by decide) gu rfl (pad_cons (pd_var 4) (pad_cons (pd_var 0) (pad_cons (pd_var 1) pad_nil))))))
 (pssd_one psd_never)
 pssd_nil)))
 (pssd_one (psd_ret (Dl.b_tupleL rfl (b_tuple h) (pld_lc (own := [("letter", 4)]) rfl sc_check_row.nd (pid_seq (pd_var 2)) (blkOk_by (N := N_check_row) (sc := defScope s_check_row) (own := [("letter", 4)]) (by decide +kernel)) (fun _ _ _ _ _ => (pgd_name (i := 4) sc_check_row.nd rfl (by first | exact Or.inl rfl | exact Or.inr rfl))) (fun _ _ _ _ _ => ptsd_nil) (fun _ _ _ _ _ => (Dl.b_tuple rfl (b_tuple h) (pd_var 4))) (by decide))))))))
theorem c_check_row {P : Program} {w : World} {K : PySem.W.Frag} {mg : Str → Option Value} {base : Heap} (h : Hd K mg) : Cle P w K mg base 5 "check_row" 3 F_check_row := by
  obtain ⟨fd, D0⟩ := h.d_check_row
  exact cle_of D0 h.g_check_row rfl (fn_check_row h D0) fun _ _ _ _ _ _ us hl => match us, hl with | [_, _, _], _ => rfl
/-! ### check_history -/
noncomputable def g_check_history : FS :=
 (sSeq (sSet 3 (fCall F_check_machine (fCons (fVar 0) fNil)))
 (sRet (fCall F_check_row (fCons (fVar 1) (fCons (fCB gLen (fCons (fOp gIx (fVar 3) (fC (.int 1))) fNil)) (fCons (fVar 2) fNil))))))
noncomputable def F_check_history : List D → M → Res D := runF 4 3 g_check_history
theorem sc_check_history : FnScope N_check_history ps_check_history (defScope s_check_history) := C8.fnScope_by (by decide +kernel)
theorem fn_check_history {P : Program} {w : World} {K : PySem.W.Frag} {mg : Str → Option Value} {base : Heap} (h : Hd K mg) {fd : FuncData} (D0 : FnP K "check_history" s_check_history (He.ga K "check_history") fd) : FnG P w K mg base 8 (He.ga K "check_history") fd ps_check_history F_check_history := by
  refine fng_of (N := N_check_history) (W := WF) D0 sc_check_history fun cdv A outer s H room gu => ?_
  exact (pssd_cons (psd_set (i := 3) sc_check_history.nd rfl (by first | exact Or.inl rfl | exact Or.inr rfl) (pd_call (c_check_machine h) nPar_run room (by decide) gu rfl (pad_cons (pd_var 0) pad_nil)))
 (pssd_one (psd_ret (pd_call (c_check_row h) nPar_run room (by decide) gu rfl (pad_cons (pd_var 1) (pad_cons (Dl.b_len rfl (b_len h) (pd_ix (room_units room) (pd_var 3) pd_int)) (pad_cons (pd_var 2) pad_nil)))))))
theorem c_check_history {P : Program} {w : World} {K : PySem.W.Frag} {mg : Str → Option Value} {base : Heap} (h : Hd K mg) : Cle P w K mg base 8 "check_history" 3 F_check_history := by
  obtain ⟨fd, D0⟩ := h.d_check_history
  exact cle_of D0 h.g_check_history rfl (fn_check_history h D0) fun _ _ _ _ _ _ us hl => match us, hl with | [_, _, _], _ => rfl
/-! ### are_counts -/
noncomputable def g_are_counts : FS :=
 (sRet (fAndV (fCall F_is_sequence (fCons (fVar 0) fNil)) (fAndV (fChain gLe gLe (fC (.int 1)) (fCB gLen (fCons (fVar 0) fNil)) (fC (.int 4))) (fCB gAllL (fLc (fWalk (fVar 0)) (gN 1) [1] fYes (fCall F_is_number (fCons (fVar 1) fNil)))))))
noncomputable def F_are_counts : List D → M → Res D := runF 2 1 g_are_counts
theorem sc_are_counts : FnScope N_are_counts ps_are_counts (defScope s_are_counts) := C8.fnScope_by (by decide +kernel)
theorem fn_are_counts {P : Program} {w : World} {K : PySem.W.Frag} {mg : Str → Option Value} {base : Heap} (h : Hd K mg) {fd : FuncData} (D0 : FnP K "are_counts" s_are_counts (He.ga K "are_counts") fd) : FnG P w K mg base 3 (He.ga K "are_counts") fd ps_are_counts F_are_counts := by
  refine fng_of (N := N_are_counts) (W := WF) D0 sc_are_counts fun cdv A outer s H room gu => ?_
  exact (pssd_one (psd_ret (pd_and (pd_call (c_is_sequence h) nPar_run room (by decide) gu rfl (pad_cons (pd_var 0) pad_nil)) (pd_and (pd_chain op_le op_le opd_le opd_le pd_int (Dl.b_len rfl (b_len h) (pd_var 0)) (pd_glob rfl (i_MOST_HANDS h))) (pd_one (Dl.b_allL rfl rfl (b_all h) (pld_lc (own := [("many", 1)]) rfl sc_are_counts.nd (pid_seq (pd_var 0)) (blkOk_by (N := N_are_counts) (sc := defScope s_are_counts) (own := [("many", 1)]) (by decide +kernel)) (fun _ _ _ _ _ => (pgd_name (i := 1) sc_are_counts.nd rfl (by first | exact Or.inl rfl | exact Or.inr rfl))) (fun _ _ _ _ _ => ptsd_nil) (fun _ _ _ _ _ => (pd_call (c_is_number h) nPar_run room (by decide) gu rfl (pad_cons (pd_var 1) pad_nil))) (by decide))))))))
theorem c_are_counts {P : Program} {w : World} {K : PySem.W.Frag} {mg : Str → Option Value} {base : Heap} (h : Hd K mg) : Cle P w K mg base 3 "are_counts" 1 F_are_counts := by
  obtain ⟨fd, D0⟩ := h.d_are_counts
  exact cle_of D0 h.g_are_counts rfl (fn_are_counts h D0) fun _ _ _ _ _ _ us hl => match us, hl with | [_], _ => rfl
/-! ### check_part -/
noncomputable def g_check_part : FS :=
 (sSeq (sIf (fOrT (fNotT (fTest (fCall F_is_sequence (fCons (fVar 0) fNil)))) (fTest (fOp gNe (fCB gLen (fCons (fVar 0) fNil)) (fC (.int 2)))))
 sNever
 sNext)
 (sSeq (sIf (fNotT (fTest (fCall F_are_counts (fCons (fOp gIx (fVar 0) (fC (.int 0))) fNil))))
 sNever
 sNext)
 (sSeq (sSet 2 (fC (.int 1)))
 (sSeq (sFor (fWalk (fOp gIx (fVar 0) (fC (.int 0)))) (gN 3)
 (sAug 2 (fOp gAdd (fVar 3) (fC (.int 1))) gMulI))
 (sSeq (sIf (fOrT (fNotT (fTest (fCall F_is_sequence (fCons (fOp gIx (fVar 0) (fC (.int 1))) fNil)))) (fOrT (fTest (fOp gNe (fCB gLen (fCons (fOp gIx (fVar 0) (fC (.int 1))) fNil)) (fVar 2))) (fNotT (fTest (fCB gAllL (fLc (fWalk (fOp gIx (fVar 0) (fC (.int 1)))) (gN 4) [4] fYes (fCall F_is_below (fCons (fVar 4) (fCons (fVar 1) fNil)))))))))
 sNever
 sNext)
 (sRet (fTup (fCons (fCB gTuple (fCons (fOp gIx (fVar 0) (fC (.int 0))) fNil)) (fCons (fCB gTuple (fCons (fOp gIx (fVar 0) (fC (.int 1))) fNil)) fNil)))))))))
noncomputable def F_check_part : List D → M → Res D := runF 5 2 g_check_part
theorem sc_check_part : FnScope N_check_part ps_check_part (defScope s_check_part) := C8.fnScope_by (by decide +kernel)
theorem fn_check_part {P : Program} {w : World} {K : PySem.W.Frag} {mg : Str → Option Value} {base : Heap} (h : Hd K mg) {fd : FuncData} (D0 : FnP K "check_part" s_check_part (He.ga K "check_part") fd) : FnG P w K mg base 4 (He.ga K "check_part") fd ps_check_part F_check_part := by
  refine fng_of (N := N_check_part) (W := WF) D0 sc_check_part fun cdv A outer s H room gu => ?_
  exact (pssd_cons (psd_if (ptd_w (pwd_or (ptd_not (ptd_val (pd_call (c_is_sequence h) nPar_run room (by decide) gu rfl (pad_cons (pd_var 0) pad_nil)))) (pwd_or1 (ptd_ne (room_units room) (Dl.b_len rfl (b_len h) (pd_var 0)) pd_int))))
 (pssd_one psd_never)
 pssd_nil)
 (pssd_cons (psd_if (ptd_not (ptd_val (pd_call (c_are_counts h) nPar_run room (by decide) gu rfl (pad_cons (pd_ix (room_units room) (pd_var 0) pd_int) pad_nil))))
 (pssd_one psd_never)
 pssd_nil)
 (pssd_cons (psd_set (i := 2) sc_check_part.nd rfl (by first | exact Or.inl rfl | exact Or.inr rfl) pd_int)
 (pssd_cons (psd_for PassesOwn.never rfl (pid_seq (pd_ix (room_units room) (pd_var 0) pd_int)) (pgd_name (i := 3) sc_check_part.nd rfl (by first | exact Or.inl rfl | exact Or.inr rfl))
 (pssd_one (psd_aug (i := 2) sc_check_part.nd rfl (by first | exact Or.inl rfl | exact Or.inr rfl) (pd_add (pd_var 3) pd_int) iop_mul opd_mul)))
 (pssd_cons (psd_if (ptd_w (pwd_or (ptd_not (ptd_val (pd_call (c_is_sequence h) nPar_run room (by decide) gu rfl (pad_cons (pd_ix (room_units room) (pd_var 0) pd_int) pad_nil)))) (pwd_or (ptd_ne (room_units room) (Dl.b_len rfl (b_len h) (pd_ix (room_units room) (pd_var 0) pd_int)) (pd_var 2)) (pwd_or1 (ptd_not (ptd_val (Dl.b_allL rfl rfl (b_all h) (pld_lc (own := [("one", 4)]) rfl sc_check_part.nd (pid_seq (pd_ix (room_units room) (pd_var 0) pd_int)) (blkOk_by (N := N_check_part) (sc := defScope s_check_part) (own := [("one", 4)]) (by decide +kernel)) (fun _ _ _ _ _ => (pgd_name (i := 4) sc_check_part.nd rfl (by first | exact Or.inl rfl | exact Or.inr rfl))) (fun _ _ _ _ _ => ptsd_nil) (fun _ _ _ _ _ => (pd_call (c_is_below h) nPar_run room (by decide) gu rfl (pad_cons (pd_var 4) (pad_cons (pd_var 1) pad_nil)))) (by decide)))))))))
 (pssd_one psd_never)
 pssd_nil)
 (pssd_one (psd_ret (pd_tup (pad_cons (Dl.b_tuple rfl (b_tuple h) (pd_ix (room_units room) (pd_var 0) pd_int)) (pad_cons (Dl.b_tuple rfl (b_tuple h) (pd_ix (room_units room) (pd_var 0) pd_int)) pad_nil))))))))))
theorem c_check_part {P : Program} {w : World} {K : PySem.W.Frag} {mg : Str → Option Value} {base : Heap} (h : Hd K mg) : Cle P w K mg base 4 "check_part" 2 F_check_part := by
  obtain ⟨fd, D0⟩ := h.d_check_part
  exact cle_of D0 h.g_check_part rfl (fn_check_part h D0) fun _ _ _ _ _ _ us hl => match us, hl with | [_, _], _ => rfl
/-! ### need_hand -/
noncomputable def g_need_hand : FS :=
 (sSeq (sIf (fNotT (fTest (fCall F_is_below (fCons (fVar 1) (fCons (fCB gLen (fCons (fOp gIx (fVar 0) (fC (.int 0))) fNil)) fNil)))))
 sNever
 sNext)
 (sRet (fVar 1)))
noncomputable def F_need_hand : List D → M → Res D := runF 2 2 g_need_hand
theorem sc_need_hand : FnScope N_need_hand ps_need_hand (defScope s_need_hand) := C8.fnScope_by (by decide +kernel)
theorem fn_need_hand {P : Program} {w : World} {K : PySem.W.Frag} {mg : Str → Option Value} {base : Heap} (h : Hd K mg) {fd : FuncData} (D0 : FnP K "need_hand" s_need_hand (He.ga K "need_hand") fd) : FnG P w K mg base 4 (He.ga K "need_hand") fd ps_need_hand F_need_hand := by
  refine fng_of (N := N_need_hand) (W := WF) D0 sc_need_hand fun cdv A outer s H room gu => ?_
  exact (pssd_cons (psd_if (ptd_not (ptd_val (pd_call (c_is_below h) nPar_run room (by decide) gu rfl (pad_cons (pd_var 1) (pad_cons (Dl.b_len rfl (b_len h) (pd_ix (room_units room) (pd_var 0) pd_int)) pad_nil)))))
 (pssd_one psd_never)
 pssd_nil)
 (pssd_one (psd_ret (pd_var 1))))
theorem c_need_hand {P : Program} {w : World} {K : PySem.W.Frag} {mg : Str → Option Value} {base : Heap} (h : Hd K mg) : Cle P w K mg base 4 "need_hand" 2 F_need_hand := by
  obtain ⟨fd, D0⟩ := h.d_need_hand
  exact cle_of D0 h.g_need_hand rfl (fn_need_hand h D0) fun _ _ _ _ _ _ us hl => match us, hl with | [_, _], _ => rfl
/-! ### need_counts -/
noncomputable def g_need_counts : FS :=
 (sSeq (sIf (fNotT (fTest (fCall F_are_counts (fCons (fVar 0) fNil))))
 sNever
 sNext)
 (sRet (fCB gTuple (fCons (fVar 0) fNil))))
noncomputable def F_need_counts : List D → M → Res D := runF 1 1 g_need_counts
theorem sc_need_counts : FnScope N_need_counts ps_need_counts (defScope s_need_counts) := C8.fnScope_by (by decide +kernel)
theorem fn_need_counts {P : Program} {w : World} {K : PySem.W.Frag} {mg : Str → Option Value} {base : Heap} (h : Hd K mg) {fd : FuncData} (D0 : FnP K "need_counts" s_need_counts (He.ga K "need_counts") fd) : FnG P w K mg base 4 (He.ga K "need_counts") fd ps_need_counts F_need_counts := by
  refine fng_of (N := N_need_counts) (W := WF) D0 sc_need_counts fun cdv A outer s H room gu => ?_
  exact (pssd_cons (psd_if (ptd_not (ptd_val (pd_call (c_are_counts h) nPar_run room (by decide) gu rfl (pad_cons (pd_var 0) pad_nil))))
 (pssd_one psd_never)
 pssd_nil)
 (pssd_one (psd_ret (Dl.b_tuple rfl (b_tuple h) (pd_var 0)))))
theorem c_need_counts {P : Program} {w : World} {K : PySem.W.Frag} {mg : Str → Option Value} {base : Heap} (h : Hd K mg) : Cle P w K mg base 4 "need_counts" 1 F_need_counts := by
  obtain ⟨fd, D0⟩ := h.d_need_counts
  exact cle_of D0 h.g_need_counts rfl (fn_need_counts h D0) fun _ _ _ _ _ _ us hl => match us, hl with | [_], _ => rfl
/-! ### vectors -/
noncomputable def g_vectors : FS :=
 (sSeq (sSet 1 (fName (fLst (fCons (fTup fNil) fNil))))
 (sSeq (sFor (fWalk (fCall F_need_counts (fCons (fVar 0) fNil))) (gN 2)
 (sSetL 1 (fLc2 (fWalk (fVar 1)) (gN 3) [3, 4] fYes (fRng1 (fOp gAdd (fVar 2) (fC (.int 1)))) (gN 4) [4] fYes (fOp gAdd (fVar 3) (fTup (fCons (fVar 4) fNil))))))
 (sRet (fCB gTuple (fCons (fVar 1) fNil)))))
noncomputable def F_vectors : List D → M → Res D := runF 5 1 g_vectors
theorem sc_vectors : FnScope N_vectors ps_vectors (defScope s_vectors) := C8.fnScope_by (by decide +kernel)
theorem fn_vectors {P : Program} {w : World} {K : PySem.W.Frag} {mg : Str → Option Value} {base : Heap} (h : Hd K mg) {fd : FuncData} (D0 : FnP K "vectors" s_vectors (He.ga K "vectors") fd) : FnG P w K mg base 5 (He.ga K "vectors") fd ps_vectors F_vectors := by
  refine fng_of (N := N_vectors) (W := WF) D0 sc_vectors fun cdv A outer s H room gu => ?_
  exact (pssd_cons (psd_set (i := 1) sc_vectors.nd rfl (by first | exact Or.inl rfl | exact Or.inr rfl) (pd_name (pld_lst (pad_cons (pd_tup pad_nil) pad_nil))))
 (pssd_cons (psd_for PassesOwn.never rfl (pid_seq (pd_call (c_need_counts h) nPar_run room (by decide) gu rfl (pad_cons (pd_var 0) pad_nil))) (pgd_name (i := 2) sc_vectors.nd rfl (by first | exact Or.inl rfl | exact Or.inr rfl))
 (pssd_one (psd_setLc2 (own := [("vector", 3), ("here", 4)]) (us := [4]) rfl sc_vectors.nd rfl rfl (sw_true rfl rfl rfl (by decide +kernel)) (pid_seq (pd_var 1)) (blkOk_by (N := N_vectors) (sc := defScope s_vectors) (own := [("vector", 3), ("here", 4)]) (by decide +kernel)) (by decide) (fun _ _ _ _ _ => (pgd_name (i := 3) sc_vectors.nd rfl (by first | exact Or.inl rfl | exact Or.inr rfl))) (fun _ _ _ _ _ => ptsd_nil) (fun _ _ _ _ _ => (pid_range1 rfl (b_range h) (pd_add (pd_var 2) pd_int))) (fun _ _ _ _ _ => (pgd_name (i := 4) sc_vectors.nd rfl (by first | exact Or.inl rfl | exact Or.inr rfl))) (fun _ _ _ _ _ => ptsd_nil) (fun _ _ _ _ _ => (pd_add (pd_var 3) (pd_tup (pad_cons (pd_var 4) pad_nil)))) (by decide) (by decide))))
 (pssd_one (psd_ret (Dl.b_tuple rfl (b_tuple h) (pd_var 1))))))
theorem c_vectors {P : Program} {w : World} {K : PySem.W.Frag} {mg : Str → Option Value} {base : Heap} (h : Hd K mg) : Cle P w K mg base 5 "vectors" 1 F_vectors := by
  obtain ⟨fd, D0⟩ := h.d_vectors
  exact cle_of D0 h.g_vectors rfl (fn_vectors h D0) fun _ _ _ _ _ _ us hl => match us, hl with | [_], _ => rfl
/-! ### is_vector -/
noncomputable def g_is_vector : FS :=
 (sSeq (sIf (fOrT (fNotT (fTest (fCall F_is_sequence (fCons (fVar 1) fNil)))) (fTest (fOp gNe (fCB gLen (fCons (fVar 1) fNil)) (fCB gLen (fCons (fVar 0) fNil)))))
 (sRet (fC (.bl false)))
 sNext)
 (sRet (fCB gAllL (fLc (fZipT (fVar 1) (fVar 0)) (gT 2 (gCons' (gN 2) (gCons' (gN 3) gNil'))) [2, 3] fYes (fCall F_is_below (fCons (fVar 2) (fCons (fOp gAdd (fVar 3) (fC (.int 1))) fNil)))))))
noncomputable def F_is_vector : List D → M → Res D := runF 4 2 g_is_vector
theorem sc_is_vector : FnScope N_is_vector ps_is_vector (defScope s_is_vector) := C8.fnScope_by (by decide +kernel)
theorem fn_is_vector {P : Program} {w : World} {K : PySem.W.Frag} {mg : Str → Option Value} {base : Heap} (h : Hd K mg) {fd : FuncData} (D0 : FnP K "is_vector" s_is_vector (He.ga K "is_vector") fd) : FnG P w K mg base 4 (He.ga K "is_vector") fd ps_is_vector F_is_vector := by
  refine fng_of (N := N_is_vector) (W := WF) D0 sc_is_vector fun cdv A outer s H room gu => ?_
  exact (pssd_cons (psd_if (ptd_w (pwd_or (ptd_not (ptd_val (pd_call (c_is_sequence h) nPar_run room (by decide) gu rfl (pad_cons (pd_var 1) pad_nil)))) (pwd_or1 (ptd_ne (room_units room) (Dl.b_len rfl (b_len h) (pd_var 1)) (Dl.b_len rfl (b_len h) (pd_var 0))))))
 (pssd_one (psd_ret pd_bl))
 pssd_nil)
 (pssd_one (psd_ret (Dl.b_allL rfl rfl (b_all h) (pld_lc (own := [("here", 2), ("many", 3)]) rfl sc_is_vector.nd (pid_zipT rfl (b_zip h) (pd_var 1) (pd_var 0)) (blkOk_by (N := N_is_vector) (sc := defScope s_is_vector) (own := [("here", 2), ("many", 3)]) (by decide +kernel)) (fun _ _ _ _ _ => (pgd_tup rfl (pgsd_cons (pgd_name (i := 2) sc_is_vector.nd rfl (by first | exact Or.inl rfl | exact Or.inr rfl)) (pgsd_cons (pgd_name (i := 3) sc_is_vector.nd rfl (by first | exact Or.inl rfl | exact Or.inr rfl)) pgsd_nil)))) (fun _ _ _ _ _ => ptsd_nil) (fun _ _ _ _ _ => (pd_call (c_is_below h) nPar_run room (by decide) gu rfl (pad_cons (pd_var 2) (pad_cons (pd_add (pd_var 3) pd_int) pad_nil)))) (by decide))))))
theorem c_is_vector {P : Program} {w : World} {K : PySem.W.Frag} {mg : Str → Option Value} {base : Heap} (h : Hd K mg) : Cle P w K mg base 4 "is_vector" 2 F_is_vector := by
  obtain ⟨fd, D0⟩ := h.d_is_vector
  exact cle_of D0 h.g_is_vector rfl (fn_is_vector h D0) fun _ _ _ _ _ _ us hl => match us, hl with | [_, _], _ => rfl
/-! ### place_of -/
noncomputable def g_place_of : FS :=
 (sSeq (sSet 2 (fCall F_need_counts (fCons (fVar 0) fNil)))
 (sSeq (sIf (fNotT (fTest (fCall F_is_vector (fCons (fVar 2) (fCons (fVar 1) fNil)))))
 sNever
 sNext)
 (sSeq (sSet 3 (fC (.int 0)))
 (sSeq (sFor (fZipT (fVar 1) (fVar 2)) (gT 2 (gCons' (gN 4) (gCons' (gN 5) gNil')))
 (sSet 3 (fOp gAdd (fOp gMul (fVar 3) (fOp gAdd (fVar 5) (fC (.int 1)))) (fVar 4))))
 (sRet (fVar 3))))))
noncomputable def F_place_of : List D → M → Res D := runF 6 2 g_place_of
theorem sc_place_of : FnScope N_place_of ps_place_of (defScope s_place_of) := C8.fnScope_by (by decide +kernel)
theorem fn_place_of {P : Program} {w : World} {K : PySem.W.Frag} {mg : Str → Option Value} {base : Heap} (h : Hd K mg) {fd : FuncData} (D0 : FnP K "place_of" s_place_of (He.ga K "place_of") fd) : FnG P w K mg base 5 (He.ga K "place_of") fd ps_place_of F_place_of := by
  refine fng_of (N := N_place_of) (W := WF) D0 sc_place_of fun cdv A outer s H room gu => ?_
  exact (pssd_cons (psd_set (i := 2) sc_place_of.nd rfl (by first | exact Or.inl rfl | exact Or.inr rfl) (pd_call (c_need_counts h) nPar_run room (by decide) gu rfl (pad_cons (pd_var 0) pad_nil)))
 (pssd_cons (psd_if (ptd_not (ptd_val (pd_call (c_is_vector h) nPar_run room (by decide) gu rfl (pad_cons (pd_var 2) (pad_cons (pd_var 1) pad_nil)))))
 (pssd_one psd_never)
 pssd_nil)
 (pssd_cons (psd_set (i := 3) sc_place_of.nd rfl (by first | exact Or.inl rfl | exact Or.inr rfl) pd_int)
 (pssd_cons (psd_for PassesOwn.never rfl (pid_zipT rfl (b_zip h) (pd_var 1) (pd_var 2)) (pgd_tup rfl (pgsd_cons (pgd_name (i := 4) sc_place_of.nd rfl (by first | exact Or.inl rfl | exact Or.inr rfl)) (pgsd_cons (pgd_name (i := 5) sc_place_of.nd rfl (by first | exact Or.inl rfl | exact Or.inr rfl)) pgsd_nil)))
 (pssd_one (psd_set (i := 3) sc_place_of.nd rfl (by first | exact Or.inl rfl | exact Or.inr rfl) (pd_add (pd_mul (pd_var 3) (pd_add (pd_var 5) pd_int)) (pd_var 4)))))
 (pssd_one (psd_ret (pd_var 3)))))))
theorem c_place_of {P : Program} {w : World} {K : PySem.W.Frag} {mg : Str → Option Value} {base : Heap} (h : Hd K mg) : Cle P w K mg base 5 "place_of" 2 F_place_of := by
  obtain ⟨fd, D0⟩ := h.d_place_of
  exact cle_of D0 h.g_place_of rfl (fn_place_of h D0) fun _ _ _ _ _ _ us hl => match us, hl with | [_, _], _ => rfl
/-! ### part_of -/
noncomputable def g_part_of : FS :=
 (sSeq (sSet 2 (fCall F_check_part (fCons (fVar 0) (fCons (fC (.int 8)) fNil))))
 (sSeq (sDrop (fCall F_place_of (fCons (fOp gIx (fVar 2) (fC (.int 0))) (fCons (fVar 1) fNil))))
 (sRet (fTup (fCons (fCB gTuple (fCons (fVar 1) fNil)) (fCons (fCB gTupleL (fLc (fWalk (fCall F_vectors (fCons (fVar 1) fNil))) (gN 3) [3] fYes (fOp gIx (fOp gIx (fVar 2) (fC (.int 1))) (fCall F_place_of (fCons (fOp gIx (fVar 2) (fC (.int 0))) (fCons (fVar 3) fNil)))))) fNil))))))
noncomputable def F_part_of : List D → M → Res D := runF 4 2 g_part_of
theorem sc_part_of : FnScope N_part_of ps_part_of (defScope s_part_of) := C8.fnScope_by (by decide +kernel)
theorem fn_part_of {P : Program} {w : World} {K : PySem.W.Frag} {mg : Str → Option Value} {base : Heap} (h : Hd K mg) {fd : FuncData} (D0 : FnP K "part_of" s_part_of (He.ga K "part_of") fd) : FnG P w K mg base 6 (He.ga K "part_of") fd ps_part_of F_part_of := by
  refine fng_of (N := N_part_of) (W := WF) D0 sc_part_of fun cdv A outer s H room gu => ?_
  exact (pssd_cons (psd_set (i := 2) sc_part_of.nd rfl (by first | exact Or.inl rfl | exact Or.inr rfl) (pd_call (c_check_part h) nPar_run room (by decide) gu rfl (pad_cons (pd_var 0) (pad_cons (pd_glob rfl (i_MOST_BOARDS h)) pad_nil))))
 (pssd_cons (psd_expr (pd_call (c_place_of h) nPar_run room (by decide) gu rfl (pad_cons (pd_ix (room_units room) (pd_var 2) pd_int) (pad_cons (pd_var 1) pad_nil))))
 (pssd_one (psd_ret (pd_tup (pad_cons (Dl.b_tuple rfl (b_tuple h) (pd_var 1)) (pad_cons (Dl.b_tupleL rfl (b_tuple h) (pld_lc (own := [("one", 3)]) rfl sc_part_of.nd (pid_seq (pd_call (c_vectors h) nPar_run room (by decide) gu rfl (pad_cons (pd_var 1) pad_nil))) (blkOk_by (N := N_part_of) (sc := defScope s_part_of) (own := [("one", 3)]) (by decide +kernel)) (fun _ _ _ _ _ => (pgd_name (i := 3) sc_part_of.nd rfl (by first | exact Or.inl rfl | exact Or.inr rfl))) (fun _ _ _ _ _ => ptsd_nil) (fun _ _ _ _ _ => (pd_ix (room_units room) (pd_ix (room_units room) (pd_var 2) pd_int) (pd_call (c_place_of h) nPar_run room (by decide) gu rfl (pad_cons (pd_ix (room_units room) (pd_var 2) pd_int) (pad_cons (pd_var 3) pad_nil))))) (by decide))) pad_nil)))))))
theorem c_part_of {P : Program} {w : World} {K : PySem.W.Frag} {mg : Str → Option Value} {base : Heap} (h : Hd K mg) : Cle P w K mg base 6 "part_of" 2 F_part_of := by
  obtain ⟨fd, D0⟩ := h.d_part_of
  exact cle_of D0 h.g_part_of rfl (fn_part_of h D0) fun _ _ _ _ _ _ us hl => match us, hl with | [_, _], _ => rfl
/-! ### rim -/
noncomputable def g_rim : FS :=
 (sSeq (sSet 2 (fCall F_check_part (fCons (fVar 0) (fCons (fC (.int 8)) fNil))))
 (sSeq (sDrop (fCall F_need_hand (fCons (fVar 2) (fCons (fVar 1) fNil))))
 (sSeq (sSet 3 (fCB gTupleL (fLc (fEnum (fOp gIx (fVar 2) (fC (.int 0)))) (gT 2 (gCons' (gN 4) (gCons' (gN 5) gNil'))) [4, 5] fYes (fIf (fTest (fOp gEq (fVar 4) (fVar 1))) (fVar 5) (fC (.int 0))))))
 (sRet (fOp gIx (fCall F_part_of (fCons (fVar 2) (fCons (fVar 3) fNil))) (fC (.int 1)))))))
noncomputable def F_rim : List D → M → Res D := runF 6 2 g_rim
theorem sc_rim : FnScope N_rim ps_rim (defScope s_rim) := C8.fnScope_by (by decide +kernel)
theorem fn_rim {P : Program} {w : World} {K : PySem.W.Frag} {mg : Str → Option Value} {base : Heap} (h : Hd K mg) {fd : FuncData} (D0 : FnP K "rim" s_rim (He.ga K "rim") fd) : FnG P w K mg base 7 (He.ga K "rim") fd ps_rim F_rim := by
  refine fng_of (N := N_rim) (W := WF) D0 sc_rim fun cdv A outer s H room gu => ?_
  exact (pssd_cons (psd_set (i := 2) sc_rim.nd rfl (by first | exact Or.inl rfl | exact Or.inr rfl) (pd_call (c_check_part h) nPar_run room (by decide) gu rfl (pad_cons (pd_var 0) (pad_cons (pd_glob rfl (i_MOST_BOARDS h)) pad_nil))))
 (pssd_cons (psd_expr (pd_call (c_need_hand h) nPar_run room (by decide) gu rfl (pad_cons (pd_var 2) (pad_cons (pd_var 1) pad_nil))))
 (pssd_cons (psd_set (i := 3) sc_rim.nd rfl (by first | exact Or.inl rfl | exact Or.inr rfl) (Dl.b_tupleL rfl (b_tuple h) (pld_lc (own := [("place", 4), ("many", 5)]) rfl sc_rim.nd (pid_enum rfl (b_enumerate h) (pd_ix (room_units room) (pd_var 2) pd_int)) (blkOk_by (N := N_rim) (sc := defScope s_rim) (own := [("place", 4), ("many", 5)]) (by decide +kernel)) (fun _ _ _ _ _ => (pgd_tup rfl (pgsd_cons (pgd_name (i := 4) sc_rim.nd rfl (by first | exact Or.inl rfl | exact Or.inr rfl)) (pgsd_cons (pgd_name (i := 5) sc_rim.nd rfl (by first | exact Or.inl rfl | exact Or.inr rfl)) pgsd_nil)))) (fun _ _ _ _ _ => ptsd_nil) (fun _ _ _ _ _ => (pd_if (ptd_eq (room_units room) (pd_var 4) (pd_var 1)) (pd_var 5) pd_int)) (by decide))))
 (pssd_one (psd_ret (pd_ix (room_units room) (pd_call (c_part_of h) nPar_run room (by decide) gu rfl (pad_cons (pd_var 2) (pad_cons (pd_var 3) pad_nil))) pd_int))))))
theorem c_rim {P : Program} {w : World} {K : PySem.W.Frag} {mg : Str → Option Value} {base : Heap} (h : Hd K mg) : Cle P w K mg base 7 "rim" 2 F_rim := by
  obtain ⟨fd, D0⟩ := h.d_rim
  exact cle_of D0 h.g_rim rfl (fn_rim h D0) fun _ _ _ _ _ _ us hl => match us, hl with | [_, _], _ => rfl
/-! ### first_table -/
noncomputable def g_first_table : FS :=
 (sSeq (sSet 2 (fCall F_check_machine (fCons (fVar 0) fNil)))
 (sSeq (sDrop (fCall F_check_history (fCons (fVar 2) (fCons (fVar 1) (fCons (fTup fNil) fNil)))))
 (sRet (fTup (fCons (fOp gMul (fTup (fCons (fC (.int 0)) fNil)) (fVar 1)) (fCons (fTup (fCons (fOp gIx (fVar 2) (fC (.int 0))) fNil)) fNil))))))
noncomputable def F_first_table : List D → M → Res D := runF 3 2 g_first_table
theorem sc_first_table : FnScope N_first_table ps_first_table (defScope s_first_table) := C8.fnScope_by (by decide +kernel)
theorem fn_first_table {P : Program} {w : World} {K : PySem.W.Frag} {mg : Str → Option Value} {base : Heap} (h : Hd K mg) {fd : FuncData} (D0 : FnP K "first_table" s_first_table (He.ga K "first_table") fd) : FnG P w K mg base 9 (He.ga K "first_table") fd ps_first_table F_first_table := by
  refine fng_of (N := N_first_table) (W := WF) D0 sc_first_table fun cdv A outer s H room gu => ?_
  exact (pssd_cons (psd_set (i := 2) sc_first_table.nd rfl (by first | exact Or.inl rfl | exact Or.inr rfl) (pd_call (c_check_machine h) nPar_run room (by decide) gu rfl (pad_cons (pd_var 0) pad_nil)))
 (pssd_cons (psd_expr (pd_call (c_check_history h) nPar_run room (by decide) gu rfl (pad_cons (pd_var 2) (pad_cons (pd_var 1) (pad_cons (pd_tup pad_nil) pad_nil)))))
 (pssd_one (psd_ret (pd_tup (pad_cons (pd_mul (pd_tup (pad_cons pd_int pad_nil)) (pd_var 1)) (pad_cons (pd_tup (pad_cons (pd_ix (room_units room) (pd_var 2) pd_int) pad_nil)) pad_nil)))))))
theorem c_first_table {P : Program} {w : World} {K : PySem.W.Frag} {mg : Str → Option Value} {base : Heap} (h : Hd K mg) : Cle P w K mg base 9 "first_table" 2 F_first_table := by
  obtain ⟨fd, D0⟩ := h.d_first_table
  exact cle_of D0 h.g_first_table rfl (fn_first_table h D0) fun _ _ _ _ _ _ us hl => match us, hl with | [_, _], _ => rfl
/-! ### grown -/
noncomputable def g_grown : FS :=
 (sSeq (sSet 4 (fCB gTupleL (fLc (fEnum (fOp gIx (fVar 1) (fC (.int 0)))) (gT 2 (gCons' (gN 9) (gCons' (gN 10) gNil'))) [9, 10] fYes (fIf (fTest (fOp gEq (fVar 9) (fVar 2))) (fOp gAdd (fVar 10) (fC (.int 1))) (fVar 10)))))
 (sSeq (sPar 5 6 (fCons (fOp gIx (fOp gIx (fVar 0) (fC (.int 1))) (fVar 3)) (fCons (fName (fLst fNil)) fNil)))
 (sSeq (sFor (fWalk (fCall F_vectors (fCons (fVar 4) fNil))) (gN 7)
 (sIf (fTest (fOp gLt (fOp gIx (fVar 7) (fVar 2)) (fOp gIx (fVar 4) (fVar 2))))
 (sDrop (fMeth mAppend (fVar 6) (fCons (fOp gIx (fOp gIx (fVar 1) (fC (.int 1))) (fCall F_place_of (fCons (fOp gIx (fVar 1) (fC (.int 0))) (fCons (fVar 7) fNil)))) fNil)))
 (sSeq (sSet 8 (fOp gAdd (fOp gAdd (fCut (fVar 7) fNoPart (fPart (fVar 2))) (fTup (fCons (fOp gSub (fOp gIx (fVar 7) (fVar 2)) (fC (.int 1))) fNil))) (fCut (fVar 7) (fPart (fOp gAdd (fVar 2) (fC (.int 1)))) fNoPart)))
 (sDrop (fMeth mAppend (fVar 6) (fCons (fOp gIx (fVar 5) (fOp gIx (fOp gIx (fVar 1) (fC (.int 1))) (fCall F_place_of (fCons (fOp gIx (fVar 1) (fC (.int 0))) (fCons (fVar 8) fNil))))) fNil))))))
 (sRet (fTup (fCons (fVar 4) (fCons (fCB gTuple (fCons (fVar 6) fNil)) fNil)))))))
noncomputable def F_grown : List D → M → Res D := runF 11 4 g_grown
theorem sc_grown : FnScope N_grown ps_grown (defScope s_grown) := C8.fnScope_by (by decide +kernel)
theorem fn_grown {P : Program} {w : World} {K : PySem.W.Frag} {mg : Str → Option Value} {base : Heap} (h : Hd K mg) {fd : FuncData} (D0 : FnP K "grown" s_grown (He.ga K "grown") fd) : FnG P w K mg base 6 (He.ga K "grown") fd ps_grown F_grown := by
  refine fng_of (N := N_grown) (W := WF) D0 sc_grown fun cdv A outer s H room gu => ?_
  exact (pssd_cons (psd_set (i := 4) sc_grown.nd rfl (by first | exact Or.inl rfl | exact Or.inr rfl) (Dl.b_tupleL rfl (b_tuple h) (pld_lc (own := [("place", 9), ("many", 10)]) rfl sc_grown.nd (pid_enum rfl (b_enumerate h) (pd_ix (room_units room) (pd_var 1) pd_int)) (blkOk_by (N := N_grown) (sc := defScope s_grown) (own := [("place", 9), ("many", 10)]) (by decide +kernel)) (fun _ _ _ _ _ => (pgd_tup rfl (pgsd_cons (pgd_name (i := 9) sc_grown.nd rfl (by first | exact Or.inl rfl | exact Or.inr rfl)) (pgsd_cons (pgd_name (i := 10) sc_grown.nd rfl (by first | exact Or.inl rfl | exact Or.inr rfl)) pgsd_nil)))) (fun _ _ _ _ _ => ptsd_nil) (fun _ _ _ _ _ => (pd_if (ptd_eq (room_units room) (pd_var 9) (pd_var 2)) (pd_add (pd_var 10) pd_int) (pd_var 10))) (by decide))))
 (pssd_cons (psd_par (i := 5) (j := 6) rfl sc_grown.nd rfl rfl (by decide) rfl rfl (pad_cons (pd_ix (room_units room) (pd_ix (room_units room) (pd_var 0) pd_int) (pd_var 3)) (pad_cons (pd_name (pld_lst pad_nil)) pad_nil)))
 (pssd_cons (psd_for PassesOwn.never rfl (pid_seq (pd_call (c_vectors h) nPar_run room (by decide) gu rfl (pad_cons (pd_var 4) pad_nil))) (pgd_name (i := 7) sc_grown.nd rfl (by first | exact Or.inl rfl | exact Or.inr rfl))
 (pssd_one (psd_if (ptd_lt (pd_ix (room_units room) (pd_var 7) (pd_var 2)) (pd_ix (room_units room) (pd_var 4) (pd_var 2)))
 (pssd_one (psd_expr (pd_append (pd_var 6) (pad_cons (pd_ix (room_units room) (pd_ix (room_units room) (pd_var 1) pd_int) (pd_call (c_place_of h) nPar_run room (by decide) gu rfl (pad_cons (pd_ix (room_units room) (pd_var 1) pd_int) (pad_cons (pd_var 7) pad_nil)))) pad_nil))))
 (pssd_cons (psd_set (i := 8) sc_grown.nd rfl (by first | exact Or.inl rfl | exact Or.inr rfl) (pd_add (pd_add (pd_cut (pd_var 7) pod_none (pod_some (pd_var 2))) (pd_tup (pad_cons (pd_sub (pd_ix (room_units room) (pd_var 7) (pd_var 2)) pd_int) pad_nil))) (pd_cut (pd_var 7) (pod_some (pd_add (pd_var 2) pd_int)) pod_none)))
 (pssd_one (psd_expr (pd_append (pd_var 6) (pad_cons (pd_ix (room_units room) (pd_var 5) (pd_ix (room_units room) (pd_ix (room_units room) (pd_var 1) pd_int) (pd_call (c_place_of h) nPar_run room (by decide) gu rfl (pad_cons (pd_ix (room_units room) (pd_var 1) pd_int) (pad_cons (pd_var 8) pad_nil))))) pad_nil))))))))
 (pssd_one (psd_ret (pd_tup (pad_cons (pd_var 4) (pad_cons (Dl.b_tuple rfl (b_tuple h) (pd_var 6)) pad_nil))))))))
theorem c_grown {P : Program} {w : World} {K : PySem.W.Frag} {mg : Str → Option Value} {base : Heap} (h : Hd K mg) : Cle P w K mg base 6 "grown" 4 F_grown := by
  obtain ⟨fd, D0⟩ := h.d_grown
  exact cle_of D0 h.g_grown rfl (fn_grown h D0) fun _ _ _ _ _ _ us hl => match us, hl with | [_, _, _, _], _ => rfl
/-! ### table_of -/
noncomputable def g_table_of : FS :=
 (sSeq (sSet 3 (fCall F_check_machine (fCons (fVar 0) fNil)))
 (sSeq (sSet 4 (fCall F_first_table (fCons (fVar 3) (fCons (fVar 1) fNil))))
 (sSeq (sFor (fWalk (fCall F_check_history (fCons (fVar 3) (fCons (fVar 1) (fCons (fVar 2) fNil))))) (gT 2 (gCons' (gN 5) (gCons' (gN 6) gNil')))
 (sSet 4 (fCall F_grown (fCons (fVar 3) (fCons (fVar 4) (fCons (fVar 5) (fCons (fVar 6) fNil)))))))
 (sRet (fVar 4)))))
noncomputable def F_table_of : List D → M → Res D := runF 7 3 g_table_of
theorem sc_table_of : FnScope N_table_of ps_table_of (defScope s_table_of) := C8.fnScope_by (by decide +kernel)
theorem fn_table_of {P : Program} {w : World} {K : PySem.W.Frag} {mg : Str → Option Value} {base : Heap} (h : Hd K mg) {fd : FuncData} (D0 : FnP K "table_of" s_table_of (He.ga K "table_of") fd) : FnG P w K mg base 10 (He.ga K "table_of") fd ps_table_of F_table_of := by
  refine fng_of (N := N_table_of) (W := WF) D0 sc_table_of fun cdv A outer s H room gu => ?_
  exact (pssd_cons (psd_set (i := 3) sc_table_of.nd rfl (by first | exact Or.inl rfl | exact Or.inr rfl) (pd_call (c_check_machine h) nPar_run room (by decide) gu rfl (pad_cons (pd_var 0) pad_nil)))
 (pssd_cons (psd_set (i := 4) sc_table_of.nd rfl (by first | exact Or.inl rfl | exact Or.inr rfl) (pd_call (c_first_table h) nPar_run room (by decide) gu rfl (pad_cons (pd_var 3) (pad_cons (pd_var 1) pad_nil))))
 (pssd_cons (psd_for PassesOwn.never rfl (pid_seq (pd_call (c_check_history h) nPar_run room (by decide) gu rfl (pad_cons (pd_var 3) (pad_cons (pd_var 1) (pad_cons (pd_var 2) pad_nil))))) (pgd_tup rfl (pgsd_cons (pgd_name (i := 5) sc_table_of.nd rfl (by first | exact Or.inl rfl | exact Or.inr rfl)) (pgsd_cons (pgd_name (i := 6) sc_table_of.nd rfl (by first | exact Or.inl rfl | exact Or.inr rfl)) pgsd_nil)))
 (pssd_one (psd_set (i := 4) sc_table_of.nd rfl (by first | exact Or.inl rfl | exact Or.inr rfl) (pd_call (c_grown h) nPar_run room (by decide) gu rfl (pad_cons (pd_var 3) (pad_cons (pd_var 4) (pad_cons (pd_var 5) (pad_cons (pd_var 6) pad_nil))))))))
 (pssd_one (psd_ret (pd_var 4))))))
theorem c_table_of {P : Program} {w : World} {K : PySem.W.Frag} {mg : Str → Option Value} {base : Heap} (h : Hd K mg) : Cle P w K mg base 10 "table_of" 3 F_table_of := by
  obtain ⟨fd, D0⟩ := h.d_table_of
  exact cle_of D0 h.g_table_of rfl (fn_table_of h D0) fun _ _ _ _ _ _ us hl => match us, hl with | [_, _, _], _ => rfl
/-! ### is_row_of -/
noncomputable def g_is_row_of : FS :=
 (sSeq (sDrop (fCall F_check_history (fCons (fVar 0) (fCons (fVar 1) (fCons (fVar 2) fNil)))))
 (sRet (fC (.bl true))))
noncomputable def F_is_row_of : List D → M → Res D := runF 3 3 g_is_row_of
theorem sc_is_row_of : FnScope N_is_row_of ps_is_row_of (defScope s_is_row_of) := C8.fnScope_by (by decide +kernel)
theorem fn_is_row_of {P : Program} {w : World} {K : PySem.W.Frag} {mg : Str → Option Value} {base : Heap} (h : Hd K mg) {fd : FuncData} (D0 : FnP K "is_row_of" s_is_row_of (He.ga K "is_row_of") fd) : FnG P w K mg base 9 (He.ga K "is_row_of") fd ps_is_row_of F_is_row_of := by
  refine fng_of (N := N_is_row_of) (W := WF) D0 sc_is_row_of fun cdv A outer s H room gu => ?_
  exact (pssd_cons (psd_try (pssd_one (psd_expr (pd_call (c_check_history h) nPar_run room (by decide) gu rfl (pad_cons (pd_var 0) (pad_cons (pd_var 1) (pad_cons (pd_var 2) pad_nil)))))))
 (pssd_one (psd_ret pd_bl)))
theorem c_is_row_of {P : Program} {w : World} {K : PySem.W.Frag} {mg : Str → Option Value} {base : Heap} (h : Hd K mg) : Cle P w K mg base 9 "is_row_of" 3 F_is_row_of := by
  obtain ⟨fd, D0⟩ := h.d_is_row_of
  exact cle_of D0 h.g_is_row_of rfl (fn_is_row_of h D0) fun _ _ _ _ _ _ us hl => match us, hl with | [_, _, _], _ => rfl
/-! ### rims_hold -/
noncomputable def g_rims_hold : FS :=
 (sSeq (sSet 3 (fCall F_check_machine (fCons (fVar 0) fNil)))
 (sSeq (sDrop (fCall F_check_history (fCons (fVar 3) (fCons (fVar 1) (fCons (fTup fNil) fNil)))))
 (sSeq (sIf (fOrT (fNotT (fTest (fCall F_is_sequence (fCons (fVar 2) fNil)))) (fOrT (fTest (fOp gNe (fCB gLen (fCons (fVar 2) fNil)) (fC (.int 2)))) (fNotT (fTest (fCB gAllL (fLc (fWalk (fVar 2)) (gN 4) [4] fYes (fCall F_is_row_of (fCons (fVar 3) (fCons (fVar 1) (fCons (fVar 4) fNil))))))))))
 (sRet (fC (.bl false)))
 sNext)
 (sSeq (sAsgL 2 (fLc (fWalk (fVar 2)) (gN 6) [6] fYes (fCall F_table_of (fCons (fVar 3) (fCons (fVar 1) (fCons (fVar 6) fNil))))) (gCons' (gN 4) (gCons' (gN 5) gNil')))
 (sSeq (sIf (fOrT (fTest (fOp gNe (fOp gIx (fVar 4) (fC (.int 0))) (fOp gIx (fVar 5) (fC (.int 0))))) (fTest (fOp gEq (fVar 4) (fVar 5))))
 (sRet (fC (.bl false)))
 sNext)
 (sRet (fCB gAllL (fLc (fRng1 (fVar 1)) (gN 7) [7] fYes (fOp gEq (fCall F_rim (fCons (fVar 4) (fCons (fVar 7) fNil))) (fCall F_rim (fCons (fVar 5) (fCons (fVar 7) fNil))))))))))))
noncomputable def F_rims_hold : List D → M → Res D := runF 8 3 g_rims_hold
theorem sc_rims_hold : FnScope N_rims_hold ps_rims_hold (defScope s_rims_hold) := C8.fnScope_by (by decide +kernel)
theorem fn_rims_hold {P : Program} {w : World} {K : PySem.W.Frag} {mg : Str → Option Value} {base : Heap} (h : Hd K mg) {fd : FuncData} (D0 : FnP K "rims_hold" s_rims_hold (He.ga K "rims_hold") fd) : FnG P w K mg base 11 (He.ga K "rims_hold") fd ps_rims_hold F_rims_hold := by
  refine fng_of (N := N_rims_hold) (W := WF) D0 sc_rims_hold fun cdv A outer s H room gu => ?_
  exact (pssd_cons (psd_set (i := 3) sc_rims_hold.nd rfl (by first | exact Or.inl rfl | exact Or.inr rfl) (pd_call (c_check_machine h) nPar_run room (by decide) gu rfl (pad_cons (pd_var 0) pad_nil)))
 (pssd_cons (psd_expr (pd_call (c_check_history h) nPar_run room (by decide) gu rfl (pad_cons (pd_var 3) (pad_cons (pd_var 1) (pad_cons (pd_tup pad_nil) pad_nil)))))
 (pssd_cons (psd_if (ptd_w (pwd_or (ptd_not (ptd_val (pd_call (c_is_sequence h) nPar_run room (by decide) gu rfl (pad_cons (pd_var 2) pad_nil)))) (pwd_or (ptd_ne (room_units room) (Dl.b_len rfl (b_len h) (pd_var 2)) (pd_glob rfl (i_TWO h))) (pwd_or1 (ptd_not (ptd_val (Dl.b_allL rfl rfl (b_all h) (pld_lc (own := [("one", 4)]) rfl sc_rims_hold.nd (pid_seq (pd_var 2)) (blkOk_by (N := N_rims_hold) (sc := defScope s_rims_hold) (own := [("one", 4)]) (by decide +kernel)) (fun _ _ _ _ _ => (pgd_name (i := 4) sc_rims_hold.nd rfl (by first | exact Or.inl rfl | exact Or.inr rfl))) (fun _ _ _ _ _ => ptsd_nil) (fun _ _ _ _ _ => (pd_call (c_is_row_of h) nPar_run room (by decide) gu rfl (pad_cons (pd_var 3) (pad_cons (pd_var 1) (pad_cons (pd_var 4) pad_nil))))) (by decide)))))))))
 (pssd_one (psd_ret pd_bl))
 pssd_nil)
 (pssd_cons (psd_asgL rfl (pld_lc (own := [("line", 6)]) rfl sc_rims_hold.nd (pid_seq (pd_var 2)) (blkOk_by (N := N_rims_hold) (sc := defScope s_rims_hold) (own := [("line", 6)]) (by decide +kernel)) (fun _ _ _ _ _ => (pgd_name (i := 6) sc_rims_hold.nd rfl (by first | exact Or.inl rfl | exact Or.inr rfl))) (fun _ _ _ _ _ => ptsd_nil) (fun _ _ _ _ _ => (pd_call (c_table_of h) nPar_run room (by decide) gu rfl (pad_cons (pd_var 3) (pad_cons (pd_var 1) (pad_cons (pd_var 6) pad_nil))))) (by decide)) (pgsd_cons (pgd_name (i := 4) sc_rims_hold.nd rfl (by first | exact Or.inl rfl | exact Or.inr rfl)) (pgsd_cons (pgd_name (i := 5) sc_rims_hold.nd rfl (by first | exact Or.inl rfl | exact Or.inr rfl)) pgsd_nil)))
 (pssd_cons (psd_if (ptd_w (pwd_or (ptd_ne (room_units room) (pd_ix (room_units room) (pd_var 4) pd_int) (pd_ix (room_units room) (pd_var 5) pd_int)) (pwd_or1 (ptd_eq (room_units room) (pd_var 4) (pd_var 5)))))
 (pssd_one (psd_ret pd_bl))
 pssd_nil)
 (pssd_one (psd_ret (Dl.b_allL rfl rfl (b_all h) (pld_lc (own := [("hand", 7)]) rfl sc_rims_hold.nd (pid_range1 rfl (b_range h) (pd_var 1)) (blkOk_by (N := N_rims_hold) (sc := defScope s_rims_hold) (own := [("hand", 7)]) (by decide +kernel)) (fun _ _ _ _ _ => (pgd_name (i := 7) sc_rims_hold.nd rfl (by first | exact Or.inl rfl | exact Or.inr rfl))) (fun _ _ _ _ _ => ptsd_nil) (fun _ _ _ _ _ => (pd_eq (room_units room) (pd_call (c_rim h) nPar_run room (by decide) gu rfl (pad_cons (pd_var 4) (pad_cons (pd_var 7) pad_nil))) (pd_call (c_rim h) nPar_run room (by decide) gu rfl (pad_cons (pd_var 5) (pad_cons (pd_var 7) pad_nil))))) (by decide))))))))))
theorem c_rims_hold {P : Program} {w : World} {K : PySem.W.Frag} {mg : Str → Option Value} {base : Heap} (h : Hd K mg) : Cle P w K mg base 11 "rims_hold" 3 F_rims_hold := by
  obtain ⟨fd, D0⟩ := h.d_rims_hold
  exact cle_of D0 h.g_rims_hold rfl (fn_rims_hold h D0) fun _ _ _ _ _ _ us hl => match us, hl with | [_, _, _], _ => rfl
theorem ck_rims_hold__value_hands_machine {P : Program} {w : World} {K : PySem.W.Frag} {mg : Str → Option Value} {base : Heap} (h : Hd K mg) : CleK P w K mg base 11 "rims_hold" 3 F_rims_hold ["value", "hands", "machine"] pm_2_1_0 := by
  obtain ⟨fd, D0⟩ := h.d_rims_hold
  exact clek_of D0 h.g_rims_hold rfl (fn_rims_hold h D0) fun _ _ _ _ _ _ us hl => match us, hl with | [_, _, _], _ => rfl
/-! ### _law_box -/
noncomputable def g__law_box : FS :=
 (sSeq (sSet 2 (fOp gAdd (fOp gMul (fC (.int 9029)) (fVar 1)) (fC (.int 2237))))
 (sSeq (sIf (fTest (fOp gLt (fVar 1) (fCB gLen (fCons (fVar 0) fNil))))
 (sSet 2 (fCB gAbs (fCons (fCB gInt (fCons (fOp gIx (fVar 0) (fVar 1)) fNil)) fNil)))
 (sIf (fTest (fOp gGt (fCB gLen (fCons (fVar 0) fNil)) (fC (.int 0))))
 (sSet 2 (fOp gAdd (fVar 2) (fOp gMul (fOp gMod (fCB gInt (fCons (fCB gAbs (fCons (fCB gInt (fCons (fOp gIx (fVar 0) (fOp gMod (fCB gInt (fCons (fVar 1) fNil)) (fCB gLen (fCons (fVar 0) fNil)))) fNil)) fNil)) fNil)) (fC (.int 2147483563))) (fC (.int 51427)))))
 sNext))
 (sSeq (sSet 3 (fIf (fTest (fOp gGe (fVar 2) (fOp gPow (fC (.int 10)) (fC (.int 18))))) (fVar 2) (fC (.int 0))))
 (sRet (fName (fLst (fCons (fVar 3) (fCons (fOp gAdd (fOp gMod (fCB gInt (fCons (fOp gAdd (fOp gMul (fOp gMod (fCB gInt (fCons (fVar 2) fNil)) (fC (.int 2147483563))) (fC (.int 40014))) (fOp gMul (fC (.int 2237)) (fVar 1))) fNil)) (fC (.int 2147483563))) (fC (.int 1))) fNil))))))))
noncomputable def F__law_box : List D → M → Res D := runF 4 2 g__law_box
theorem sc__law_box : FnScope N__law_box ps__law_box (defScope s__law_box) := C8.fnScope_by (by decide +kernel)
theorem fn__law_box {P : Program} {w : World} {K : PySem.W.Frag} {mg : Str → Option Value} {base : Heap} (h : Hd K mg) {fd : FuncData} (D0 : FnP K "_law_box" s__law_box (He.ga K "_law_box") fd) : FnG P w K mg base 1 (He.ga K "_law_box") fd ps__law_box F__law_box := by
  refine fng_of (N := N__law_box) (W := WF) D0 sc__law_box fun cdv A outer s H room gu => ?_
  exact (pssd_cons (psd_set (i := 2) sc__law_box.nd rfl (by first | exact Or.inl rfl | exact Or.inr rfl) (pd_add (pd_mul pd_int (pd_var 1)) pd_int))
 (pssd_cons (psd_if (ptd_lt (pd_var 1) (Dl.b_len rfl (b_len h) (pd_var 0)))
 (pssd_one (psd_set (i := 2) sc__law_box.nd rfl (by first | exact Or.inl rfl | exact Or.inr rfl) (Dl.b_abs rfl (b_abs h) (Dl.b_int rfl (b_int h) (pd_ix (room_units room) (pd_var 0) (pd_var 1))))))
 (pssd_one (psd_if (ptd_gt (Dl.b_len rfl (b_len h) (pd_var 0)) pd_int)
 (pssd_one (psd_set (i := 2) sc__law_box.nd rfl (by first | exact Or.inl rfl | exact Or.inr rfl) (pd_add (pd_var 2) (pd_mul (pd_mod (Dl.b_int rfl (b_int h) (Dl.b_abs rfl (b_abs h) (Dl.b_int rfl (b_int h) (pd_ix (room_units room) (pd_var 0) (pd_mod (Dl.b_int rfl (b_int h) (pd_var 1)) (Dl.b_len rfl (b_len h) (pd_var 0))))))) pd_int) pd_int))))
 pssd_nil)))
 (pssd_cons (psd_set (i := 3) sc__law_box.nd rfl (by first | exact Or.inl rfl | exact Or.inr rfl) (pd_if (ptd_ge (pd_var 2) (pd_pow pd_int pd_int)) (pd_var 2) pd_int))
 (pssd_one (psd_ret (pd_name (pld_lst (pad_cons (pd_var 3) (pad_cons (pd_add (pd_mod (Dl.b_int rfl (b_int h) (pd_add (pd_mul (pd_mod (Dl.b_int rfl (b_int h) (pd_var 2)) pd_int) pd_int) (pd_mul pd_int (pd_var 1)))) pd_int) pd_int) pad_nil)))))))))
theorem c__law_box {P : Program} {w : World} {K : PySem.W.Frag} {mg : Str → Option Value} {base : Heap} (h : Hd K mg) : Cle P w K mg base 1 "_law_box" 2 F__law_box := by
  obtain ⟨fd, D0⟩ := h.d__law_box
  exact cle_of D0 h.g__law_box rfl (fn__law_box h D0) fun _ _ _ _ _ _ us hl => match us, hl with | [_, _], _ => rfl
/-! ### _law_take -/
noncomputable def g__law_take : FS :=
 (sSeq (sIf (fTest (fOp gGt (fOp gIx (fVar 0) (fC (.int 0))) (fC (.int 0))))
 (sSeq (sSet 2 (fOp gMod (fCB gInt (fCons (fOp gIx (fVar 0) (fC (.int 0))) fNil)) (fVar 1)))
 (sSeq (sSub (fOp gFdiv (fOp gIx (fVar 0) (fC (.int 0))) (fVar 1)) (fVar 0) (fC (.int 0)))
 (sRet (fVar 2))))
 sNext)
 (sSeq (sSet 3 (fOp gMod (fCB gInt (fCons (fOp gAdd (fOp gMul (fOp gIx (fVar 0) (fC (.int 1))) (fC (.int 39373))) (fC (.int 179))) fNil)) (fC (.int 2147483647))))
 (sSeq (sSub (fOp gAdd (fOp gMod (fCB gInt (fCons (fOp gAdd (fOp gMul (fVar 3) (fC (.int 40692))) (fC (.int 151))) fNil)) (fC (.int 2147483399))) (fC (.int 1))) (fVar 0) (fC (.int 1)))
 (sRet (fOp gMod (fCB gInt (fCons (fOp gFdiv (fOp gAdd (fOp gMul (fVar 3) (fC (.int 2147483629))) (fOp gIx (fVar 0) (fC (.int 1)))) (fC (.int 8209))) fNil)) (fVar 1))))))
noncomputable def F__law_take : List D → M → Res D := runF 4 2 g__law_take
theorem sc__law_take : FnScope N__law_take ps__law_take (defScope s__law_take) := C8.fnScope_by (by decide +kernel)
theorem fn__law_take {P : Program} {w : World} {K : PySem.W.Frag} {mg : Str → Option Value} {base : Heap} (h : Hd K mg) {fd : FuncData} (D0 : FnP K "_law_take" s__law_take (He.ga K "_law_take") fd) : FnG P w K mg base 1 (He.ga K "_law_take") fd ps__law_take F__law_take := by
  refine fng_of (N := N__law_take) (W := WF) D0 sc__law_take fun cdv A outer s H room gu => ?_
  exact (pssd_cons (psd_if (ptd_gt (pd_ix (room_units room) (pd_var 0) pd_int) pd_int)
 (pssd_cons (psd_set (i := 2) sc__law_take.nd rfl (by first | exact Or.inl rfl | exact Or.inr rfl) (pd_mod (Dl.b_int rfl (b_int h) (pd_ix (room_units room) (pd_var 0) pd_int)) (pd_var 1)))
 (pssd_cons (psd_sub (room_units room) (pd_fdiv (pd_ix (room_units room) (pd_var 0) pd_int) (pd_var 1)) (pd_var 0) pd_int)
 (pssd_one (psd_ret (pd_var 2)))))
 pssd_nil)
 (pssd_cons (psd_set (i := 3) sc__law_take.nd rfl (by first | exact Or.inl rfl | exact Or.inr rfl) (pd_mod (Dl.b_int rfl (b_int h) (pd_add (pd_mul (pd_ix (room_units room) (pd_var 0) pd_int) pd_int) pd_int)) pd_int))
 (pssd_cons (psd_sub (room_units room) (pd_add (pd_mod (Dl.b_int rfl (b_int h) (pd_add (pd_mul (pd_var 3) pd_int) pd_int)) pd_int) pd_int) (pd_var 0) pd_int)
 (pssd_one (psd_ret (pd_mod (Dl.b_int rfl (b_int h) (pd_fdiv (pd_add (pd_mul (pd_var 3) pd_int) (pd_ix (room_units room) (pd_var 0) pd_int)) pd_int)) (pd_var 1)))))))
theorem c__law_take {P : Program} {w : World} {K : PySem.W.Frag} {mg : Str → Option Value} {base : Heap} (h : Hd K mg) : Cle P w K mg base 1 "_law_take" 2 F__law_take := by
  obtain ⟨fd, D0⟩ := h.d__law_take
  exact cle_of D0 h.g__law_take rfl (fn__law_take h D0) fun _ _ _ _ _ _ us hl => match us, hl with | [_, _], _ => rfl
/-! ### _law_same -/
noncomputable def g__law_same (R : List D → M → Res D) : FS :=
 (sSeq (sIf (fTest (fIsi "tuple" (fVar 1)))
 (sSeq (sIf (fOrT (fNotT (fTest (fIsi "tuple" (fVar 0)))) (fTest (fOp gNe (fCB gLen (fCons (fVar 0) fNil)) (fCB gLen (fCons (fVar 1) fNil)))))
 (sRet (fC (.bl false)))
 sNext)
 (sRet (fOp gEq (fName (fLc (fRng1 (fCB gLen (fCons (fVar 1) fNil))) (gN 2) [2] (fNotT (fTest (fCall R (fCons (fOp gIx (fVar 0) (fVar 2)) (fCons (fOp gIx (fVar 1) (fVar 2)) fNil))))) (fVar 2))) (fName (fLst fNil)))))
 sNext)
 (sSeq (sIf (fIsNT (fVar 1))
 (sRet (fUn gIsN (fVar 0)))
 sNext)
 (sSeq (sIf (fTest (fIsi "bool" (fVar 1)))
 (sRet (fAndV (fIsi "bool" (fVar 0)) (fOp gEq (fVar 0) (fVar 1))))
 sNext)
 (sSeq (sIf (fTest (fIsi "int" (fVar 1)))
 (sRet (fAndV (fIsi "int" (fVar 0)) (fAndV (fNotV (fIsi "bool" (fVar 0))) (fOp gEq (fVar 0) (fVar 1)))))
 sNext)
 (sRet (fAndV (fIsi "str" (fVar 0)) (fOp gEq (fVar 0) (fVar 1))))))))
noncomputable def Fa__law_same : Nat → List D → M → Res D
  | 0 => fun _ _ => .bad
  | n + 1 => runF 3 2 (g__law_same (Fa__law_same n))
noncomputable def F__law_same : List D → M → Res D := Fa__law_same 8
theorem npa__law_same : ∀ n, nPar 2 (Fa__law_same n)
  | 0 => fun _ _ _ => rfl
  | _ + 1 => nPar_run
theorem np__law_same : nPar 2 F__law_same := npa__law_same 8
theorem sc__law_same : FnScope N__law_same ps__law_same (defScope s__law_same) := C8.fnScope_by (by decide +kernel)
theorem fna__law_same {P : Program} {w : World} {K : PySem.W.Frag} {mg : Str → Option Value} {base : Heap} (h : Hd K mg) {fd : FuncData} (D0 : FnP K "_law_same" s__law_same (He.ga K "_law_same") fd) : ∀ n, FnG P w K mg base (1 + n) (He.ga K "_law_same") fd ps__law_same (Fa__law_same n)
  | 0 => ⟨fun _ _ _ _ _ _ _ _ _ _ _ _ _ _ _ _ _ _ _ hsp => hsp.elim⟩
  | n + 1 => by
    have cR : Cle P w K mg base (1 + n) "_law_same" 2 (Fa__law_same n) := cle_of D0 h.g__law_same rfl (fna__law_same h D0 n) fun _ _ _ _ _ _ us hl => match us, hl with | [_, _], _ => rfl
    have nR := npa__law_same n
    refine fng_of (N := N__law_same) (W := WF) (k := 1 + n) D0 sc__law_same fun cdv A outer s H room gu => ?_
    exact (pssd_cons (psd_if (ptd_val (Dl.b_isi (T := "tuple") rfl (b_isinstance h) rfl (b_tuple h) (by decide +kernel) (pd_var 1)))
 (pssd_cons (psd_if (ptd_w (pwd_or (ptd_not (ptd_val (Dl.b_isi (T := "tuple") rfl (b_isinstance h) rfl (b_tuple h) (by decide +kernel) (pd_var 0)))) (pwd_or1 (ptd_ne (room_units room) (Dl.b_len rfl (b_len h) (pd_var 0)) (Dl.b_len rfl (b_len h) (pd_var 1))))))
 (pssd_one (psd_ret pd_bl))
 pssd_nil)
 (pssd_one (psd_ret (pd_eq (room_units room) (pd_name (pld_lc (own := [("place", 2)]) rfl sc__law_same.nd (pid_range1 rfl (b_range h) (Dl.b_len rfl (b_len h) (pd_var 1))) (blkOk_by (N := N__law_same) (sc := defScope s__law_same) (own := [("place", 2)]) (by decide +kernel)) (fun _ _ _ _ _ => (pgd_name (i := 2) sc__law_same.nd rfl (by first | exact Or.inl rfl | exact Or.inr rfl))) (fun _ _ _ _ _ => (ptsd_one (ptd_not (ptd_val (pd_call cR nR room (by omega) gu rfl (pad_cons (pd_ix (room_units room) (pd_var 0) (pd_var 2)) (pad_cons (pd_ix (room_units room) (pd_var 1) (pd_var 2)) pad_nil))))))) (fun _ _ _ _ _ => (pd_var 2)) (by decide))) (pd_name (pld_lst pad_nil))))))
 pssd_nil)
 (pssd_cons (psd_if (ptd_isN (pd_var 1))
 (pssd_one (psd_ret (pd_isN (pd_var 0))))
 pssd_nil)
 (pssd_cons (psd_if (ptd_val (Dl.b_isi (T := "bool") rfl (b_isinstance h) rfl (b_bool h) (by decide +kernel) (pd_var 1)))
 (pssd_one (psd_ret (pd_and (Dl.b_isi (T := "bool") rfl (b_isinstance h) rfl (b_bool h) (by decide +kernel) (pd_var 0)) (pd_one (pd_eq (room_units room) (pd_var 0) (pd_var 1))))))
 pssd_nil)
 (pssd_cons (psd_if (ptd_val (Dl.b_isi (T := "int") rfl (b_isinstance h) rfl (b_int h) (by decide +kernel) (pd_var 1)))
 (pssd_one (psd_ret (pd_and (Dl.b_isi (T := "int") rfl (b_isinstance h) rfl (b_int h) (by decide +kernel) (pd_var 0)) (pd_and (pd_not (Dl.b_isi (T := "bool") rfl (b_isinstance h) rfl (b_bool h) (by decide +kernel) (pd_var 0))) (pd_one (pd_eq (room_units room) (pd_var 0) (pd_var 1)))))))
 pssd_nil)
 (pssd_one (psd_ret (pd_and (Dl.b_isi (T := "str") rfl (b_isinstance h) rfl (b_str h) (by decide +kernel) (pd_var 0)) (pd_one (pd_eq (room_units room) (pd_var 0) (pd_var 1))))))))))
theorem fn__law_same {P : Program} {w : World} {K : PySem.W.Frag} {mg : Str → Option Value} {base : Heap} (h : Hd K mg) {fd : FuncData} (D0 : FnP K "_law_same" s__law_same (He.ga K "_law_same") fd) : FnG P w K mg base 9 (He.ga K "_law_same") fd ps__law_same F__law_same := fna__law_same h D0 8
theorem c__law_same {P : Program} {w : World} {K : PySem.W.Frag} {mg : Str → Option Value} {base : Heap} (h : Hd K mg) : Cle P w K mg base 9 "_law_same" 2 F__law_same := by
  obtain ⟨fd, D0⟩ := h.d__law_same
  exact cle_of D0 h.g__law_same rfl (fn__law_same h D0) fun _ _ _ _ _ _ us hl => match us, hl with | [_, _], _ => rfl
/-! ### _law_pick -/
noncomputable def g__law_pick : FS :=
 (sRet (fOp gIx (fVar 1) (fCall F__law_take (fCons (fVar 0) (fCons (fCB gLen (fCons (fVar 1) fNil)) fNil)))))
noncomputable def F__law_pick : List D → M → Res D := runF 2 2 g__law_pick
theorem sc__law_pick : FnScope N__law_pick ps__law_pick (defScope s__law_pick) := C8.fnScope_by (by decide +kernel)
theorem fn__law_pick {P : Program} {w : World} {K : PySem.W.Frag} {mg : Str → Option Value} {base : Heap} (h : Hd K mg) {fd : FuncData} (D0 : FnP K "_law_pick" s__law_pick (He.ga K "_law_pick") fd) : FnG P w K mg base 2 (He.ga K "_law_pick") fd ps__law_pick F__law_pick := by
  refine fng_of (N := N__law_pick) (W := WF) D0 sc__law_pick fun cdv A outer s H room gu => ?_
  exact (pssd_one (psd_ret (pd_ix (room_units room) (pd_var 1) (pd_call (c__law_take h) nPar_run room (by decide) gu rfl (pad_cons (pd_var 0) (pad_cons (Dl.b_len rfl (b_len h) (pd_var 1)) pad_nil))))))
theorem c__law_pick {P : Program} {w : World} {K : PySem.W.Frag} {mg : Str → Option Value} {base : Heap} (h : Hd K mg) : Cle P w K mg base 2 "_law_pick" 2 F__law_pick := by
  obtain ⟨fd, D0⟩ := h.d__law_pick
  exact cle_of D0 h.g__law_pick rfl (fn__law_pick h D0) fun _ _ _ _ _ _ us hl => match us, hl with | [_, _], _ => rfl
/-! ### _law_rings -/
noncomputable def g__law_rings : FS :=
 (sSeq (sSet 3 (fOp gFdiv (fVar 0) (fC (.int 2))))
 (sSeq (sIf (fTest (fOp gEq (fVar 3) (fC (.int 0))))
 (sRet (fLstA (fRgA1 (fVar 0))))
 sNext)
 (sRet (fOp gAdd (fName (fLc (fRng1 (fVar 3)) (gN 4) [4] fYes (fOp gMod (fCB gInt (fCons (fOp gAdd (fVar 4) (fVar 1)) fNil)) (fVar 3)))) (fName (fLc (fRng1 (fOp gSub (fVar 0) (fVar 3))) (gN 4) [4] fYes (fOp gAdd (fVar 3) (fOp gMod (fCB gInt (fCons (fOp gAdd (fVar 4) (fVar 2)) fNil)) (fOp gSub (fVar 0) (fVar 3))))))))))
noncomputable def F__law_rings : List D → M → Res D := runF 5 3 g__law_rings
theorem sc__law_rings : FnScope N__law_rings ps__law_rings (defScope s__law_rings) := C8.fnScope_by (by decide +kernel)
theorem fn__law_rings {P : Program} {w : World} {K : PySem.W.Frag} {mg : Str → Option Value} {base : Heap} (h : Hd K mg) {fd : FuncData} (D0 : FnP K "_law_rings" s__law_rings (He.ga K "_law_rings") fd) : FnG P w K mg base 1 (He.ga K "_law_rings") fd ps__law_rings F__law_rings := by
  refine fng_of (N := N__law_rings) (W := WF) D0 sc__law_rings fun cdv A outer s H room gu => ?_
  exact (pssd_cons (psd_set (i := 3) sc__law_rings.nd rfl (by first | exact Or.inl rfl | exact Or.inr rfl) (pd_fdiv (pd_var 0) pd_int))
 (pssd_cons (psd_if (ptd_eq (room_units room) (pd_var 3) pd_int)
 (pssd_one (psd_ret (pd_listRg rfl rfl (b_list h) (prgd_1 rfl (b_range h) (pd_var 0)))))
 pssd_nil)
 (pssd_one (psd_ret (pd_add (pd_name (pld_lc (own := [("board", 4)]) rfl sc__law_rings.nd (pid_range1 rfl (b_range h) (pd_var 3)) (blkOk_by (N := N__law_rings) (sc := defScope s__law_rings) (own := [("board", 4)]) (by decide +kernel)) (fun _ _ _ _ _ => (pgd_name (i := 4) sc__law_rings.nd rfl (by first | exact Or.inl rfl | exact Or.inr rfl))) (fun _ _ _ _ _ => ptsd_nil) (fun _ _ _ _ _ => (pd_mod (Dl.b_int rfl (b_int h) (pd_add (pd_var 4) (pd_var 1))) (pd_var 3))) (by decide))) (pd_name (pld_lc (own := [("board", 4)]) rfl sc__law_rings.nd (pid_range1 rfl (b_range h) (pd_sub (pd_var 0) (pd_var 3))) (blkOk_by (N := N__law_rings) (sc := defScope s__law_rings) (own := [("board", 4)]) (by decide +kernel)) (fun _ _ _ _ _ => (pgd_name (i := 4) sc__law_rings.nd rfl (by first | exact Or.inl rfl | exact Or.inr rfl))) (fun _ _ _ _ _ => ptsd_nil) (fun _ _ _ _ _ => (pd_add (pd_var 3) (pd_mod (Dl.b_int rfl (b_int h) (pd_add (pd_var 4) (pd_var 2))) (pd_sub (pd_var 0) (pd_var 3))))) (by decide))))))))
theorem c__law_rings {P : Program} {w : World} {K : PySem.W.Frag} {mg : Str → Option Value} {base : Heap} (h : Hd K mg) : Cle P w K mg base 1 "_law_rings" 3 F__law_rings := by
  obtain ⟨fd, D0⟩ := h.d__law_rings
  exact cle_of D0 h.g__law_rings rfl (fn__law_rings h D0) fun _ _ _ _ _ _ us hl => match us, hl with | [_, _, _], _ => rfl
/-! ### _law_map -/
noncomputable def g__law_map : FS :=
 (sSeq (sAsg (fTup (fCons (fCall F__law_take (fCons (fVar 0) (fCons (fVar 1) fNil))) (fCons (fCall F__law_take (fCons (fVar 0) (fCons (fVar 1) fNil))) fNil))) (gT 2 (gCons' (gN 3) (gCons' (gN 4) gNil'))))
 (sSeq (sIf (fTest (fOp gEq (fVar 2) (fC (.int 0))))
 (sRet (fName (fLc (fRng1 (fVar 1)) (gN 5) [5] fYes (fOp gMod (fCB gInt (fCons (fOp gAdd (fVar 5) (fVar 3)) fNil)) (fVar 1)))))
 sNext)
 (sSeq (sIf (fTest (fOp gEq (fVar 2) (fC (.int 1))))
 (sRet (fCall F__law_rings (fCons (fVar 1) (fCons (fVar 3) (fCons (fVar 4) fNil)))))
 sNext)
 (sSeq (sIf (fTest (fOp gEq (fVar 2) (fC (.int 2))))
 (sRet (fName (fLc (fRng1 (fVar 1)) (gN 5) [5] fYes (fCB gMin2 (fCons (fOp gAdd (fVar 5) (fVar 3)) (fCons (fOp gSub (fVar 1) (fC (.int 1))) fNil))))))
 sNext)
 (sRet (fName (fLc (fRng1 (fVar 1)) (gN 5) [5] fYes (fCall F__law_pick (fCons (fVar 0) (fCons (fName (fLst (fCons (fVar 5) (fCons (fVar 3) (fCons (fCall F__law_take (fCons (fVar 0) (fCons (fVar 1) fNil))) fNil))))) fNil))))))))))
noncomputable def F__law_map : List D → M → Res D := runF 6 3 g__law_map
theorem sc__law_map : FnScope N__law_map ps__law_map (defScope s__law_map) := C8.fnScope_by (by decide +kernel)
theorem fn__law_map {P : Program} {w : World} {K : PySem.W.Frag} {mg : Str → Option Value} {base : Heap} (h : Hd K mg) {fd : FuncData} (D0 : FnP K "_law_map" s__law_map (He.ga K "_law_map") fd) : FnG P w K mg base 3 (He.ga K "_law_map") fd ps__law_map F__law_map := by
  refine fng_of (N := N__law_map) (W := WF) D0 sc__law_map fun cdv A outer s H room gu => ?_
  exact (pssd_cons (psd_asg (pd_tup (pad_cons (pd_call (c__law_take h) nPar_run room (by decide) gu rfl (pad_cons (pd_var 0) (pad_cons (pd_var 1) pad_nil))) (pad_cons (pd_call (c__law_take h) nPar_run room (by decide) gu rfl (pad_cons (pd_var 0) (pad_cons (pd_var 1) pad_nil))) pad_nil))) (pgd_tup rfl (pgsd_cons (pgd_name (i := 3) sc__law_map.nd rfl (by first | exact Or.inl rfl | exact Or.inr rfl)) (pgsd_cons (pgd_name (i := 4) sc__law_map.nd rfl (by first | exact Or.inl rfl | exact Or.inr rfl)) pgsd_nil))))
 (pssd_cons (psd_if (ptd_eq (room_units room) (pd_var 2) pd_int)
 (pssd_one (psd_ret (pd_name (pld_lc (own := [("board", 5)]) rfl sc__law_map.nd (pid_range1 rfl (b_range h) (pd_var 1)) (blkOk_by (N := N__law_map) (sc := defScope s__law_map) (own := [("board", 5)]) (by decide +kernel)) (fun _ _ _ _ _ => (pgd_name (i := 5) sc__law_map.nd rfl (by first | exact Or.inl rfl | exact Or.inr rfl))) (fun _ _ _ _ _ => ptsd_nil) (fun _ _ _ _ _ => (pd_mod (Dl.b_int rfl (b_int h) (pd_add (pd_var 5) (pd_var 3))) (pd_var 1))) (by decide)))))
 pssd_nil)
 (pssd_cons (psd_if (ptd_eq (room_units room) (pd_var 2) pd_int)
 (pssd_one (psd_ret (pd_call (c__law_rings h) nPar_run room (by decide) gu rfl (pad_cons (pd_var 1) (pad_cons (pd_var 3) (pad_cons (pd_var 4) pad_nil))))))
 pssd_nil)
 (pssd_cons (psd_if (ptd_eq (room_units room) (pd_var 2) pd_int)
 (pssd_one (psd_ret (pd_name (pld_lc (own := [("board", 5)]) rfl sc__law_map.nd (pid_range1 rfl (b_range h) (pd_var 1)) (blkOk_by (N := N__law_map) (sc := defScope s__law_map) (own := [("board", 5)]) (by decide +kernel)) (fun _ _ _ _ _ => (pgd_name (i := 5) sc__law_map.nd rfl (by first | exact Or.inl rfl | exact Or.inr rfl))) (fun _ _ _ _ _ => ptsd_nil) (fun _ _ _ _ _ => (Dl.b_min2 rfl rfl (b_min h) (pd_add (pd_var 5) (pd_var 3)) (pd_sub (pd_var 1) pd_int))) (by decide)))))
 pssd_nil)
 (pssd_one (psd_ret (pd_name (pld_lc (own := [("board", 5)]) rfl sc__law_map.nd (pid_range1 rfl (b_range h) (pd_var 1)) (blkOk_by (N := N__law_map) (sc := defScope s__law_map) (own := [("board", 5)]) (by decide +kernel)) (fun _ _ _ _ _ => (pgd_name (i := 5) sc__law_map.nd rfl (by first | exact Or.inl rfl | exact Or.inr rfl))) (fun _ _ _ _ _ => ptsd_nil) (fun _ _ _ _ _ => (pd_call (c__law_pick h) nPar_run room (by decide) gu rfl (pad_cons (pd_var 0) (pad_cons (pd_name (pld_lst (pad_cons (pd_var 5) (pad_cons (pd_var 3) (pad_cons (pd_call (c__law_take h) nPar_run room (by decide) gu rfl (pad_cons (pd_var 0) (pad_cons (pd_var 1) pad_nil))) pad_nil))))) pad_nil)))) (by decide)))))))))
theorem c__law_map {P : Program} {w : World} {K : PySem.W.Frag} {mg : Str → Option Value} {base : Heap} (h : Hd K mg) : Cle P w K mg base 3 "_law_map" 3 F__law_map := by
  obtain ⟨fd, D0⟩ := h.d__law_map
  exact cle_of D0 h.g__law_map rfl (fn__law_map h D0) fun _ _ _ _ _ _ us hl => match us, hl with | [_, _, _], _ => rfl
/-! ### _law_machine -/
noncomputable def g__law_machine : FS :=
 (sSeq (sAsg (fTup (fCons (fCall F__law_pick (fCons (fVar 0) (fCons (fName (fLst (fCons (fC (.int 8)) (fCons (fC (.int 7)) (fCons (fC (.int 5)) (fCons (fOp gAdd (fC (.int 1)) (fCall F__law_take (fCons (fVar 0) (fCons (fC (.int 8)) fNil)))) fNil)))))) fNil))) (fCons (fCall F__law_pick (fCons (fVar 0) (fCons (fName (fLst (fCons (fC (.int 0)) (fCons (fC (.int 1)) (fCons (fC (.int 2)) (fCons (fC (.int 2)) (fCons (fC (.int 3)) fNil))))))) fNil))) fNil))) (gT 2 (gCons' (gN 1) (gCons' (gN 2) gNil'))))
 (sSeq (sSetL 3 (fLc (fRng1 (fCall F__law_pick (fCons (fVar 0) (fCons (fName (fLst (fCons (fC (.int 6)) (fCons (fC (.int 4)) (fCons (fC (.int 2)) (fCons (fOp gAdd (fC (.int 1)) (fCall F__law_take (fCons (fVar 0) (fCons (fC (.int 6)) fNil)))) fNil)))))) fNil)))) (gN 11) [11] fYes (fCall F__law_map (fCons (fVar 0) (fCons (fVar 1) (fCons (fVar 2) fNil))))))
 (sSeq (sFor (fRng1 (fCall F__law_pick (fCons (fVar 0) (fCons (fName (fLst (fCons (fC (.int 0)) (fCons (fC (.int 1)) (fCons (fC (.int 1)) (fCons (fC (.int 2)) fNil)))))) fNil)))) (gN 4)
 (sSeq (sSet 5 (fOp gIx (fVar 3) (fCall F__law_take (fCons (fVar 0) (fCons (fCB gLen (fCons (fVar 3) fNil)) fNil)))))
 (sSub (fCall F__law_take (fCons (fVar 0) (fCons (fVar 1) fNil))) (fVar 5) (fCall F__law_take (fCons (fVar 0) (fCons (fVar 1) fNil))))))
 (sSeq (sPar 6 7 (fCons (fLstA (fRgA1 (fVar 1))) (fCons (fName (fLst fNil)) fNil)))
 (sSeq (sFor (fRng1 (fVar 1)) (gN 4)
 (sDrop (fMeth mAppend (fVar 7) (fCons (fMeth mPop0 (fVar 6) (fCons (fIf (fTest (fOp gLt (fVar 2) (fC (.int 3)))) (fCall F__law_take (fCons (fVar 0) (fCons (fCB gLen (fCons (fVar 6) fNil)) fNil))) (fC (.int 0))) fNil)) fNil))))
 (sSeq (sSet 8 (fName (fLst fNil)))
 (sSeq (sFor (fWalk (fVar 3)) (gN 5)
 (sSeq (sSet 9 (fOp gMul (fName (fLst (fCons (fC (.int 0)) fNil))) (fVar 1)))
 (sSeq (sFor (fRng1 (fVar 1)) (gN 10)
 (sSub (fOp gIx (fVar 7) (fOp gIx (fVar 5) (fVar 10))) (fVar 9) (fOp gIx (fVar 7) (fVar 10))))
 (sDrop (fMeth mAppend (fVar 8) (fCons (fCB gTuple (fCons (fVar 9) fNil)) fNil))))))
 (sRet (fTup (fCons (fOp gIx (fVar 7) (fC (.int 0))) (fCons (fCB gTuple (fCons (fVar 8) fNil)) fNil)))))))))))
noncomputable def F__law_machine : List D → M → Res D := runF 12 1 g__law_machine
theorem sc__law_machine : FnScope N__law_machine ps__law_machine (defScope s__law_machine) := C8.fnScope_by (by decide +kernel)
theorem fn__law_machine {P : Program} {w : World} {K : PySem.W.Frag} {mg : Str → Option Value} {base : Heap} (h : Hd K mg) {fd : FuncData} (D0 : FnP K "_law_machine" s__law_machine (He.ga K "_law_machine") fd) : FnG P w K mg base 4 (He.ga K "_law_machine") fd ps__law_machine F__law_machine := by
  refine fng_of (N := N__law_machine) (W := WF) D0 sc__law_machine fun cdv A outer s H room gu => ?_
  exact (pssd_cons (psd_asg (pd_tup (pad_cons (pd_call (c__law_pick h) nPar_run room (by decide) gu rfl (pad_cons (pd_var 0) (pad_cons (pd_name (pld_lst (pad_cons pd_int (pad_cons pd_int (pad_cons pd_int (pad_cons (pd_add pd_int (pd_call (c__law_take h) nPar_run room (by decide) gu rfl (pad_cons (pd_var 0) (pad_cons pd_int pad_nil)))) pad_nil)))))) pad_nil))) (pad_cons (pd_call (c__law_pick h) nPar_run room (by decide) gu rfl (pad_cons (pd_var 0) (pad_cons (pd_name (pld_lst (pad_cons pd_int (pad_cons pd_int (pad_cons pd_int (pad_cons pd_int (pad_cons pd_int pad_nil))))))) pad_nil))) pad_nil))) (pgd_tup rfl (pgsd_cons (pgd_name (i := 1) sc__law_machine.nd rfl (by first | exact Or.inl rfl | exact Or.inr rfl)) (pgsd_cons (pgd_name (i := 2) sc__law_machine.nd rfl (by first | exact Or.inl rfl | exact Or.inr rfl)) pgsd_nil))))
 (pssd_cons (psd_setLc (own := [("deed", 11)]) rfl sc__law_machine.nd rfl rfl (sw_true rfl rfl rfl (by decide +kernel)) (pid_range1 rfl (b_range h) (pd_call (c__law_pick h) nPar_run room (by decide) gu rfl (pad_cons (pd_var 0) (pad_cons (pd_name (pld_lst (pad_cons pd_int (pad_cons pd_int (pad_cons pd_int (pad_cons (pd_add pd_int (pd_call (c__law_take h) nPar_run room (by decide) gu rfl (pad_cons (pd_var 0) (pad_cons pd_int pad_nil)))) pad_nil)))))) pad_nil)))) (blkOk_by (N := N__law_machine) (sc := defScope s__law_machine) (own := [("deed", 11)]) (by decide +kernel)) (fun _ _ _ _ _ => (pgd_name (i := 11) sc__law_machine.nd rfl (by first | exact Or.inl rfl | exact Or.inr rfl))) (fun _ _ _ _ _ => ptsd_nil) (fun _ _ _ _ _ => (pd_call (c__law_map h) nPar_run room (by decide) gu rfl (pad_cons (pd_var 0) (pad_cons (pd_var 1) (pad_cons (pd_var 2) pad_nil))))) (by decide))
 (pssd_cons (psd_for PassesOwn.never rfl (pid_range1 rfl (b_range h) (pd_call (c__law_pick h) nPar_run room (by decide) gu rfl (pad_cons (pd_var 0) (pad_cons (pd_name (pld_lst (pad_cons pd_int (pad_cons pd_int (pad_cons pd_int (pad_cons pd_int pad_nil)))))) pad_nil)))) (pgd_name (i := 4) sc__law_machine.nd rfl (by first | exact Or.inl rfl | exact Or.inr rfl))
 (pssd_cons (psd_set (i := 5) sc__law_machine.nd rfl (by first | exact Or.inl rfl | exact Or.inr rfl) (pd_ix (room_units room) (pd_var 3) (pd_call (c__law_take h) nPar_run room (by decide) gu rfl (pad_cons (pd_var 0) (pad_cons (Dl.b_len rfl (b_len h) (pd_var 3)) pad_nil)))))
 (pssd_one (psd_sub (room_units room) (pd_call (c__law_take h) nPar_run room (by decide) gu rfl (pad_cons (pd_var 0) (pad_cons (pd_var 1) pad_nil))) (pd_var 5) (pd_call (c__law_take h) nPar_run room (by decide) gu rfl (pad_cons (pd_var 0) (pad_cons (pd_var 1) pad_nil)))))))
 (pssd_cons (psd_par (i := 6) (j := 7) rfl sc__law_machine.nd rfl rfl (by decide) rfl rfl (pad_cons (pd_listRg rfl rfl (b_list h) (prgd_1 rfl (b_range h) (pd_var 1))) (pad_cons (pd_name (pld_lst pad_nil)) pad_nil)))
 (pssd_cons (psd_for PassesOwn.never rfl (pid_range1 rfl (b_range h) (pd_var 1)) (pgd_name (i := 4) sc__law_machine.nd rfl (by first | exact Or.inl rfl | exact Or.inr rfl))
 (pssd_one (psd_expr (pd_append (pd_var 7) (pad_cons (pd_pop0 (pd_var 6) (pad_cons (pd_if (ptd_lt (pd_var 2) pd_int) (pd_call (c__law_take h) nPar_run room (by decide) gu rfl (pad_cons (pd_var 0) (pad_cons (Dl.b_len rfl (b_len h) (pd_var 6)) pad_nil))) pd_int) pad_nil)) pad_nil)))))
 (pssd_cons (psd_set (i := 8) sc__law_machine.nd rfl (by first | exact Or.inl rfl | exact Or.inr rfl) (pd_name (pld_lst pad_nil)))
 (pssd_cons (psd_for PassesOwn.never rfl (pid_seq (pd_var 3)) (pgd_name (i := 5) sc__law_machine.nd rfl (by first | exact Or.inl rfl | exact Or.inr rfl))
 (pssd_cons (psd_set (i := 9) sc__law_machine.nd rfl (by first | exact Or.inl rfl | exact Or.inr rfl) (pd_mul (pd_name (pld_lst (pad_cons pd_int pad_nil))) (pd_var 1)))
 (pssd_cons (psd_for PassesOwn.never rfl (pid_range1 rfl (b_range h) (pd_var 1)) (pgd_name (i := 10) sc__law_machine.nd rfl (by first | exact Or.inl rfl | exact Or.inr rfl))
 (pssd_one (psd_sub (room_units room) (pd_ix (room_units room) (pd_var 7) (pd_ix (room_units room) (pd_var 5) (pd_var 10))) (pd_var 9) (pd_ix (room_units room) (pd_var 7) (pd_var 10)))))
 (pssd_one (psd_expr (pd_append (pd_var 8) (pad_cons (Dl.b_tuple rfl (b_tuple h) (pd_var 9)) pad_nil)))))))
 (pssd_one (psd_ret (pd_tup (pad_cons (pd_ix (room_units room) (pd_var 7) pd_int) (pad_cons (Dl.b_tuple rfl (b_tuple h) (pd_var 8)) pad_nil))))))))))))
theorem c__law_machine {P : Program} {w : World} {K : PySem.W.Frag} {mg : Str → Option Value} {base : Heap} (h : Hd K mg) : Cle P w K mg base 4 "_law_machine" 1 F__law_machine := by
  obtain ⟨fd, D0⟩ := h.d__law_machine
  exact cle_of D0 h.g__law_machine rfl (fn__law_machine h D0) fun _ _ _ _ _ _ us hl => match us, hl with | [_], _ => rfl
/-! ### _law_rows -/
noncomputable def g__law_rows : FS :=
 (sSeq (sSet 1 (fName (fLst (fCons (fTup (fCons (fOp gIx (fVar 0) (fC (.int 0))) (fCons (fTup fNil) fNil))) fNil))))
 (sSeq (sFor (fRng1 (fC (.int 8))) (gN 2)
 (sIf (fTest (fOp gLt (fVar 2) (fCB gLen (fCons (fVar 1) fNil))))
 (sFor (fEnum (fOp gIx (fVar 0) (fC (.int 1)))) (gT 2 (gCons' (gN 3) (gCons' (gN 4) gNil')))
 (sSeq (sSet 5 (fOp gIx (fVar 4) (fOp gIx (fOp gIx (fVar 1) (fVar 2)) (fC (.int 0)))))
 (sIf (fGcB (fTest (fOp gNotIn (fVar 5) (fName (fLc (fWalk (fVar 1)) (gT 2 (gCons' (gN 6) (gCons' (gN 7) gNil'))) [6, 7] fYes (fVar 6))))))
 (sDrop (fMeth mAppend (fVar 1) (fCons (fTup (fCons (fVar 5) (fCons (fOp gAdd (fOp gIx (fOp gIx (fVar 1) (fVar 2)) (fC (.int 1))) (fTup (fCons (fVar 3) fNil))) fNil))) fNil)))
 sNext)))
 sNext))
 (sRet (fVar 1))))
noncomputable def F__law_rows : List D → M → Res D := runF 8 1 g__law_rows
theorem sc__law_rows : FnScope N__law_rows ps__law_rows (defScope s__law_rows) := C8.fnScope_by (by decide +kernel)
theorem fn__law_rows {P : Program} {w : World} {K : PySem.W.Frag} {mg : Str → Option Value} {base : Heap} (h : Hd K mg) {fd : FuncData} (D0 : FnP K "_law_rows" s__law_rows (He.ga K "_law_rows") fd) : FnG P w K mg base 1 (He.ga K "_law_rows") fd ps__law_rows F__law_rows := by
  refine fng_of (N := N__law_rows) (W := WF) D0 sc__law_rows fun cdv A outer s H room gu => ?_
  exact (pssd_cons (psd_set (i := 1) sc__law_rows.nd rfl (by first | exact Or.inl rfl | exact Or.inr rfl) (pd_name (pld_lst (pad_cons (pd_tup (pad_cons (pd_ix (room_units room) (pd_var 0) pd_int) (pad_cons (pd_tup pad_nil) pad_nil))) pad_nil))))
 (pssd_cons (psd_for PassesOwn.never rfl (pid_range1 rfl (b_range h) pd_int) (pgd_name (i := 2) sc__law_rows.nd rfl (by first | exact Or.inl rfl | exact Or.inr rfl))
 (pssd_one (psd_if (ptd_lt (pd_var 2) (Dl.b_len rfl (b_len h) (pd_var 1)))
 (pssd_one (psd_for PassesOwn.never rfl (pid_enum rfl (b_enumerate h) (pd_ix (room_units room) (pd_var 0) pd_int)) (pgd_tup rfl (pgsd_cons (pgd_name (i := 3) sc__law_rows.nd rfl (by first | exact Or.inl rfl | exact Or.inr rfl)) (pgsd_cons (pgd_name (i := 4) sc__law_rows.nd rfl (by first | exact Or.inl rfl | exact Or.inr rfl)) pgsd_nil)))
 (pssd_cons (psd_set (i := 5) sc__law_rows.nd rfl (by first | exact Or.inl rfl | exact Or.inr rfl) (pd_ix (room_units room) (pd_var 4) (pd_ix (room_units room) (pd_ix (room_units room) (pd_var 1) (pd_var 2)) pd_int)))
 (pssd_one (psd_if (ptd_gc (ptd_notIn (room_units room) (pd_var 5) (pd_name (pld_lc (own := [("board", 6), ("deeds", 7)]) rfl sc__law_rows.nd (pid_seq (pd_var 1)) (blkOk_by (N := N__law_rows) (sc := defScope s__law_rows) (own := [("board", 6), ("deeds", 7)]) (by decide +kernel)) (fun _ _ _ _ _ => (pgd_tup rfl (pgsd_cons (pgd_name (i := 6) sc__law_rows.nd rfl (by first | exact Or.inl rfl | exact Or.inr rfl)) (pgsd_cons (pgd_name (i := 7) sc__law_rows.nd rfl (by first | exact Or.inl rfl | exact Or.inr rfl)) pgsd_nil)))) (fun _ _ _ _ _ => ptsd_nil) (fun _ _ _ _ _ => (pd_var 6)) (by decide)))))
 (pssd_one (psd_expr (pd_append (pd_var 1) (pad_cons (pd_tup (pad_cons (pd_var 5) (pad_cons (pd_add (pd_ix (room_units room) (pd_ix (room_units room) (pd_var 1) (pd_var 2)) pd_int) (pd_tup (pad_cons (pd_var 3) pad_nil))) pad_nil))) pad_nil))))
 pssd_nil)))))
 pssd_nil)))
 (pssd_one (psd_ret (pd_var 1)))))
theorem c__law_rows {P : Program} {w : World} {K : PySem.W.Frag} {mg : Str → Option Value} {base : Heap} (h : Hd K mg) : Cle P w K mg base 1 "_law_rows" 1 F__law_rows := by
  obtain ⟨fd, D0⟩ := h.d__law_rows
  exact cle_of D0 h.g__law_rows rfl (fn__law_rows h D0) fun _ _ _ _ _ _ us hl => match us, hl with | [_], _ => rfl
/-! ### _law_clash -/
noncomputable def g__law_clash : FS :=
 (sSeq (sFor (fWalk (fCall F__law_rows (fCons (fVar 0) fNil))) (gT 2 (gCons' (gN 1) (gCons' (gN 2) gNil')))
 (sFor (fRng1 (fCB gLen (fCons (fOp gIx (fVar 0) (fC (.int 1))) fNil))) (gN 3)
 (sSeq (sSet 4 (fOp gIx (fOp gIx (fVar 0) (fC (.int 1))) (fVar 3)))
 (sFor (fRng2 (fOp gAdd (fVar 3) (fC (.int 1))) (fCB gLen (fCons (fOp gIx (fVar 0) (fC (.int 1))) fNil))) (gN 5)
 (sSeq (sSet 6 (fOp gIx (fOp gIx (fVar 0) (fC (.int 1))) (fVar 5)))
 (sIf (fTest (fOp gNe (fOp gIx (fVar 4) (fOp gIx (fVar 6) (fVar 1))) (fOp gIx (fVar 6) (fOp gIx (fVar 4) (fVar 1)))))
 (sRet (fTup (fCons (fVar 2) (fCons (fVar 3) (fCons (fVar 5) fNil)))))
 sNext))))))
 (sRet (fC .non)))
noncomputable def F__law_clash : List D → M → Res D := runF 7 1 g__law_clash
theorem sc__law_clash : FnScope N__law_clash ps__law_clash (defScope s__law_clash) := C8.fnScope_by (by decide +kernel)
theorem fn__law_clash {P : Program} {w : World} {K : PySem.W.Frag} {mg : Str → Option Value} {base : Heap} (h : Hd K mg) {fd : FuncData} (D0 : FnP K "_law_clash" s__law_clash (He.ga K "_law_clash") fd) : FnG P w K mg base 2 (He.ga K "_law_clash") fd ps__law_clash F__law_clash := by
  refine fng_of (N := N__law_clash) (W := WF) D0 sc__law_clash fun cdv A outer s H room gu => ?_
  exact (pssd_cons (psd_for PassesOwn.never rfl (pid_seq (pd_call (c__law_rows h) nPar_run room (by decide) gu rfl (pad_cons (pd_var 0) pad_nil))) (pgd_tup rfl (pgsd_cons (pgd_name (i := 1) sc__law_clash.nd rfl (by first | exact Or.inl rfl | exact Or.inr rfl)) (pgsd_cons (pgd_name (i := 2) sc__law_clash.nd rfl (by first | exact Or.inl rfl | exact Or.inr rfl)) pgsd_nil)))
 (pssd_one (psd_for PassesOwn.never rfl (pid_range1 rfl (b_range h) (Dl.b_len rfl (b_len h) (pd_ix (room_units room) (pd_var 0) pd_int))) (pgd_name (i := 3) sc__law_clash.nd rfl (by first | exact Or.inl rfl | exact Or.inr rfl))
 (pssd_cons (psd_set (i := 4) sc__law_clash.nd rfl (by first | exact Or.inl rfl | exact Or.inr rfl) (pd_ix (room_units room) (pd_ix (room_units room) (pd_var 0) pd_int) (pd_var 3)))
 (pssd_one (psd_for PassesOwn.never rfl (pid_range2 rfl (b_range h) (pd_add (pd_var 3) pd_int) (Dl.b_len rfl (b_len h) (pd_ix (room_units room) (pd_var 0) pd_int))) (pgd_name (i := 5) sc__law_clash.nd rfl (by first | exact Or.inl rfl | exact Or.inr rfl))
 (pssd_cons (psd_set (i := 6) sc__law_clash.nd rfl (by first | exact Or.inl rfl | exact Or.inr rfl) (pd_ix (room_units room) (pd_ix (room_units room) (pd_var 0) pd_int) (pd_var 5)))
 (pssd_one (psd_if (ptd_ne (room_units room) (pd_ix (room_units room) (pd_var 4) (pd_ix (room_units room) (pd_var 6) (pd_var 1))) (pd_ix (room_units room) (pd_var 6) (pd_ix (room_units room) (pd_var 4) (pd_var 1))))
 (pssd_one (psd_ret (pd_tup (pad_cons (pd_var 2) (pad_cons (pd_var 3) (pad_cons (pd_var 5) pad_nil))))))
 pssd_nil)))))))))
 (pssd_one (psd_ret pd_non)))
theorem c__law_clash {P : Program} {w : World} {K : PySem.W.Frag} {mg : Str → Option Value} {base : Heap} (h : Hd K mg) : Cle P w K mg base 2 "_law_clash" 1 F__law_clash := by
  obtain ⟨fd, D0⟩ := h.d__law_clash
  exact cle_of D0 h.g__law_clash rfl (fn__law_clash h D0) fun _ _ _ _ _ _ us hl => match us, hl with | [_], _ => rfl
/-! ### _law_pair -/
noncomputable def g__law_pair : FS :=
 (sSeq (sIf (fIsNT (fVar 0))
 (sRet (fC .non))
 sNext)
 (sSeq (sSet 1 (fCB gTupleL (fLc (fWalk (fOp gIx (fVar 0) (fC (.int 0)))) (gN 2) [2] fYes (fTup (fCons (fC (.int 0)) (fCons (fVar 2) fNil))))))
 (sRet (fTup (fCons (fOp gAdd (fVar 1) (fTup (fCons (fTup (fCons (fC (.int 0)) (fCons (fOp gIx (fVar 0) (fC (.int 1))) fNil))) (fCons (fTup (fCons (fC (.int 1)) (fCons (fOp gIx (fVar 0) (fC (.int 2))) fNil))) fNil)))) (fCons (fOp gAdd (fVar 1) (fTup (fCons (fTup (fCons (fC (.int 1)) (fCons (fOp gIx (fVar 0) (fC (.int 2))) fNil))) (fCons (fTup (fCons (fC (.int 0)) (fCons (fOp gIx (fVar 0) (fC (.int 1))) fNil))) fNil)))) fNil))))))
noncomputable def F__law_pair : List D → M → Res D := runF 3 1 g__law_pair
theorem sc__law_pair : FnScope N__law_pair ps__law_pair (defScope s__law_pair) := C8.fnScope_by (by decide +kernel)
theorem fn__law_pair {P : Program} {w : World} {K : PySem.W.Frag} {mg : Str → Option Value} {base : Heap} (h : Hd K mg) {fd : FuncData} (D0 : FnP K "_law_pair" s__law_pair (He.ga K "_law_pair") fd) : FnG P w K mg base 1 (He.ga K "_law_pair") fd ps__law_pair F__law_pair := by
  refine fng_of (N := N__law_pair) (W := WF) D0 sc__law_pair fun cdv A outer s H room gu => ?_
  exact (pssd_cons (psd_if (ptd_isN (pd_var 0))
 (pssd_one (psd_ret pd_non))
 pssd_nil)
 (pssd_cons (psd_set (i := 1) sc__law_pair.nd rfl (by first | exact Or.inl rfl | exact Or.inr rfl) (Dl.b_tupleL rfl (b_tuple h) (pld_lc (own := [("deed", 2)]) rfl sc__law_pair.nd (pid_seq (pd_ix (room_units room) (pd_var 0) pd_int)) (blkOk_by (N := N__law_pair) (sc := defScope s__law_pair) (own := [("deed", 2)]) (by decide +kernel)) (fun _ _ _ _ _ => (pgd_name (i := 2) sc__law_pair.nd rfl (by first | exact Or.inl rfl | exact Or.inr rfl))) (fun _ _ _ _ _ => ptsd_nil) (fun _ _ _ _ _ => (pd_tup (pad_cons pd_int (pad_cons (pd_var 2) pad_nil)))) (by decide))))
 (pssd_one (psd_ret (pd_tup (pad_cons (pd_add (pd_var 1) (pd_tup (pad_cons (pd_tup (pad_cons pd_int (pad_cons (pd_ix (room_units room) (pd_var 0) pd_int) pad_nil))) (pad_cons (pd_tup (pad_cons pd_int (pad_cons (pd_ix (room_units room) (pd_var 0) pd_int) pad_nil))) pad_nil)))) (pad_cons (pd_add (pd_var 1) (pd_tup (pad_cons (pd_tup (pad_cons pd_int (pad_cons (pd_ix (room_units room) (pd_var 0) pd_int) pad_nil))) (pad_cons (pd_tup (pad_cons pd_int (pad_cons (pd_ix (room_units room) (pd_var 0) pd_int) pad_nil))) pad_nil)))) pad_nil)))))))
theorem c__law_pair {P : Program} {w : World} {K : PySem.W.Frag} {mg : Str → Option Value} {base : Heap} (h : Hd K mg) : Cle P w K mg base 1 "_law_pair" 1 F__law_pair := by
  obtain ⟨fd, D0⟩ := h.d__law_pair
  exact cle_of D0 h.g__law_pair rfl (fn__law_pair h D0) fun _ _ _ _ _ _ us hl => match us, hl with | [_], _ => rfl
/-! ### _law_mixed -/
noncomputable def g__law_mixed : FS :=
 (sSeq (sSetL 3 (fLc (fRng1 (fVar 1)) (gN 7) [7] fYes (fName (fLc (fWalk (fVar 2)) (gN 8) [8] (fTest (fOp gEq (fOp gIx (fVar 8) (fC (.int 0))) (fVar 7))) (fVar 8)))))
 (sSeq (sSet 4 (fName (fLst fNil)))
 (sSeq (sFor (fRng1 (fCB gLen (fCons (fVar 2) fNil))) (gN 5)
 (sSeq (sSet 6 (fCall F__law_pick (fCons (fVar 0) (fCons (fName (fLc (fWalk (fVar 3)) (gN 6) [6] (fGcB (fTest (fOp gNe (fVar 6) (fName (fLst fNil))))) (fVar 6))) fNil))))
 (sDrop (fMeth mAppend (fVar 4) (fCons (fMeth mPop0 (fVar 6) (fCons (fC (.int 0)) fNil)) fNil)))))
 (sRet (fVar 4)))))
noncomputable def F__law_mixed : List D → M → Res D := runF 9 3 g__law_mixed
theorem sc__law_mixed : FnScope N__law_mixed ps__law_mixed (defScope s__law_mixed) := C8.fnScope_by (by decide +kernel)
theorem fn__law_mixed {P : Program} {w : World} {K : PySem.W.Frag} {mg : Str → Option Value} {base : Heap} (h : Hd K mg) {fd : FuncData} (D0 : FnP K "_law_mixed" s__law_mixed (He.ga K "_law_mixed") fd) : FnG P w K mg base 3 (He.ga K "_law_mixed") fd ps__law_mixed F__law_mixed := by
  refine fng_of (N := N__law_mixed) (W := WF) D0 sc__law_mixed fun cdv A outer s H room gu => ?_
  exact (pssd_cons (psd_setLc (own := [("hand", 7)]) rfl sc__law_mixed.nd rfl rfl (sw_true rfl rfl rfl (by decide +kernel)) (pid_range1 rfl (b_range h) (pd_var 1)) (blkOk_by (N := N__law_mixed) (sc := defScope s__law_mixed) (own := [("hand", 7)]) (by decide +kernel)) (fun _ _ _ _ _ => (pgd_name (i := 7) sc__law_mixed.nd rfl (by first | exact Or.inl rfl | exact Or.inr rfl))) (fun _ _ _ _ _ => ptsd_nil) (fun _ _ _ _ _ => (pd_name (pld_lc (own := [("one", 8)]) rfl sc__law_mixed.nd (pid_seq (pd_var 2)) (blkOk_by (own := [("one", 8)]) (by kernel_rfl)) (fun _ _ _ _ _ => (pgd_name (i := 8) sc__law_mixed.nd rfl (by first | exact Or.inl rfl | exact Or.inr rfl))) (fun _ _ _ _ _ => (ptsd_one (ptd_eq (room_units room) (pd_ix (room_units room) (pd_var 8) pd_int) (pd_var 7)))) (fun _ _ _ _ _ => (pd_var 8)) (by decide)))) (by decide))
 (pssd_cons (psd_set (i := 4) sc__law_mixed.nd rfl (by first | exact Or.inl rfl | exact Or.inr rfl) (pd_name (pld_lst pad_nil)))
 (pssd_cons (psd_for PassesOwn.never rfl (pid_range1 rfl (b_range h) (Dl.b_len rfl (b_len h) (pd_var 2))) (pgd_name (i := 5) sc__law_mixed.nd rfl (by first | exact Or.inl rfl | exact Or.inr rfl))
 (pssd_cons (psd_set (i := 6) sc__law_mixed.nd rfl (by first | exact Or.inl rfl | exact Or.inr rfl) (pd_call (c__law_pick h) nPar_run room (by decide) gu rfl (pad_cons (pd_var 0) (pad_cons (pd_name (pld_lc (own := [("row", 6)]) rfl sc__law_mixed.nd (pid_seq (pd_var 3)) (blkOk_by (N := N__law_mixed) (sc := defScope s__law_mixed) (own := [("row", 6)]) (by decide +kernel)) (fun _ _ _ _ _ => (pgd_name (i := 6) sc__law_mixed.nd rfl (by first | exact Or.inl rfl | exact Or.inr rfl))) (fun _ _ _ _ _ => (ptsd_one (ptd_gc (ptd_ne (room_units room) (pd_var 6) (pd_name (pld_lst pad_nil)))))) (fun _ _ _ _ _ => (pd_var 6)) (by decide))) pad_nil))))
 (pssd_one (psd_expr (pd_append (pd_var 4) (pad_cons (pd_pop0 (pd_var 6) (pad_cons pd_int pad_nil)) pad_nil))))))
 (pssd_one (psd_ret (pd_var 4))))))
theorem c__law_mixed {P : Program} {w : World} {K : PySem.W.Frag} {mg : Str → Option Value} {base : Heap} (h : Hd K mg) : Cle P w K mg base 3 "_law_mixed" 3 F__law_mixed := by
  obtain ⟨fd, D0⟩ := h.d__law_mixed
  exact cle_of D0 h.g__law_mixed rfl (fn__law_mixed h D0) fun _ _ _ _ _ _ us hl => match us, hl with | [_, _, _], _ => rfl
/-! ### _law_counts -/
noncomputable def g__law_counts : FS :=
 (sRet (fCB gTupleL (fLc (fRng1 (fVar 0)) (gN 2) [2] fYes (fCB gLenL (fLc (fWalk (fVar 1)) (gN 3) [3] (fTest (fOp gEq (fOp gIx (fVar 3) (fC (.int 0))) (fVar 2))) (fC (.int 1)))))))
noncomputable def F__law_counts : List D → M → Res D := runF 4 2 g__law_counts
theorem sc__law_counts : FnScope N__law_counts ps__law_counts (defScope s__law_counts) := C8.fnScope_by (by decide +kernel)
theorem fn__law_counts {P : Program} {w : World} {K : PySem.W.Frag} {mg : Str → Option Value} {base : Heap} (h : Hd K mg) {fd : FuncData} (D0 : FnP K "_law_counts" s__law_counts (He.ga K "_law_counts") fd) : FnG P w K mg base 1 (He.ga K "_law_counts") fd ps__law_counts F__law_counts := by
  refine fng_of (N := N__law_counts) (W := WF) D0 sc__law_counts fun cdv A outer s H room gu => ?_
  exact (pssd_one (psd_ret (Dl.b_tupleL rfl (b_tuple h) (pld_lc (own := [("hand", 2)]) rfl sc__law_counts.nd (pid_range1 rfl (b_range h) (pd_var 0)) (blkOk_by (N := N__law_counts) (sc := defScope s__law_counts) (own := [("hand", 2)]) (by decide +kernel)) (fun _ _ _ _ _ => (pgd_name (i := 2) sc__law_counts.nd rfl (by first | exact Or.inl rfl | exact Or.inr rfl))) (fun _ _ _ _ _ => ptsd_nil) (fun _ _ _ _ _ => (Dl.b_lenL rfl (b_len h) (pld_lc (own := [("one", 3)]) rfl sc__law_counts.nd (pid_seq (pd_var 1)) (blkOk_by (own := [("one", 3)]) (by kernel_rfl)) (fun _ _ _ _ _ => (pgd_name (i := 3) sc__law_counts.nd rfl (by first | exact Or.inl rfl | exact Or.inr rfl))) (fun _ _ _ _ _ => (ptsd_one (ptd_eq (room_units room) (pd_ix (room_units room) (pd_var 3) pd_int) (pd_var 2)))) (fun _ _ _ _ _ => pd_int) (by decide)))) (by decide)))))
theorem c__law_counts {P : Program} {w : World} {K : PySem.W.Frag} {mg : Str → Option Value} {base : Heap} (h : Hd K mg) : Cle P w K mg base 1 "_law_counts" 2 F__law_counts := by
  obtain ⟨fd, D0⟩ := h.d__law_counts
  exact cle_of D0 h.g__law_counts rfl (fn__law_counts h D0) fun _ _ _ _ _ _ us hl => match us, hl with | [_, _], _ => rfl
/-! ### _law_vectors -/
noncomputable def g__law_vectors : FS :=
 (sSeq (sSet 1 (fName (fLst (fCons (fTup fNil) fNil))))
 (sSeq (sFor (fWalk (fVar 0)) (gN 2)
 (sSeq (sSet 3 (fName (fLst fNil)))
 (sSeq (sFor (fWalk (fVar 1)) (gN 4)
 (sSet 3 (fOp gAdd (fVar 3) (fName (fLc (fRng1 (fOp gAdd (fVar 2) (fC (.int 1)))) (gN 5) [5] fYes (fOp gAdd (fVar 4) (fTup (fCons (fVar 5) fNil))))))))
 (sSet 1 (fVar 3)))))
 (sRet (fVar 1))))
noncomputable def F__law_vectors : List D → M → Res D := runF 6 1 g__law_vectors
theorem sc__law_vectors : FnScope N__law_vectors ps__law_vectors (defScope s__law_vectors) := C8.fnScope_by (by decide +kernel)
theorem fn__law_vectors {P : Program} {w : World} {K : PySem.W.Frag} {mg : Str → Option Value} {base : Heap} (h : Hd K mg) {fd : FuncData} (D0 : FnP K "_law_vectors" s__law_vectors (He.ga K "_law_vectors") fd) : FnG P w K mg base 1 (He.ga K "_law_vectors") fd ps__law_vectors F__law_vectors := by
  refine fng_of (N := N__law_vectors) (W := WF) D0 sc__law_vectors fun cdv A outer s H room gu => ?_
  exact (pssd_cons (psd_set (i := 1) sc__law_vectors.nd rfl (by first | exact Or.inl rfl | exact Or.inr rfl) (pd_name (pld_lst (pad_cons (pd_tup pad_nil) pad_nil))))
 (pssd_cons (psd_for PassesOwn.never rfl (pid_seq (pd_var 0)) (pgd_name (i := 2) sc__law_vectors.nd rfl (by first | exact Or.inl rfl | exact Or.inr rfl))
 (pssd_cons (psd_set (i := 3) sc__law_vectors.nd rfl (by first | exact Or.inl rfl | exact Or.inr rfl) (pd_name (pld_lst pad_nil)))
 (pssd_cons (psd_for PassesOwn.never rfl (pid_seq (pd_var 1)) (pgd_name (i := 4) sc__law_vectors.nd rfl (by first | exact Or.inl rfl | exact Or.inr rfl))
 (pssd_one (psd_set (i := 3) sc__law_vectors.nd rfl (by first | exact Or.inl rfl | exact Or.inr rfl) (pd_add (pd_var 3) (pd_name (pld_lc (own := [("here", 5)]) rfl sc__law_vectors.nd (pid_range1 rfl (b_range h) (pd_add (pd_var 2) pd_int)) (blkOk_by (N := N__law_vectors) (sc := defScope s__law_vectors) (own := [("here", 5)]) (by decide +kernel)) (fun _ _ _ _ _ => (pgd_name (i := 5) sc__law_vectors.nd rfl (by first | exact Or.inl rfl | exact Or.inr rfl))) (fun _ _ _ _ _ => ptsd_nil) (fun _ _ _ _ _ => (pd_add (pd_var 4) (pd_tup (pad_cons (pd_var 5) pad_nil)))) (by decide)))))))
 (pssd_one (psd_set (i := 1) sc__law_vectors.nd rfl (by first | exact Or.inl rfl | exact Or.inr rfl) (pd_var 3))))))
 (pssd_one (psd_ret (pd_var 1)))))
theorem c__law_vectors {P : Program} {w : World} {K : PySem.W.Frag} {mg : Str → Option Value} {base : Heap} (h : Hd K mg) : Cle P w K mg base 1 "_law_vectors" 1 F__law_vectors := by
  obtain ⟨fd, D0⟩ := h.d__law_vectors
  exact cle_of D0 h.g__law_vectors rfl (fn__law_vectors h D0) fun _ _ _ _ _ _ us hl => match us, hl with | [_], _ => rfl
/-! ### _law_board -/
noncomputable def g__law_board : FS :=
 (sSeq (sPar 3 4 (fCons (fOp gIx (fVar 0) (fC (.int 0))) (fCons (fCB gList (fCons (fVar 2) fNil)) fNil)))
 (sSeq (sFor (fWalk (fVar 1)) (gT 2 (gCons' (gN 5) (gCons' (gN 6) gNil')))
 (sIf (fTest (fOp gGt (fOp gIx (fVar 4) (fVar 5)) (fC (.int 0))))
 (sSeq (sSub (fOp gSub (fOp gIx (fVar 4) (fVar 5)) (fC (.int 1))) (fVar 4) (fVar 5))
 (sSet 3 (fOp gIx (fOp gIx (fOp gIx (fVar 0) (fC (.int 1))) (fVar 6)) (fVar 3))))
 sNext))
 (sRet (fVar 3))))
noncomputable def F__law_board : List D → M → Res D := runF 7 3 g__law_board
theorem sc__law_board : FnScope N__law_board ps__law_board (defScope s__law_board) := C8.fnScope_by (by decide +kernel)
theorem fn__law_board {P : Program} {w : World} {K : PySem.W.Frag} {mg : Str → Option Value} {base : Heap} (h : Hd K mg) {fd : FuncData} (D0 : FnP K "_law_board" s__law_board (He.ga K "_law_board") fd) : FnG P w K mg base 1 (He.ga K "_law_board") fd ps__law_board F__law_board := by
  refine fng_of (N := N__law_board) (W := WF) D0 sc__law_board fun cdv A outer s H room gu => ?_
  exact (pssd_cons (psd_par (i := 3) (j := 4) rfl sc__law_board.nd rfl rfl (by decide) rfl rfl (pad_cons (pd_ix (room_units room) (pd_var 0) pd_int) (pad_cons (Dl.b_list rfl (b_list h) (pd_var 2)) pad_nil)))
 (pssd_cons (psd_for PassesOwn.never rfl (pid_seq (pd_var 1)) (pgd_tup rfl (pgsd_cons (pgd_name (i := 5) sc__law_board.nd rfl (by first | exact Or.inl rfl | exact Or.inr rfl)) (pgsd_cons (pgd_name (i := 6) sc__law_board.nd rfl (by first | exact Or.inl rfl | exact Or.inr rfl)) pgsd_nil)))
 (pssd_one (psd_if (ptd_gt (pd_ix (room_units room) (pd_var 4) (pd_var 5)) pd_int)
 (pssd_cons (psd_sub (room_units room) (pd_sub (pd_ix (room_units room) (pd_var 4) (pd_var 5)) pd_int) (pd_var 4) (pd_var 5))
 (pssd_one (psd_set (i := 3) sc__law_board.nd rfl (by first | exact Or.inl rfl | exact Or.inr rfl) (pd_ix (room_units room) (pd_ix (room_units room) (pd_ix (room_units room) (pd_var 0) pd_int) (pd_var 6)) (pd_var 3)))))
 pssd_nil)))
 (pssd_one (psd_ret (pd_var 3)))))
theorem c__law_board {P : Program} {w : World} {K : PySem.W.Frag} {mg : Str → Option Value} {base : Heap} (h : Hd K mg) : Cle P w K mg base 1 "_law_board" 3 F__law_board := by
  obtain ⟨fd, D0⟩ := h.d__law_board
  exact cle_of D0 h.g__law_board rfl (fn__law_board h D0) fun _ _ _ _ _ _ us hl => match us, hl with | [_, _, _], _ => rfl
/-! ### _law_table -/
noncomputable def g__law_table : FS :=
 (sSeq (sSet 3 (fCall F__law_counts (fCons (fVar 1) (fCons (fVar 2) fNil))))
 (sRet (fTup (fCons (fVar 3) (fCons (fCB gTupleL (fLc (fWalk (fCall F__law_vectors (fCons (fVar 3) fNil))) (gN 4) [4] fYes (fCall F__law_board (fCons (fVar 0) (fCons (fVar 2) (fCons (fVar 4) fNil)))))) fNil)))))
noncomputable def F__law_table : List D → M → Res D := runF 5 3 g__law_table
theorem sc__law_table : FnScope N__law_table ps__law_table (defScope s__law_table) := C8.fnScope_by (by decide +kernel)
theorem fn__law_table {P : Program} {w : World} {K : PySem.W.Frag} {mg : Str → Option Value} {base : Heap} (h : Hd K mg) {fd : FuncData} (D0 : FnP K "_law_table" s__law_table (He.ga K "_law_table") fd) : FnG P w K mg base 2 (He.ga K "_law_table") fd ps__law_table F__law_table := by
  refine fng_of (N := N__law_table) (W := WF) D0 sc__law_table fun cdv A outer s H room gu => ?_
  exact (pssd_cons (psd_set (i := 3) sc__law_table.nd rfl (by first | exact Or.inl rfl | exact Or.inr rfl) (pd_call (c__law_counts h) nPar_run room (by decide) gu rfl (pad_cons (pd_var 1) (pad_cons (pd_var 2) pad_nil))))
 (pssd_one (psd_ret (pd_tup (pad_cons (pd_var 3) (pad_cons (Dl.b_tupleL rfl (b_tuple h) (pld_lc (own := [("vector", 4)]) rfl sc__law_table.nd (pid_seq (pd_call (c__law_vectors h) nPar_run room (by decide) gu rfl (pad_cons (pd_var 3) pad_nil))) (blkOk_by (N := N__law_table) (sc := defScope s__law_table) (own := [("vector", 4)]) (by decide +kernel)) (fun _ _ _ _ _ => (pgd_name (i := 4) sc__law_table.nd rfl (by first | exact Or.inl rfl | exact Or.inr rfl))) (fun _ _ _ _ _ => ptsd_nil) (fun _ _ _ _ _ => (pd_call (c__law_board h) nPar_run room (by decide) gu rfl (pad_cons (pd_var 0) (pad_cons (pd_var 2) (pad_cons (pd_var 4) pad_nil))))) (by decide))) pad_nil))))))
theorem c__law_table {P : Program} {w : World} {K : PySem.W.Frag} {mg : Str → Option Value} {base : Heap} (h : Hd K mg) : Cle P w K mg base 2 "_law_table" 3 F__law_table := by
  obtain ⟨fd, D0⟩ := h.d__law_table
  exact cle_of D0 h.g__law_table rfl (fn__law_table h D0) fun _ _ _ _ _ _ us hl => match us, hl with | [_, _, _], _ => rfl
/-! ### _law_rims -/
noncomputable def g__law_rims : FS :=
 (sSeq (sSet 3 (fName (fLst fNil)))
 (sSeq (sFor (fRng1 (fVar 1)) (gN 4)
 (sSeq (sSet 5 (fName (fLst (fCons (fOp gIx (fVar 0) (fC (.int 0))) fNil))))
 (sSeq (sFor (fWalk (fVar 2)) (gT 2 (gCons' (gN 6) (gCons' (gN 7) gNil')))
 (sIf (fTest (fOp gEq (fVar 6) (fVar 4)))
 (sDrop (fMeth mAppend (fVar 5) (fCons (fOp gIx (fOp gIx (fOp gIx (fVar 0) (fC (.int 1))) (fVar 7)) (fOp gIx (fVar 5) (fOp gSub (fCB gLen (fCons (fVar 5) fNil)) (fC (.int 1))))) fNil)))
 sNext))
 (sDrop (fMeth mAppend (fVar 3) (fCons (fVar 5) fNil))))))
 (sRet (fVar 3))))
noncomputable def F__law_rims : List D → M → Res D := runF 8 3 g__law_rims
theorem sc__law_rims : FnScope N__law_rims ps__law_rims (defScope s__law_rims) := C8.fnScope_by (by decide +kernel)
theorem fn__law_rims {P : Program} {w : World} {K : PySem.W.Frag} {mg : Str → Option Value} {base : Heap} (h : Hd K mg) {fd : FuncData} (D0 : FnP K "_law_rims" s__law_rims (He.ga K "_law_rims") fd) : FnG P w K mg base 1 (He.ga K "_law_rims") fd ps__law_rims F__law_rims := by
  refine fng_of (N := N__law_rims) (W := WF) D0 sc__law_rims fun cdv A outer s H room gu => ?_
  exact (pssd_cons (psd_set (i := 3) sc__law_rims.nd rfl (by first | exact Or.inl rfl | exact Or.inr rfl) (pd_name (pld_lst pad_nil)))
 (pssd_cons (psd_for PassesOwn.never rfl (pid_range1 rfl (b_range h) (pd_var 1)) (pgd_name (i := 4) sc__law_rims.nd rfl (by first | exact Or.inl rfl | exact Or.inr rfl))
 (pssd_cons (psd_set (i := 5) sc__law_rims.nd rfl (by first | exact Or.inl rfl | exact Or.inr rfl) (pd_name (pld_lst (pad_cons (pd_ix (room_units room) (pd_var 0) pd_int) pad_nil))))
 (pssd_cons (psd_for PassesOwn.never rfl (pid_seq (pd_var 2)) (pgd_tup rfl (pgsd_cons (pgd_name (i := 6) sc__law_rims.nd rfl (by first | exact Or.inl rfl | exact Or.inr rfl)) (pgsd_cons (pgd_name (i := 7) sc__law_rims.nd rfl (by first | exact Or.inl rfl | exact Or.inr rfl)) pgsd_nil)))
 (pssd_one (psd_if (ptd_eq (room_units room) (pd_var 6) (pd_var 4))
 (pssd_one (psd_expr (pd_append (pd_var 5) (pad_cons (pd_ix (room_units room) (pd_ix (room_units room) (pd_ix (room_units room) (pd_var 0) pd_int) (pd_var 7)) (pd_ix (room_units room) (pd_var 5) (pd_sub (Dl.b_len rfl (b_len h) (pd_var 5)) pd_int))) pad_nil))))
 pssd_nil)))
 (pssd_one (psd_expr (pd_append (pd_var 3) (pad_cons (pd_var 5) pad_nil)))))))
 (pssd_one (psd_ret (pd_var 3)))))
theorem c__law_rims {P : Program} {w : World} {K : PySem.W.Frag} {mg : Str → Option Value} {base : Heap} (h : Hd K mg) : Cle P w K mg base 1 "_law_rims" 3 F__law_rims := by
  obtain ⟨fd, D0⟩ := h.d__law_rims
  exact cle_of D0 h.g__law_rims rfl (fn__law_rims h D0) fun _ _ _ _ _ _ us hl => match us, hl with | [_, _, _], _ => rfl
/-! ### _law_holds -/
noncomputable def g__law_holds : FS :=
 (sSeq (sIf (fOrT (fTest (fOp gNe (fCall F__law_counts (fCons (fVar 1) (fCons (fVar 2) fNil))) (fCall F__law_counts (fCons (fVar 1) (fCons (fVar 3) fNil))))) (fTest (fOp gNe (fCall F__law_rims (fCons (fVar 0) (fCons (fVar 1) (fCons (fVar 2) fNil)))) (fCall F__law_rims (fCons (fVar 0) (fCons (fVar 1) (fCons (fVar 3) fNil)))))))
 (sRet (fC (.bl false)))
 sNext)
 (sRet (fOp gNe (fCall F__law_table (fCons (fVar 0) (fCons (fVar 1) (fCons (fVar 2) fNil)))) (fCall F__law_table (fCons (fVar 0) (fCons (fVar 1) (fCons (fVar 3) fNil)))))))
noncomputable def F__law_holds : List D → M → Res D := runF 4 4 g__law_holds
theorem sc__law_holds : FnScope N__law_holds ps__law_holds (defScope s__law_holds) := C8.fnScope_by (by decide +kernel)
theorem fn__law_holds {P : Program} {w : World} {K : PySem.W.Frag} {mg : Str → Option Value} {base : Heap} (h : Hd K mg) {fd : FuncData} (D0 : FnP K "_law_holds" s__law_holds (He.ga K "_law_holds") fd) : FnG P w K mg base 3 (He.ga K "_law_holds") fd ps__law_holds F__law_holds := by
  refine fng_of (N := N__law_holds) (W := WF) D0 sc__law_holds fun cdv A outer s H room gu => ?_
  exact (pssd_cons (psd_if (ptd_w (pwd_or (ptd_ne (room_units room) (pd_call (c__law_counts h) nPar_run room (by decide) gu rfl (pad_cons (pd_var 1) (pad_cons (pd_var 2) pad_nil))) (pd_call (c__law_counts h) nPar_run room (by decide) gu rfl (pad_cons (pd_var 1) (pad_cons (pd_var 3) pad_nil)))) (pwd_or1 (ptd_ne (room_units room) (pd_call (c__law_rims h) nPar_run room (by decide) gu rfl (pad_cons (pd_var 0) (pad_cons (pd_var 1) (pad_cons (pd_var 2) pad_nil)))) (pd_call (c__law_rims h) nPar_run room (by decide) gu rfl (pad_cons (pd_var 0) (pad_cons (pd_var 1) (pad_cons (pd_var 3) pad_nil))))))))
 (pssd_one (psd_ret pd_bl))
 pssd_nil)
 (pssd_one (psd_ret (pd_ne (room_units room) (pd_call (c__law_table h) nPar_run room (by decide) gu rfl (pad_cons (pd_var 0) (pad_cons (pd_var 1) (pad_cons (pd_var 2) pad_nil)))) (pd_call (c__law_table h) nPar_run room (by decide) gu rfl (pad_cons (pd_var 0) (pad_cons (pd_var 1) (pad_cons (pd_var 3) pad_nil))))))))
theorem c__law_holds {P : Program} {w : World} {K : PySem.W.Frag} {mg : Str → Option Value} {base : Heap} (h : Hd K mg) : Cle P w K mg base 3 "_law_holds" 4 F__law_holds := by
  obtain ⟨fd, D0⟩ := h.d__law_holds
  exact cle_of D0 h.g__law_holds rfl (fn__law_holds h D0) fun _ _ _ _ _ _ us hl => match us, hl with | [_, _, _, _], _ => rfl
/-! ### _law_rims_right -/
noncomputable def g__law_rims_right : FS :=
 (sSeq (sSet 3 (fCall F__law_pick (fCons (fVar 0) (fCons (fName (fLst (fCons (fC (.int 2)) (fCons (fC (.int 4)) (fCons (fC (.int 7)) (fCons (fCall F__law_take (fCons (fVar 0) (fCons (fIf (fTest (fOp gGt (fVar 2) (fC (.int 2)))) (fC (.int 13)) (fC (.int 10))) fNil))) fNil)))))) fNil))))
 (sSeq (sSetL 4 (fLc (fRng1 (fVar 3)) (gN 8) [8] fYes (fTup (fCons (fCall F__law_take (fCons (fVar 0) (fCons (fVar 2) fNil))) (fCons (fCall F__law_take (fCons (fVar 0) (fCons (fCB gLen (fCons (fOp gIx (fVar 1) (fC (.int 1))) fNil)) fNil))) fNil)))))
 (sSeq (sSet 5 (fCall F__law_mixed (fCons (fVar 0) (fCons (fVar 2) (fCons (fVar 4) fNil)))))
 (sSeq (sIf (fAndT (fTest (fOp gGt (fVar 3) (fC (.int 0)))) (fTest (fOp gEq (fCall F__law_take (fCons (fVar 0) (fCons (fC (.int 3)) fNil))) (fC (.int 0)))))
 (sSeq (sSet 6 (fCall F__law_take (fCons (fVar 0) (fCons (fVar 3) fNil))))
 (sSub (fTup (fCons (fOp gIx (fOp gIx (fVar 5) (fVar 6)) (fC (.int 0))) (fCons (fCall F__law_take (fCons (fVar 0) (fCons (fCB gLen (fCons (fOp gIx (fVar 1) (fC (.int 1))) fNil)) fNil))) fNil))) (fVar 5) (fVar 6)))
 sNext)
 (sSeq (sIf (fTest (fOp gEq (fCall F__law_take (fCons (fVar 0) (fCons (fC (.int 9)) fNil))) (fC (.int 0))))
 (sSet 5 (fCut (fVar 5) (fPart (fC (.int 1))) fNoPart))
 sNext)
 (sSeq (sSet 7 (fCall F__law_pick (fCons (fVar 0) (fCons (fName (fLst (fCons (fTup (fCons (fCB gTuple (fCons (fVar 4) fNil)) (fCons (fCB gTuple (fCons (fVar 5) fNil)) fNil))) (fCons (fName (fLst (fCons (fVar 4) (fCons (fVar 5) fNil)))) (fCons (fTup (fCons (fVar 5) (fCons (fVar 4) fNil))) fNil))))) fNil))))
 (sRet (fCall F__law_same (fCons (fCall (fun ds m => F_rims_hold (pm_2_1_0 ds) m) (fCons (fVar 7) (fCons (fVar 2) (fCons (fVar 1) fNil)))) (fCons (fCall F__law_holds (fCons (fVar 1) (fCons (fVar 2) (fCons (fVar 4) (fCons (fVar 5) fNil))))) fNil))))))))))
noncomputable def F__law_rims_right : List D → M → Res D := runF 9 3 g__law_rims_right
theorem sc__law_rims_right : FnScope N__law_rims_right ps__law_rims_right (defScope s__law_rims_right) := C8.fnScope_by (by decide +kernel)
theorem fn__law_rims_right {P : Program} {w : World} {K : PySem.W.Frag} {mg : Str → Option Value} {base : Heap} (h : Hd K mg) {fd : FuncData} (D0 : FnP K "_law_rims_right" s__law_rims_right (He.ga K "_law_rims_right") fd) : FnG P w K mg base 12 (He.ga K "_law_rims_right") fd ps__law_rims_right F__law_rims_right := by
  refine fng_of (N := N__law_rims_right) (W := WF) D0 sc__law_rims_right fun cdv A outer s H room gu => ?_
  exact (pssd_cons (psd_set (i := 3) sc__law_rims_right.nd rfl (by first | exact Or.inl rfl | exact Or.inr rfl) (pd_call (c__law_pick h) nPar_run room (by decide) gu rfl (pad_cons (pd_var 0) (pad_cons (pd_name (pld_lst (pad_cons pd_int (pad_cons pd_int (pad_cons pd_int (pad_cons (pd_call (c__law_take h) nPar_run room (by decide) gu rfl (pad_cons (pd_var 0) (pad_cons (pd_if (ptd_gt (pd_var 2) pd_int) pd_int pd_int) pad_nil))) pad_nil)))))) pad_nil))))
 (pssd_cons (psd_setLc (own := [("turn", 8)]) rfl sc__law_rims_right.nd rfl rfl (sw_true rfl rfl rfl (by decide +kernel)) (pid_range1 rfl (b_range h) (pd_var 3)) (blkOk_by (N := N__law_rims_right) (sc := defScope s__law_rims_right) (own := [("turn", 8)]) (by decide +kernel)) (fun _ _ _ _ _ => (pgd_name (i := 8) sc__law_rims_right.nd rfl (by first | exact Or.inl rfl | exact Or.inr rfl))) (fun _ _ _ _ _ => ptsd_nil) (fun _ _ _ _ _ => (pd_tup (pad_cons (pd_call (c__law_take h) nPar_run room (by decide) gu rfl (pad_cons (pd_var 0) (pad_cons (pd_var 2) pad_nil))) (pad_cons (pd_call (c__law_take h) nPar_run room (by decide) gu rfl (pad_cons (pd_var 0) (pad_cons (Dl.b_len rfl (b_len h) (pd_ix (room_units room) (pd_var 1) pd_int)) pad_nil))) pad_nil)))) (by decide))
 (pssd_cons (psd_set (i := 5) sc__law_rims_right.nd rfl (by first | exact Or.inl rfl | exact Or.inr rfl) (pd_call (c__law_mixed h) nPar_run room (by decide) gu rfl (pad_cons (pd_var 0) (pad_cons (pd_var 2) (pad_cons (pd_var 4) pad_nil)))))
 (pssd_cons (psd_if (ptd_w (pwd_and (ptd_gt (pd_var 3) pd_int) (pwd_and1 (ptd_eq (room_units room) (pd_call (c__law_take h) nPar_run room (by decide) gu rfl (pad_cons (pd_var 0) (pad_cons pd_int pad_nil))) pd_int))))
 (pssd_cons (psd_set (i := 6) sc__law_rims_right.nd rfl (by first | exact Or.inl rfl | exact Or.inr rfl) (pd_call (c__law_take h) nPar_run room (by decide) gu rfl (pad_cons (pd_var 0) (pad_cons (pd_var 3) pad_nil))))
 (pssd_one (psd_sub (room_units room) (pd_tup (pad_cons (pd_ix (room_units room) (pd_ix (room_units room) (pd_var 5) (pd_var 6)) pd_int) (pad_cons (pd_call (c__law_take h) nPar_run room (by decide) gu rfl (pad_cons (pd_var 0) (pad_cons (Dl.b_len rfl (b_len h) (pd_ix (room_units room) (pd_var 1) pd_int)) pad_nil))) pad_nil))) (pd_var 5) (pd_var 6))))
 pssd_nil)
 (pssd_cons (psd_if (ptd_eq (room_units room) (pd_call (c__law_take h) nPar_run room (by decide) gu rfl (pad_cons (pd_var 0) (pad_cons pd_int pad_nil))) pd_int)
 (pssd_one (psd_set (i := 5) sc__law_rims_right.nd rfl (by first | exact Or.inl rfl | exact Or.inr rfl) (pd_cut (pd_var 5) (pod_some pd_int) pod_none)))
 pssd_nil)
 (pssd_cons (psd_set (i := 7) sc__law_rims_right.nd rfl (by first | exact Or.inl rfl | exact Or.inr rfl) (pd_call (c__law_pick h) nPar_run room (by decide) gu rfl (pad_cons (pd_var 0) (pad_cons (pd_name (pld_lst (pad_cons (pd_tup (pad_cons (Dl.b_tuple rfl (b_tuple h) (pd_var 4)) (pad_cons (Dl.b_tuple rfl (b_tuple h) (pd_var 5)) pad_nil))) (pad_cons (pd_name (pld_lst (pad_cons (pd_var 4) (pad_cons (pd_var 5) pad_nil)))) (pad_cons (pd_tup (pad_cons (pd_var 5) (pad_cons (pd_var 4) pad_nil))) pad_nil))))) pad_nil))))
 (pssd_one (psd_ret (pd_call (c__law_same h) np__law_same room (by decide) gu rfl (pad_cons (pd_callK (ck_rims_hold__value_hands_machine h) pm_2_1_0_ok nPar_run room (by decide) gu rfl (pkd_cons (pd_var 7) (pkd_cons (pd_var 2) (pkd_cons (pd_var 1) pkd_nil)))) (pad_cons (pd_call (c__law_holds h) nPar_run room (by decide) gu rfl (pad_cons (pd_var 1) (pad_cons (pd_var 2) (pad_cons (pd_var 4) (pad_cons (pd_var 5) pad_nil))))) pad_nil)))))))))))
theorem c__law_rims_right {P : Program} {w : World} {K : PySem.W.Frag} {mg : Str → Option Value} {base : Heap} (h : Hd K mg) : Cle P w K mg base 12 "_law_rims_right" 3 F__law_rims_right := by
  obtain ⟨fd, D0⟩ := h.d__law_rims_right
  exact cle_of D0 h.g__law_rims_right rfl (fn__law_rims_right h D0) fun _ _ _ _ _ _ us hl => match us, hl with | [_, _, _], _ => rfl
/-! ### law -/
noncomputable def g_law : FS :=
 (sSeq (sFor (fRng1 (fC (.int 3))) (gN 1)
 (sSeq (sSet 2 (fCall F__law_box (fCons (fVar 0) (fCons (fVar 1) fNil))))
 (sSeq (sPar 3 4 (fCons (fCall F__law_machine (fCons (fVar 2) fNil)) (fCons (fOp gAdd (fC (.int 2)) (fCall F__law_take (fCons (fVar 2) (fCons (fC (.int 3)) fNil)))) fNil)))
 (sSeq (sSet 5 (fCall F__law_clash (fCons (fVar 3) fNil)))
 (sSeq (sIf (fNotT (fTest (fCall F__law_same (fCons (fTup (fCons (fCall F_clash (fCons (fVar 3) fNil)) (fCons (fCall F_costs_nothing (fCons (fVar 3) fNil)) (fCons (fCall F_two_of_one_rim (fCons (fVar 3) fNil)) fNil)))) (fCons (fTup (fCons (fVar 5) (fCons (fUn gIsN (fVar 5)) (fCons (fCall F__law_pair (fCons (fVar 5) fNil)) fNil)))) fNil)))))
 (sRet (fC (.bl false)))
 sNext)
 (sSeq (sIf (fAndT (fNotNT (fVar 5)) (fTest (fOp gNotB (fCall F_rims_hold (fCons (fVar 3) (fCons (fVar 4) (fCons (fCall F__law_pair (fCons (fVar 5) fNil)) fNil)))) (fC (.bl true)))))
 (sRet (fC (.bl false)))
 sNext)
 (sFor (fRng1 (fC (.int 4))) (gN 6)
 (sIf (fNotT (fTest (fCall F__law_rims_right (fCons (fVar 2) (fCons (fVar 3) (fCons (fVar 4) fNil))))))
 (sRet (fC (.bl false)))
 sNext))))))))
 (sRet (fC (.bl true))))
noncomputable def F_law : List D → M → Res D := runF 7 1 g_law
theorem sc_law : FnScope N_law ps_law (defScope s_law) := C8.fnScope_by (by decide +kernel)
theorem fn_law {P : Program} {w : World} {K : PySem.W.Frag} {mg : Str → Option Value} {base : Heap} (h : Hd K mg) {fd : FuncData} (D0 : FnP K "law" s_law (He.ga K "law") fd) : FnG P w K mg base 13 (He.ga K "law") fd ps_law F_law := by
  refine fng_of (N := N_law) (W := WF) D0 sc_law fun cdv A outer s H room gu => ?_
  exact (pssd_one (psd_try (pssd_cons (psd_for PassesOwn.never rfl (pid_range1 rfl (b_range h) pd_int) (pgd_name (i := 1) sc_law.nd rfl (by first | exact Or.inl rfl | exact Or.inr rfl))
 (pssd_cons (psd_set (i := 2) sc_law.nd rfl (by first | exact Or.inl rfl | exact Or.inr rfl) (pd_call (c__law_box h) nPar_run room (by decide) gu rfl (pad_cons (pd_var 0) (pad_cons (pd_var 1) pad_nil))))
 (pssd_cons (psd_par (i := 3) (j := 4) rfl sc_law.nd rfl rfl (by decide) rfl rfl (pad_cons (pd_call (c__law_machine h) nPar_run room (by decide) gu rfl (pad_cons (pd_var 2) pad_nil)) (pad_cons (pd_add pd_int (pd_call (c__law_take h) nPar_run room (by decide) gu rfl (pad_cons (pd_var 2) (pad_cons pd_int pad_nil)))) pad_nil)))
 (pssd_cons (psd_set (i := 5) sc_law.nd rfl (by first | exact Or.inl rfl | exact Or.inr rfl) (pd_call (c__law_clash h) nPar_run room (by decide) gu rfl (pad_cons (pd_var 3) pad_nil)))
 (pssd_cons (psd_if (ptd_not (ptd_val (pd_call (c__law_same h) np__law_same room (by decide) gu rfl (pad_cons (pd_tup (pad_cons (pd_call (c_clash h) nPar_run room (by decide) gu rfl (pad_cons (pd_var 3) pad_nil)) (pad_cons (pd_call (c_costs_nothing h) nPar_run room (by decide) gu rfl (pad_cons (pd_var 3) pad_nil)) (pad_cons (pd_call (c_two_of_one_rim h) nPar_run room (by decide) gu rfl (pad_cons (pd_var 3) pad_nil)) pad_nil)))) (pad_cons (pd_tup (pad_cons (pd_var 5) (pad_cons (pd_isN (pd_var 5)) (pad_cons (pd_call (c__law_pair h) nPar_run room (by decide) gu rfl (pad_cons (pd_var 5) pad_nil)) pad_nil)))) pad_nil)))))
 (pssd_one (psd_ret pd_bl))
 pssd_nil)
 (pssd_cons (psd_if (ptd_w (pwd_and (ptd_notN (pd_var 5)) (pwd_and1 (ptd_notB (pd_call (c_rims_hold h) nPar_run room (by decide) gu rfl (pad_cons (pd_var 3) (pad_cons (pd_var 4) (pad_cons (pd_call (c__law_pair h) nPar_run room (by decide) gu rfl (pad_cons (pd_var 5) pad_nil)) pad_nil)))) pd_bl))))
 (pssd_one (psd_ret pd_bl))
 pssd_nil)
 (pssd_one (psd_for PassesOwn.never rfl (pid_range1 rfl (b_range h) pd_int) (pgd_name (i := 6) sc_law.nd rfl (by first | exact Or.inl rfl | exact Or.inr rfl))
 (pssd_one (psd_if (ptd_not (ptd_val (pd_call (c__law_rims_right h) nPar_run room (by decide) gu rfl (pad_cons (pd_var 2) (pad_cons (pd_var 3) (pad_cons (pd_var 4) pad_nil))))))
 (pssd_one (psd_ret pd_bl))
 pssd_nil))))))))))
 (pssd_one (psd_ret pd_bl)))))
theorem c_law {P : Program} {w : World} {K : PySem.W.Frag} {mg : Str → Option Value} {base : Heap} (h : Hd K mg) : Cle P w K mg base 13 "law" 1 F_law := by
  obtain ⟨fd, D0⟩ := h.d_law
  exact cle_of D0 h.g_law rfl (fn_law h D0) fun _ _ _ _ _ _ us hl => match us, hl with | [_], _ => rfl
/-! ### the head -/
def hd_is_integer : He.DefD := ⟨("is_integer", none), "is_integer", "is_integer", defArgs s_is_integer, defBody s_is_integer, defScope s_is_integer, [], []⟩
def hd_is_number : He.DefD := ⟨("is_number", none), "is_number", "is_number", defArgs s_is_number, defBody s_is_number, defScope s_is_number, [], []⟩
def hd_is_below : He.DefD := ⟨("is_below", none), "is_below", "is_below", defArgs s_is_below, defBody s_is_below, defScope s_is_below, [], []⟩
def hd_is_sequence : He.DefD := ⟨("is_sequence", none), "is_sequence", "is_sequence", defArgs s_is_sequence, defBody s_is_sequence, defScope s_is_sequence, [], []⟩
def hd_are_below : He.DefD := ⟨("are_below", none), "are_below", "are_below", defArgs s_are_below, defBody s_are_below, defScope s_are_below, [], []⟩
def hd_is_map : He.DefD := ⟨("is_map", none), "is_map", "is_map", defArgs s_is_map, defBody s_is_map, defScope s_is_map, [], []⟩
def hd_are_deeds : He.DefD := ⟨("are_deeds", none), "are_deeds", "are_deeds", defArgs s_are_deeds, defBody s_are_deeds, defScope s_are_deeds, [], []⟩
def hd_check_machine : He.DefD := ⟨("check_machine", none), "check_machine", "check_machine", defArgs s_check_machine, defBody s_check_machine, defScope s_check_machine, [], []⟩
def hd_rows_to : He.DefD := ⟨("rows_to", none), "rows_to", "rows_to", defArgs s_rows_to, defBody s_rows_to, defScope s_rows_to, [], []⟩
def hd_clash : He.DefD := ⟨("clash", none), "clash", "clash", defArgs s_clash, defBody s_clash, defScope s_clash, [], []⟩
def hd_costs_nothing : He.DefD := ⟨("costs_nothing", none), "costs_nothing", "costs_nothing", defArgs s_costs_nothing, defBody s_costs_nothing, defScope s_costs_nothing, [], []⟩
def hd_two_of_one_rim : He.DefD := ⟨("two_of_one_rim", none), "two_of_one_rim", "two_of_one_rim", defArgs s_two_of_one_rim, defBody s_two_of_one_rim, defScope s_two_of_one_rim, [], []⟩
def hd_is_positive : He.DefD := ⟨("is_positive", none), "is_positive", "is_positive", defArgs s_is_positive, defBody s_is_positive, defScope s_is_positive, [], []⟩
def hd_is_hands : He.DefD := ⟨("is_hands", none), "is_hands", "is_hands", defArgs s_is_hands, defBody s_is_hands, defScope s_is_hands, [], []⟩
def hd_need_hands : He.DefD := ⟨("need_hands", none), "need_hands", "need_hands", defArgs s_need_hands, defBody s_need_hands, defScope s_need_hands, [], []⟩
def hd_is_letter : He.DefD := ⟨("is_letter", none), "is_letter", "is_letter", defArgs s_is_letter, defBody s_is_letter, defScope s_is_letter, [], []⟩
def hd_check_row : He.DefD := ⟨("check_row", none), "check_row", "check_row", defArgs s_check_row, defBody s_check_row, defScope s_check_row, [], []⟩
def hd_check_history : He.DefD := ⟨("check_history", none), "check_history", "check_history", defArgs s_check_history, defBody s_check_history, defScope s_check_history, [], []⟩
def hd_are_counts : He.DefD := ⟨("are_counts", none), "are_counts", "are_counts", defArgs s_are_counts, defBody s_are_counts, defScope s_are_counts, [], []⟩
def hd_check_part : He.DefD := ⟨("check_part", none), "check_part", "check_part", defArgs s_check_part, defBody s_check_part, defScope s_check_part, [], []⟩
def hd_need_hand : He.DefD := ⟨("need_hand", none), "need_hand", "need_hand", defArgs s_need_hand, defBody s_need_hand, defScope s_need_hand, [], []⟩
def hd_need_counts : He.DefD := ⟨("need_counts", none), "need_counts", "need_counts", defArgs s_need_counts, defBody s_need_counts, defScope s_need_counts, [], []⟩
def hd_vectors : He.DefD := ⟨("vectors", none), "vectors", "vectors", defArgs s_vectors, defBody s_vectors, defScope s_vectors, [], []⟩
def hd_is_vector : He.DefD := ⟨("is_vector", none), "is_vector", "is_vector", defArgs s_is_vector, defBody s_is_vector, defScope s_is_vector, [], []⟩
def hd_place_of : He.DefD := ⟨("place_of", none), "place_of", "place_of", defArgs s_place_of, defBody s_place_of, defScope s_place_of, [], []⟩
def hd_part_of : He.DefD := ⟨("part_of", none), "part_of", "part_of", defArgs s_part_of, defBody s_part_of, defScope s_part_of, [], []⟩
def hd_rim : He.DefD := ⟨("rim", none), "rim", "rim", defArgs s_rim, defBody s_rim, defScope s_rim, [], []⟩
def hd_first_table : He.DefD := ⟨("first_table", none), "first_table", "first_table", defArgs s_first_table, defBody s_first_table, defScope s_first_table, [], []⟩
def hd_grown : He.DefD := ⟨("grown", none), "grown", "grown", defArgs s_grown, defBody s_grown, defScope s_grown, [], []⟩
def hd_table_of : He.DefD := ⟨("table_of", none), "table_of", "table_of", defArgs s_table_of, defBody s_table_of, defScope s_table_of, [], []⟩
def hd_is_row_of : He.DefD := ⟨("is_row_of", none), "is_row_of", "is_row_of", defArgs s_is_row_of, defBody s_is_row_of, defScope s_is_row_of, [], []⟩
def hd_rims_hold : He.DefD := ⟨("rims_hold", none), "rims_hold", "rims_hold", defArgs s_rims_hold, defBody s_rims_hold, defScope s_rims_hold, [], []⟩
def hd__law_box : He.DefD := ⟨("_law_box", none), "_law_box", "_law_box", defArgs s__law_box, defBody s__law_box, defScope s__law_box, [], []⟩
def hd__law_take : He.DefD := ⟨("_law_take", none), "_law_take", "_law_take", defArgs s__law_take, defBody s__law_take, defScope s__law_take, [], []⟩
def hd__law_same : He.DefD := ⟨("_law_same", none), "_law_same", "_law_same", defArgs s__law_same, defBody s__law_same, defScope s__law_same, [], []⟩
def hd__law_pick : He.DefD := ⟨("_law_pick", none), "_law_pick", "_law_pick", defArgs s__law_pick, defBody s__law_pick, defScope s__law_pick, [], []⟩
def hd__law_rings : He.DefD := ⟨("_law_rings", none), "_law_rings", "_law_rings", defArgs s__law_rings, defBody s__law_rings, defScope s__law_rings, [], []⟩
def hd__law_map : He.DefD := ⟨("_law_map", none), "_law_map", "_law_map", defArgs s__law_map, defBody s__law_map, defScope s__law_map, [], []⟩
def hd__law_machine : He.DefD := ⟨("_law_machine", none), "_law_machine", "_law_machine", defArgs s__law_machine, defBody s__law_machine, defScope s__law_machine, [], []⟩
def hd__law_rows : He.DefD := ⟨("_law_rows", none), "_law_rows", "_law_rows", defArgs s__law_rows, defBody s__law_rows, defScope s__law_rows, [], []⟩
def hd__law_clash : He.DefD := ⟨("_law_clash", none), "_law_clash", "_law_clash", defArgs s__law_clash, defBody s__law_clash, defScope s__law_clash, [], []⟩
def hd__law_pair : He.DefD := ⟨("_law_pair", none), "_law_pair", "_law_pair", defArgs s__law_pair, defBody s__law_pair, defScope s__law_pair, [], []⟩
def hd__law_mixed : He.DefD := ⟨("_law_mixed", none), "_law_mixed", "_law_mixed", defArgs s__law_mixed, defBody s__law_mixed, defScope s__law_mixed, [], []⟩
def hd__law_counts : He.DefD := ⟨("_law_counts", none), "_law_counts", "_law_counts", defArgs s__law_counts, defBody s__law_counts, defScope s__law_counts, [], []⟩
def hd__law_vectors : He.DefD := ⟨("_law_vectors", none), "_law_vectors", "_law_vectors", defArgs s__law_vectors, defBody s__law_vectors, defScope s__law_vectors, [], []⟩
def hd__law_board : He.DefD := ⟨("_law_board", none), "_law_board", "_law_board", defArgs s__law_board, defBody s__law_board, defScope s__law_board, [], []⟩
def hd__law_table : He.DefD := ⟨("_law_table", none), "_law_table", "_law_table", defArgs s__law_table, defBody s__law_table, defScope s__law_table, [], []⟩
def hd__law_rims : He.DefD := ⟨("_law_rims", none), "_law_rims", "_law_rims", defArgs s__law_rims, defBody s__law_rims, defScope s__law_rims, [], []⟩
def hd__law_holds : He.DefD := ⟨("_law_holds", none), "_law_holds", "_law_holds", defArgs s__law_holds, defBody s__law_holds, defScope s__law_holds, [], []⟩
def hd__law_rims_right : He.DefD := ⟨("_law_rims_right", none), "_law_rims_right", "_law_rims_right", defArgs s__law_rims_right, defBody s__law_rims_right, defScope s__law_rims_right, [], []⟩
def hd_law : He.DefD := ⟨("law", none), "law", "law", defArgs s_law, defBody s_law, defScope s_law, [], []⟩
def fn : List He.DefD := [hd_is_integer, hd_is_number, hd_is_below, hd_is_sequence, hd_are_below, hd_is_map, hd_are_deeds, hd_check_machine, hd_rows_to, hd_clash, hd_costs_nothing, hd_two_of_one_rim, hd_is_positive, hd_is_hands, hd_need_hands, hd_is_letter, hd_check_row, hd_check_history, hd_are_counts, hd_check_part, hd_need_hand, hd_need_counts, hd_vectors, hd_is_vector, hd_place_of, hd_part_of, hd_rim, hd_first_table, hd_grown, hd_table_of, hd_is_row_of, hd_rims_hold, hd__law_box, hd__law_take, hd__law_same, hd__law_pick, hd__law_rings, hd__law_map, hd__law_machine, hd__law_rows, hd__law_clash, hd__law_pair, hd__law_mixed, hd__law_counts, hd__law_vectors, hd__law_board, hd__law_table, hd__law_rims, hd__law_holds, hd__law_rims_right, hd_law]
def fa : List He.Fa := [.glo "is_integer", .glo "is_number", .glo "is_below", .glo "is_sequence", .glo "are_below", .glo "is_map", .glo "are_deeds", .glo "check_machine", .glo "rows_to", .glo "clash", .glo "costs_nothing", .glo "two_of_one_rim", .glo "is_positive", .glo "is_hands", .glo "need_hands", .glo "is_letter", .glo "check_row", .glo "check_history", .glo "are_counts", .glo "check_part", .glo "need_hand", .glo "need_counts", .glo "vectors", .glo "is_vector", .glo "place_of", .glo "part_of", .glo "rim", .glo "first_table", .glo "grown", .glo "table_of", .glo "is_row_of", .glo "rims_hold", .glo "_law_box", .glo "_law_take", .glo "_law_same", .glo "_law_pick", .glo "_law_rings", .glo "_law_map", .glo "_law_machine", .glo "_law_rows", .glo "_law_clash", .glo "_law_pair", .glo "_law_mixed", .glo "_law_counts", .glo "_law_vectors", .glo "_law_board", .glo "_law_table", .glo "_law_rims", .glo "_law_holds", .glo "_law_rims_right", .glo "law", .free "abs", .free "all", .free "bool", .free "enumerate", .free "int", .free "isinstance", .free "len", .free "list", .free "min", .free "range", .free "str", .free "tuple", .free "zip", .int "MOST_BOARDS" 8, .int "MOST_DEEDS" 6, .int "MOST_HANDS" 4, .int "TWO" 2]
theorem hd_of {K : PySem.W.Frag} {h : Heap} {mg : Str → Option Value} (X : K.In h) (G : h.Ns mainGlobals mg) (c : He.SaysD fa fn K) : Hd K mg where
  d_is_integer := c.def_ 0 (d := hd_is_integer) rfl
  g_is_integer := He.glo_ok X G (c.fact 0 (f := .glo "is_integer") rfl)
  d_is_number := c.def_ 1 (d := hd_is_number) rfl
  g_is_number := He.glo_ok X G (c.fact 1 (f := .glo "is_number") rfl)
  d_is_below := c.def_ 2 (d := hd_is_below) rfl
  g_is_below := He.glo_ok X G (c.fact 2 (f := .glo "is_below") rfl)
  d_is_sequence := c.def_ 3 (d := hd_is_sequence) rfl
  g_is_sequence := He.glo_ok X G (c.fact 3 (f := .glo "is_sequence") rfl)
  d_are_below := c.def_ 4 (d := hd_are_below) rfl
  g_are_below := He.glo_ok X G (c.fact 4 (f := .glo "are_below") rfl)
  d_is_map := c.def_ 5 (d := hd_is_map) rfl
  g_is_map := He.glo_ok X G (c.fact 5 (f := .glo "is_map") rfl)
  d_are_deeds := c.def_ 6 (d := hd_are_deeds) rfl
  g_are_deeds := He.glo_ok X G (c.fact 6 (f := .glo "are_deeds") rfl)
  d_check_machine := c.def_ 7 (d := hd_check_machine) rfl
  g_check_machine := He.glo_ok X G (c.fact 7 (f := .glo "check_machine") rfl)
  d_rows_to := c.def_ 8 (d := hd_rows_to) rfl
  g_rows_to := He.glo_ok X G (c.fact 8 (f := .glo "rows_to") rfl)
  d_clash := c.def_ 9 (d := hd_clash) rfl
  g_clash := He.glo_ok X G (c.fact 9 (f := .glo "clash") rfl)
  d_costs_nothing := c.def_ 10 (d := hd_costs_nothing) rfl
  g_costs_nothing := He.glo_ok X G (c.fact 10 (f := .glo "costs_nothing") rfl)
  d_two_of_one_rim := c.def_ 11 (d := hd_two_of_one_rim) rfl
  g_two_of_one_rim := He.glo_ok X G (c.fact 11 (f := .glo "two_of_one_rim") rfl)
  d_is_positive := c.def_ 12 (d := hd_is_positive) rfl
  g_is_positive := He.glo_ok X G (c.fact 12 (f := .glo "is_positive") rfl)
  d_is_hands := c.def_ 13 (d := hd_is_hands) rfl
  g_is_hands := He.glo_ok X G (c.fact 13 (f := .glo "is_hands") rfl)
  d_need_hands := c.def_ 14 (d := hd_need_hands) rfl
  g_need_hands := He.glo_ok X G (c.fact 14 (f := .glo "need_hands") rfl)
  d_is_letter := c.def_ 15 (d := hd_is_letter) rfl
  g_is_letter := He.glo_ok X G (c.fact 15 (f := .glo "is_letter") rfl)
  d_check_row := c.def_ 16 (d := hd_check_row) rfl
  g_check_row := He.glo_ok X G (c.fact 16 (f := .glo "check_row") rfl)
  d_check_history := c.def_ 17 (d := hd_check_history) rfl
  g_check_history := He.glo_ok X G (c.fact 17 (f := .glo "check_history") rfl)
  d_are_counts := c.def_ 18 (d := hd_are_counts) rfl
  g_are_counts := He.glo_ok X G (c.fact 18 (f := .glo "are_counts") rfl)
  d_check_part := c.def_ 19 (d := hd_check_part) rfl
  g_check_part := He.glo_ok X G (c.fact 19 (f := .glo "check_part") rfl)
  d_need_hand := c.def_ 20 (d := hd_need_hand) rfl
  g_need_hand := He.glo_ok X G (c.fact 20 (f := .glo "need_hand") rfl)
  d_need_counts := c.def_ 21 (d := hd_need_counts) rfl
  g_need_counts := He.glo_ok X G (c.fact 21 (f := .glo "need_counts") rfl)
  d_vectors := c.def_ 22 (d := hd_vectors) rfl
  g_vectors := He.glo_ok X G (c.fact 22 (f := .glo "vectors") rfl)
  d_is_vector := c.def_ 23 (d := hd_is_vector) rfl
  g_is_vector := He.glo_ok X G (c.fact 23 (f := .glo "is_vector") rfl)
  d_place_of := c.def_ 24 (d := hd_place_of) rfl
  g_place_of := He.glo_ok X G (c.fact 24 (f := .glo "place_of") rfl)
  d_part_of := c.def_ 25 (d := hd_part_of) rfl
  g_part_of := He.glo_ok X G (c.fact 25 (f := .glo "part_of") rfl)
  d_rim := c.def_ 26 (d := hd_rim) rfl
  g_rim := He.glo_ok X G (c.fact 26 (f := .glo "rim") rfl)
  d_first_table := c.def_ 27 (d := hd_first_table) rfl
  g_first_table := He.glo_ok X G (c.fact 27 (f := .glo "first_table") rfl)
  d_grown := c.def_ 28 (d := hd_grown) rfl
  g_grown := He.glo_ok X G (c.fact 28 (f := .glo "grown") rfl)
  d_table_of := c.def_ 29 (d := hd_table_of) rfl
  g_table_of := He.glo_ok X G (c.fact 29 (f := .glo "table_of") rfl)
  d_is_row_of := c.def_ 30 (d := hd_is_row_of) rfl
  g_is_row_of := He.glo_ok X G (c.fact 30 (f := .glo "is_row_of") rfl)
  d_rims_hold := c.def_ 31 (d := hd_rims_hold) rfl
  g_rims_hold := He.glo_ok X G (c.fact 31 (f := .glo "rims_hold") rfl)
  d__law_box := c.def_ 32 (d := hd__law_box) rfl
  g__law_box := He.glo_ok X G (c.fact 32 (f := .glo "_law_box") rfl)
  d__law_take := c.def_ 33 (d := hd__law_take) rfl
  g__law_take := He.glo_ok X G (c.fact 33 (f := .glo "_law_take") rfl)
  d__law_same := c.def_ 34 (d := hd__law_same) rfl
  g__law_same := He.glo_ok X G (c.fact 34 (f := .glo "_law_same") rfl)
  d__law_pick := c.def_ 35 (d := hd__law_pick) rfl
  g__law_pick := He.glo_ok X G (c.fact 35 (f := .glo "_law_pick") rfl)
  d__law_rings := c.def_ 36 (d := hd__law_rings) rfl
  g__law_rings := He.glo_ok X G (c.fact 36 (f := .glo "_law_rings") rfl)
  d__law_map := c.def_ 37 (d := hd__law_map) rfl
  g__law_map := He.glo_ok X G (c.fact 37 (f := .glo "_law_map") rfl)
  d__law_machine := c.def_ 38 (d := hd__law_machine) rfl
  g__law_machine := He.glo_ok X G (c.fact 38 (f := .glo "_law_machine") rfl)
  d__law_rows := c.def_ 39 (d := hd__law_rows) rfl
  g__law_rows := He.glo_ok X G (c.fact 39 (f := .glo "_law_rows") rfl)
  d__law_clash := c.def_ 40 (d := hd__law_clash) rfl
  g__law_clash := He.glo_ok X G (c.fact 40 (f := .glo "_law_clash") rfl)
  d__law_pair := c.def_ 41 (d := hd__law_pair) rfl
  g__law_pair := He.glo_ok X G (c.fact 41 (f := .glo "_law_pair") rfl)
  d__law_mixed := c.def_ 42 (d := hd__law_mixed) rfl
  g__law_mixed := He.glo_ok X G (c.fact 42 (f := .glo "_law_mixed") rfl)
  d__law_counts := c.def_ 43 (d := hd__law_counts) rfl
  g__law_counts := He.glo_ok X G (c.fact 43 (f := .glo "_law_counts") rfl)
  d__law_vectors := c.def_ 44 (d := hd__law_vectors) rfl
  g__law_vectors := He.glo_ok X G (c.fact 44 (f := .glo "_law_vectors") rfl)
  d__law_board := c.def_ 45 (d := hd__law_board) rfl
  g__law_board := He.glo_ok X G (c.fact 45 (f := .glo "_law_board") rfl)
  d__law_table := c.def_ 46 (d := hd__law_table) rfl
  g__law_table := He.glo_ok X G (c.fact 46 (f := .glo "_law_table") rfl)
  d__law_rims := c.def_ 47 (d := hd__law_rims) rfl
  g__law_rims := He.glo_ok X G (c.fact 47 (f := .glo "_law_rims") rfl)
  d__law_holds := c.def_ 48 (d := hd__law_holds) rfl
  g__law_holds := He.glo_ok X G (c.fact 48 (f := .glo "_law_holds") rfl)
  d__law_rims_right := c.def_ 49 (d := hd__law_rims_right) rfl
  g__law_rims_right := He.glo_ok X G (c.fact 49 (f := .glo "_law_rims_right") rfl)
  d_law := c.def_ 50 (d := hd_law) rfl
  g_law := He.glo_ok X G (c.fact 50 (f := .glo "law") rfl)
  b_abs := He.free_ok X G (c.fact 51 (f := .free "abs") rfl)
  b_all := He.free_ok X G (c.fact 52 (f := .free "all") rfl)
  b_bool := He.free_ok X G (c.fact 53 (f := .free "bool") rfl)
  b_enumerate := He.free_ok X G (c.fact 54 (f := .free "enumerate") rfl)
  b_int := He.free_ok X G (c.fact 55 (f := .free "int") rfl)
  b_isinstance := He.free_ok X G (c.fact 56 (f := .free "isinstance") rfl)
  b_len := He.free_ok X G (c.fact 57 (f := .free "len") rfl)
  b_list := He.free_ok X G (c.fact 58 (f := .free "list") rfl)
  b_min := He.free_ok X G (c.fact 59 (f := .free "min") rfl)
  b_range := He.free_ok X G (c.fact 60 (f := .free "range") rfl)
  b_str := He.free_ok X G (c.fact 61 (f := .free "str") rfl)
  b_tuple := He.free_ok X G (c.fact 62 (f := .free "tuple") rfl)
  b_zip := He.free_ok X G (c.fact 63 (f := .free "zip") rfl)
  i_MOST_BOARDS := He.int_ok X G (c.fact 64 (f := .int "MOST_BOARDS" 8) rfl)
  i_MOST_DEEDS := He.int_ok X G (c.fact 65 (f := .int "MOST_DEEDS" 6) rfl)
  i_MOST_HANDS := He.int_ok X G (c.fact 66 (f := .int "MOST_HANDS" 4) rfl)
  i_TWO := He.int_ok X G (c.fact 67 (f := .int "TWO" 2) rfl)
end K93

namespace K93
open PySem PyProof.Rows L2 Dl

/-! ### small words -/
theorem is_integer_ok (i : Int) (m : M) : F_is_integer [.int i] m = .ok (.bl true) m := runF_rt rfl (by simp [g_is_integer, tyD, kit_int_int, kit_int_bool])
theorem is_number_ok {i : Int} (h : 0 ≤ i) (m : M) : F_is_number [.int i] m = .ok (.bl true) m := runF_rt rfl (by simp [g_is_number, is_integer_ok, h])
theorem is_below_ok {i n : Int} (h : 0 ≤ i) (h1 : i < n) (m : M) : F_is_below [.int i, .int n] m = .ok (.bl true) m := runF_rt rfl (by simp [g_is_below, is_number_ok, h, h1])
theorem is_sequence_tup (xs : List D) (m : M) : F_is_sequence [.tup xs] m = .ok (.bl true) m := runF_rt rfl (by simp [g_is_sequence, tyD, isi_tuple])
theorem is_sequence_ref {n : Nat} {xs : List D} {m : M} (h : m[n]? = some (.lst xs)) : F_is_sequence [.ref n] m = .ok (.bl true) m := runF_rt rfl (by simp [g_is_sequence, tyD, isi_list, h])
theorem is_below_nat {a n : Nat} (h : a < n) (m : M) : F_is_below [.int (a : Int), .int (n : Int)] m = .ok (.bl true) m := is_below_ok (by omega) (by omega) m
theorem is_number_nat (a : Nat) (m : M) : F_is_number [.int (a : Int)] m = .ok (.bl true) m := is_number_ok (by omega) m
theorem are_below_ok {l : List Nat} {n : Nat} (h : ∀ x ∈ l, x < n) (hl : l.length ≤ LIM) (m : M) : F_are_below [tI l, .int n] m = .ok (.bl true) m := runF_rt rfl (by
  simp [g_are_below, tI, is_sequence_tup]
  rw [fLc_all (xs := l.map iD) (src := srcT (l.map iD)) (fun _ => .bl true) (by simp) (isT _ _) (fun x hx => ?_) (by simpa using hl)]
  · simp [allL_ok]
  · obtain ⟨a, ha, rfl⟩ := List.mem_map.mp hx
    refine ⟨_, rfl, ?_⟩
    simp [wipeD, is_below_nat (h a ha)])
theorem is_map_ok {l : List Nat} {n : Nat} (h : ∀ x ∈ l, x < n) (hl : l.length = n) (hn : n ≤ LIM) (m : M) : F_is_map [tI l, .int n] m = .ok (.bl true) m := runF_rt rfl (by
  have := are_below_ok h (by omega) m
  simp only [tI] at this
  simp [g_is_map, tI, this, hl])
/-! ### machines -/
structure Mach where
  start : Nat
  maps : List (List Nat)
structure Mach.Ok (M : Mach) (b : Nat) : Prop where
  b1 : 1 ≤ b
  b8 : b ≤ 8
  st : M.start < b
  n1 : 1 ≤ M.maps.length
  n6 : M.maps.length ≤ 6
  len : ∀ f ∈ M.maps, f.length = b
  ent : ∀ f ∈ M.maps, ∀ x ∈ f, x < b
def mapsD (M : Mach) : D := .tup (M.maps.map tI)
def machD (M : Mach) : D := .tup [iD M.start, mapsD M]
theorem head_of {M : Mach} {b : Nat} (h : M.Ok b) : ∃ f r, M.maps = f :: r ∧ f.length = b := by
  obtain ⟨s, ms⟩ := M
  cases ms with
  | nil => exact absurd h.n1 (by simp)
  | cons f r => exact ⟨f, r, rfl, h.len f (by simp)⟩
theorem are_deeds_ok {mc : Mach} {b : Nat} (h : mc.Ok b) (m : M) : F_are_deeds [mapsD mc] m = .ok (.bl true) m := runF_rt rfl (by
  obtain ⟨f, r, e, hf⟩ := head_of h
  obtain ⟨s, ms⟩ := mc
  subst e
  have l1 := h.n1
  have l6 := h.n6
  have b1 := h.b1
  have b8 := h.b8
  simp only [List.length_cons] at l1 l6
  have c1 : (1 : Int) ≤ (r.length : Int) + 1 := by omega
  have c2 : (r.length : Int) + 1 ≤ 6 := by omega
  have c3 : (1 : Int) ≤ (f.length : Int) := by omega
  have c4 : (f.length : Int) ≤ 8 := by omega
  have seqT : ∀ l : List Nat, F_is_sequence [tI l] m = .ok (.bl true) m := fun l => is_sequence_tup _ m
  simp [g_are_deeds, mapsD, is_sequence_tup, seqT, c1, c2]
  simp [tI, c3, c4]
  rw [fLc_all (xs := (f :: r).map tI) (src := srcT ((f :: r).map tI)) (fun _ => .bl true) (by simp [tI]) (isT _ _) (fun x hx => ?_) (by simp [LIM_eq]; omega)]
  · simp [allL_ok]
  · obtain ⟨a, ha, rfl⟩ := List.mem_map.mp hx
    have := is_map_ok (h.ent a ha) (h.len a ha) (by rw [LIM_eq]; omega) m
    refine ⟨_, rfl, ?_⟩
    simp [wipeD, hf, this])
theorem check_machine_ok {mc : Mach} {b : Nat} (h : mc.Ok b) (m : M) : F_check_machine [machD mc] m = .ok (machD mc) m := runF_rt rfl (by
  have hd := are_deeds_ok h m
  obtain ⟨f, r, e, hf⟩ := head_of h
  obtain ⟨s, ms⟩ := mc
  subst e
  have l6 := h.n6
  simp only [List.length_cons] at l6
  have hs : F_is_below [iD s, .int (f.length : Int)] m = .ok (.bl true) m := is_below_nat (by rw [hf]; exact h.st) m
  simp only [mapsD, List.map_cons] at hd
  simp [g_check_machine, machD, mapsD, is_sequence_tup, hd]
  simp [tI, hs]
  rw [fLc_all (xs := (f :: r).map tI) (src := srcT ((f :: r).map tI)) id (by simp [tI]) (isT _ _) (fun x hx => ?_) (by simp [LIM_eq]; omega)]
  · simp [LIM_eq, tI]
  · obtain ⟨a, ha, rfl⟩ := List.mem_map.mp hx
    refine ⟨_, rfl, ?_⟩
    simp [wipeD, tI])
/-! ### histories -/
def letD (p : Nat × Nat) : D := .tup [iD p.1, iD p.2]
def histD (h : Hist) : D := .tup (h.map letD)
structure HOk (hs ds : Nat) (h : Hist) : Prop where
  hand : ∀ p ∈ h, p.1 < hs
  deed : ∀ p ∈ h, p.2 < ds
theorem is_hands_ok {k : Nat} (h1 : 1 ≤ k) (h4 : k ≤ 4) (m : M) : F_need_hands [iD k] m = .ok (iD k) m := runF_rt rfl (by
  have c1 : (1 : Int) ≤ (k : Int) := by omega
  have c2 : (k : Int) ≤ 4 := by omega
  have a : F_is_positive [iD k] m = .ok (.bl true) m := runF_rt rfl (by simp [g_is_positive, is_integer_ok, c1])
  have b : F_is_hands [iD k] m = .ok (.bl true) m := runF_rt rfl (by simp [g_is_hands, a, c2])
  simp [g_need_hands, b])
theorem is_letter_ok {p : Nat × Nat} {hs ds : Nat} (h1 : p.1 < hs) (h2 : p.2 < ds) (m : M) : F_is_letter [letD p, iD hs, iD ds] m = .ok (.bl true) m := runF_rt rfl (by
  simp [g_is_letter, letD, is_sequence_tup, is_below_nat h1, is_below_nat h2])
theorem is_letter_ref {p : Nat × Nat} {hs ds n : Nat} {m : M} (h1 : p.1 < hs) (h2 : p.2 < ds) (hm : m[n]? = some (.lst [iD p.1, iD p.2])) : F_is_letter [.ref n, iD hs, iD ds] m = .ok (.bl true) m := runF_rt rfl (by
  simp [g_is_letter, is_sequence_ref hm, hm, e_ixL _ hm, is_below_nat h1, is_below_nat h2])
/-- a history as the program may take it: rows that stand for it -/
structure IsHist (m : M) (d : D) (h : Hist) : Prop where
  seq : F_is_sequence [d] m = .ok (.bl true) m
  it : ∃ xs src esrc, itemsD m d = some xs ∧ srcK m d = .ok src m ∧ SrcIs src xs m ∧ enumK m d = .ok esrc m ∧ SrcIs esrc (xs.zipIdx.map fun p => .tup [.int (p.2 : Nat), p.1]) m ∧ xs.length = h.length ∧
    ∀ (i : Nat) (p : Nat × Nat), h[i]? = some p → ∃ x, xs[i]? = some x ∧ itemsD m x = some [iD p.1, iD p.2] ∧ ∀ hs ds : Nat, p.1 < hs → p.2 < ds → F_is_letter [x, iD hs, iD ds] m = .ok (.bl true) m
theorem isHist_t (m : M) (h : Hist) : IsHist m (histD h) h := by
  refine ⟨is_sequence_tup _ m, h.map letD, srcT _, srcTE _, rfl, by simp [histD], isT _ _, by simp [histD], isTE _ _, by simp, fun i p hp => ⟨letD p, by simp [hp], rfl, fun hs ds h1 h2 => is_letter_ok h1 h2 m⟩⟩
theorem check_row_ok {hs ds : Nat} {m : M} {d : D} {h : Hist} (h1 : 1 ≤ hs) (h4 : hs ≤ 4) (hd : IsHist m d h) (ok : HOk hs ds h) (hl : h.length ≤ LIM) : F_check_row [iD hs, iD ds, d] m = .ok (histD h) m := runF_rt rfl (by
  obtain ⟨xs, src, esrc, i1, i2, i3, i4, i5, i6, i7⟩ := hd.it
  simp [g_check_row, is_hands_ok h1 h4, hd.seq, i2, i4]
  have hn : esrc.n = xs.length := by rw [i5.n]; simp
  obtain ⟨ρ', m', e, rfl, a, b, rfl⟩ := forL_inv (src := esrc) (n := xs.length) (gt := gT 2 (gCons' (gN 3) (gCons' (gN 4) gNil'))) (body := (sIf (fNotT (fTest (fCall F_is_letter (fCons (fVar 4) (fCons (fVar 0) (fCons (fVar 1) fNil)))))) sNever sNext)) (fun i ρ m' => m' = m ∧ ∃ a b, ρ = [some (iD hs), some (iD ds), some d, a, b]) hn
    (fun i ρ m' hi ⟨e1, a, b, e2⟩ => by
      subst e1 e2
      have hi2 : i < h.length := by omega
      obtain ⟨x, hx, _, hx2⟩ := i7 i h[i] (by simp [hi2])
      have ok1 := ok.hand h[i] (List.getElem_mem hi2)
      have ok2 := ok.deed h[i] (List.getElem_mem hi2)
      refine ⟨.tup [.int i, x], [some (iD hs), some (iD ds), some d, some (.int i), some x], [some (iD hs), some (iD ds), some d, some (.int i), some x], m', ?_, by simp, ?_, rfl, _, _, rfl⟩
      · rw [i5.get i (by simpa using hi)]
        simp [hx]
      · simp [hx2 hs ds ok1 ok2])
    (fun ρ m' ⟨e1, _⟩ => by rw [e1]; exact i5.fin) xs.length 0 [some (iD hs), some (iD ds), some d, none, none] m (by omega) ⟨rfl, none, none, rfl⟩
  rw [hn, e]
  have fin : xs.map (fun x => match itemsD m' x with
    | some l => D.tup l
    | none => .non) = h.map letD := by
    refine List.ext_getElem? fun i => ?_
    rw [List.getElem?_map, List.getElem?_map]
    cases hp : h[i]? with
    | none =>
      have : ¬ i < h.length := fun q => by rw [List.getElem?_eq_getElem q] at hp; cases hp
      rw [List.getElem?_eq_none (by omega)]
      rfl
    | some p =>
      obtain ⟨x, hx, hx1, _⟩ := i7 i p hp
      rw [hx]
      simp [hx1, letD]
  simp
  rw [fLc_all (xs := xs) (src := src) (fun x => match itemsD m' x with
    | some l => D.tup l
    | none => .non) (by simp [i2]) i3 (fun x hx => ?_) (by omega)]
  · simp [fin, histD]
  · obtain ⟨i, hi⟩ := List.getElem?_of_mem hx
    have hil := (List.getElem?_eq_some_iff.mp hi).1
    obtain ⟨y, hy, hy1, _⟩ := i7 i h[i] (by simp [show i < h.length by omega])
    rw [hi] at hy
    cases hy
    refine ⟨_, rfl, ?_⟩
    simp [wipeD, hy1])
theorem check_history_ok {mc : Mach} {b hs : Nat} {m : M} {d : D} {h : Hist} (hm : mc.Ok b) (h1 : 1 ≤ hs) (h4 : hs ≤ 4) (hd : IsHist m d h) (ok : HOk hs mc.maps.length h) (hl : h.length ≤ LIM) : F_check_history [machD mc, iD hs, d] m = .ok (histD h) m := runF_rt rfl (by
  have e := check_row_ok h1 h4 hd ok hl
  simp [g_check_history, check_machine_ok hm]
  simp [machD, mapsD, e])
/-! ### tables -/
theorem first_table_ok {mc : Mach} {b hs : Nat} (hm : mc.Ok b) (h1 : 1 ≤ hs) (h4 : hs ≤ 4) (m : M) : F_first_table [machD mc, iD hs] m = .ok (.tup [tI (List.replicate hs 0), tI [mc.start]]) m := runF_rt rfl (by
  have e := check_history_ok (d := .tup []) (h := []) hm h1 h4 (isHist_t m []) ⟨fun p hp => by simp at hp, fun p hp => by simp at hp⟩ (Nat.zero_le _)
  have hr : gMul (.tup [.int 0]) (.int (hs : Int)) m = .ok (tI (List.replicate hs 0)) m := by
    have : hs = 1 ∨ hs = 2 ∨ hs = 3 ∨ hs = 4 := by omega
    rcases this with rfl | rfl | rfl | rfl <;> rfl
  simp [g_first_table, check_machine_ok hm, e, LIM_eq, hr]
  simp [machD, LIM_eq, tI])
end K93

namespace K93
open PySem PyProof.Rows L2 Dl
theorem tI_num (l : List Nat) : (tI l).num = true := by
  simp only [tI, D.num, nums_iff]
  intro d hd
  obtain ⟨a, _, rfl⟩ := List.mem_map.mp hd
  rfl
theorem tI_blw (l : List Nat) (L : Nat) : (tI l).blw L = true := num_blw (tI_num l) L
theorem are_counts_ok {cs : List Nat} (h1 : 1 ≤ cs.length) (h4 : cs.length ≤ 4) (m : M) : F_are_counts [tI cs] m = .ok (.bl true) m := runF_rt rfl (by
  have c1 : (1 : Int) ≤ (cs.length : Int) := by omega
  have c2 : (cs.length : Int) ≤ 4 := by omega
  simp [g_are_counts, tI, is_sequence_tup, c1, c2]
  rw [fLc_all (xs := cs.map iD) (src := srcT (cs.map iD)) (fun _ => .bl true) (by simp) (isT _ _) (fun x hx => ?_) (by simp [LIM_eq]; omega)]
  · simp [allL_ok]
  · obtain ⟨a, ha, rfl⟩ := List.mem_map.mp hx
    refine ⟨_, rfl, ?_⟩
    simp [wipeD, is_number_nat])
theorem need_counts_ok {cs : List Nat} (h1 : 1 ≤ cs.length) (h4 : cs.length ≤ 4) (m : M) : F_need_counts [tI cs] m = .ok (tI cs) m := runF_rt rfl (by
  simp [g_need_counts, are_counts_ok h1 h4]
  simp [tI])
theorem listM_blw {l : List (List Nat)} (L : Nat) : O.blw L (.lst (l.map tI)) = true := by
  simp only [O.blw]
  induction l with
  | nil => rfl
  | cons a r ih => simp only [List.map_cons, D.blws, tI_blw, ih, Bool.and_self]
noncomputable def bdV : FS := sSetL 1 (fLc2 (fWalk (fVar 1)) (gN 3) [3, 4] fYes (fRng1 (fOp gAdd (fVar 2) (fC (.int 1)))) (gN 4) [4] fYes (fOp gAdd (fVar 3) (fTup (fCons (fVar 4) fNil))))
def extV (n : Nat) : D → List D := fun x => match x with
  | .tup ds => ((List.range (n + 1)).map iD).map fun y => .tup (ds ++ [y])
  | _ => []
theorem extV_vecs (cs : List Nat) (n : Nat) : ((vecs cs).map tI).flatMap (extV n) = (vecs (cs ++ [n])).map tI := by
  rw [vecs_snoc]
  unfold stepV
  rw [List.flatMap_map, List.map_flatMap]
  congr 1
  funext v
  simp [extV, tI, Function.comp_def]
theorem vec_comp {cs : List Nat} {n k : Nat} {mm : M} {a b : Option D} (hc : cs.length ≤ 4) (hp : prd (cs ++ [n]) ≤ 30000) (hk : mm[k]? = some (.lst ((vecs cs).map tI))) (x : Option D) :
    fLc2 (fWalk (fVar 1)) (gN 3) [3, 4] fYes (fRng1 (fOp gAdd (fVar 2) (fC (.int 1)))) (gN 4) [4] fYes (fOp gAdd (fVar 3) (fTup (fCons (fVar 4) fNil))) [x, some (.ref k), some (iD n), a, b] mm = .ok ((vecs (cs ++ [n])).map tI) mm := by
  have hn : n + 1 ≤ 30000 := by
    rw [prd_snoc] at hp
    exact Nat.le_trans (Nat.le_mul_of_pos_left _ (prd_pos _)) hp
  have hl : (((vecs cs).map tI).flatMap (extV n)).length ≤ LIM := by
    rw [extV_vecs, List.length_map, vecs_len, LIM_eq]
    omega
  have hr := rngK_n (k := n + 1) (by rw [LIM_eq]; omega) mm
  rw [fLc2_all (xs := (vecs cs).map tI) (src := srcL k ((vecs cs).map tI).length) (extV n) (by simp [srcK_l hk]) (isL hk rfl) (fun x hx => ?_) hl, extV_vecs]
  obtain ⟨v, hv, rfl⟩ := List.mem_map.mp hx
  have hvl : v.length + 1 ≤ LIM := by
    have := (mem_vecs.mp hv).1
    rw [LIM_eq]
    omega
  refine ⟨_, srcR 0 (n + 1), (List.range (n + 1)).map iD, rfl, ?_, isR _ _, fun y => .tup (v.map iD ++ [y]), fun y hy => ⟨_, rfl, ?_⟩, rfl⟩
  · have e : (n : Int) + 1 = ((n + 1 : Nat) : Int) := by omega
    simp [wipeD]
    rw [e, hr]
  · have h1 : 1 ≤ LIM := by rw [LIM_eq]; omega
    simp [wipeD, tI, h1, hvl]
theorem vec_loop {cs : List Nat} (h4 : cs.length ≤ 4) (hp : prd cs ≤ 30000) {m : M} (x : Option D) : ∃ (j : M) (k : Nat) (a : Option D), (m ++ j)[k]? = some (.lst ((vecs cs).map tI)) ∧
    forL (srcT (cs.map iD)) (gN 2) bdV cs.length 0 [x, some (.ref m.length), none, none, none] (m ++ [.lst [.tup []]]) = .nx [x, some (.ref k), a, none, none] (m ++ j) := by
  let I : Nat → Sl → M → Prop := fun i ρ mm => ∃ (j : M) (k : Nat) (a : Option D), mm = m ++ j ∧ ρ = [x, some (.ref k), a, none, none] ∧ mm[k]? = some (.lst ((vecs (cs.take i)).map tI))
  have step : ∀ i ρ mm, i < cs.length → I i ρ mm → ∃ d ρ' ρ2 m2, (srcT (cs.map iD)).get mm i = some d ∧ gN 2 d ρ = some ρ' ∧ bdV ρ' mm = .nx ρ2 m2 ∧ I (i + 1) ρ2 m2 := by
    rintro i ρ mm hi ⟨j, k, a, e1, rfl, e3⟩
    have ht : cs.take (i + 1) = cs.take i ++ [cs[i]] := by rw [List.take_append_getElem]
    refine ⟨iD cs[i], [x, some (.ref k), some (iD cs[i]), none, none], [x, some (.ref mm.length), some (iD cs[i]), none, none], mm ++ [.lst ((vecs (cs.take (i + 1))).map tI)], by simp [srcT, hi], rfl, ?_, j ++ [.lst ((vecs (cs.take (i + 1))).map tI)], mm.length, some (iD cs[i]), by rw [e1, List.append_assoc], rfl, by simp⟩
    have hbig := Nat.le_trans (prd_take cs (i + 1)) hp
    rw [ht] at hbig ⊢
    have e5 := vec_comp (a := none) (b := none) (by rw [List.length_take]; omega) hbig e3 x
    simp [bdV, e5]
  obtain ⟨ρ', m', e, j, k, a, rfl, rfl, hk⟩ := forL_inv (src := srcT (cs.map iD)) (n := cs.length) (gt := gN 2) (body := bdV) I (by simp [srcT]) step (fun _ _ _ => rfl) cs.length 0 [x, some (.ref m.length), none, none, none] (m ++ [.lst [.tup []]]) (by omega) ⟨[.lst [.tup []]], m.length, none, rfl, rfl, by simp [vecs, tI]⟩
  rw [List.take_length] at hk
  exact ⟨j, k, a, hk, e⟩
theorem vectors_ok {cs : List Nat} (h1 : 1 ≤ cs.length) (h4 : cs.length ≤ 4) (hp : prd cs ≤ 30000) {m : M} (hw : Wf m) : F_vectors [tI cs] m = .ok (.tup ((vecs cs).map tI)) m := by
  obtain ⟨j, k, a, hk, e⟩ := vec_loop h4 hp (m := m) (some (tI cs))
  refine runF_rtJ (j := j) rfl ?_ rfl hw ?_
  · have hs : srcK (m ++ [O.lst [D.tup []]]) (tI cs) = .ok (srcT (cs.map iD)) (m ++ [O.lst [D.tup []]]) := rfl
    have hn : (srcT (cs.map iD)).n = cs.length := by simp [srcT]
    have h1 : 1 ≤ LIM := by rw [LIM_eq]; omega
    simp [g_vectors, h1, need_counts_ok (by assumption) h4, hs, hn]
    rw [show (sSetL 1 (fLc2 (fWalk (fVar 1)) (gN 3) [3, 4] fYes (fRng1 (fOp gAdd (fVar 2) (fC (.int 1)))) (gN 4) [4] fYes (fOp gAdd (fVar 3) (fTup (fCons (fVar 4) fNil))))) = bdV from rfl, e]
    simp [hk]
  · simp only [D.blw]
    have := listM_blw (l := vecs cs) m.length
    simpa only [O.blw] using this
theorem zip_src (v cs : List Nat) (m : M) : SrcIs (srcZ (v.map iD) (cs.map iD)) ((v.zip cs).map fun p => .tup [iD p.1, iD p.2]) m := by
  have h := isZ (v.map iD) (cs.map iD) m
  have e : ((v.map iD).zip (cs.map iD)).map (fun p => D.tup [p.1, p.2]) = (v.zip cs).map fun p => .tup [iD p.1, iD p.2] := by
    rw [List.zip_map, List.map_map]
    rfl
  rw [e] at h
  exact h
theorem within_zip {cs v : List Nat} (h : Within cs v) : ∀ p ∈ v.zip cs, p.1 ≤ p.2 := by
  intro p hp
  obtain ⟨i, hi⟩ := List.getElem?_of_mem hp
  rw [List.getElem?_zip_eq_some] at hi
  exact h.2 i p.2 p.1 hi.2 hi.1
theorem is_vector_ok {cs v : List Nat} (h : Within cs v) (hl : cs.length ≤ 4) (m : M) : F_is_vector [tI cs, tI v] m = .ok (.bl true) m := runF_rt rfl (by
  have hv := h.1
  simp [g_is_vector, tI, is_sequence_tup, hv]
  rw [fLc_all (xs := (v.zip cs).map fun p => .tup [iD p.1, iD p.2]) (src := srcZ (v.map iD) (cs.map iD)) (fun _ => .bl true) (by simp) (zip_src v cs m) (fun x hx => ?_) (by simp [LIM_eq]; omega)]
  · simp only [bind_ok]
    rw [allL_ok (fun d hd => by obtain ⟨_, _, rfl⟩ := List.mem_map.mp hd; rfl)]
    simp
  · obtain ⟨p, hp, rfl⟩ := List.mem_map.mp hx
    have hle := within_zip h p hp
    have e : (p.2 : Int) + 1 = ((p.2 + 1 : Nat) : Int) := by omega
    refine ⟨_, by simp; rfl, ?_⟩
    simp [wipeD]
    rw [e, is_below_nat (by omega)]
    simp)
theorem place_of_ok {cs v : List Nat} (h : Within cs v) (h1 : 1 ≤ cs.length) (h4 : cs.length ≤ 4) (hb : ∀ n ∈ cs, n ≤ 30000) (m : M) : F_place_of [tI cs, tI v] m = .ok (iD (plc cs v)) m := runF_rt rfl (by
  have hn : (srcZ (v.map iD) (cs.map iD)).n = (v.zip cs).length := by simp [srcZ]
  let bd : FS := sSet 3 (fOp gAdd (fOp gMul (fVar 3) (fOp gAdd (fVar 5) (fC (.int 1)))) (fVar 4))
  let I : Nat → Sl → M → Prop := fun i ρ mm => mm = m ∧ ∃ a b, ρ = [some (tI cs), some (tI v), some (tI cs), some (iD (((v.zip cs).take i).foldl (fun a p => a * (p.2 + 1) + p.1) 0)), a, b]
  have step : ∀ i ρ mm, i < (v.zip cs).length → I i ρ mm → ∃ d ρ' ρ2 m2, (srcZ (v.map iD) (cs.map iD)).get mm i = some d ∧ gT 2 (gCons' (gN 4) (gCons' (gN 5) gNil')) d ρ = some ρ' ∧ bd ρ' mm = .nx ρ2 m2 ∧ I (i + 1) ρ2 m2 := by
    rintro i ρ mm hi ⟨rfl, a, b, rfl⟩
    have ht : (v.zip cs).take (i + 1) = (v.zip cs).take i ++ [(v.zip cs)[i]] := by rw [List.take_append_getElem]
    generalize hp : (v.zip cs)[i] = p at ht
    generalize hq : ((v.zip cs).take i).foldl (fun a p => a * (p.2 + 1) + p.1) 0 = q
    have hpm : p ∈ v.zip cs := by rw [← hp]; exact List.getElem_mem hi
    have hp2 : p.2 ≤ 30000 := hb _ (List.of_mem_zip (a := p.1) (b := p.2) hpm).2
    have hc : cMul (q : Int) ((p.2 : Int) + 1) = true := cMul_iff.mpr (.inr ⟨by omega, by omega⟩)
    have e : ((v.zip cs).take (i + 1)).foldl (fun a p => a * (p.2 + 1) + p.1) 0 = q * (p.2 + 1) + p.1 := by
      rw [ht, List.foldl_append, hq]
      rfl
    refine ⟨.tup [iD p.1, iD p.2], [some (tI cs), some (tI v), some (tI cs), some (iD q), some (iD p.1), some (iD p.2)], [some (tI cs), some (tI v), some (tI cs), some (iD (q * (p.2 + 1) + p.1)), some (iD p.1), some (iD p.2)], mm, ?_, by simp, ?_, rfl, _, _, by rw [e]⟩
    · rw [(zip_src v cs mm).get i (by simpa using hi), List.getElem?_map, List.getElem?_eq_getElem hi, hp]
      rfl
    · simp [bd, hc]
  obtain ⟨ρ', m', e, rfl, a, b, rfl⟩ := forL_inv (src := srcZ (v.map iD) (cs.map iD)) (n := (v.zip cs).length) (gt := gT 2 (gCons' (gN 4) (gCons' (gN 5) gNil'))) (body := bd) I hn step (fun _ _ _ => rfl) (v.zip cs).length 0 [some (tI cs), some (tI v), some (tI cs), some (iD 0), none, none] m (by omega) ⟨rfl, none, none, rfl⟩
  rw [List.take_length] at e
  simp [g_place_of, need_counts_ok h1 h4, is_vector_ok h h4]
  have hz : zipK m' (tI v) (tI cs) = .ok (srcZ (v.map iD) (cs.map iD)) m' := rfl
  simp only [hz, hn, out_ok]
  rw [show (sSet 3 (fOp gAdd (fOp gMul (fVar 3) (fOp gAdd (fVar 5) (fC (.int 1)))) (fVar 4))) = bd from rfl, show (D.int 0) = iD 0 from rfl, e]
  simp [plc])
end K93

namespace K93
open PySem PyProof.Rows L2 Dl
/-! ### tables -/
theorem check_part_ok {cs es : List Nat} {n : Nat} (h1 : 1 ≤ cs.length) (h4 : cs.length ≤ 4) (hp : prd cs ≤ 30000) (hl : es.length = prd cs) (he : ∀ e ∈ es, e < n) (m : M) : F_check_part [.tup [tI cs, tI es], iD n] m = .ok (.tup [tI cs, tI es]) m := runF_rt rfl (by
  have hb : ∀ k ∈ cs, k ≤ 30000 := fun k hk => by
    have : k + 1 ≤ prd cs := by
      obtain ⟨as, bs, rfl⟩ := List.append_of_mem hk
      rw [prd_app]
      have h2 : prd (k :: bs) = (k + 1) * prd bs := by unfold prd; simp
      rw [h2]
      have := prd_pos as
      have := prd_pos bs
      exact Nat.le_trans (Nat.le_mul_of_pos_right (k + 1) (prd_pos bs)) (Nat.le_mul_of_pos_left _ (prd_pos as))
    omega
  let bd : FS := sAug 2 (fOp gAdd (fVar 3) (fC (.int 1))) gMulI
  let I : Nat → Sl → M → Prop := fun i ρ mm => mm = m ∧ ∃ a : Option D, ρ = [some (.tup [tI cs, tI es]), some (iD n), some (iD (prd (cs.take i))), a, none]
  have step : ∀ i ρ mm, i < cs.length → I i ρ mm → ∃ d ρ' ρ2 m2, (srcT (cs.map iD)).get mm i = some d ∧ gN 3 d ρ = some ρ' ∧ bd ρ' mm = .nx ρ2 m2 ∧ I (i + 1) ρ2 m2 := by
    rintro i ρ mm hi ⟨rfl, a, rfl⟩
    have ht : cs.take (i + 1) = cs.take i ++ [cs[i]] := by rw [List.take_append_getElem]
    have hk := hb _ (List.getElem_mem hi)
    have hc : cMul (prd (cs.take i) : Int) ((cs[i] : Int) + 1) = true := cMul_iff.mpr (.inr ⟨by omega, by omega⟩)
    refine ⟨iD cs[i], _, [some (.tup [tI cs, tI es]), some (iD n), some (iD (prd (cs.take (i + 1)))), some (iD cs[i]), none], mm, by simp [srcT, hi], rfl, ?_, rfl, _, rfl⟩
    refine (aug_ok (x := iD (prd (cs.take i))) (y := .int ((cs[i] : Int) + 1)) (z := .int ((prd (cs.take i) : Int) * ((cs[i] : Int) + 1))) (m1 := mm) (m2 := mm) rfl (by simp) (by simp [hc])).trans ?_
    rw [ht, prd_snoc]
    simp
  obtain ⟨ρ', m', e, rfl, a, rfl⟩ := forL_inv (src := srcT (cs.map iD)) (n := cs.length) (gt := gN 3) (body := bd) I (by simp [srcT]) step (fun _ _ _ => rfl) cs.length 0 [some (.tup [tI cs, tI es]), some (iD n), some (.int 1), none, none] m (by omega) ⟨rfl, none, rfl⟩
  rw [List.take_length] at e
  have hs : srcK m' (tI cs) = .ok (srcT (cs.map iD)) m' := rfl
  have hn : (srcT (cs.map iD)).n = cs.length := by simp [srcT]
  have seqT : ∀ l : List Nat, F_is_sequence [tI l] m' = .ok (.bl true) m' := fun l => is_sequence_tup _ m'
  have hit : ∀ l : List Nat, itemsD m' (tI l) = some (l.map iD) := fun l => rfl
  simp [g_check_part, is_sequence_tup, are_counts_ok h1 h4, hs, hn]
  rw [show (sAug 2 (fOp gAdd (fVar 3) (fC (.int 1))) gMulI) = bd from rfl, e]
  simp [seqT, hit, hl]
  rw [fLc_all (xs := es.map iD) (src := srcT (es.map iD)) (fun _ => .bl true) (by simp [tI]) (isT _ _) (fun x hx => ?_) (by simp [LIM_eq]; omega)]
  · simp [allL_ok, hit, LIM_eq]
    simp [tI]
  · obtain ⟨k, hk, rfl⟩ := List.mem_map.mp hx
    refine ⟨_, rfl, ?_⟩
    simp [wipeD, is_below_nat (he k hk)])
theorem need_hand_ok {cs : List Nat} {x : D} {j : Nat} (h : j < cs.length) (m : M) : F_need_hand [.tup [tI cs, x], iD j] m = .ok (iD j) m := runF_rt rfl (by
  have hit : ∀ l : List Nat, itemsD m (tI l) = some (l.map iD) := fun l => rfl
  simp [g_need_hand, hit, is_below_nat h])
def atJ (j : Nat) (k : Int → Int) : D → D := fun x => match x with
  | .tup [.int i, .int n] => .int (if i = j then k n else n)
  | _ => .non
theorem enum_map (cs : List Nat) (j : Nat) (k : Int → Int) (k' : Nat → Nat) (hk : ∀ n : Nat, cs[j]? = some n → k n = ((k' n : Nat) : Int)) :
    (((cs.map iD).zipIdx.map fun p => D.tup [.int (p.2 : Nat), p.1])).map (atJ j k) = (cs.set j (k' (cs.getD j 0))).map iD := by
  refine List.ext_getElem? fun i => ?_
  simp only [List.getElem?_map, List.getElem?_zipIdx, List.getElem?_set]
  cases h : cs[i]? with
  | none =>
    have hi : ¬ i < cs.length := fun q => by rw [List.getElem?_eq_getElem q] at h; cases h
    by_cases e : j = i
    · subst e
      simp [hi]
    · simp [e]
  | some n =>
    have hi := (List.getElem?_eq_some_iff.mp h).1
    by_cases e : j = i
    · subst e
      have hk' := hk n h
      have hn2 : cs[j]'hi = n := by
        rw [List.getElem?_eq_getElem hi] at h
        exact Option.some.inj h
      simp [atJ, hi, hk']
      rw [hn2]
    · have e' : ¬ ((i : Int) = (j : Int)) := by omega
      simp [atJ, e, e', iD]
theorem bump_len (cs : List Nat) (j : Nat) : (bmp cs j).length = cs.length := by simp [bmp]
theorem counts_more {cs : List Nat} {j : Nat} (hl : cs.length ≤ 4) (a b c d e f g h i : Option D) (x : D) (m : M) :
    fLc (fEnum (fOp gIx (fVar 1) (fC (.int 0)))) (gT 2 (gCons' (gN 9) (gCons' (gN 10) gNil'))) [9, 10] fYes (fIf (fTest (fOp gEq (fVar 9) (fVar 2))) (fOp gAdd (fVar 10) (fC (.int 1))) (fVar 10)) [a, some (.tup [tI cs, x]), some (iD j), b, c, d, e, f, g, h, i] m = .ok ((bmp cs j).map iD) m := by
  have hE : enumK m (tI cs) = .ok (srcTE (cs.map iD)) m := rfl
  rw [fLc_all (src := srcTE (cs.map iD)) (atJ j (· + 1)) (by simp [hE]) (isTE _ _) (fun x hx => ?_) (by simp [LIM_eq]; omega), enum_map cs j (· + 1) (· + 1) (fun n _ => by omega)]
  · rfl
  · obtain ⟨⟨y, i⟩, hp, rfl⟩ := List.mem_map.mp hx
    have hy : y ∈ cs.map iD := List.fst_mem_of_mem_zipIdx hp
    obtain ⟨n, _, rfl⟩ := List.mem_map.mp hy
    refine ⟨_, by simp; rfl, ?_⟩
    by_cases e : i = j
    · simp [wipeD, atJ, e]
    · have e' : ¬ ((i : Int) = (j : Int)) := by omega
      simp [wipeD, atJ, e']
theorem within_bump {cs v : List Nat} {j : Nat} (h : Within (bmp cs j) v) (hj : j < cs.length) (hlt : v.getD j 0 < cs.getD j 0 + 1) : Within cs v := by
  refine ⟨by rw [h.1, bump_len], fun i n k hn hk => ?_⟩
  by_cases e : j = i
  · subst e
    rw [List.getD_eq_getElem?_getD, List.getD_eq_getElem?_getD, hn, hk] at hlt
    simp at hlt
    omega
  · refine h.2 i n k ?_ hk
    unfold bmp
    rw [List.getElem?_set_ne e]
    exact hn
theorem within_less {cs v : List Nat} {j : Nat} (h : Within (bmp cs j) v) (hj : j < cs.length) : Within cs (v.set j (v.getD j 0 - 1)) := by
  refine ⟨by rw [List.length_set, h.1, bump_len], fun i n k hn hk => ?_⟩
  by_cases e : j = i
  · subst e
    have hv : j < v.length := by rw [h.1, bump_len]; exact hj
    rw [List.getElem?_set_self hv] at hk
    have h2 := h.2 j (n + 1) (v[j]) (by unfold bmp; rw [List.getElem?_set_self hj, List.getD_eq_getElem?_getD, hn]; rfl) (List.getElem?_eq_getElem hv)
    rw [List.getD_eq_getElem?_getD, List.getElem?_eq_getElem hv] at hk
    simp at hk
    omega
  · rw [List.getElem?_set_ne e] at hk
    refine h.2 i n k ?_ hk
    unfold bmp
    rw [List.getElem?_set_ne e]
    exact hn
theorem grown_ok {mc : Mach} {b : Nat} (hm : mc.Ok b) {cs : List Nat} {f : List Nat → Nat} {j dd : Nat} {st : List Nat} (h1 : 1 ≤ cs.length) (h4 : cs.length ≤ 4) (hp : prd (bmp cs j) ≤ 30000) (hf : ∀ v, Within cs v → f v < b) (hj : j < cs.length)
    (hst : mc.maps[dd]? = some st) {m : M} (hw : Wf m) (hb : ∀ n ∈ cs, n ≤ 30000) :
    F_grown [machD mc, .tup [tI cs, tI ((vecs cs).map f)], iD j, iD dd] m = .ok (.tup [tI (bmp cs j), tI ((vecs (bmp cs j)).map (grow cs j st f))]) m := by
  have hbl := bump_len cs j
  have hstl : st.length = b := hm.len st (List.mem_of_getElem? hst)
  have hvl := vecs_len (bmp cs j)
  let cs' := bmp cs j
  let g := grow cs j st f
  let told : D := .tup [tI cs, tI ((vecs cs).map f)]
  let ins : FE := fOp gIx (fOp gIx (fVar 1) (fC (.int 1))) (fCall F_place_of (fCons (fOp gIx (fVar 1) (fC (.int 0))) (fCons (fVar 7) fNil)))
  let bd : FS := (sIf (fTest (fOp gLt (fOp gIx (fVar 7) (fVar 2)) (fOp gIx (fVar 4) (fVar 2))))
 (sDrop (fMeth mAppend (fVar 6) (fCons (fOp gIx (fOp gIx (fVar 1) (fC (.int 1))) (fCall F_place_of (fCons (fOp gIx (fVar 1) (fC (.int 0))) (fCons (fVar 7) fNil)))) fNil)))
 (sSeq (sSet 8 (fOp gAdd (fOp gAdd (fCut (fVar 7) fNoPart (fPart (fVar 2))) (fTup (fCons (fOp gSub (fOp gIx (fVar 7) (fVar 2)) (fC (.int 1))) fNil))) (fCut (fVar 7) (fPart (fOp gAdd (fVar 2) (fC (.int 1)))) fNoPart)))
 (sDrop (fMeth mAppend (fVar 6) (fCons (fOp gIx (fVar 5) (fOp gIx (fOp gIx (fVar 1) (fC (.int 1))) (fCall F_place_of (fCons (fOp gIx (fVar 1) (fC (.int 0))) (fCons (fVar 8) fNil))))) fNil)))))
  let I : Nat → Sl → M → Prop := fun i ρ mm => mm = m ++ [.lst (((vecs cs').take i).map fun v => iD (g v))] ∧ ∃ a c : Option D, ρ = [some (machD mc), some told, some (iD j), some (iD dd), some (tI cs'), some (tI st), some (.ref m.length), a, c, none, none]
  have step : ∀ i ρ mm, i < (vecs cs').length → I i ρ mm → ∃ d ρ' ρ2 m2, (srcT ((vecs cs').map tI)).get mm i = some d ∧ gN 7 d ρ = some ρ' ∧ bd ρ' mm = .nx ρ2 m2 ∧ I (i + 1) ρ2 m2 := by
    rintro i ρ mm hi ⟨rfl, a, c, rfl⟩
    have ht : (vecs cs').take (i + 1) = (vecs cs').take i ++ [(vecs cs')[i]] := by rw [List.take_append_getElem]
    have hwv : Within cs' (vecs cs')[i] := mem_vecs.mp (List.getElem_mem hi)
    generalize hv : (vecs cs')[i] = v at ht hwv
    have hvlen : v.length = cs.length := by rw [hwv.1]; exact hbl
    have hjv : j < v.length := by omega
    have hlim : (((vecs cs').take i).map fun v => iD (g v)).length < LIM := by
      rw [List.length_map, List.length_take, LIM_eq]
      have : (vecs cs').length ≤ 30000 := by rw [vecs_len]; exact hp
      omega
    generalize hmm : m ++ [O.lst (((vecs cs').take i).map fun v => iD (g v))] = mm
    have hmL : mm[m.length]? = some (.lst (((vecs cs').take i).map fun v => iD (g v))) := by rw [← hmm]; exact at_snoc _ _
    have hset : ∀ y : Nat, y = g v → mm.set m.length (.lst ((((vecs cs').take i).map fun v => iD (g v)) ++ [iD y])) = m ++ [.lst (((vecs cs').take (i + 1)).map fun v => iD (g v))] := by
      intro y hy
      rw [← hmm, set_snoc, ht, List.map_append, hy]
      rfl
    have hvj : v[j]? = some (v.getD j 0) := by rw [List.getD_eq_getElem?_getD, List.getElem?_eq_getElem hjv]; rfl
    have hcj : cs'[j]? = some (cs.getD j 0 + 1) := by
      show (bmp cs j)[j]? = _
      unfold bmp
      rw [List.getElem?_set_self hj]
    have ix1 := tI_at hvj mm
    have ix2 := tI_at hcj mm
    have hat : ∀ u, Within cs u → gIx (tI ((vecs cs).map f)) (.int (plc cs u : Int)) mm = .ok (iD (f u)) mm := fun u hu => tI_at (by rw [List.getElem?_map, vecs_at hu]; rfl) mm
    by_cases hlt : v.getD j 0 < cs.getD j 0 + 1
    · have hwu := within_bump hwv hj hlt
      have hlt' : ((v.getD j 0 : Nat) : Int) < ((cs.getD j 0 + 1 : Nat) : Int) := by omega
      refine ⟨tI v, _, [some (machD mc), some told, some (iD j), some (iD dd), some (tI cs'), some (tI st), some (.ref m.length), some (tI v), c, none, none], mm.set m.length (.lst ((((vecs cs').take i).map fun v => iD (g v)) ++ [iD (f v)])), by simp [srcT, hi, hv], rfl, ?_, ?_, _, _, rfl⟩
      · have e1 := meth_ok (g := mAppend) (fo := fVar 6) (fa := fCons (fOp gIx (fOp gIx (fVar 1) (fC (.int 1))) (fCall F_place_of (fCons (fOp gIx (fVar 1) (fC (.int 0))) (fCons (fVar 7) fNil)))) fNil)
          (ρ := [some (machD mc), some told, some (iD j), some (iD dd), some (tI cs'), some (tI st), some (.ref m.length), some (tI v), c, none, none]) (m := mm) (m1 := mm) (m2 := mm) (n := m.length) (as := [iD (f v)]) rfl hmL
          (by simp [told, place_of_ok hwu h1 h4 hb, hat v hwu]) hmL (append_ok hlim)
        have et : (fTest (fOp gLt (fOp gIx (fVar 7) (fVar 2)) (fOp gIx (fVar 4) (fVar 2)))) [some (machD mc), some told, some (iD j), some (iD dd), some (tI cs'), some (tI st), some (.ref m.length), some (tI v), c, none, none] mm = .ok true mm := by
          simp only [e_test, e_op, e_var, List.getElem?_cons_zero, List.getElem?_cons_succ, bind_ok, ix1, ix2, e_lt, decide_eq_true hlt', e_asB]
        show bd [some (machD mc), some told, some (iD j), some (iD dd), some (tI cs'), some (tI st), some (.ref m.length), some (tI v), c, none, none] mm = _
        simp only [bd, s_if, et, out_ok, if_true, s_drop, e1]
      · exact hset (f v) (by show f v = grow cs j st f v; unfold grow; rw [if_pos hlt])
    · have hwu := within_less hwv hj
      have hlt' : ¬ ((v.getD j 0 : Nat) : Int) < ((cs.getD j 0 + 1 : Nat) : Int) := by omega
      have hvj1 : 1 ≤ v.getD j 0 := by omega
      obtain ⟨u, hu⟩ : ∃ u, u = v.set j (v.getD j 0 - 1) := ⟨_, rfl⟩
      rw [← hu] at hwu
      have hfu : f u < b := hf u hwu
      have ix3 := tI_at (l := st) (k := f u) (x := st.getD (f u) 0) (by rw [List.getD_eq_getElem?_getD, List.getElem?_eq_getElem (by omega)]; rfl) mm
      refine ⟨tI v, _, [some (machD mc), some told, some (iD j), some (iD dd), some (tI cs'), some (tI st), some (.ref m.length), some (tI v), some (tI u), none, none], mm.set m.length (.lst ((((vecs cs').take i).map fun v => iD (g v)) ++ [iD (st.getD (f u) 0)])), by simp [srcT, hi, hv], rfl, ?_, ?_, _, _, rfl⟩
      · have et : (fTest (fOp gLt (fOp gIx (fVar 7) (fVar 2)) (fOp gIx (fVar 4) (fVar 2)))) [some (machD mc), some told, some (iD j), some (iD dd), some (tI cs'), some (tI st), some (.ref m.length), some (tI v), c, none, none] mm = .ok false mm := by
          simp only [e_test, e_op, e_var, List.getElem?_cons_zero, List.getElem?_cons_succ, bind_ok, ix1, ix2, e_lt, decide_eq_false hlt', e_asB]
        have eu : tI u = .tup (((v.map iD).take j ++ [iD (v.getD j 0 - 1)]) ++ (v.map iD).drop (j + 1)) := by
          rw [hu]
          show D.tup ((v.set j (v.getD j 0 - 1)).map iD) = _
          rw [set_parts hjv]
          simp
        have e8 : (fOp gAdd (fOp gAdd (fCut (fVar 7) fNoPart (fPart (fVar 2))) (fTup (fCons (fOp gSub (fOp gIx (fVar 7) (fVar 2)) (fC (.int 1))) fNil))) (fCut (fVar 7) (fPart (fOp gAdd (fVar 2) (fC (.int 1)))) fNoPart)) [some (machD mc), some told, some (iD j), some (iD dd), some (tI cs'), some (tI st), some (.ref m.length), some (tI v), c, none, none] mm = .ok (tI u) mm := by
          have c1 := cut_take (xs := v.map iD) (k := j) (by simp; omega)
          have c2 := cut_drop (xs := v.map iD) (k := j + 1) (by simp; omega)
          have gv : ∀ lo hi, gCut lo hi (tI v) mm = .ok (.tup (cutD (v.map iD) lo hi)) mm := fun _ _ => rfl
          have hl1 : 1 ≤ LIM := by rw [LIM_eq]; omega
          have hi1 : ((v.getD j 0 : Nat) : Int) - 1 = ((v.getD j 0 - 1 : Nat) : Int) := by omega
          have hj1 : (j : Int) + 1 = ((j + 1 : Nat) : Int) := by omega
          have la : ((v.map iD).take j).length + [iD (v.getD j 0 - 1)].length ≤ LIM := by rw [LIM_eq]; simp; omega
          have lb : ((v.map iD).take j ++ [iD (v.getD j 0 - 1)]).length + ((v.map iD).drop (j + 1)).length ≤ LIM := by rw [LIM_eq]; simp; omega
          simp only [e_op, e_cut, e_var, List.getElem?_cons_zero, List.getElem?_cons_succ, bind_ok, e_noPart, e_part, gv, c1, e_tup, e_cons, ix1, e_c, e_sub, hi1, e_nil, List.length_cons, List.length_nil, Nat.zero_add, hl1, if_true, e_add, hj1, c2]
          rw [e_addT, if_pos (by simpa using la)]
          simp only [bind_ok, gv, c2]
          rw [e_addT, if_pos (by simpa using lb), eu]
        have e1 := meth_ok (g := mAppend) (fo := fVar 6) (fa := fCons (fOp gIx (fVar 5) (fOp gIx (fOp gIx (fVar 1) (fC (.int 1))) (fCall F_place_of (fCons (fOp gIx (fVar 1) (fC (.int 0))) (fCons (fVar 8) fNil))))) fNil)
          (ρ := [some (machD mc), some told, some (iD j), some (iD dd), some (tI cs'), some (tI st), some (.ref m.length), some (tI v), some (tI u), none, none]) (m := mm) (m1 := mm) (m2 := mm) (n := m.length) (as := [iD (st.getD (f u) 0)]) rfl hmL
          (by simp [told, place_of_ok hwu h1 h4 hb, hat u hwu, ix3]) hmL (append_ok hlim)
        show bd [some (machD mc), some told, some (iD j), some (iD dd), some (tI cs'), some (tI st), some (.ref m.length), some (tI v), c, none, none] mm = _
        simp only [bd, s_if, et, out_ok, Bool.false_eq_true, if_false, s_seq, s_set, e8, seqK_nx, List.set, s_drop, e1]
      · exact hset (st.getD (f u) 0) (by show st.getD (f u) 0 = grow cs j st f v; unfold grow; rw [if_neg hlt, hu])
  obtain ⟨ρ', m', e, rfl, a, c, rfl⟩ := forL_inv (src := srcT ((vecs cs').map tI)) (n := (vecs cs').length) (gt := gN 7) (body := bd) I (by simp [srcT]) step (fun _ _ _ => rfl) (vecs cs').length 0 [some (machD mc), some told, some (iD j), some (iD dd), some (tI cs'), some (tI st), some (.ref m.length), none, none, none, none] (m ++ [.lst []]) (by omega) ⟨by simp, none, none, rfl⟩
  rw [List.take_length] at e
  have hst2 : gIx (mapsD mc) (.int (dd : Int)) m = .ok (tI st) m := tup_at (by rw [List.getElem?_map, hst]; rfl) m
  have hw2 : Wf (m ++ [O.lst []]) := hw.app rfl
  have hvec := vectors_ok (cs := cs') (by rw [hbl]; exact h1) (by rw [hbl]; exact h4) hp hw2
  have hn : (srcT ((vecs cs').map tI)).n = (vecs cs').length := by simp [srcT]
  have hmc : gIx (machD mc) (.int 1) m = .ok (mapsD mc) m := rfl
  refine runF_rtJ (j := [O.lst ((vecs cs').map fun v => iD (g v))]) rfl ?_ rfl hw ?_
  · have hcm := counts_more (cs := cs) (j := j) h4 (some (machD mc)) (some (iD dd)) none none none none none none none (tI ((vecs cs).map f)) m
    have hT : D.tup ((bmp cs j).map iD) = tI cs' := rfl
    have hl0 : 0 ≤ LIM := Nat.zero_le _
    have hl2 : 2 ≤ LIM := by rw [LIM_eq]; omega
    simp [g_grown, hcm, hmc, hst2, hT, hvec, hn]
    rw [show (sIf (fTest (fOp gLt (fOp gIx (fVar 7) (fVar 2)) (fOp gIx (fVar 4) (fVar 2))))
 (sDrop (fMeth mAppend (fVar 6) (fCons (fOp gIx (fOp gIx (fVar 1) (fC (.int 1))) (fCall F_place_of (fCons (fOp gIx (fVar 1) (fC (.int 0))) (fCons (fVar 7) fNil)))) fNil)))
 (sSeq (sSet 8 (fOp gAdd (fOp gAdd (fCut (fVar 7) fNoPart (fPart (fVar 2))) (fTup (fCons (fOp gSub (fOp gIx (fVar 7) (fVar 2)) (fC (.int 1))) fNil))) (fCut (fVar 7) (fPart (fOp gAdd (fVar 2) (fC (.int 1)))) fNoPart)))
 (sDrop (fMeth mAppend (fVar 6) (fCons (fOp gIx (fVar 5) (fOp gIx (fOp gIx (fVar 1) (fC (.int 1))) (fCall F_place_of (fCons (fOp gIx (fVar 1) (fC (.int 0))) (fCons (fVar 8) fNil))))) fNil))))) = bd from rfl]
    rw [show D.tup [tI cs, tI ((vecs cs).map f)] = told from rfl, e]
    simp [hl2]
    simp [tI, g, cs']
  · simp only [D.blw, D.blws, tI_blw, Bool.and_self]
end K93

namespace K93
open PySem PyProof.Rows L2 Dl
/-- the row of numbers back -/
def unI : D → List Nat
  | .tup ds => ds.map fun d => match d with
    | .int i => i.toNat
    | _ => 0
  | _ => []
theorem unI_tI (u : List Nat) : unI (tI u) = u := by
  show (u.map iD).map _ = u
  rw [List.map_map]
  conv => rhs; rw [← List.map_id u]
  exact List.map_congr_left fun x _ => by simp [iD]
/-- the table of a history -/
def tab (mc : Mach) (hs : Nat) (h : Hist) : D := .tup [tI (cnt hs h), tI ((vecs (cnt hs h)).map (brd mc.maps mc.start h))]
structure Set' (mc : Mach) (b hs : Nat) : Prop where
  m : mc.Ok b
  h1 : 1 ≤ hs
  h4 : hs ≤ 4
section
variable {mc : Mach} {b hs : Nat} (S : Set' mc b hs)
include S
theorem brd_ok {h : Hist} (ok : HOk hs mc.maps.length h) (v : List Nat) : brd mc.maps mc.start h v < b := brd_lt S.m.len S.m.ent h _ ok.deed S.m.st
theorem prd_cnt {h : Hist} (hl : h.length ≤ 12) : prd (cnt hs h) ≤ 30000 := prd_le (by rw [cnt_len]; exact S.h4) (cnt_le hl)
theorem grown_tab {h : Hist} {j d : Nat} (ok : HOk hs mc.maps.length h) (hl : h.length + 1 ≤ 12) (hj : j < hs) (hd : d < mc.maps.length) {m : M} (hw : Wf m) : F_grown [machD mc, tab mc hs h, iD j, iD d] m = .ok (tab mc hs (h ++ [(j, d)])) m := by
  have hst : mc.maps[d]? = some mc.maps[d] := List.getElem?_eq_getElem hd
  have hc : cnt hs (h ++ [(j, d)]) = bmp (cnt hs h) j := cnt_snoc h d hj
  have := grown_ok (f := brd mc.maps mc.start h) S.m (cs := cnt hs h) (j := j) (by rw [cnt_len]; exact S.h1) (by rw [cnt_len]; exact S.h4) (by rw [← hc]; exact prd_cnt S (by simpa using hl)) (fun v _ => brd_ok S ok v) (by rw [cnt_len]; exact hj) hst hw
    (fun n hn => Nat.le_trans (cnt_le (k := 12) (by omega) n hn) (by decide))
  unfold tab
  rw [this, hc]
  congr 4
  refine congrArg tI (List.map_congr_left fun v hv => ?_)
  exact grow_brd hj hst (mem_vecs.mp hv)
theorem part_of_ok {h : Hist} {v : List Nat} (ok : HOk hs mc.maps.length h) (hl : h.length ≤ 12) (hv : Within (cnt hs h) v) {m : M} (hw : Wf m) : F_part_of [tab mc hs h, tI v] m = .ok (.tup [tI v, tI ((vecs v).map (brd mc.maps mc.start h))]) m := runF_rt rfl (by
  have c1 : 1 ≤ (cnt hs h).length := by rw [cnt_len]; exact S.h1
  have c4 : (cnt hs h).length ≤ 4 := by rw [cnt_len]; exact S.h4
  have hb : ∀ n ∈ cnt hs h, n ≤ 30000 := fun n hn => Nat.le_trans (cnt_le hl n hn) (by decide)
  have e1 : F_check_part [tab mc hs h, .int 8] m = .ok (tab mc hs h) m := check_part_ok (n := 8) c1 c4 (prd_cnt S hl) (by rw [List.length_map, vecs_len]) (fun e he => by
    obtain ⟨v, _, rfl⟩ := List.mem_map.mp he
    exact Nat.lt_of_lt_of_le (brd_ok S ok v) S.m.b8) m
  have e2 := place_of_ok hv c1 c4 hb m
  have hvl : v.length = hs := by rw [hv.1, cnt_len]
  have hv12 : ∀ n ∈ v, n ≤ 12 := by
    intro n hn
    obtain ⟨i, hi⟩ := List.getElem?_of_mem hn
    have hil : i < (cnt hs h).length := by
      have := (List.getElem?_eq_some_iff.mp hi).1
      have := hv.1
      omega
    exact Nat.le_trans (hv.2 i _ n (List.getElem?_eq_getElem hil) hi) (cnt_le hl _ (List.getElem_mem hil))
  have hpv := prd_le (by rw [hvl]; exact S.h4) hv12
  have e3 := vectors_ok (cs := v) (by rw [hvl]; exact S.h1) (by rw [hvl]; exact S.h4) hpv hw
  have e4 : gIx (tab mc hs h) (.int 0) m = .ok (tI (cnt hs h)) m := rfl
  have e5 : gIx (tab mc hs h) (.int 1) m = .ok (tI ((vecs (cnt hs h)).map (brd mc.maps mc.start h))) m := rfl
  have e6 : itemsD m (tI v) = some (v.map iD) := rfl
  simp [g_part_of, e1, e4, e2, e6]
  rw [fLc_all (xs := (vecs v).map tI) (src := srcT ((vecs v).map tI)) (fun x => iD (brd mc.maps mc.start h (unI x))) (by simp [e3]) (isT _ _) (fun x hx => ?_) (by rw [List.length_map, vecs_len, LIM_eq]; omega)]
  · have hl2 : 2 ≤ LIM := by rw [LIM_eq]; omega
    simp [hl2]
    refine ⟨rfl, ?_⟩
    simp only [tI, D.tup.injEq, List.map_map]
    refine List.map_congr_left fun u _ => ?_
    show iD (brd mc.maps mc.start h (unI (tI u))) = _
    rw [unI_tI]
    rfl
  · obtain ⟨u, hu, rfl⟩ := List.mem_map.mp hx
    have hwu := mem_vecs.mp hu
    have hwc : Within (cnt hs h) u := ⟨by rw [hwu.1, hv.1], fun i n k hn hk => by
      have hiv : i < v.length := by
        have := (List.getElem?_eq_some_iff.mp hk).1
        rw [hwu.1] at this
        exact this
      exact Nat.le_trans (hwu.2 i v[i] k (List.getElem?_eq_getElem hiv) hk) (hv.2 i n v[i] hn (List.getElem?_eq_getElem hiv))⟩
    have e7 := place_of_ok hwc c1 c4 hb m
    have e8 : gIx (tI ((vecs (cnt hs h)).map (brd mc.maps mc.start h))) (.int (plc (cnt hs h) u : Int)) m = .ok (iD (brd mc.maps mc.start h u)) m := tI_at (by rw [List.getElem?_map, vecs_at hwc]; rfl) m
    refine ⟨_, rfl, ?_⟩
    simp [wipeD, e4, e5, e7, e8, unI_tI])
omit S in
theorem counts_less {cs : List Nat} {j : Nat} (hl : cs.length ≤ 4) (hj : 1 ≤ cs.getD j 0) (a : Option D) (x : D) (m : M) :
    fLc (fEnum (fOp gIx (fVar 2) (fC (.int 0)))) (gT 2 (gCons' (gN 3) (gCons' (gN 4) gNil'))) [3, 4] fYes (fIf (fTest (fOp gEq (fVar 3) (fVar 1))) (fOp Dl.gSub (fVar 4) (fC (.int 1))) (fVar 4)) [a, some (iD j), some (.tup [tI cs, x]), none, none] m = .ok ((drp cs j).map iD) m := by
  have hE : enumK m (tI cs) = .ok (srcTE (cs.map iD)) m := rfl
  rw [fLc_all (src := srcTE (cs.map iD)) (atJ j (· - 1)) (by simp [hE]) (isTE _ _) (fun x hx => ?_) (by simp [LIM_eq]; omega), enum_map cs j (· - 1) (· - 1) (fun n hn => ?_)]
  · rfl
  · rw [getD_some hn] at hj
    omega
  · obtain ⟨⟨y, i⟩, hp, rfl⟩ := List.mem_map.mp hx
    have hy : y ∈ cs.map iD := List.fst_mem_of_mem_zipIdx hp
    obtain ⟨n, _, rfl⟩ := List.mem_map.mp hy
    refine ⟨_, by simp; rfl, ?_⟩
    by_cases e : i = j
    · simp [wipeD, atJ, e]
    · have e' : ¬ ((i : Int) = (j : Int)) := by omega
      simp [wipeD, atJ, e']
omit S in
/-- the last deed of a hand stands somewhere -/
theorem last_of {h : Hist} {j : Nat} (hj : 1 ≤ num1 h j) : ∃ a d b', h = a ++ (j, d) :: b' ∧ num1 b' j = 0 := by
  induction h with
  | nil => rw [num1_nil] at hj; omega
  | cons p t ih =>
    by_cases ht : 1 ≤ num1 t j
    · obtain ⟨a, d, b', e, h0⟩ := ih ht
      exact ⟨p :: a, d, b', by rw [e]; rfl, h0⟩
    · rw [num1_cons] at hj
      have hp : p.1 = j := by
        refine Decidable.byContradiction fun q => ?_
        rw [if_neg q] at hj
        omega
      exact ⟨[], p.2, t, by rw [← hp]; rfl, by omega⟩
/-! ### table_of, alike -/
theorem first_tab (m : M) : F_first_table [machD mc, iD hs] m = .ok (tab mc hs []) m := by
  have e := first_table_ok S.m S.h1 S.h4 m
  rw [e]
  have e1 : Dl.cnt hs [] = List.replicate hs 0 := by
    refine List.ext_getElem? fun i => ?_
    by_cases hi : i < hs
    · rw [cnt_at _ hi, List.getElem?_replicate, if_pos hi]; rfl
    · rw [List.getElem?_eq_none (by rw [cnt_len]; omega), List.getElem?_replicate, if_neg hi]
  have e2 : ∀ n, vecs (List.replicate n 0) = [List.replicate n 0] := by
    intro n
    induction n with
    | zero => rfl
    | succ n ih =>
      rw [List.replicate_succ', vecs_snoc, ih]
      rfl
  unfold tab
  rw [e1, e2]
  rfl
theorem table_of_ok {h : Hist} {d : D} {m : M} (hd : IsHist m d h) (ok : HOk hs mc.maps.length h) (hl : h.length ≤ 12) (hw : Wf m) : F_table_of [machD mc, iD hs, d] m = .ok (tab mc hs h) m := runF_rt rfl (by
  have e1 := check_machine_ok S.m m
  have e2 := first_tab S m
  have e3 := check_history_ok S.m S.h1 S.h4 hd ok (by rw [LIM_eq]; omega)
  let bd : FS := sSet 4 (fCall F_grown (fCons (fVar 3) (fCons (fVar 4) (fCons (fVar 5) (fCons (fVar 6) fNil)))))
  let I : Nat → Sl → M → Prop := fun i ρ mm => mm = m ∧ ∃ a c : Option D, ρ = [some (machD mc), some (iD hs), some d, some (machD mc), some (tab mc hs (h.take i)), a, c]
  have step : ∀ i ρ mm, i < h.length → I i ρ mm → ∃ x ρ' ρ2 m2, (srcT (h.map letD)).get mm i = some x ∧ gT 2 (gCons' (gN 5) (gCons' (gN 6) gNil')) x ρ = some ρ' ∧ bd ρ' mm = .nx ρ2 m2 ∧ I (i + 1) ρ2 m2 := by
    rintro i ρ mm hi ⟨rfl, a, c, rfl⟩
    have ht : h.take (i + 1) = h.take i ++ [h[i]] := by rw [List.take_append_getElem]
    have hm := List.getElem_mem hi
    have hx : (srcT (h.map letD)).get mm i = some (letD h[i]) := by simp [srcT, hi]
    generalize h[i] = p at ht hm hx
    obtain ⟨j, dd⟩ := p
    have okt : HOk hs mc.maps.length (h.take i) := ⟨fun p hp => ok.hand p (List.mem_of_mem_take hp), fun p hp => ok.deed p (List.mem_of_mem_take hp)⟩
    have e4 := grown_tab S okt (j := j) (d := dd) (by rw [List.length_take]; omega) (ok.hand _ hm) (ok.deed _ hm) hw
    refine ⟨letD (j, dd), [some (machD mc), some (iD hs), some d, some (machD mc), some (tab mc hs (h.take i)), some (iD j), some (iD dd)], [some (machD mc), some (iD hs), some d, some (machD mc), some (tab mc hs (h.take (i + 1))), some (iD j), some (iD dd)], mm, hx, by simp [letD], ?_, rfl, _, _, rfl⟩
    rw [ht]
    simp [bd, e4]
  obtain ⟨ρ', m', e, rfl, a, c, rfl⟩ := forL_inv (src := srcT (h.map letD)) (n := h.length) (gt := gT 2 (gCons' (gN 5) (gCons' (gN 6) gNil'))) (body := bd) I (by simp [srcT]) step (fun _ _ _ => rfl) h.length 0 [some (machD mc), some (iD hs), some d, some (machD mc), some (tab mc hs []), none, none] m (by omega) ⟨rfl, none, none, rfl⟩
  rw [List.take_length] at e
  have hs' : srcK m' (histD h) = .ok (srcT (h.map letD)) m' := rfl
  have hn : (srcT (h.map letD)).n = h.length := by simp [srcT]
  simp [g_table_of, e1, e2, e3, hs', hn]
  rw [show (sSet 4 (fCall F_grown (fCons (fVar 3) (fCons (fVar 4) (fCons (fVar 5) (fCons (fVar 6) fNil)))))) = bd from rfl, e]
  simp)
end
theorem tab_num (mc : Mach) (hs : Nat) (h : Hist) : (tab mc hs h).num = true := by simp only [tab, D.num, D.nums, tI_num, Bool.and_self]
theorem tI_dep (l : List Nat) : (tI l).dep ≤ 1 := by
  simp only [tI, D.dep]
  have := deps_le (ds := l.map iD) (k := 0) (fun d hd => by obtain ⟨_, _, rfl⟩ := List.mem_map.mp hd; exact Nat.le_refl _)
  omega
theorem tab_dep (mc : Mach) (hs : Nat) (h : Hist) : (tab mc hs h).dep ≤ 64 := by
  have h1 := tI_dep (cnt hs h)
  have h2 := tI_dep ((vecs (cnt hs h)).map (brd mc.maps mc.start h))
  simp only [tab, D.dep, D.deps]
  omega
end K93

namespace K93
open PySem PyProof.Rows L2 Dl
theorem fLc_inv {fi : FI} {gt : GT} {vs : List Nat} {t : FT} {e : FE} {ρ : Sl} {m : M} {src : Src} {n : Nat} (I : Nat → List D → M → Prop) (h1 : fi ρ m = .ok src m) (hn : src.n = n)
    (hs : ∀ i acc m, i < n → I i acc m → ∃ d ρ', src.get m i = some d ∧ gt d (wipeD ρ vs) = some ρ' ∧ ((∃ m1, t ρ' m = .ok false m1 ∧ I (i + 1) acc m1) ∨ ∃ m1 y m2, t ρ' m = .ok true m1 ∧ e ρ' m1 = .ok y m2 ∧ acc.length < LIM ∧ I (i + 1) (acc ++ [y]) m2))
    (hf : ∀ acc m, I n acc m → src.fin m = true) (h0 : I 0 [] m) : ∃ acc' m', fLc fi gt vs t e ρ m = .ok acc' m' ∧ I n acc' m' := by
  unfold fLc
  rw [h1]
  simp only [bind_ok]
  subst hn
  exact lcL_inv I rfl hs hf src.n 0 [] m (by omega) h0
theorem seq_assoc (A B C : FS) (ρ : Sl) (m : M) : sSeq A (sSeq B C) ρ m = seqK (sSeq A B ρ m) C := by
  rw [s_seq, s_seq]
  cases A ρ m with
  | nx ρ' m' => rw [seqK_nx, seqK_nx, s_seq]
  | rt d m' => rfl
  | bk ρ' m' => rfl
  | ct ρ' m' => rfl
  | exc ρ' e m' => rfl
  | bad => rfl
theorem gc_new {m : M} {o : O} (hb : o.blw m.length = true) : gc m.length (.ref m.length) (m ++ [o]) = (.ref m.length, m ++ [o]) := by
  unfold gc
  split
  · rw [if_neg (by simp [D.blw])]
    simp only [at_snoc, hb, if_true]
    rw [List.take_append_of_le_length (Nat.le_refl _), List.take_length]
  · rfl
theorem runF_new {N np : Nat} {g : FS} {ds : List D} {m : M} {o : O} (hl : ds.length = np) (h : g (startD N ds) m = .rt (.ref m.length) (m ++ [o])) (hb : o.blw m.length = true) : runF N np g ds m = .ok (.ref m.length) (m ++ [o]) := by
  unfold runF
  rw [if_pos hl, h]
  show Res.ok (gc m.length (.ref m.length) (m ++ [o])).1 (gc m.length (.ref m.length) (m ++ [o])).2 = _
  rw [gc_new hb]
def bx (g z : Int) : O := .lst [.int g, .int z]
theorem bx_blw (g z : Int) (L : Nat) : (bx g z).blw L = true := rfl
theorem cPow_lit : cPow 10 18 = true := by
  unfold cPow
  rw [BIG_eq, BIG_eq]
  decide
theorem mulR {i j : Int} (h : -(2 ^ 64) < j ∧ j < 2 ^ 64) : cMul i j = true := cMul_iff.mpr (.inr h)
theorem mulL {i j : Int} (h : -(2 ^ 64) < i ∧ i < 2 ^ 64) : cMul i j = true := cMul_iff.mpr (.inl h)
theorem e_pow (i j : Int) (m : M) : gPow (.int i) (.int j) m = if cPow i j then .ok (.int (i ^ j.toNat)) m else .bad := rfl
theorem box_ok (ns : List Int) (hl : ns.length ≤ 63) (k : Nat) (hk : k ≤ 10) (m : M) : ∃ g z, F__law_box [scriptD ns, iD k] m = .ok (.ref m.length) (m ++ [bx g z]) := by
  have hit : itemsD m (scriptD ns) = some (ns.map D.int) := rfl
  have m1 : ∀ x : Int, cMul 9029 x = true := fun x => mulL (by decide)
  have m2 : ∀ x : Int, cMul x 51427 = true := fun x => mulR (by decide)
  have m3 : ∀ x : Int, cMul x 40014 = true := fun x => mulR (by decide)
  have m4 : ∀ x : Int, cMul 2237 x = true := fun x => mulL (by decide)
  have c1 : cMod (0 : Int) 2147483563 = true := by decide
  have cm : ∀ x : Int, cMod x 2147483563 = true := fun x => decide_eq_true (by decide)
  have h1 : ∃ c : Int, (sSeq (sSet 2 (fOp gAdd (fOp gMul (fC (.int 9029)) (fVar 1)) (fC (.int 2237))))
 (sIf (fTest (fOp gLt (fVar 1) (fCB gLen (fCons (fVar 0) fNil))))
 (sSet 2 (fCB gAbs (fCons (fCB gInt (fCons (fOp gIx (fVar 0) (fVar 1)) fNil)) fNil)))
 (sIf (fTest (fOp gGt (fCB gLen (fCons (fVar 0) fNil)) (fC (.int 0))))
 (sSet 2 (fOp gAdd (fVar 2) (fOp gMul (fOp gMod (fCB gInt (fCons (fCB gAbs (fCons (fCB gInt (fCons (fOp gIx (fVar 0) (fOp gMod (fCB gInt (fCons (fVar 1) fNil)) (fCB gLen (fCons (fVar 0) fNil)))) fNil)) fNil)) fNil)) (fC (.int 2147483563))) (fC (.int 51427)))))
 sNext))) [some (scriptD ns), some (iD k), none, none] m = .nx [some (scriptD ns), some (iD k), some (.int c), none] m := by
    by_cases hkl : k < ns.length
    · have hx : gIx (scriptD ns) (.int (k : Int)) m = .ok (.int ns[k]) m := by
        show getK (atI (ns.map D.int) (k : Int)) m = _
        rw [at_nat (x := .int ns[k]) (by simp [hkl])]
        rfl
      exact ⟨_, by simp [m1, hit, hkl, hx]; rfl⟩
    · by_cases h0 : 0 < ns.length
      · have hr : (k % ns.length) < ns.length := Nat.mod_lt _ h0
        have hc : cMod (k : Int) (ns.length : Int) = true := decide_eq_true (by omega)
        have he : (k : Int) % (ns.length : Int) = ((k % ns.length : Nat) : Int) := by omega
        have hx : gIx (scriptD ns) (.int ((k % ns.length : Nat) : Int)) m = .ok (.int ns[k % ns.length]) m := by
          show getK (atI (ns.map D.int) ((k % ns.length : Nat) : Int)) m = _
          rw [at_nat (x := .int ns[k % ns.length]) (by simp [hr])]
          rfl
        rw [← he] at hx
        exact ⟨_, by simp [m1, hit, hkl, h0, hc, hx, cm, m2]; rfl⟩
      · have h0' : ns.length = 0 := by omega
        exact ⟨_, by simp [m1, hit, h0']; rfl⟩
  obtain ⟨c, hc⟩ := h1
  have h2 : ∃ g : Int, (fIf (fTest (fOp gGe (fVar 2) (fOp gPow (fC (.int 10)) (fC (.int 18))))) (fVar 2) (fC (.int 0))) [some (scriptD ns), some (iD k), some (.int c), none] m = .ok (.int g) m := by
    simp only [e_if, e_test, e_op, e_var, List.getElem?_cons_zero, List.getElem?_cons_succ, bind_ok, e_c, e_pow, cPow_lit, if_true, e_ge, e_asB]
    by_cases q : (10 : Int) ^ (18 : Int).toNat ≤ c
    · exact ⟨c, by rw [decide_eq_true q]; rfl⟩
    · exact ⟨0, by rw [decide_eq_false q]; rfl⟩
  obtain ⟨g, hg⟩ := h2
  have h3 : ∃ z, g__law_box (startD 4 [scriptD ns, iD k]) m = .rt (.ref m.length) (m ++ [bx g z]) := by
    unfold g__law_box
    rw [seq_assoc]
    have hc' := hc
    simp only [startD_eq, List.map_cons, List.map_nil, List.length_cons, List.length_nil, List.cons_append, List.nil_append]
    rw [show List.replicate (4 - (0 + 1 + 1)) (none : Option D) = [none, none] from rfl, hc]
    have l2 : 2 ≤ LIM := by rw [LIM_eq]; omega
    refine ⟨(c % 2147483563 * 40014 + 2237 * k) % 2147483563 + 1, ?_⟩
    simp only [seqK_nx, s_seq, s_set, hg, out_ok, List.set]
    simp [cm, m3, m4, l2, bx]
  obtain ⟨z, hz⟩ := h3
  exact ⟨g, z, runF_new rfl hz (bx_blw g z _)⟩
/-! ### draws -/
theorem take_ok {n k : Nat} {m : M} {g z : Int} (hb : m[n]? = some (bx g z)) (hk : 1 ≤ k) (hk2 : k < 1000000) : ∃ (r : Nat) (g' z' : Int), r < k ∧ F__law_take [.ref n, iD k] m = .ok (iD r) (m.set n (bx g' z')) := by
  have hb' : m[n]? = some (.lst [.int g, .int z]) := hb
  have i0 : ∀ mm : M, ∀ a c : Int, mm[n]? = some (.lst [.int a, .int c]) → gIx (.ref n) (.int 0) mm = .ok (.int a) mm := fun mm a c h => by rw [e_ixL _ h, at0]; rfl
  have i1 : ∀ mm : M, ∀ a c : Int, mm[n]? = some (.lst [.int a, .int c]) → gIx (.ref n) (.int 1) mm = .ok (.int c) mm := fun mm a c h => by rw [e_ixL _ h, at1]; rfl
  have hn : n < m.length := (List.getElem?_eq_some_iff.mp hb).1
  have cm : cMod g (k : Int) = true := decide_eq_true (by omega)
  have cd : cDiv g (k : Int) = true := cDiv_iff.mpr (by omega)
  have set0 : ∀ x : Int, ixN [D.int g, D.int z].length 0 = some 0 := fun _ => rfl
  have emod : ∀ x : Int, ∃ r : Nat, r < k ∧ x % (k : Int) = (r : Int) := fun x => by
    have h1 := Int.emod_nonneg x (b := (k : Int)) (by omega)
    have h2 := Int.emod_lt_of_pos x (b := (k : Int)) (by omega)
    exact ⟨(x % (k : Int)).toNat, by omega, by omega⟩
  by_cases h0 : 0 < g
  · obtain ⟨r, hr, er⟩ := emod g
    refine ⟨r, g / k, z, hr, runF_rtS rfl ?_ (by simp)⟩
    have e1 := sub_ok (f := fOp gFdiv (fOp gIx (fVar 0) (fC (.int 0))) (fVar 1)) (fo := fVar 0) (fi := fC (.int 0)) (ρ := [some (.ref n), some (iD k), some (iD r), none]) (m := m) (m1 := m) (m2 := m) (m3 := m) (d := .int (g / k)) (n := n) (j := 0) (k := 0) (xs := [.int g, .int z])
      (by simp [i0 m g z hb', cd]) rfl rfl hb' rfl
    simp [g__law_take, i0 m g z hb', h0, cm, er, e1]
    rfl
  · have ha : cMul z 39373 = true := mulR (by decide)
    have hm1 : ∀ x : Int, cMod x 2147483647 = true := fun x => decide_eq_true (by decide)
    have hm2 : ∀ x : Int, cMod x 2147483399 = true := fun x => decide_eq_true (by decide)
    have hm3 : ∀ x : Int, cMul x 40692 = true := fun x => mulR (by decide)
    have hm4 : ∀ x : Int, cMul x 2147483629 = true := fun x => mulR (by decide)
    have hd : ∀ x : Int, cDiv x 8209 = true := fun x => cDiv_iff.mpr (by decide)
    have hck : ∀ x : Int, cMod x (k : Int) = true := fun x => decide_eq_true (by omega)
    let raw : Int := (z * 39373 + 179) % 2147483647
    let z' : Int := (raw * 40692 + 151) % 2147483399 + 1
    obtain ⟨r, hr, er⟩ := emod ((raw * 2147483629 + z') / 8209)
    refine ⟨r, g, z', hr, runF_rtS rfl ?_ (by simp)⟩
    have e1 := sub_ok (f := (fOp gAdd (fOp gMod (fCB gInt (fCons (fOp gAdd (fOp gMul (fVar 3) (fC (.int 40692))) (fC (.int 151))) fNil)) (fC (.int 2147483399))) (fC (.int 1)))) (fo := fVar 0) (fi := fC (.int 1)) (ρ := [some (.ref n), some (iD k), none, some (.int raw)]) (m := m) (m1 := m) (m2 := m) (m3 := m) (d := .int z') (n := n) (j := 1) (k := 1) (xs := [.int g, .int z])
      (by simp [hm3, hm2, z']) rfl rfl hb' rfl
    have e2 : gIx (.ref n) (.int 1) (m.set n (bx g z')) = .ok (.int z') (m.set n (bx g z')) := i1 _ g z' (by simp [hn, bx])
    have hraw : (z * 39373 + 179) % 2147483647 = raw := rfl
    have e1' : sSub (fOp gAdd (fOp gMod (fCB gInt (fCons (fOp gAdd (fOp gMul (fVar 3) (fC (.int 40692))) (fC (.int 151))) fNil)) (fC (.int 2147483399))) (fC (.int 1))) (fVar 0) (fC (.int 1)) [some (.ref n), some (iD k), none, some (.int raw)] m = .nx [some (.ref n), some (iD k), none, some (.int raw)] (m.set n (bx g z')) := e1
    simp only [g__law_take, s_seq, s_if, e_test, e_op, e_var, startD_eq, List.map_cons, List.map_nil, List.length_cons, List.length_nil, List.cons_append, List.nil_append]
    simp [i0 m g z hb', h0, i1 m g z hb', ha, hm1, hraw, e1', e2, hm4, hd, hck, er]
end K93

namespace K93
open PySem PyProof.Rows L2 Dl
/-- a box stands at n -/
def Box (n : Nat) (m : M) : Prop := ∃ g z, m[n]? = some (bx g z)
/-- m with another box at n -/
def Up (n : Nat) (m m' : M) : Prop := ∃ g z, m' = m.set n (bx g z)
theorem Up.box {n : Nat} {m m' : M} (h : Box n m) (u : Up n m m') : Box n m' := by
  obtain ⟨g, z, hb⟩ := h
  obtain ⟨g', z', rfl⟩ := u
  exact ⟨g', z', by rw [List.getElem?_set_self (List.getElem?_eq_some_iff.mp hb).1]⟩
theorem Up.trans {n : Nat} {m m' m'' : M} (u : Up n m m') (v : Up n m' m'') : Up n m m'' := by
  obtain ⟨g, z, rfl⟩ := u
  obtain ⟨g', z', rfl⟩ := v
  exact ⟨g', z', by rw [List.set_set]⟩
theorem Up.len {n : Nat} {m m' : M} (u : Up n m m') : m'.length = m.length := by
  obtain ⟨g, z, rfl⟩ := u
  simp
theorem Up.wf {n : Nat} {m m' : M} (u : Up n m m') (h : Wf m) : Wf m' := by
  obtain ⟨g, z, rfl⟩ := u
  exact h.set (bx_blw g z _)
theorem Up.other {n k : Nat} {m m' : M} (u : Up n m m') (h : k ≠ n) : m'[k]? = m[k]? := by
  obtain ⟨g, z, rfl⟩ := u
  rw [List.getElem?_set_ne (Ne.symm h)]
theorem Up.refl {n : Nat} {m : M} (h : Box n m) : Up n m m := by
  obtain ⟨g, z, hb⟩ := h
  obtain ⟨hn, he⟩ := List.getElem?_eq_some_iff.mp hb
  refine ⟨g, z, ?_⟩
  rw [← he]
  simp
theorem Up.app {n : Nat} {m m' : M} {j : M} (u : Up n m m') (hn : n < m.length) : Up n (m ++ j) (m' ++ j) := by
  obtain ⟨g, z, rfl⟩ := u
  exact ⟨g, z, by rw [List.set_append_left _ _ hn]⟩
theorem Box.lt {n : Nat} {m : M} (h : Box n m) : n < m.length := by
  obtain ⟨g, z, hb⟩ := h
  exact (List.getElem?_eq_some_iff.mp hb).1
theorem Box.app {n : Nat} {m : M} (h : Box n m) (j : M) : Box n (m ++ j) := by
  obtain ⟨g, z, hb⟩ := h
  exact ⟨g, z, by rw [List.getElem?_append_left (List.getElem?_eq_some_iff.mp hb).1]; exact hb⟩
theorem take_up {n k : Nat} {m : M} (h : Box n m) (hk : 1 ≤ k) (hk2 : k < 1000000) : ∃ r m', r < k ∧ Up n m m' ∧ F__law_take [.ref n, iD k] m = .ok (iD r) m' := by
  obtain ⟨g, z, hb⟩ := h
  obtain ⟨r, g', z', hr, e⟩ := take_ok hb hk hk2
  exact ⟨r, _, hr, ⟨g', z', rfl⟩, e⟩
theorem gcR_up {n : Nat} {m m' : M} (u : Up n m m') (d : D) : gcR m.length (.ok d m') = .ok d m' := gcR_same' d u.len.symm
theorem pick_tup {n : Nat} {m : M} {xs : List D} (h : Box n m) (h1 : xs ≠ []) (h2 : xs.length < 1000000) : ∃ x m', x ∈ xs ∧ Up n m m' ∧ F__law_pick [.ref n, .tup xs] m = .ok x m' := by
  have h0 : 1 ≤ xs.length := List.length_pos_iff.mpr h1
  obtain ⟨r, m', hr, u, e⟩ := take_up h h0 h2
  have hx : gIx (.tup xs) (.int (r : Int)) m' = .ok xs[r] m' := tup_at (List.getElem?_eq_getElem hr) m'
  refine ⟨xs[r], m', List.getElem_mem hr, u, runF_rtS rfl ?_ u.len.symm⟩
  simp [g__law_pick, e, gcR_up u, hx]
theorem pick_list {n k : Nat} {m : M} {xs : List D} (h : Box n m) (hk : k ≠ n) (hx : m[k]? = some (.lst xs)) (h1 : xs ≠ []) (h2 : xs.length < 1000000) : ∃ x m', x ∈ xs ∧ Up n m m' ∧ F__law_pick [.ref n, .ref k] m = .ok x m' := by
  have h0 : 1 ≤ xs.length := List.length_pos_iff.mpr h1
  obtain ⟨r, m', hr, u, e⟩ := take_up h h0 h2
  have hx' : m'[k]? = some (.lst xs) := by rw [u.other hk]; exact hx
  have hg : gIx (.ref k) (.int (r : Int)) m' = .ok xs[r] m' := by
    rw [e_ixL _ hx', at_nat (List.getElem?_eq_getElem hr)]
    rfl
  refine ⟨xs[r], m', List.getElem_mem hr, u, runF_rtS rfl ?_ u.len.symm⟩
  simp [g__law_pick, hx, e, gcR_up u, hg]
/-- a pick out of a new list -/
theorem pick_new {n : Nat} {ρ : Sl} {m m1 : M} {xs : List D} {fa : FA} (hf : fa ρ m = .ok [.ref n, .ref m1.length] (m1 ++ [.lst xs])) (hm : Up n m m1) (hb : Box n m) (hw : Wf m) (h1 : xs ≠ []) (h2 : xs.length < 1000000) (hx : ∀ x ∈ xs, x.blw m.length = true) :
    ∃ x m', x ∈ xs ∧ Up n m m' ∧ fCall F__law_pick fa ρ m = .ok x m' := by
  have hb1 := hm.box hb
  have hw1 := hm.wf hw
  obtain ⟨x, m2, hxm, u2, e⟩ := pick_list (n := n) (k := m1.length) (m := m1 ++ [.lst xs]) (hb1.app _) (by have := hb1.lt; omega) (at_snoc _ _) h1 h2
  obtain ⟨g, z, rfl⟩ := u2
  rw [List.set_append_left _ _ hb1.lt] at e
  have u1 : Up n m1 (m1.set n (bx g z)) := ⟨g, z, rfl⟩
  refine ⟨x, m1.set n (bx g z), hxm, hm.trans u1, ?_⟩
  simp only [e_call, hf, bind_ok, e]
  refine gcR_junk (by rw [u1.len, hm.len]) (u1.wf hw1) ?_
  rw [u1.len, hm.len]
  exact hx x hxm
end K93

namespace K93
open PySem PyProof.Rows L2 Dl
/-! ### machines drawn -/
def lO (f : List Nat) : O := .lst (f.map iD)
theorem lO_blw (f : List Nat) (L : Nat) : (lO f).blw L = true := by
  unfold lO
  simp only [O.blw]
  induction f with
  | nil => rfl
  | cons x r ih => simp only [List.map_cons, D.blws, iD, D.blw, ih, Bool.and_self]
theorem runF_newU {N np : Nat} {g : FS} {ds : List D} {m m' j : M} {k : Nat} {o : O} (hl : ds.length = np) (h : g (startD N ds) m = .rt (.ref k) (m' ++ j)) (hm : m.length = m'.length) (hw : Wf m') (hk : m'.length ≤ k) (ho : (m' ++ j)[k]? = some o) (hb : o.blw m'.length = true) :
    runF N np g ds m = .ok (.ref m'.length) (m' ++ [o]) := by
  unfold runF
  rw [if_pos hl, h]
  exact gcR_new hm hw hk ho hb
theorem comp_nat {fi : FI} {v : Nat} {e : FE} {ρ : Sl} {m : M} {many : Nat} (F : Nat → Nat) (h1 : fi ρ m = .ok (srcR 0 many) m) (hm : many ≤ 1000)
    (he : ∀ k, k < many → e ((wipeD ρ [v]).set v (some (iD k))) m = .ok (iD (F k)) m) : fLc fi (gN v) [v] fYes e ρ m = .ok (((List.range many).map F).map iD) m := by
  rw [fLc_all (xs := (List.range many).map iD) (src := srcR 0 many) (fun x => match x with
      | .int i => iD (F i.toNat)
      | _ => .non) h1 (isR _ _) (fun x hx => ?_) (by simp [LIM_eq]; omega)]
  · congr 1
    rw [List.map_map, List.map_map]
    refine List.map_congr_left fun x _ => ?_
    simp [iD]
  · obtain ⟨i, hi, rfl⟩ := List.mem_map.mp hx
    exact ⟨_, rfl, by rw [he i (List.mem_range.mp hi)]; simp [iD]⟩
theorem gAddL {i j : Nat} {xs ys : List D} {m : M} (h1 : m[i]? = some (.lst xs)) (h2 : m[j]? = some (.lst ys)) (hl : xs.length + ys.length ≤ LIM) : gAdd (.ref i) (.ref j) m = .ok (.ref m.length) (m ++ [.lst (xs ++ ys)]) := by
  show (match m[i]?, m[j]? with
    | some (.lst xs), some (.lst ys) => if xs.length + ys.length ≤ LIM then Res.ok (D.ref m.length) (m ++ [O.lst (xs ++ ys)]) else .bad
    | _, _ => .bad) = _
  rw [h1, h2]
  exact if_pos hl
theorem rgD_nat (n : Nat) : rgD 0 (n : Int) = (List.range n).map iD := by
  unfold rgD
  simp [iD]
theorem rgOk_nat {n : Nat} (h : n ≤ 1000) : rgOk 0 (n : Int) = true := decide_eq_true (by rw [LIM_eq]; omega)
theorem rings_ok {many one other : Nat} {m : M} (hw : Wf m) (h1 : 1 ≤ many) (h8 : many ≤ 8) : ∃ f : List Nat, f.length = many ∧ (∀ x ∈ f, x < many) ∧ F__law_rings [iD many, iD one, iD other] m = .ok (.ref m.length) (m ++ [lO f]) := by
  obtain ⟨c, hc⟩ : ∃ c, c = many / 2 := ⟨_, rfl⟩
  have e2 : (many : Int) / 2 = (c : Int) := by omega
  have d2 : cDiv (many : Int) 2 = true := cDiv_iff.mpr (by omega)
  by_cases h0 : c = 0
  · refine ⟨List.range many, by simp, fun x hx => List.mem_range.mp hx, ?_⟩
    refine runF_newU (k := m.length) (j := [lO (List.range many)]) rfl ?_ rfl hw (Nat.le_refl _) (by simp) (lO_blw _ _)
    simp [g__law_rings, d2, e2, h0, fLstA, fRgA1, rgOk_nat (show many ≤ 1000 by omega), rgD_nat, lO]
  · have hd : (many : Int) - (c : Int) = ((many - c : Nat) : Int) := by omega
    have A : ∀ (x : Option D) (y : Option D) (mm : M), fLc (fRng1 (fVar 3)) (gN 4) [4] fYes (fOp gMod (fCB gInt (fCons (fOp gAdd (fVar 4) (fVar 1)) fNil)) (fVar 3)) [some (iD many), some (iD one), x, some (iD c), y] mm = .ok (((List.range c).map fun k => (k + one) % c).map iD) mm := fun x y mm =>
      comp_nat _ (by simp [rngK_n (k := c) (by rw [LIM_eq]; omega)]) (by omega) fun k hk => by
        have hm : cMod ((k : Int) + one) (c : Int) = true := decide_eq_true (by omega)
        simp [wipeD, hm, iD]
    have B : ∀ (x : Option D) (y : Option D) (mm : M), fLc (fRng1 (fOp gSub (fVar 0) (fVar 3))) (gN 4) [4] fYes (fOp gAdd (fVar 3) (fOp gMod (fCB gInt (fCons (fOp gAdd (fVar 4) (fVar 2)) fNil)) (fOp gSub (fVar 0) (fVar 3)))) [some (iD many), x, some (iD other), some (iD c), y] mm = .ok (((List.range (many - c)).map fun k => c + (k + other) % (many - c)).map iD) mm := fun x y mm =>
      comp_nat _ (by simp [hd, rngK_n (k := many - c) (by rw [LIM_eq]; omega)]) (by omega) fun k hk => by
        have hm : cMod ((k : Int) + other) ((many - c : Nat) : Int) = true := decide_eq_true (by omega)
        simp [wipeD, hd, hm, iD]
    refine ⟨((List.range c).map fun k => (k + one) % c) ++ ((List.range (many - c)).map fun k => c + (k + other) % (many - c)), by simp; omega, fun x hx => ?_, ?_⟩
    · rcases List.mem_append.mp hx with hx | hx
      · obtain ⟨k, _, rfl⟩ := List.mem_map.mp hx
        have := Nat.mod_lt (k + one) (show 0 < c by omega)
        omega
      · obtain ⟨k, _, rfl⟩ := List.mem_map.mp hx
        have := Nat.mod_lt (k + other) (show 0 < many - c by omega)
        omega
    · have hcz : ¬ ((c : Int) = 0) := by omega
      have ga := gAddL (i := m.length) (j := m.length + 1) (xs := ((List.range c).map fun k => (k + one) % c).map iD) (ys := ((List.range (many - c)).map fun k => c + (k + other) % (many - c)).map iD)
        (m := m ++ [.lst (((List.range c).map fun k => (k + one) % c).map iD), .lst (((List.range (many - c)).map fun k => c + (k + other) % (many - c)).map iD)]) (by simp) (by simp) (by simp [LIM_eq]; omega)
      refine runF_newU (k := m.length + 2) (j := [lO ((List.range c).map fun k => (k + one) % c), lO ((List.range (many - c)).map fun k => c + (k + other) % (many - c)), lO (((List.range c).map fun k => (k + one) % c) ++ ((List.range (many - c)).map fun k => c + (k + other) % (many - c)))]) rfl ?_ rfl hw (by omega) (by simp) (lO_blw _ _)
      have st : startD 5 [iD many, iD one, iD other] = [some (iD many), some (iD one), some (iD other), none, none] := rfl
      unfold g__law_rings
      rw [st, s_seq]
      have s1 : sSet 3 (fOp gFdiv (fVar 0) (fC (.int 2))) [some (iD many), some (iD one), some (iD other), none, none] m = .nx [some (iD many), some (iD one), some (iD other), some (iD c), none] m := by
        simp [d2, e2, iD]
      rw [s1]
      simp only [seqK_nx, s_seq]
      have s2 : sIf (fTest (fOp gEq (fVar 3) (fC (.int 0)))) (sRet (fLstA (fRgA1 (fVar 0)))) sNext [some (iD many), some (iD one), some (iD other), some (iD c), none] m = .nx [some (iD many), some (iD one), some (iD other), some (iD c), none] m := by
        simp [hcz, h0]
      rw [s2]
      simp only [seqK_nx, s_ret, e_op, e_name, A, B, bind_ok]
      have l1 : (m ++ [O.lst (((List.range c).map fun k => (k + one) % c).map iD)]).length = m.length + 1 := by simp
      rw [l1, List.append_assoc, List.singleton_append, ga]
      simp [lO]
/-- drawn board by board -/
theorem map_drawn {n many by' ot : Nat} {a : Option D} {m : M} (h : Box n m) (hw : Wf m) (h1 : 1 ≤ many) (h8 : many ≤ 8) (hb : by' < many) :
    ∃ (f : List Nat) (m' : M), f.length = many ∧ (∀ x ∈ f, x < many) ∧ Up n m m' ∧ fLc (fRng1 (fVar 1)) (gN 5) [5] fYes (fCall F__law_pick (fCons (fVar 0) (fCons (fName (fLst (fCons (fVar 5) (fCons (fVar 3) (fCons (fCall F__law_take (fCons (fVar 0) (fCons (fVar 1) fNil))) fNil))))) fNil)))
      [some (.ref n), some (iD many), a, some (iD by'), some (iD ot), none] m = .ok (f.map iD) m' := by
  have l4 : 3 ≤ LIM := by rw [LIM_eq]; omega
  obtain ⟨acc, m', e, u, f, rfl, hl, hf⟩ := fLc_inv (fi := fRng1 (fVar 1)) (gt := gN 5) (vs := [5]) (t := fYes) (e := (fCall F__law_pick (fCons (fVar 0) (fCons (fName (fLst (fCons (fVar 5) (fCons (fVar 3) (fCons (fCall F__law_take (fCons (fVar 0) (fCons (fVar 1) fNil))) fNil))))) fNil))))
    (ρ := [some (.ref n), some (iD many), a, some (iD by'), some (iD ot), none]) (m := m) (src := srcR 0 many) (n := many) (fun i acc mm => Up n m mm ∧ ∃ l : List Nat, acc = l.map iD ∧ l.length = i ∧ ∀ x ∈ l, x < many) (by simp [rngK_n (k := many) (by rw [LIM_eq]; omega)]) rfl
    (by
      rintro i acc mm hi ⟨u, l, rfl, hl, hlt⟩
      have hb1 := u.box h
      obtain ⟨t1, ma, ht1, ua, ea⟩ := take_up (k := many) hb1 h1 (by omega)
      let ρ' : Sl := [some (.ref n), some (iD many), a, some (iD by'), some (iD ot), some (iD i)]
      have hfa : (fCons (fVar 0) (fCons (fName (fLst (fCons (fVar 5) (fCons (fVar 3) (fCons (fCall F__law_take (fCons (fVar 0) (fCons (fVar 1) fNil))) fNil))))) fNil)) ρ' mm = .ok [.ref n, .ref ma.length] (ma ++ [.lst [iD i, iD by', iD t1]]) := by
        simp [ρ', ea, gcR_up ua, l4]
      obtain ⟨x, m2, hx, u2, e2⟩ := pick_new hfa ua hb1 (u.wf hw) (by simp) (by simp) (fun x hx => by
        simp at hx
        rcases hx with rfl | rfl | rfl <;> rfl)
      have hxn : ∃ y : Nat, x = iD y ∧ y < many := by
        simp at hx
        rcases hx with rfl | rfl | rfl
        · exact ⟨i, rfl, hi⟩
        · exact ⟨by', rfl, hb⟩
        · exact ⟨t1, rfl, ht1⟩
      obtain ⟨y, rfl, hy⟩ := hxn
      refine ⟨iD i, ρ', by simp [srcR], rfl, .inr ⟨mm, iD y, m2, rfl, e2, by rw [List.length_map, LIM_eq]; omega, u.trans u2, l ++ [y], by simp, by simp [hl], fun x hx => ?_⟩⟩
      rcases List.mem_append.mp hx with hx | hx
      · exact hlt x hx
      · have : x = y := by simpa using hx
        omega)
    (fun _ _ _ => rfl) ⟨Up.refl h, [], rfl, rfl, fun x hx => by simp at hx⟩
  exact ⟨f, m', hl, hf, u, e⟩
theorem map_ok {n many style : Nat} {m : M} (h : Box n m) (hw : Wf m) (h1 : 1 ≤ many) (h8 : many ≤ 8) : ∃ f m', f.length = many ∧ (∀ x ∈ f, x < many) ∧ Up n m m' ∧ F__law_map [.ref n, iD many, iD style] m = .ok (.ref m'.length) (m' ++ [lO f]) := by
  obtain ⟨by', m1, hb, u1, e1⟩ := take_up (k := many) h h1 (by omega)
  have b1 := u1.box h
  obtain ⟨ot, m2, ho, u2, e2⟩ := take_up (k := many) b1 h1 (by omega)
  have b2 := u2.box b1
  have u12 := u1.trans u2
  have w2 := u12.wf hw
  have l2 : 2 ≤ LIM := by rw [LIM_eq]; omega
  have st : startD 6 [.ref n, iD many, iD style] = [some (.ref n), some (iD many), some (iD style), none, none, none] := rfl
  have s1 : sAsg (fTup (fCons (fCall F__law_take (fCons (fVar 0) (fCons (fVar 1) fNil))) (fCons (fCall F__law_take (fCons (fVar 0) (fCons (fVar 1) fNil))) fNil))) (gT 2 (gCons' (gN 3) (gCons' (gN 4) gNil'))) [some (.ref n), some (iD many), some (iD style), none, none, none] m
      = .nx [some (.ref n), some (iD many), some (iD style), some (iD by'), some (iD ot), none] m2 := by
    simp [e1, gcR_up u1, e2, gcR_up u2, l2]
  have fin : ∀ (f : List Nat) (m3 : M), Up n m2 m3 → f.length = many → (∀ x ∈ f, x < many) → g__law_map (startD 6 [.ref n, iD many, iD style]) m = .rt (.ref m3.length) (m3 ++ [lO f]) →
      ∃ f m', f.length = many ∧ (∀ x ∈ f, x < many) ∧ Up n m m' ∧ F__law_map [.ref n, iD many, iD style] m = .ok (.ref m'.length) (m' ++ [lO f]) := by
    intro f m3 u3 hl hf e3
    have u := u12.trans u3
    exact ⟨f, m3, hl, hf, u, runF_newU rfl e3 u.len.symm (u.wf hw) (Nat.le_refl _) (by simp) (lO_blw _ _)⟩
  have tst : ∀ k : Int, ∀ g : FS, ∀ ρ0, ρ0 = [some (D.ref n), some (iD many), some (iD style), some (iD by'), some (iD ot), (none : Option D)] → sIf (fTest (fOp gEq (fVar 2) (fC (.int k)))) g sNext ρ0 m2 = if (style : Int) = k then g ρ0 m2 else .nx ρ0 m2 := by
    rintro k g ρ0 rfl
    by_cases hk : (style : Int) = k
    · simp [hk, iD]
    · simp [hk, iD]
  by_cases f0 : (style : Int) = 0
  · refine fin ((List.range many).map fun k => (k + by') % many) m2 (Up.refl b2) (by simp) (fun x hx => ?_) ?_
    · obtain ⟨k, _, rfl⟩ := List.mem_map.mp hx
      exact Nat.mod_lt _ (by omega)
    · rw [st]
      unfold g__law_map
      rw [s_seq, s1]
      simp only [seqK_nx, s_seq]
      rw [tst _ _ _ rfl, if_pos f0]
      rw [s_ret, e_name, comp_nat (many := many) (fun k => (k + by') % many) (by simp [rngK_n (k := many) (by rw [LIM_eq]; omega)]) (by omega) fun k hk => by
        have hm : cMod ((k : Int) + by') (many : Int) = true := decide_eq_true (by omega)
        simp [wipeD, hm, iD]]
      simp [lO]
  by_cases f1 : (style : Int) = 1
  · obtain ⟨f, hl, hf, e3⟩ := rings_ok (many := many) (one := by') (other := ot) w2 h1 h8
    refine fin f m2 (Up.refl b2) hl hf ?_
    rw [st]
    unfold g__law_map
    rw [s_seq, s1]
    simp only [seqK_nx, s_seq]
    rw [tst _ _ _ rfl, if_neg f0, seqK_nx, s_seq, tst _ _ _ rfl, if_pos f1]
    have e3' : fCall F__law_rings (fCons (fVar 1) (fCons (fVar 3) (fCons (fVar 4) fNil))) [some (.ref n), some (iD many), some (iD style), some (iD by'), some (iD ot), none] m2 = .ok (.ref m2.length) (m2 ++ [lO f]) := by
      simp only [e_call, e_cons, e_var, e_nil, bind_ok, List.getElem?_cons_zero, List.getElem?_cons_succ]
      rw [e3]
      exact gcR_new rfl w2 (Nat.le_refl _) (by simp) (lO_blw _ _)
    rw [s_ret, e3']
    rfl
  by_cases f2 : (style : Int) = 2
  · refine fin ((List.range many).map fun k => min (k + by') (many - 1)) m2 (Up.refl b2) (by simp) (fun x hx => ?_) ?_
    · obtain ⟨k, _, rfl⟩ := List.mem_map.mp hx
      omega
    · rw [st]
      unfold g__law_map
      rw [s_seq, s1]
      simp only [seqK_nx, s_seq]
      rw [tst _ _ _ rfl, if_neg f0, seqK_nx, s_seq, tst _ _ _ rfl, if_neg f1, seqK_nx, s_seq, tst _ _ _ rfl, if_pos f2]
      rw [s_ret, e_name, comp_nat (many := many) (fun k => min (k + by') (many - 1)) (by simp [rngK_n (k := many) (by rw [LIM_eq]; omega)]) (by omega) fun k hk => by
        simp [wipeD, iD]
        split <;> omega]
      simp [lO]
  · obtain ⟨f, m3, hl, hf, u3, e3⟩ := map_drawn (a := some (iD style)) (ot := ot) b2 w2 h1 h8 hb
    refine fin f m3 u3 hl hf ?_
    rw [st]
    unfold g__law_map
    rw [s_seq, s1]
    simp only [seqK_nx, s_seq]
    rw [tst _ _ _ rfl, if_neg f0, seqK_nx, s_seq, tst _ _ _ rfl, if_neg f1, seqK_nx, s_seq, tst _ _ _ rfl, if_neg f2, seqK_nx, s_ret, e_name, e3]
    rfl
end K93

namespace K93
open PySem PyProof.Rows L2 Dl
theorem fLc_all' {fi : FI} {gt : GT} {vs : List Nat} {e : FE} {ρ : Sl} {m m' : M} {src : Src} {xs : List D} (F : D → D) (h1 : fi ρ m = .ok src m') (hs : SrcIs src xs m')
    (hx : ∀ x ∈ xs, ∃ ρ', gt x (wipeD ρ vs) = some ρ' ∧ e ρ' m' = .ok (F x) m') (hl : xs.length ≤ LIM) : fLc fi gt vs fYes e ρ m = .ok (xs.map F) m' := by
  unfold fLc
  rw [h1]
  simp only [bind_ok]
  rw [hs.n, lcL_map (fun x => some (F x)) hs (fun x hm => ?_) xs.length 0 [] (by omega) (by simpa using hl)]
  · simp [List.filterMap_eq_map']
  · obtain ⟨ρ', a, b⟩ := hx x hm
    exact ⟨ρ', a, .inr ⟨F x, rfl, b, rfl⟩⟩
/-! ### the law's own table -/
def isJ (j : Nat) : D → Option D := fun x => match x with
  | .tup [.int i, _] => if i = j then some (.int 1) else none
  | _ => none
theorem isJ_len (h : Hist) (j : Nat) : ((h.map letD).filterMap (isJ j)).length = num1 h j := by
  induction h with
  | nil => rfl
  | cons p t ih =>
    rw [num1_cons, List.map_cons, List.filterMap_cons]
    by_cases e : p.1 = j
    · subst e
      simp [isJ, letD, iD]
      have := ih
      simp [isJ] at this
      omega
    · have e' : ¬ ((p.1 : Int) = (j : Int)) := by omega
      simp only [isJ, letD, iD, e', if_false, e]
      have := ih
      simp [isJ] at this ⊢
      omega
/-- a value that is walked as the letters of a history -/
def Wk (m : M) (d : D) (h : Hist) : Prop := d = histD h ∨ ∃ n, d = .ref n ∧ m[n]? = some (.lst (h.map letD))
theorem wk_t (m : M) (h : Hist) : Wk m (histD h) h := .inl rfl
theorem wk_l {m : M} {n : Nat} {h : Hist} (e : m[n]? = some (.lst (h.map letD))) : Wk m (.ref n) h := .inr ⟨n, rfl, e⟩
theorem Wk.app {m : M} {d : D} {h : Hist} (w : Wk m d h) (j : M) : Wk (m ++ j) d h := by
  rcases w with w | ⟨n, w, e⟩
  · exact .inl w
  · exact .inr ⟨n, w, by rw [List.getElem?_append_left (List.getElem?_eq_some_iff.mp e).1]; exact e⟩
/-- how it is walked, whatever stands beside -/
def wsrc (d : D) (h : Hist) : Src := match d with
  | .ref n => srcL n h.length
  | _ => srcT (h.map letD)
theorem Wk.k {m : M} {d : D} {h : Hist} (w : Wk m d h) : srcK m d = .ok (wsrc d h) m := by
  rcases w with rfl | ⟨n, rfl, e⟩
  · rfl
  · rw [srcK_l e, List.length_map]
    rfl
theorem Wk.is {m : M} {d : D} {h : Hist} (w : Wk m d h) : SrcIs (wsrc d h) (h.map letD) m := by
  rcases w with rfl | ⟨n, rfl, e⟩
  · exact isT _ _
  · exact isL e (by simp)
theorem counts_ok {hs : Nat} {h : Hist} {d : D} {m : M} (h4 : hs ≤ 4) (hl : h.length ≤ 1000) (hw : Wk m d h) : F__law_counts [iD hs, d] m = .ok (tI (cnt hs h)) m := runF_rt rfl (by
  obtain ⟨src, w1, w2⟩ : ∃ src, srcK m d = .ok src m ∧ SrcIs src (h.map letD) m := ⟨_, hw.k, hw.is⟩
  have inner : ∀ j : Nat, ∀ a : Option D, fLc (fWalk (fVar 1)) (gN 3) [3] (fTest (fOp gEq (fOp gIx (fVar 3) (fC (.int 0))) (fVar 2))) (fC (.int 1)) [a, some d, some (iD j), none] m = .ok ((h.map letD).filterMap (isJ j)) m := by
    intro j a
    refine fLc_map (isJ j) (src := src) (by simp [w1]) w2 (fun x hx => ?_) (by rw [List.length_map, LIM_eq]; omega)
    obtain ⟨p, _, rfl⟩ := List.mem_map.mp hx
    refine ⟨[a, some d, some (iD j), some (letD p)], by simp [wipeD], ?_⟩
    by_cases e : p.1 = j
    · exact .inr ⟨.int 1, by simp [e, letD], rfl, by simp [isJ, letD, e]⟩
    · have e' : ¬ ((p.1 : Int) = (j : Int)) := by omega
      exact .inl ⟨by simp [letD]; exact e', by simp [isJ, letD]; exact e'⟩
  simp [g__law_counts]
  rw [fLc_all (xs := (List.range hs).map iD) (src := srcR 0 hs) (fun x => match x with
      | .int i => iD (num1 h i.toNat)
      | _ => .non) (by simp [rngK_n (k := hs) (by rw [LIM_eq]; omega)]) (isR _ _) (fun x hx => ?_) (by simp [LIM_eq]; omega)]
  · simp [tI, Dl.cnt, Function.comp_def]
  · obtain ⟨j, _, rfl⟩ := List.mem_map.mp hx
    refine ⟨_, rfl, ?_⟩
    have := inner j (some (iD hs))
    simp only [iD] at this
    have h2 := isJ_len h j
    simp [wipeD, this]
    rw [← h2, List.filterMap_map])
/-- longer by one hand -/
theorem longer_comp {n : Nat} {v : List Nat} {mm : M} {a0 a1 a3 : Option D} (hn : n + 1 ≤ 30000) (hv : v.length ≤ 4) :
    fLc (fRng1 (fOp gAdd (fVar 2) (fC (.int 1)))) (gN 5) [5] fYes (fOp gAdd (fVar 4) (fTup (fCons (fVar 5) fNil))) [a0, a1, some (iD n), a3, some (tI v), none] mm = .ok (((List.range (n + 1)).map fun k => v ++ [k]).map tI) mm := by
  have hr := rngK_n (k := n + 1) (by rw [LIM_eq]; omega) mm
  have l1 : 1 ≤ LIM := by rw [LIM_eq]; omega
  have lv : v.length + 1 ≤ LIM := by rw [LIM_eq]; omega
  have e : (n : Int) + 1 = ((n + 1 : Nat) : Int) := by omega
  rw [fLc_all (xs := (List.range (n + 1)).map iD) (src := srcR 0 (n + 1)) (fun x => .tup (v.map iD ++ [x])) (by simp; rw [e, hr]) (isR _ _) (fun x hx => ?_) (by simp [LIM_eq]; omega)]
  · simp [tI, Function.comp_def]
  · refine ⟨_, rfl, ?_⟩
    simp [wipeD, tI, l1, lv]
theorem longer_ok {n L : Nat} {v : List Nat} {mm : M} {acc : List (List Nat)} {a0 a1 : Option D} (hL : mm[L]? = some (.lst (acc.map tI))) (hn : n + 1 ≤ 30000) (hv : v.length ≤ 4) (hacc : acc.length + (n + 1) ≤ 60000) :
    sSet 3 (fOp gAdd (fVar 3) (fName (fLc (fRng1 (fOp gAdd (fVar 2) (fC (.int 1)))) (gN 5) [5] fYes (fOp gAdd (fVar 4) (fTup (fCons (fVar 5) fNil)))))) [a0, a1, some (iD n), some (.ref L), some (tI v), none] mm
      = .nx [a0, a1, some (iD n), some (.ref (mm.length + 1)), some (tI v), none] (mm ++ [.lst (((List.range (n + 1)).map fun k => v ++ [k]).map tI), .lst ((acc ++ (List.range (n + 1)).map fun k => v ++ [k]).map tI)]) := by
  have hLl : L < mm.length := (List.getElem?_eq_some_iff.mp hL).1
  have ga := gAddL (i := L) (j := mm.length) (xs := acc.map tI) (ys := ((List.range (n + 1)).map fun k => v ++ [k]).map tI) (m := mm ++ [.lst (((List.range (n + 1)).map fun k => v ++ [k]).map tI)]) (by rw [List.getElem?_append_left hLl]; exact hL) (by simp) (by simp [LIM_eq]; omega)
  rw [s_set, e_op]
  simp only [e_var, List.getElem?_cons_succ, List.getElem?_cons_zero, bind_ok, e_name, longer_comp hn hv, ga, out_ok]
  simp
theorem law_vec_inner {cs : List Nat} {n k : Nat} {mm : M} {a0 : Option D} (hw : Wf mm) (hk : mm[k]? = some (.lst ((vecs cs).map tI))) (hc : cs.length ≤ 4) (hp : prd (cs ++ [n]) ≤ 30000) (a4 : Option D) :
    ∃ (a4' : Option D) (j : M) (L : Nat), forL (srcL k ((vecs cs).map tI).length) (gN 4) (sSet 3 (fOp gAdd (fVar 3) (fName (fLc (fRng1 (fOp gAdd (fVar 2) (fC (.int 1)))) (gN 5) [5] fYes (fOp gAdd (fVar 4) (fTup (fCons (fVar 5) fNil))))))) ((vecs cs).map tI).length 0 [a0, some (.ref k), some (iD n), some (.ref mm.length), a4, none] (mm ++ [.lst []])
      = .nx [a0, some (.ref k), some (iD n), some (.ref L), a4', none] (mm ++ j) ∧ Wf (mm ++ j) ∧ mm.length ≤ L ∧ (mm ++ j)[L]? = some (.lst ((vecs (cs ++ [n])).map tI)) := by
  have hkl : k < mm.length := (List.getElem?_eq_some_iff.mp hk).1
  let bd : FS := (sSet 3 (fOp gAdd (fVar 3) (fName (fLc (fRng1 (fOp gAdd (fVar 2) (fC (.int 1)))) (gN 5) [5] fYes (fOp gAdd (fVar 4) (fTup (fCons (fVar 5) fNil)))))))
  let I : Nat → Sl → M → Prop := fun i ρ m2 => ∃ (j : M) (L : Nat) (a : Option D), m2 = mm ++ j ∧ Wf (mm ++ j) ∧ mm.length ≤ L ∧ (mm ++ j)[L]? = some (.lst ((stepV ((vecs cs).take i) n).map tI)) ∧ ρ = [a0, some (.ref k), some (iD n), some (.ref L), a, none]
  have hlen : ((vecs cs).map tI).length = (vecs cs).length := by simp
  have hkk : ∀ j : M, (mm ++ j)[k]? = some (.lst ((vecs cs).map tI)) := fun j => by rw [List.getElem?_append_left hkl]; exact hk
  rw [prd_snoc] at hp
  have hn1 : n + 1 ≤ 30000 := Nat.le_trans (Nat.le_mul_of_pos_left _ (prd_pos _)) hp
  have step : ∀ i ρ m2, i < (vecs cs).length → I i ρ m2 → ∃ d ρ' ρ2 m3, (srcL k ((vecs cs).map tI).length).get m2 i = some d ∧ gN 4 d ρ = some ρ' ∧ bd ρ' m2 = .nx ρ2 m3 ∧ I (i + 1) ρ2 m3 := by
    rintro i ρ m2 hi ⟨j, L, a, rfl, hwj, hL, hLe, rfl⟩
    have ht : (vecs cs).take (i + 1) = (vecs cs).take i ++ [(vecs cs)[i]] := by rw [List.take_append_getElem]
    have hv : (vecs cs)[i].length ≤ 4 := by
      have := (mem_vecs.mp (List.getElem_mem hi)).1
      omega
    have hac : (stepV ((vecs cs).take i) n).length + (n + 1) ≤ 60000 := by
      rw [stepV_len, List.length_take]
      have h1 : min i (vecs cs).length * (n + 1) ≤ (vecs cs).length * (n + 1) := Nat.mul_le_mul_right _ (Nat.min_le_right _ _)
      rw [vecs_len] at h1
      rw [vecs_len]
      omega
    have e := longer_ok (n := n) (L := L) (v := (vecs cs)[i]) (mm := mm ++ j) (acc := stepV ((vecs cs).take i) n) (a0 := a0) (a1 := some (.ref k)) hLe hn1 hv hac
    have hst : stepV ((vecs cs).take (i + 1)) n = stepV ((vecs cs).take i) n ++ (List.range (n + 1)).map fun k => (vecs cs)[i] ++ [k] := by
      rw [ht]
      unfold stepV
      rw [List.flatMap_append]
      simp
    refine ⟨tI (vecs cs)[i], [a0, some (.ref k), some (iD n), some (.ref L), some (tI (vecs cs)[i]), none], _, _, ?_, rfl, e, _, _, _, (List.append_assoc _ _ _), ?_, ?_, ?_, rfl⟩
    · have := (isL (hkk j) rfl).get i (by rw [hlen]; exact hi)
      rw [this]
      simp [hi]
    · rw [← List.append_assoc, show ∀ (p q : O), (mm ++ j) ++ [p, q] = ((mm ++ j) ++ [p]) ++ [q] from fun p q => by simp]
      exact (hwj.app (listM_blw _)).app (by rw [← hst]; exact listM_blw _)
    · simp; omega
    · rw [← List.append_assoc, hst, List.getElem?_append_right (by omega)]
      simp
  obtain ⟨ρ', m', e, j, L, a, rfl, h1, h2, h3, rfl⟩ := forL_inv (src := srcL k ((vecs cs).map tI).length) (n := (vecs cs).length) (gt := gN 4) (body := bd) I hlen step (fun ρ m2 ⟨j, _, _, h, _⟩ => by rw [h]; exact (isL (hkk _) rfl).fin) (vecs cs).length 0 [a0, some (.ref k), some (iD n), some (.ref mm.length), a4, none] (mm ++ [.lst []]) (by omega) ⟨[.lst []], mm.length, a4, rfl, hw.app rfl, Nat.le_refl _, by simp [stepV], rfl⟩
  rw [List.take_length, ← vecs_snoc] at h3
  refine ⟨a, j, L, ?_, h1, h2, h3⟩
  rw [hlen]
  rw [show srcL k (vecs cs).length = srcL k ((vecs cs).map tI).length from by rw [hlen], e]
theorem law_vectors_ok {cs : List Nat} (hc : cs.length ≤ 4) (hp : prd cs ≤ 30000) {m : M} (hw : Wf m) : F__law_vectors [tI cs] m = .ok (.ref m.length) (m ++ [.lst ((vecs cs).map tI)]) := by
  let bd : FS := (sSeq (sSet 3 (fName (fLst fNil)))
 (sSeq (sFor (fWalk (fVar 1)) (gN 4)
 (sSet 3 (fOp gAdd (fVar 3) (fName (fLc (fRng1 (fOp gAdd (fVar 2) (fC (.int 1)))) (gN 5) [5] fYes (fOp gAdd (fVar 4) (fTup (fCons (fVar 5) fNil))))))))
 (sSet 1 (fVar 3))))
  let I : Nat → Sl → M → Prop := fun i ρ mm => ∃ (j : M) (k : Nat) (a b c : Option D), mm = m ++ j ∧ Wf mm ∧ m.length ≤ k ∧ ρ = [some (tI cs), some (.ref k), a, b, c, none] ∧ mm[k]? = some (.lst ((vecs (cs.take i)).map tI))
  have step : ∀ i ρ mm, i < cs.length → I i ρ mm → ∃ d ρ' ρ2 m2, (srcT (cs.map iD)).get mm i = some d ∧ gN 2 d ρ = some ρ' ∧ bd ρ' mm = .nx ρ2 m2 ∧ I (i + 1) ρ2 m2 := by
    rintro i ρ mm hi ⟨j, k, a, b, c, e1, hwm, hk, rfl, e3⟩
    have ht : cs.take (i + 1) = cs.take i ++ [cs[i]] := by rw [List.take_append_getElem]
    have hbig := Nat.le_trans (prd_take cs (i + 1)) hp
    rw [ht] at hbig
    obtain ⟨a4, j2, L, e, w2, hL, hLe⟩ := law_vec_inner (a0 := some (tI cs)) (n := cs[i]) hwm e3 (by rw [List.length_take]; omega) hbig c
    have hkl : k < mm.length := (List.getElem?_eq_some_iff.mp e3).1
    refine ⟨iD cs[i], [some (tI cs), some (.ref k), some (iD cs[i]), b, c, none], [some (tI cs), some (.ref L), some (iD cs[i]), some (.ref L), a4, none], mm ++ j2, by simp [srcT, hi], rfl, ?_, j ++ j2, L, _, _, _, by rw [e1, List.append_assoc], w2, by rw [e1] at hL; simp at hL; omega, rfl, by rw [ht]; exact hLe⟩
    have hsk : srcK (mm ++ [O.lst []]) (.ref k) = .ok (srcL k ((vecs (cs.take i)).map tI).length) (mm ++ [O.lst []]) := srcK_l (by rw [List.getElem?_append_left hkl]; exact e3)
    have hn : (srcL k ((vecs (cs.take i)).map tI).length).n = ((vecs (cs.take i)).map tI).length := rfl
    have l0 : 0 ≤ LIM := Nat.zero_le _
    show bd [some (tI cs), some (.ref k), some (iD cs[i]), b, c, none] mm = _
    simp only [bd, s_seq, e_name, e_lst, e_nil, bind_ok, List.length_nil, l0, if_true, out_ok, List.set, seqK_nx, s_for, e_walk, e_var, List.getElem?_cons_succ, List.getElem?_cons_zero, hsk, hn]
    rw [show sSet 3 (fName (fLst fNil)) [some (tI cs), some (.ref k), some (iD cs[i]), b, c, none] mm = .nx [some (tI cs), some (.ref k), some (iD cs[i]), some (.ref mm.length), c, none] (mm ++ [.lst []]) from by simp [l0]]
    simp only [seqK_nx, s_seq, s_for, e_walk, e_var, out_ok, List.getElem?_cons_succ, List.getElem?_cons_zero, bind_ok, hsk, hn]
    rw [e]
    simp
  obtain ⟨ρ', m', e, j, k, a, b, c, rfl, hwm, hkm, rfl, hk⟩ := forL_inv (src := srcT (cs.map iD)) (n := cs.length) (gt := gN 2) (body := bd) I (by simp [srcT]) step (fun _ _ _ => rfl) cs.length 0 [some (tI cs), some (.ref m.length), none, none, none, none] (m ++ [.lst [.tup []]]) (by omega) ⟨[.lst [.tup []]], m.length, none, none, none, rfl, hw.app rfl, Nat.le_refl _, rfl, by simp [vecs, tI]⟩
  rw [List.take_length] at hk
  unfold F__law_vectors runF
  rw [if_pos (by rfl)]
  have hs : srcK (m ++ [O.lst [D.tup []]]) (tI cs) = .ok (srcT (cs.map iD)) (m ++ [O.lst [D.tup []]]) := rfl
  have hn : (srcT (cs.map iD)).n = cs.length := by simp [srcT]
  have hg : g__law_vectors (startD 6 [tI cs]) m = .rt (.ref k) (m ++ j) := by
    have h1 : 1 ≤ LIM := by rw [LIM_eq]; omega
    simp [g__law_vectors, h1, hs, hn]
    rw [show (sSeq (sSet 3 (fName (fLst fNil)))
 (sSeq (sFor (fWalk (fVar 1)) (gN 4)
 (sSet 3 (fOp gAdd (fVar 3) (fName (fLc (fRng1 (fOp gAdd (fVar 2) (fC (.int 1)))) (gN 5) [5] fYes (fOp gAdd (fVar 4) (fTup (fCons (fVar 5) fNil))))))))
 (sSet 1 (fVar 3)))) = bd from rfl, e]
    simp
  rw [hg]
  exact gcR_new rfl hw hkm hk (listM_blw _)
/-! ### boards led -/
theorem board_ok {mc : Mach} {b hs : Nat} (S : Set' mc b hs) {h : Hist} (ok : HOk hs mc.maps.length h) {v : List Nat} (hv : v.length = hs) {m : M} (hw : Wf m) {d0 : D} (w : Wk m d0 h) : F__law_board [machD mc, d0, tI v] m = .ok (iD (brd mc.maps mc.start h v)) m := by
  let bd : FS := (sIf (fTest (fOp gGt (fOp gIx (fVar 4) (fVar 5)) (fC (.int 0))))
 (sSeq (sSub (fOp Dl.gSub (fOp gIx (fVar 4) (fVar 5)) (fC (.int 1))) (fVar 4) (fVar 5))
 (sSet 3 (fOp gIx (fOp gIx (fOp gIx (fVar 0) (fC (.int 1))) (fVar 6)) (fVar 3))))
 sNext)
  let st : Nat → Nat × List Nat := fun i => stF mc.maps (mc.start, v) (h.take i)
  let L := m.length
  let I : Nat → Sl → M → Prop := fun i ρ mm => mm = m ++ [.lst ((st i).2.map iD)] ∧ ∃ a c : Option D, ρ = [some (machD mc), some d0, some (tI v), some (iD (st i).1), some (.ref m.length), a, c]
  have stlen : ∀ (h : Hist) (s : Nat × List Nat), (stF mc.maps s h).2.length = s.2.length := by
    intro h
    induction h with
    | nil => intro s; rfl
    | cons p t ih => intro s; rw [stF_cons, ih, stp_len]
  have step : ∀ i ρ mm, i < h.length → I i ρ mm → ∃ x ρ' ρ2 m2, (wsrc d0 h).get mm i = some x ∧ gT 2 (gCons' (gN 5) (gCons' (gN 6) gNil')) x ρ = some ρ' ∧ bd ρ' mm = .nx ρ2 m2 ∧ I (i + 1) ρ2 m2 := by
    rintro i ρ mm hi ⟨rfl, a, c, rfl⟩
    have ht : h.take (i + 1) = h.take i ++ [h[i]] := by rw [List.take_append_getElem]
    have hm := List.getElem_mem hi
    have hx : ∀ o : O, (wsrc d0 h).get (m ++ [o]) i = some (letD h[i]) := fun o => by rw [(w.app [o]).is.get i (by simpa using hi)]; simp [hi]
    generalize h[i] = p at ht hm hx
    obtain ⟨j, d⟩ := p
    have hj : j < hs := ok.hand _ hm
    have hd : d < mc.maps.length := ok.deed _ hm
    have hs1 : st (i + 1) = stp mc.maps (st i) (j, d) := by
      show stF mc.maps (mc.start, v) (h.take (i + 1)) = _
      rw [ht, stF_app]
      rfl
    have hb : (st i).1 < b := brd_lt S.m.len S.m.ent (h.take i) _ (fun p hp => ok.deed p (List.mem_of_mem_take hp)) S.m.st
    have hl : (st i).2.length = hs := by rw [stlen]; exact hv
    generalize hsi : st i = s at hs1 hb hl
    obtain ⟨bo, le⟩ := s
    simp only at hb hl
    generalize hmm : m ++ [O.lst (le.map iD)] = mm
    have hmL : mm[m.length]? = some (.lst (le.map iD)) := by rw [← hmm]; exact at_snoc _ _
    have hjl : le[j]? = some (le.getD j 0) := by rw [List.getD_eq_getElem?_getD, List.getElem?_eq_getElem (by omega)]; rfl
    have e1 : gIx (.ref m.length) (.int (j : Int)) mm = .ok (iD (le.getD j 0)) mm := by
      rw [e_ixL _ hmL, at_nat (x := iD (le.getD j 0)) (by rw [List.getElem?_map, hjl]; rfl)]
      rfl
    by_cases hp : 0 < le.getD j 0
    · have hp' : (0 : Int) < (le.getD j 0 : Nat) := by omega
      have hst : mc.maps[d]? = some mc.maps[d] := List.getElem?_eq_getElem hd
      have e2 : ∀ q : M, gIx (mapsD mc) (.int (d : Int)) q = .ok (tI mc.maps[d]) q := fun q => tup_at (by rw [List.getElem?_map, hst]; rfl) q
      have e3 : ∀ q : M, gIx (machD mc) (.int 1) q = .ok (mapsD mc) q := fun q => rfl
      have hml : (mc.maps[d]).length = b := S.m.len _ (List.getElem_mem hd)
      have e4 : ∀ q : M, gIx (tI mc.maps[d]) (.int (bo : Int)) q = .ok (iD ((mc.maps[d]).getD bo 0)) q := fun q => tI_at (by rw [List.getD_eq_getElem?_getD, List.getElem?_eq_getElem (by omega)]; rfl) q
      have hx1 : ((le.getD j 0 : Nat) : Int) - 1 = ((le.getD j 0 - 1 : Nat) : Int) := by omega
      have es := sub_ok (f := fOp Dl.gSub (fOp gIx (fVar 4) (fVar 5)) (fC (.int 1))) (fo := fVar 4) (fi := fVar 5) (ρ := [some (machD mc), some d0, some (tI v), some (iD bo), some (.ref m.length), some (iD j), some (iD d)]) (m := mm) (m1 := mm) (m2 := mm) (m3 := mm) (d := iD (le.getD j 0 - 1)) (n := m.length) (j := j) (k := (j : Int)) (xs := le.map iD)
        (by simp only [e_op, e_var, List.getElem?_cons_zero, List.getElem?_cons_succ, bind_ok, e1, e_c, e_sub, hx1]) rfl rfl hmL (ixN_nat (by rw [List.length_map]; omega))
      refine ⟨letD (j, d), [some (machD mc), some d0, some (tI v), some (iD bo), some (.ref m.length), some (iD j), some (iD d)], [some (machD mc), some d0, some (tI v), some (iD ((mc.maps[d]).getD bo 0)), some (.ref m.length), some (iD j), some (iD d)], mm.set m.length (.lst ((le.map iD).set j (iD (le.getD j 0 - 1)))), (by rw [← hmm]; exact hx _), by simp [letD], ?_, ?_, some (iD j), some (iD d), ?_⟩
      · simp only [bd, s_if, e_test, e_op, e_var, List.getElem?_cons_zero, List.getElem?_cons_succ, bind_ok, e1, e_c, e_gt, decide_eq_true hp', e_asB, out_ok, if_true, s_seq, es, seqK_nx, s_set, e3, e2, e4, List.set]
      · rw [← hmm, set_snoc, hs1]
        unfold stp
        rw [if_pos hp]
        simp only [List.map_set]
      · rw [hs1]
        unfold stp
        rw [if_pos hp]
        have e5 : mc.maps.getD d [] = mc.maps[d] := by rw [List.getD_eq_getElem?_getD, hst]; rfl
        simp only [e5]
    · have hp' : ¬ (0 : Int) < (le.getD j 0 : Nat) := by omega
      have hs2 : stp mc.maps (bo, le) (j, d) = (bo, le) := by
        unfold stp
        rw [if_neg hp]
      refine ⟨letD (j, d), [some (machD mc), some d0, some (tI v), some (iD bo), some (.ref m.length), some (iD j), some (iD d)], [some (machD mc), some d0, some (tI v), some (iD bo), some (.ref m.length), some (iD j), some (iD d)], mm, (by rw [← hmm]; exact hx _), by simp [letD], ?_, by rw [← hmm, hs1, hs2], some (iD j), some (iD d), by rw [hs1, hs2]⟩
      simp only [bd, s_if, e_test, e_op, e_var, List.getElem?_cons_zero, List.getElem?_cons_succ, bind_ok, e1, e_c, e_gt, decide_eq_false hp', e_asB, out_ok, Bool.false_eq_true, if_false, s_next]
  obtain ⟨ρ', m', e, rfl, a, c, rfl⟩ := forL_inv (src := wsrc d0 h) (n := h.length) (gt := gT 2 (gCons' (gN 5) (gCons' (gN 6) gNil'))) (body := bd) I (by have := w.is.n; simpa using this) step (fun ρ mm q => by obtain ⟨rfl, _⟩ := q; exact (w.app _).is.fin) h.length 0 [some (machD mc), some d0, some (tI v), some (iD mc.start), some (.ref m.length), none, none] (m ++ [.lst (v.map iD)]) (by omega) ⟨rfl, none, none, rfl⟩
  have hs' : ∀ o : O, srcK (m ++ [o]) d0 = .ok (wsrc d0 h) (m ++ [o]) := fun o => (w.app [o]).k
  have hn : (wsrc d0 h).n = h.length := by have := w.is.n; simpa using this
  have h0 : ∀ q, gIx (machD mc) (.int 0) q = .ok (iD mc.start) q := fun _ => rfl
  have hi0 : ∀ q, itemsD q (tI v) = some (v.map iD) := fun _ => rfl
  refine runF_rtJ (j := [.lst ((st h.length).2.map iD)]) rfl ?_ rfl hw rfl
  simp [g__law_board, h0, hi0, hs', hn]
  rw [show (sIf (fTest (fOp gGt (fOp gIx (fVar 4) (fVar 5)) (fC (.int 0))))
 (sSeq (sSub (fOp Dl.gSub (fOp gIx (fVar 4) (fVar 5)) (fC (.int 1))) (fVar 4) (fVar 5))
 (sSet 3 (fOp gIx (fOp gIx (fOp gIx (fVar 0) (fC (.int 1))) (fVar 6)) (fVar 3))))
 sNext) = bd from rfl, e]
  simp [st, brd]
theorem law_table_ok {mc : Mach} {b hs : Nat} (S : Set' mc b hs) {h : Hist} (ok : HOk hs mc.maps.length h) (hl : h.length ≤ 12) {m : M} (hw : Wf m) {d0 : D} (w : Wk m d0 h) : F__law_table [machD mc, iD hs, d0] m = .ok (tab mc hs h) m := by
  have c4 : (Dl.cnt hs h).length ≤ 4 := by rw [cnt_len]; exact S.h4
  have e1 := counts_ok (hs := hs) (h := h) S.h4 (by omega) w
  have e2 := law_vectors_ok c4 (prd_cnt S hl) hw
  have hw2 : Wf (m ++ [O.lst ((vecs (Dl.cnt hs h)).map tI)]) := hw.app (listM_blw _)
  have e3 : fLc (fWalk (fCall F__law_vectors (fCons (fVar 3) fNil))) (gN 4) [4] fYes (fCall F__law_board (fCons (fVar 0) (fCons (fVar 2) (fCons (fVar 4) fNil)))) [some (machD mc), some (iD hs), some d0, some (tI (Dl.cnt hs h)), none] m = .ok (((vecs (Dl.cnt hs h)).map tI).map fun x => iD (brd mc.maps mc.start h (unI x))) (m ++ [O.lst ((vecs (Dl.cnt hs h)).map tI)]) := by
    have hat : (m ++ [O.lst ((vecs (Dl.cnt hs h)).map tI)])[m.length]? = some (.lst ((vecs (Dl.cnt hs h)).map tI)) := at_snoc _ _
    have hg : gcR m.length (.ok (.ref m.length) (m ++ [O.lst ((vecs (Dl.cnt hs h)).map tI)])) = .ok (.ref m.length) (m ++ [O.lst ((vecs (Dl.cnt hs h)).map tI)]) := gcR_new rfl hw (Nat.le_refl _) hat (listM_blw _)
    refine fLc_all' (fun x => iD (brd mc.maps mc.start h (unI x))) (src := srcL m.length ((vecs (Dl.cnt hs h)).map tI).length) ?_ (isL hat rfl) (fun x hx => ?_) (by rw [List.length_map, vecs_len, LIM_eq]; have := prd_cnt S hl; omega)
    · have hsk := srcK_l hat
      simp only [e_walk, e_call, e_cons, e_var, List.getElem?_cons_succ, List.getElem?_cons_zero, bind_ok, e_nil, e2, hg, hsk]
    · obtain ⟨v, hv, rfl⟩ := List.mem_map.mp hx
      have hvl : v.length = hs := by rw [(mem_vecs.mp hv).1, cnt_len]
      refine ⟨_, rfl, ?_⟩
      have := board_ok S ok hvl hw2 (w.app _)
      simp [wipeD, this, unI_tI]
  refine runF_rtJ (j := [O.lst ((vecs (Dl.cnt hs h)).map tI)]) rfl ?_ rfl hw (num_blw (tab_num mc hs h) _)
  have l2 : 2 ≤ LIM := by rw [LIM_eq]; omega
  simp [g__law_table, e1]
  rw [e3]
  simp [l2, tab]
  simp only [tI, List.map_map]
  congr 1
  refine List.map_congr_left fun v _ => ?_
  show iD (brd mc.maps mc.start h (unI (tI v))) = _
  rw [unI_tI]
  rfl
/-! ### backs -/
theorem maxL_ok {l : List Nat} {k : Nat} (hk : k ∈ l) (hm : ∀ x ∈ l, x ≤ k) (m : M) : gMaxL (l.map iD) m = .ok (iD k) m := by
  have hi : ∀ l : List Nat, intsD (l.map iD) = some (l.map fun n : Nat => (n : Int)) := by
    intro l
    induction l with
    | nil => rfl
    | cons a r ih => simp [intsD, ih]
  cases l with
  | nil => simp at hk
  | cons a r =>
    unfold gMaxL
    rw [hi]
    simp only [List.map_cons]
    obtain ⟨h1, h2⟩ := maxI_mem (a : Int) (r.map fun n : Nat => (n : Int))
    have h3 : maxI (a : Int) (r.map fun n : Nat => (n : Int)) ≤ (k : Int) := by
      have : ∃ y ∈ a :: r, maxI (a : Int) (r.map fun n : Nat => (n : Int)) = (y : Int) := by
        have h1' : maxI (a : Int) (r.map fun n : Nat => (n : Int)) ∈ (a :: r).map fun n : Nat => (n : Int) := h1
        obtain ⟨y, hy, e⟩ := List.mem_map.mp h1'
        exact ⟨y, hy, e.symm⟩
      obtain ⟨y, hy, e⟩ := this
      have := hm y hy
      omega
    have h4 : (k : Int) ≤ maxI (a : Int) (r.map fun n : Nat => (n : Int)) := h2 k (by
      show (k : Int) ∈ (a :: r).map fun n : Nat => (n : Int)
      exact List.mem_map.mpr ⟨k, hk, rfl⟩)
    rw [Int.le_antisymm h3 h4]
end K93

namespace K93
open PySem PyProof.Rows L2 Dl
theorem wf_apps {m j : M} (h : Wf m) (hj : ∀ o ∈ j, O.blw (m.length + j.length) o = true) : Wf (m ++ j) := by
  rw [wf_iff] at h ⊢
  intro o ho
  rw [List.length_append]
  rcases List.mem_append.mp ho with ho | ho
  · have := h o ho
    cases o <;> exact blws_mono (by omega) this
  · exact hj o ho
theorem letD_num (p : Nat × Nat) : (letD p).num = true := rfl
theorem hist_nums (h : Hist) : D.nums (h.map letD) = true := by
  rw [nums_iff]
  intro d hd
  obtain ⟨p, _, rfl⟩ := List.mem_map.mp hd
  rfl
theorem hist_blw (h : Hist) (L : Nat) : O.blw L (.lst (h.map letD)) = true := by
  have := num_blw (d := .tup (h.map letD)) (by simpa only [D.num] using hist_nums h) L
  simpa only [D.blw, O.blw] using this
theorem gc_keep {L n : Nat} {m' : M} {o : O} (hn : L ≤ n) (ho : m'[n]? = some o) (hb : o.blw L = false) : gc L (.ref n) m' = (.ref n, m') := by
  unfold gc
  split
  · rw [if_neg (by simp [D.blw]; omega)]
    simp only [ho, hb, Bool.false_eq_true, if_false]
  · rfl
def refs (L n : Nat) : List D := (List.range n).map fun i => .ref (L + i)
theorem refs_succ (L n : Nat) : refs L (n + 1) = refs L n ++ [.ref (L + n)] := by
  unfold refs
  rw [List.range_succ, List.map_append]
  rfl
theorem refs_len (L n : Nat) : (refs L n).length = n := by simp [refs]
theorem refs_at {L n i : Nat} (h : i < n) : (refs L n)[i]? = some (.ref (L + i)) := by simp [refs, h]
theorem refs_blw (L n K : Nat) (h : L + n ≤ K) : O.blw K (.lst (refs L n)) = true := by
  simp only [O.blw]
  induction n with
  | zero => rfl
  | succ n ih =>
    rw [refs_succ]
    have h1 := ih (by omega)
    have app : ∀ as bs : List D, D.blws K as = true → D.blws K bs = true → D.blws K (as ++ bs) = true := by
      intro as bs ha hb
      induction as with
      | nil => exact hb
      | cons a r ih =>
        simp only [D.blws, Bool.and_eq_true, List.cons_append] at ha ⊢
        exact ⟨ha.1, ih ha.2⟩
    exact app _ _ h1 (by simp only [D.blws, D.blw, Bool.and_true, decide_eq_true_eq]; omega)
theorem refs_high {L n : Nat} (hn : 1 ≤ n) : O.blw L (.lst (refs L n)) = false := by
  obtain ⟨k, rfl⟩ : ∃ k, n = k + 1 := ⟨n - 1, by omega⟩
  unfold refs
  rw [List.range_succ_eq_map]
  simp [O.blw, D.blws, D.blw]
/-! ### histories as lists -/
def rowO (p : Nat × Nat) : O := .lst [iD p.1, iD p.2]
structure Listed (m : M) (k : Nat) (h : Hist) : Prop where
  ex : ∃ L, m[k]? = some (.lst (refs L h.length)) ∧ ∀ (i : Nat) (p : Nat × Nat), h[i]? = some p → m[L + i]? = some (rowO p)
theorem app_at {m : M} {k : Nat} {o : O} (j : M) (h : m[k]? = some o) : (m ++ j)[k]? = some o := by
  rw [List.getElem?_append_left (List.getElem?_eq_some_iff.mp h).1]
  exact h
theorem Listed.app {m : M} {k : Nat} {h : Hist} (l : Listed m k h) (j : M) : Listed (m ++ j) k h := by
  obtain ⟨L, h1, h2⟩ := l.ex
  exact ⟨L, app_at j h1, fun i p hp => app_at j (h2 i p hp)⟩
theorem Listed.is {m : M} {k : Nat} {h : Hist} (l : Listed m k h) : IsHist m (.ref k) h := by
  obtain ⟨L, h1, h2⟩ := l.ex
  refine ⟨is_sequence_ref h1, refs L h.length, _, _, by simp [h1], srcK_l h1, isL h1 rfl, enumK_l h1, isLE h1 rfl, refs_len _ _, fun i p hp => ⟨.ref (L + i), refs_at (List.getElem?_eq_some_iff.mp hp).1, ?_, fun hs ds a b => is_letter_ref a b (h2 i p hp)⟩⟩
  simp [h2 i p hp, rowO]
/-! ### another order -/
def rowOf (h : Hist) (j : Nat) : Hist := h.filter fun p => p.1 == j
def rO (r : Hist) : O := .lst (r.map letD)
theorem pd_list {m : M} {k : Nat} {r : Hist} (h : m[k]? = some (.lst (r.map letD))) : ∃ p, pdM DEEP m (.ref k) = some (.list p) ∧ flatP (.list p) = true ∧ p.length = r.length := by
  have hd : ∀ q : Nat × Nat, pdM 2 m (letD q) = some (.tuple [.int q.1, .int q.2]) := fun q => rfl
  refine ⟨r.map fun q => .tuple [.int q.1, .int q.2], ?_, ?_, by simp⟩
  · show (D.ref k).toP (fun n => match m[n]? with
      | some (.lst ds) => (pdM.allS (ds.map (pdM 2 m))).map .list
      | _ => none) = _
    simp only [D.toP, h]
    have : ∀ r : Hist, pdM.allS ((r.map letD).map (pdM 2 m)) = some (r.map fun q => .tuple [.int q.1, .int q.2]) := by
      intro r
      induction r with
      | nil => rfl
      | cons q t ih =>
        rw [List.map_cons, List.map_cons, hd]
        simp only [pdM.allS, ih, Option.map_some, List.map_cons]
    rw [this]
    rfl
  · unfold flatP
    have h1 : ∀ r : Hist, PyData.plainAll (r.map fun q => .tuple [.int q.1, .int q.2]) = true := by
      intro r
      induction r with
      | nil => rfl
      | cons q t ih => simp only [List.map_cons, PyData.plainAll, PyData.plain, ih, Bool.and_self]
    have h2 : ∀ r : Hist, PyData.depthAll (r.map fun q => .tuple [.int q.1, .int q.2]) ≤ 1 := by
      intro r
      induction r with
      | nil => exact Nat.zero_le _
      | cons q t ih => simp only [List.map_cons, PyData.depthAll, PyData.depth]; omega
    simp only [PyData.plain, h1, Bool.true_and, PyData.depth]
    have := h2 r
    exact decide_eq_true (by omega)
theorem ne_list {m : M} {k l : Nat} {r : Hist} (h : m[k]? = some (.lst (r.map letD))) (h' : m[l]? = some (.lst [])) : gNe (.ref k) (.ref l) m = .ok (.bl (decide (r ≠ []))) m := by
  obtain ⟨p, h1, h2, h3⟩ := pd_list h
  obtain ⟨q, g1, g2, g3⟩ := pd_list (r := []) h'
  unfold gNe
  simp only [h1, g1, h2, g2, Bool.and_self, if_true]
  have hq : q = [] := List.eq_nil_of_length_eq_zero g3
  subst hq
  cases p with
  | nil =>
    have : r = [] := List.eq_nil_of_length_eq_zero h3.symm
    subst this
    rfl
  | cons a t =>
    have : r ≠ [] := fun e => by rw [e] at h3; cases h3
    simp [PyData.eqv, PyData.eqvAll, this]
/-- the memory while the rows are taken up -/
def ordM (m1 : M) (rs : List Hist) (L : Nat) (fd : Hist) : M := m1 ++ (rs.map rO ++ [.lst (refs L rs.length), rO fd])
theorem ordM_row {m1 : M} {rs : List Hist} {L : Nat} {fd r : Hist} {j : Nat} (hj : rs[j]? = some r) : (ordM m1 rs L fd)[m1.length + j]? = some (rO r) := by
  have hl := (List.getElem?_eq_some_iff.mp hj).1
  unfold ordM
  rw [List.getElem?_append_right (by omega), show m1.length + j - m1.length = j by omega, List.getElem?_append_left (by rw [List.length_map]; exact hl), List.getElem?_map, hj]
  rfl
theorem ordM_refs {m1 : M} {rs : List Hist} {L : Nat} {fd : Hist} : (ordM m1 rs L fd)[m1.length + rs.length]? = some (.lst (refs L rs.length)) := by
  unfold ordM
  rw [List.getElem?_append_right (by omega), show m1.length + rs.length - m1.length = rs.length by omega, List.getElem?_append_right (by rw [List.length_map]; omega), List.length_map, Nat.sub_self]
  rfl
theorem ordM_fd {m1 : M} {rs : List Hist} {L : Nat} {fd : Hist} : (ordM m1 rs L fd)[m1.length + rs.length + 1]? = some (rO fd) := by
  unfold ordM
  rw [List.getElem?_append_right (by omega), show m1.length + rs.length + 1 - m1.length = rs.length + 1 by omega, List.getElem?_append_right (by rw [List.length_map]; omega), List.length_map, show rs.length + 1 - rs.length = 1 by omega]
  rfl
theorem ordM_set {m1 : M} {rs : List Hist} {L : Nat} {fd r : Hist} {j : Nat} (hj : j < rs.length) : (ordM m1 rs L fd).set (m1.length + j) (rO r) = ordM m1 (rs.set j r) L fd := by
  unfold ordM
  rw [List.set_append_right _ _ (by omega), show m1.length + j - m1.length = j by omega, List.set_append_left _ _ (by rw [List.length_map]; exact hj), List.map_set, List.length_set]
theorem ordM_setF {m1 : M} {rs : List Hist} {L : Nat} {fd fd' : Hist} : (ordM m1 rs L fd).set (m1.length + rs.length + 1) (rO fd') = ordM m1 rs L fd' := by
  unfold ordM
  rw [List.set_append_right _ _ (by omega), show m1.length + rs.length + 1 - m1.length = rs.length + 1 by omega, List.set_append_right _ _ (by rw [List.length_map]; omega), List.length_map, show rs.length + 1 - rs.length = 1 by omega]
  rfl
theorem ordM_wf {m1 : M} {rs : List Hist} {fd : Hist} (h : Wf m1) : Wf (ordM m1 rs m1.length fd) := by
  refine wf_apps h fun o ho => ?_
  rw [List.length_append, List.length_map]
  rcases List.mem_append.mp ho with ho | ho
  · obtain ⟨r, _, rfl⟩ := List.mem_map.mp ho
    exact hist_blw r _
  · simp only [List.mem_cons, List.not_mem_nil, or_false] at ho
    rcases ho with rfl | rfl
    · exact refs_blw _ _ _ (by simp)
    · exact hist_blw fd _
theorem ordM_up {n : Nat} {m1 : M} {rs : List Hist} {L : Nat} {fd : Hist} {m' : M} (hn : n < m1.length) (u : Up n (ordM m1 rs L fd) m') : ∃ m2, Up n m1 m2 ∧ m' = ordM m2 rs L fd := by
  obtain ⟨g, z, rfl⟩ := u
  refine ⟨m1.set n (bx g z), ⟨g, z, rfl⟩, ?_⟩
  unfold ordM
  rw [List.set_append_left _ _ hn]
def nonE (m : M) : D → Option D := fun x => match x with
  | .ref k => match m[k]? with
    | some (.lst []) => none
    | _ => some (.ref k)
  | _ => none
theorem nonE_map {m1 : M} {rs : List Hist} {fd : Hist} {x : D} (hx : x ∈ (refs m1.length rs.length).filterMap (nonE (ordM m1 rs m1.length fd))) : ∃ j r, rs[j]? = some r ∧ r ≠ [] ∧ x = .ref (m1.length + j) := by
  obtain ⟨y, hy, e⟩ := List.mem_filterMap.mp hx
  obtain ⟨j, hj, rfl⟩ := List.mem_map.mp hy
  have hj' : j < rs.length := by simpa using hj
  have hr := ordM_row (m1 := m1) (L := m1.length) (fd := fd) (List.getElem?_eq_getElem hj')
  refine ⟨j, rs[j], List.getElem?_eq_getElem hj', fun q => ?_, ?_⟩
  · simp only [nonE, hr, rO, q, List.map_nil] at e
    cases e
  · unfold nonE at e
    simp only [hr, rO] at e
    split at e
    · cases e
    · exact (Option.some.inj e).symm
theorem nonE_ne {m1 : M} {rs : List Hist} {fd : Hist} (h : ∃ r ∈ rs, r ≠ []) : (refs m1.length rs.length).filterMap (nonE (ordM m1 rs m1.length fd)) ≠ [] := by
  obtain ⟨r, hr, hne⟩ := h
  obtain ⟨j, hj⟩ := List.getElem?_of_mem hr
  have hjl := (List.getElem?_eq_some_iff.mp hj).1
  have hrow := ordM_row (m1 := m1) (L := m1.length) (fd := fd) hj
  refine List.ne_nil_of_mem (a := .ref (m1.length + j)) (List.mem_filterMap.mpr ⟨.ref (m1.length + j), List.mem_of_getElem? (refs_at hjl), ?_⟩)
  unfold nonE
  simp only [hrow, rO]
  cases r with
  | nil => exact absurd rfl hne
  | cons a t => rfl
theorem num_rows (h : Hist) (hs : Nat) (ok : ∀ p ∈ h, p.1 < hs) : ((List.range hs).map fun j => (rowOf h j).length).sum = h.length := by
  induction h with
  | nil =>
    have : ∀ n : Nat, ((List.range n).map fun j => (rowOf [] j).length).sum = 0 := by
      intro n
      induction n with
      | zero => rfl
      | succ n ih => rw [List.range_succ, List.map_append, List.sum_append, ih]; rfl
    exact this hs
  | cons p t ih =>
    have h1 := ih fun q hq => ok q (List.mem_cons_of_mem _ hq)
    have hp := ok p List.mem_cons_self
    have e : ∀ j, (rowOf (p :: t) j).length = (if p.1 = j then 1 else 0) + (rowOf t j).length := fun j => num1_cons p t j
    have s1 : ∀ n, p.1 < n → ((List.range n).map fun j => (if p.1 = j then 1 else 0) + (rowOf t j).length).sum = 1 + ((List.range n).map fun j => (rowOf t j).length).sum := by
      intro n
      induction n with
      | zero => intro h; omega
      | succ n ihn =>
        intro h
        rw [List.range_succ, List.map_append, List.sum_append, List.map_append, List.sum_append]
        by_cases hpn : p.1 < n
        · rw [ihn hpn]
          have : ¬ p.1 = n := by omega
          simp [this]
          omega
        · have hpe : p.1 = n := by omega
          have s0 : ∀ k, k ≤ n → ((List.range k).map fun j => (if p.1 = j then 1 else 0) + (rowOf t j).length).sum = ((List.range k).map fun j => (rowOf t j).length).sum := by
            intro k
            induction k with
            | zero => intro _; rfl
            | succ k ihk =>
              intro hk
              rw [List.range_succ, List.map_append, List.sum_append, List.map_append, List.sum_append, ihk (by omega)]
              have : ¬ p.1 = k := by omega
              simp [this]
          rw [s0 n (Nat.le_refl _)]
          simp [hpe]
          omega
    have e2 : ((List.range hs).map fun j => (rowOf (p :: t) j).length) = (List.range hs).map fun j => (if p.1 = j then 1 else 0) + (rowOf t j).length := List.map_congr_left fun j _ => e j
    rw [e2, s1 hs hp, h1, List.length_cons]
    omega
end K93

namespace K93
open PySem PyProof.Rows L2 Dl
def compR : FA := fLc (fWalk (fVar 3)) (gN 6) [6] (fGcB (fTest (fOp gNe (fVar 6) (fName (fLst fNil))))) (fVar 6)
theorem comp_rows {m1 : M} {rs : List Hist} {fd : Hist} (hw : Wf m1) (hl : rs.length ≤ 1000) (a0 a1 a2 a4 a5 a6 : Option D) :
    compR [a0, a1, a2, some (.ref (m1.length + rs.length)), a4, a5, a6, none, none] (ordM m1 rs m1.length fd) = .ok ((refs m1.length rs.length).filterMap (nonE (ordM m1 rs m1.length fd))) (ordM m1 rs m1.length fd) := by
  have hR := ordM_refs (m1 := m1) (rs := rs) (L := m1.length) (fd := fd)
  have hwm := ordM_wf (rs := rs) (fd := fd) hw
  generalize hmm : ordM m1 rs m1.length fd = mm at hR hwm
  refine fLc_map (nonE mm) (src := srcL (m1.length + rs.length) (refs m1.length rs.length).length) (by simp [srcK_l hR]) (isL hR rfl) (fun x hx => ?_) (by rw [refs_len, LIM_eq]; omega)
  obtain ⟨j, hj, rfl⟩ := List.mem_map.mp hx
  have hj' : j < rs.length := by simpa using hj
  have hrow := ordM_row (m1 := m1) (L := m1.length) (fd := fd) (List.getElem?_eq_getElem hj')
  rw [hmm] at hrow
  have hlow : m1.length + j < mm.length := (List.getElem?_eq_some_iff.mp hrow).1
  have hne := ne_list (m := mm ++ [O.lst []]) (k := m1.length + j) (l := mm.length) (r := rs[j]) (app_at _ hrow) (at_snoc _ _)
  refine ⟨[a0, a1, a2, some (.ref (m1.length + rs.length)), a4, a5, some (.ref (m1.length + j)), none, none], rfl, ?_⟩
  have ht : (fGcB (fTest (fOp gNe (fVar 6) (fName (fLst fNil))))) [a0, a1, a2, some (.ref (m1.length + rs.length)), a4, a5, some (.ref (m1.length + j)), none, none] mm = .ok (decide (rs[j] ≠ [])) mm := by
    have l0 : 0 ≤ LIM := Nat.zero_le _
    simp only [e_gcB, e_test, e_op, e_var, List.getElem?_cons_succ, List.getElem?_cons_zero, bind_ok, e_name, e_lst, e_nil, List.length_nil, l0, if_true, hne, e_asB]
    exact gcB_junk rfl hwm
  by_cases h0 : rs[j] = []
  · refine .inl ⟨by rw [ht]; simp [h0], ?_⟩
    unfold nonE
    simp only [hrow, rO, h0, List.map_nil]
  · refine .inr ⟨.ref (m1.length + j), by rw [ht]; simp [h0], rfl, ?_⟩
    unfold nonE
    simp only [hrow, rO]
    cases hr : rs[j] with
    | nil => exact absurd hr h0
    | cons a t => rfl
theorem sum_pos {rs : List Hist} (h : 0 < (rs.map List.length).sum) : ∃ r ∈ rs, r ≠ [] := by
  refine Decidable.byContradiction fun q => ?_
  have : ∀ r ∈ rs, r = [] := fun r hr => Decidable.byContradiction fun e => q ⟨r, hr, e⟩
  have z : ∀ rs : List Hist, (∀ r ∈ rs, r = []) → (rs.map List.length).sum = 0 := by
    intro rs
    induction rs with
    | nil => intro _; rfl
    | cons a t ih =>
      intro h
      rw [List.map_cons, List.sum_cons, ih fun r hr => h r (List.mem_cons_of_mem _ hr), h a List.mem_cons_self]
      rfl
  rw [z rs this] at h
  exact absurd h (by omega)
theorem sum_set {rs : List Hist} {j : Nat} {p : Nat × Nat} {r : Hist} (h : rs[j]? = some (p :: r)) : ((rs.set j r).map List.length).sum + 1 = (rs.map List.length).sum := by
  induction rs generalizing j with
  | nil => simp at h
  | cons a t ih =>
    cases j with
    | zero =>
      simp at h
      subst h
      simp only [List.set_cons_zero, List.map_cons, List.sum_cons, List.length_cons]
      omega
    | succ j =>
      have := ih (j := j) (by simpa using h)
      simp only [List.set_cons_succ, List.map_cons, List.sum_cons]
      omega
def pickJ (j : Nat) : D → Option D := fun x => match x with
  | .tup (.int i :: _) => if i = j then some x else none
  | _ => none
theorem pickJ_row (j : Nat) (h : Hist) : (h.map letD).filterMap (pickJ j) = (rowOf h j).map letD := by
  unfold rowOf
  induction h with
  | nil => rfl
  | cons p t ih =>
    rw [List.map_cons, List.filterMap_cons, List.filter_cons]
    by_cases e : p.1 = j
    · subst e
      have : pickJ p.1 (letD p) = some (letD p) := by simp [pickJ, letD, iD]
      simp only [this, BEq.rfl, if_true, List.map_cons, ih]
    · have e' : ¬ ((p.1 : Int) = (j : Int)) := by omega
      have : pickJ j (letD p) = none := by simp only [pickJ, letD, iD]; rw [if_neg e']
      have e2 : (p.1 == j) = false := by simpa using e
      simp only [this, e2, Bool.false_eq_true, if_false, ih]
end K93

namespace K93
open PySem PyProof.Rows L2 Dl
theorem pick_nums {n : Nat} {ρ : Sl} {m m1 : M} {l : List Nat} {fa : FA} (hf : fa ρ m = .ok [.ref n, .ref m1.length] (m1 ++ [.lst (l.map iD)])) (hm : Up n m m1) (hb : Box n m) (hw : Wf m) (h1 : l ≠ []) (h2 : l.length < 1000000) :
    ∃ x m', x ∈ l ∧ Up n m m' ∧ fCall F__law_pick fa ρ m = .ok (iD x) m' := by
  obtain ⟨d, m', hd, u, e⟩ := pick_new hf hm hb hw (by simpa using h1) (by rw [List.length_map]; exact h2) (fun x hx => by
    obtain ⟨k, _, rfl⟩ := List.mem_map.mp hx
    rfl)
  obtain ⟨x, hx, rfl⟩ := List.mem_map.mp hd
  exact ⟨x, m', hx, u, e⟩
theorem up_app {n : Nat} {m1 j m' : M} (hn : n < m1.length) (u : Up n (m1 ++ j) m') : ∃ m2, Up n m1 m2 ∧ m' = m2 ++ j := by
  obtain ⟨g, z, rfl⟩ := u
  exact ⟨m1.set n (bx g z), ⟨g, z, rfl⟩, by rw [List.set_append_left _ _ hn]⟩
theorem take_at {n k : Nat} {m1 j : M} (h : Box n m1) (hk : 1 ≤ k) (hk2 : k < 1000000) : ∃ r m2, r < k ∧ Up n m1 m2 ∧ F__law_take [.ref n, iD k] (m1 ++ j) = .ok (iD r) (m2 ++ j) := by
  obtain ⟨r, m', hr, u, e⟩ := take_up (h.app j) hk hk2
  obtain ⟨m2, u2, rfl⟩ := up_app h.lt u
  exact ⟨r, m2, hr, u2, e⟩
/-- a call of take, whatever stands above -/
theorem ftake {n k : Nat} {m1 j : M} {ρ : Sl} {fk : FE} {i : Nat} (h : Box n m1) (hn : ρ[i]? = some (some (.ref n))) (hf : fk ρ (m1 ++ j) = .ok (iD k) (m1 ++ j)) (hk : 1 ≤ k) (hk2 : k < 1000000) :
    ∃ r m2, r < k ∧ Up n m1 m2 ∧ fCall F__law_take (fCons (fVar i) (fCons fk fNil)) ρ (m1 ++ j) = .ok (iD r) (m2 ++ j) := by
  obtain ⟨r, m2, hr, u, e⟩ := take_at (j := j) h hk hk2
  refine ⟨r, m2, hr, u, ?_⟩
  simp only [e_call, e_cons, e_var, hn, bind_ok, hf, e_nil, e]
  exact gcR_same' _ (by simp [u.len])
def fsO (fs : List (List Nat)) : M := fs.map lO
theorem fsO_blw (fs : List (List Nat)) (L : Nat) : ∀ o ∈ fsO fs, o.blw L = true := fun o ho => by
  obtain ⟨f, _, rfl⟩ := List.mem_map.mp ho
  exact lO_blw _ _
/-- the maps drawn: one list each -/
theorem maps_ok {n many style cnt : Nat} {m : M} {ρ : Sl} {fi : FI} (h : Box n m) (hw : Wf m) (h1 : 1 ≤ many) (h8 : many ≤ 8) (hc : cnt ≤ 1000) (hfi : fi ρ m = .ok (srcR 0 cnt) m) (r0 : (wipeD ρ [11])[0]? = some (some (.ref n))) (r1 : (wipeD ρ [11])[1]? = some (some (iD many))) (r2 : (wipeD ρ [11])[2]? = some (some (iD style))) :
    ∃ (fs : List (List Nat)) (m1 : M), fs.length = cnt ∧ (∀ f ∈ fs, f.length = many ∧ ∀ x ∈ f, x < many) ∧ Up n m m1 ∧ fLc fi (gN 11) [11] fYes (fCall F__law_map (fCons (fVar 0) (fCons (fVar 1) (fCons (fVar 2) fNil)))) ρ m = .ok (refs m.length cnt) (m1 ++ fsO fs) := by
  obtain ⟨acc, m', e, fs, m1, hl, hf, u, rfl, rfl⟩ := fLc_inv (fi := fi) (gt := gN 11) (vs := [11]) (t := fYes) (e := (fCall F__law_map (fCons (fVar 0) (fCons (fVar 1) (fCons (fVar 2) fNil)))))
    (ρ := ρ) (m := m) (src := srcR 0 cnt) (n := cnt) (fun i acc mm => ∃ (fs : List (List Nat)) (m1 : M), fs.length = i ∧ (∀ f ∈ fs, f.length = many ∧ ∀ x ∈ f, x < many) ∧ Up n m m1 ∧ acc = refs m.length i ∧ mm = m1 ++ fsO fs) hfi rfl
    (by
      rintro i acc mm hi ⟨fs, m1, hl, hf, u, rfl, rfl⟩
      have hb1 := u.box h
      have hw1 : Wf (m1 ++ fsO fs) := wf_apps (u.wf hw) fun o ho => fsO_blw _ _ o ho
      obtain ⟨f, m3, hfl, hfx, u3, e3⟩ := map_ok (style := style) (hb1.app (fsO fs)) hw1 h1 h8
      obtain ⟨m2, u2, rfl⟩ := up_app hb1.lt u3
      have g : ∀ k : Nat, k ≠ 11 → ((wipeD ρ [11]).set 11 (some (iD i)))[k]? = (wipeD ρ [11])[k]? := fun k hk => by rw [List.getElem?_set_ne (Ne.symm hk)]
      have hlen : (m2 ++ fsO fs).length = m.length + i := by rw [List.length_append, u2.len, u.len, fsO, List.length_map, hl]
      have hlen1 : (m1 ++ fsO fs).length = (m2 ++ fsO fs).length := by rw [List.length_append, List.length_append, u2.len]
      refine ⟨iD i, (wipeD ρ [11]).set 11 (some (iD i)), by simp [srcR], rfl, .inr ⟨m1 ++ fsO fs, .ref (m.length + i), (m2 ++ fsO fs) ++ [lO f], rfl, ?_, by rw [refs_len, LIM_eq]; omega, fs ++ [f], m2, by simp [hl], fun x hx => ?_, u.trans u2, (refs_succ _ _).symm, by simp [fsO]⟩⟩
      · simp only [e_call, e_cons, e_var, g 0 (by decide), g 1 (by decide), g 2 (by decide), r0, r1, r2, bind_ok, e_nil, e3]
        rw [← hlen]
        exact gcR_new hlen1 (wf_apps ((u.trans u2).wf hw) fun o ho => fsO_blw _ _ o ho) (Nat.le_refl _) (by simp) (lO_blw _ _)
      · rcases List.mem_append.mp hx with hx | hx
        · exact hf x hx
        · have : x = f := by simpa using hx
          rw [this]
          exact ⟨hfl, hfx⟩)
    (fun _ _ _ => rfl) ⟨[], m, rfl, fun x hx => by simp at hx, Up.refl h, rfl, by simp [fsO]⟩
  exact ⟨fs, m1, hl, hf, u, e⟩
def MapsOk (many : Nat) (fs : List (List Nat)) : Prop := ∀ f ∈ fs, f.length = many ∧ ∀ x ∈ f, x < many
/-- the memory of a machine under way -/
def mapM (m1 : M) (fs : List (List Nat)) : M := fsO fs ++ [.lst (refs m1.length fs.length)]
theorem mapM_at {m1 : M} {fs : List (List Nat)} {j : Nat} {f : List Nat} (hj : fs[j]? = some f) : (m1 ++ mapM m1 fs)[m1.length + j]? = some (.lst (f.map iD)) := by
  have hl : j < fs.length := (List.getElem?_eq_some_iff.mp hj).1
  rw [List.getElem?_append_right (by omega), Nat.add_sub_cancel_left]
  unfold mapM
  rw [List.getElem?_append_left (by simp [fsO]; exact hl)]
  unfold fsO
  rw [List.getElem?_map, hj]
  rfl
theorem mapM_refs {m1 : M} {fs : List (List Nat)} : (m1 ++ mapM m1 fs)[m1.length + fs.length]? = some (.lst (refs m1.length fs.length)) := by
  rw [List.getElem?_append_right (by omega), Nat.add_sub_cancel_left]
  unfold mapM
  rw [List.getElem?_append_right (by simp [fsO])]
  simp [fsO]
theorem mapM_set {m1 : M} {fs : List (List Nat)} {j : Nat} {f : List Nat} (hj : j < fs.length) : (m1 ++ mapM m1 fs).set (m1.length + j) (lO f) = m1 ++ mapM m1 (fs.set j f) := by
  rw [List.set_append_right _ _ (by omega), Nat.add_sub_cancel_left]
  unfold mapM
  rw [List.set_append_left _ _ (by simp [fsO]; exact hj), List.length_set]
  unfold fsO
  rw [List.map_set]
theorem MapsOk.set {many : Nat} {fs : List (List Nat)} (h : MapsOk many fs) {j a x : Nat} (hj : j < fs.length) (hx : x < many) : MapsOk many (fs.set j (fs[j].set a x)) := by
  intro f hf
  rcases List.mem_or_eq_of_mem_set hf with hf | hf
  · exact h f hf
  · have h0 := h fs[j] (List.getElem_mem hj)
    subst hf
    refine ⟨by rw [List.length_set]; exact h0.1, fun y hy => ?_⟩
    rcases List.mem_or_eq_of_mem_set hy with hy | hy
    · exact h0.2 y hy
    · rw [hy]; exact hx
def rhoM (n many style k : Nat) (a4 a5 : Option D) : Sl := [some (.ref n), some (iD many), some (iD style), some (.ref k), a4, a5, none, none, none, none, none, none]
noncomputable def bdT : FS := (sSeq (sSet 5 (fOp gIx (fVar 3) (fCall F__law_take (fCons (fVar 0) (fCons (fCB gLen (fCons (fVar 3) fNil)) fNil)))))
 (sSub (fCall F__law_take (fCons (fVar 0) (fCons (fVar 1) fNil))) (fVar 5) (fCall F__law_take (fCons (fVar 0) (fCons (fVar 1) fNil)))))
theorem mapM_up {n : Nat} {m1 m2 : M} (u : Up n m1 m2) (fs : List (List Nat)) : mapM m1 fs = mapM m2 fs := by unfold mapM; rw [u.len]
theorem turn_step {n many style i : Nat} {m1 : M} {fs : List (List Nat)} {a5 : Option D} (h : Box n m1) (h1 : 1 ≤ many) (h8 : many ≤ 8) (hc : 1 ≤ fs.length) (hc6 : fs.length ≤ 6) (hf : MapsOk many fs) :
    ∃ (m2 : M) (fs' : List (List Nat)) (a5' : Option D), Up n m1 m2 ∧ fs'.length = fs.length ∧ MapsOk many fs' ∧
      bdT (rhoM n many style (m1.length + fs.length) (some (iD i)) a5) (m1 ++ mapM m1 fs) = .nx (rhoM n many style (m1.length + fs.length) (some (iD i)) a5') (m2 ++ mapM m2 fs') := by
  let R : Option D → Sl := fun a => rhoM n many style (m1.length + fs.length) (some (iD i)) a
  have hlen : ∀ mm : M, mm[m1.length + fs.length]? = some (.lst (refs m1.length fs.length)) → fCB gLen (fCons (fVar 3) fNil) (R a5) mm = .ok (iD fs.length) mm := fun mm e => by
    simp [R, rhoM, e, refs_len, iD]
  obtain ⟨r, m2, hr, u2, e2⟩ := ftake (j := mapM m1 fs) (ρ := R a5) (i := 0) (fk := fCB gLen (fCons (fVar 3) fNil)) h rfl (hlen _ mapM_refs) hc (by omega)
  have b2 := u2.box h
  have e2' : sSet 5 (fOp gIx (fVar 3) (fCall F__law_take (fCons (fVar 0) (fCons (fCB gLen (fCons (fVar 3) fNil)) fNil)))) (R a5) (m1 ++ mapM m1 fs) = .nx (R (some (.ref (m1.length + r)))) (m2 ++ mapM m1 fs) := by
    have hx : gIx (.ref (m1.length + fs.length)) (.int (r : Int)) (m2 ++ mapM m1 fs) = .ok (.ref (m1.length + r)) (m2 ++ mapM m1 fs) := by
      have := mapM_refs (m1 := m2) (fs := fs)
      rw [← mapM_up u2, u2.len] at this
      rw [e_ixL _ this, at_nat (refs_at hr)]
      rfl
    rw [s_set, e_op]
    simp only [e_var, show (R a5)[3]? = some (some (.ref (m1.length + fs.length))) from rfl, bind_ok, e2, hx, out_ok]
    rfl
  obtain ⟨x, m3, hx, u3, e3⟩ := ftake (j := mapM m1 fs) (ρ := R (some (.ref (m1.length + r)))) (i := 0) (fk := fVar 1) (k := many) b2 rfl rfl h1 (by omega)
  have b3 := u3.box b2
  obtain ⟨a, m4, ha, u4, e4⟩ := ftake (j := mapM m1 fs) (ρ := R (some (.ref (m1.length + r)))) (i := 0) (fk := fVar 1) (k := many) b3 rfl rfl h1 (by omega)
  have u := (u2.trans u3).trans u4
  have hat : (m4 ++ mapM m1 fs)[m1.length + r]? = some (.lst (fs[r].map iD)) := by
    have := mapM_at (m1 := m4) (List.getElem?_eq_getElem hr)
    rw [← mapM_up u, u.len] at this
    exact this
  have hfl := (hf fs[r] (List.getElem_mem hr)).1
  have e5 := sub_ok (f := fCall F__law_take (fCons (fVar 0) (fCons (fVar 1) fNil))) (fo := fVar 5) (fi := fCall F__law_take (fCons (fVar 0) (fCons (fVar 1) fNil))) (ρ := R (some (.ref (m1.length + r)))) (j := a) e3 rfl e4 hat (ixN_nat (by rw [List.length_map]; omega))
  refine ⟨m4, fs.set r (fs[r].set a x), some (.ref (m1.length + r)), u, by simp, hf.set hr hx, ?_⟩
  have hset : (m4 ++ mapM m1 fs).set (m1.length + r) (.lst ((fs[r].map iD).set a (iD x))) = m4 ++ mapM m4 (fs.set r (fs[r].set a x)) := by
    have := mapM_set (m1 := m4) (f := fs[r].set a x) hr
    rw [← mapM_up u, u.len] at this
    rw [← this]
    unfold lO
    rw [List.map_set]
  rw [← hset]
  unfold bdT
  rw [s_seq]
  show seqK (sSet 5 _ (R a5) _) _ = _
  rw [e2', seqK_nx]
  exact e5
theorem turns_ok {n many style cnt : Nat} (t : Nat) {m1 : M} {fs : List (List Nat)} {a4 a5 : Option D} (h : Box n m1) (h1 : 1 ≤ many) (h8 : many ≤ 8) (hc : fs.length = cnt) (hc1 : 1 ≤ cnt) (hc6 : cnt ≤ 6) (hf : MapsOk many fs) :
    ∃ (m2 : M) (fs' : List (List Nat)) (b4 b5 : Option D), Up n m1 m2 ∧ fs'.length = cnt ∧ MapsOk many fs' ∧
      forL (srcR 0 t) (gN 4) bdT t 0 (rhoM n many style (m1.length + cnt) a4 a5) (m1 ++ mapM m1 fs) = .nx (rhoM n many style (m1.length + cnt) b4 b5) (m2 ++ mapM m2 fs') := by
  obtain ⟨ρ', m', e, m2, fs', b4, b5, u, hl, hf', rfl, rfl⟩ := forL_inv (src := srcR 0 t) (n := t) (gt := gN 4) (body := bdT)
    (fun i ρ mm => ∃ (m2 : M) (fs' : List (List Nat)) (b4 b5 : Option D), Up n m1 m2 ∧ fs'.length = cnt ∧ MapsOk many fs' ∧ ρ = rhoM n many style (m1.length + cnt) b4 b5 ∧ mm = m2 ++ mapM m2 fs') rfl
    (by
      rintro i ρ mm hi ⟨m2, fs', b4, b5, u, hl, hf', rfl, rfl⟩
      obtain ⟨m3, fs3, a5', u3, hl3, hf3, e3⟩ := turn_step (style := style) (i := i) (a5 := b5) (u.box h) h1 h8 (by omega) (by omega) hf'
      rw [hl, u.len] at e3
      exact ⟨iD i, _, _, _, by simp [srcR], rfl, e3, m3, fs3, some (iD i), a5', u.trans u3, by omega, hf3, rfl, rfl⟩)
    (fun _ _ _ => rfl) t 0 (rhoM n many style (m1.length + cnt) a4 a5) (m1 ++ mapM m1 fs) (by omega) ⟨m1, fs, a4, a5, Up.refl h, hc, hf, rfl, rfl⟩
  exact ⟨m2, fs', b4, b5, u, hl, hf', e⟩
theorem pop_ok {xs : List D} {r : Nat} (m : M) (hr : r < xs.length) (h6 : r < 1000000) : mPop0 m xs [.int (r : Int)] = some (xs[r], xs.eraseIdx r) := by
  cases r with
  | zero =>
    cases xs with
    | nil => simp at hr
    | cons x t => rfl
  | succ k =>
    have h1 : (0 : Int) ≤ ((k + 1 : Nat) : Int) ∧ ((k + 1 : Nat) : Int) < 1000000 := by omega
    have e : mPop0 m xs [.int ((k + 1 : Nat) : Int)] = if 0 ≤ ((k + 1 : Nat) : Int) ∧ ((k + 1 : Nat) : Int) < 1000000 then match xs[((k + 1 : Nat) : Int).toNat]? with
      | some x => some (x, xs.eraseIdx ((k + 1 : Nat) : Int).toNat)
      | none => none
    else none := by
      unfold mPop0
      split
      · rename_i q
        injection q with q _
        injection q with q
        omega
      · rename_i q
        injection q with q _
        injection q with q
        subst q
        rfl
      · rename_i q1 q2
        exact absurd rfl (q2 _)
    rw [e, if_pos h1, Int.toNat_natCast, List.getElem?_eq_getElem hr]
theorem erase_map {α β : Type} (f : α → β) : ∀ (l : List α) (r : Nat), (l.map f).eraseIdx r = (l.eraseIdx r).map f
  | [], _ => rfl
  | _ :: _, 0 => rfl
  | x :: t, r + 1 => by
    show f x :: (t.map f).eraseIdx r = f x :: (t.eraseIdx r).map f
    rw [erase_map f t r]
/-- names drawn out of what is left -/
noncomputable def bdN : FS := (sDrop (fMeth mAppend (fVar 7) (fCons (fMeth mPop0 (fVar 6) (fCons (fIf (fTest (fOp gLt (fVar 2) (fC (.int 3)))) (fCall F__law_take (fCons (fVar 0) (fCons (fCB gLen (fCons (fVar 6) fNil)) fNil))) (fC (.int 0))) fNil)) fNil)))
def rhoN (n many style k p : Nat) (a4 a5 : Option D) : Sl := [some (.ref n), some (iD many), some (iD style), some (.ref k), a4, a5, some (.ref p), some (.ref (p + 1)), none, none, none, none]
theorem name_step {n many style k i : Nat} {m1 J : M} {lf nm : List Nat} {a5 : Option D} (h : Box n m1) (hl : 1 ≤ lf.length) (hl8 : lf.length ≤ 8) (hn8 : nm.length ≤ 8) :
    ∃ (m2 : M) (r : Nat) (hr : r < lf.length), Up n m1 m2 ∧ bdN (rhoN n many style k (m1.length + J.length) (some (iD i)) a5) (m1 ++ (J ++ [lO lf, lO nm])) = .nx (rhoN n many style k (m1.length + J.length) (some (iD i)) a5) (m2 ++ (J ++ [lO (lf.eraseIdx r), lO (nm ++ [lf[r]])])) := by
  let R : Sl := rhoN n many style k (m1.length + J.length) (some (iD i)) a5
  have at6 : ∀ (mm : M) (o q : O), mm.length = m1.length → (mm ++ (J ++ [o, q]))[m1.length + J.length]? = some o := fun mm o q e => by
    rw [List.getElem?_append_right (by omega), List.getElem?_append_right (by omega)]
    simp [e]
  have at7 : ∀ (mm : M) (o q : O), mm.length = m1.length → (mm ++ (J ++ [o, q]))[m1.length + J.length + 1]? = some q := fun mm o q e => by
    rw [List.getElem?_append_right (by omega), List.getElem?_append_right (by omega)]
    simp [e, show m1.length + J.length + 1 - m1.length - J.length = 1 by omega]
  have draw : ∃ (m2 : M) (r : Nat), r < lf.length ∧ Up n m1 m2 ∧ (fIf (fTest (fOp gLt (fVar 2) (fC (.int 3)))) (fCall F__law_take (fCons (fVar 0) (fCons (fCB gLen (fCons (fVar 6) fNil)) fNil))) (fC (.int 0))) R (m1 ++ (J ++ [lO lf, lO nm])) = .ok (iD r) (m2 ++ (J ++ [lO lf, lO nm])) := by
    by_cases hs : (style : Int) < 3
    · have hlen : fCB gLen (fCons (fVar 6) fNil) R (m1 ++ (J ++ [lO lf, lO nm])) = .ok (iD lf.length) (m1 ++ (J ++ [lO lf, lO nm])) := by
        have := at6 m1 (lO lf) (lO nm) rfl
        simp [R, rhoN, this, lO, iD]
      obtain ⟨r, m2, hr, u2, e2⟩ := ftake (j := J ++ [lO lf, lO nm]) (ρ := R) (i := 0) (fk := fCB gLen (fCons (fVar 6) fNil)) h rfl hlen hl (by omega)
      refine ⟨m2, r, hr, u2, ?_⟩
      rw [e_if]
      have : fTest (fOp gLt (fVar 2) (fC (.int 3))) R (m1 ++ (J ++ [lO lf, lO nm])) = .ok true (m1 ++ (J ++ [lO lf, lO nm])) := by
        simp [R, rhoN, iD, hs]
      rw [this, bind_ok, if_pos rfl, e2]
    · refine ⟨m1, 0, hl, Up.refl h, ?_⟩
      rw [e_if]
      have : fTest (fOp gLt (fVar 2) (fC (.int 3))) R (m1 ++ (J ++ [lO lf, lO nm])) = .ok false (m1 ++ (J ++ [lO lf, lO nm])) := by
        simp [R, rhoN, iD]
        omega
      rw [this, bind_ok]
      rfl
  obtain ⟨m2, r, hr, u2, e2⟩ := draw
  refine ⟨m2, r, hr, u2, ?_⟩
  have l2 := u2.len
  have set6 : ∀ o q o' : O, (m2 ++ (J ++ [o, q])).set (m1.length + J.length) o' = m2 ++ (J ++ [o', q]) := fun o q o' => by
    rw [List.set_append_right _ _ (by omega), List.set_append_right _ _ (by omega)]
    simp [l2]
  have set7 : ∀ o q q' : O, (m2 ++ (J ++ [o, q])).set (m1.length + J.length + 1) q' = m2 ++ (J ++ [o, q']) := fun o q q' => by
    rw [List.set_append_right _ _ (by omega), List.set_append_right _ _ (by omega)]
    simp [l2, show m1.length + J.length + 1 - m1.length - J.length = 1 by omega]
  have hr' : r < (lf.map iD).length := by rw [List.length_map]; exact hr
  have e3 := meth_ok (g := mPop0) (fo := fVar 6) (fa := (fCons (fIf (fTest (fOp gLt (fVar 2) (fC (.int 3)))) (fCall F__law_take (fCons (fVar 0) (fCons (fCB gLen (fCons (fVar 6) fNil)) fNil))) (fC (.int 0))) fNil)) (ρ := R) (m := m1 ++ (J ++ [lO lf, lO nm])) (n := m1.length + J.length) (as := [.int (r : Int)])
    rfl (at6 m1 _ _ rfl) (by simp only [e_cons, e2, bind_ok, e_nil]; rfl) (at6 m2 _ _ l2) (pop_ok _ hr' (by omega))
  have he : O.lst ((lf.map iD).eraseIdx r) = lO (lf.eraseIdx r) := by
    unfold lO
    congr 1
    exact erase_map iD lf r
  rw [set6, he, List.getElem_map] at e3
  have e4 := meth_ok (g := mAppend) (fo := fVar 7) (fa := (fCons (fMeth mPop0 (fVar 6) (fCons (fIf (fTest (fOp gLt (fVar 2) (fC (.int 3)))) (fCall F__law_take (fCons (fVar 0) (fCons (fCB gLen (fCons (fVar 6) fNil)) fNil))) (fC (.int 0))) fNil)) fNil)) (ρ := R) (m := m1 ++ (J ++ [lO lf, lO nm])) (m1 := m1 ++ (J ++ [lO lf, lO nm])) (m2 := m2 ++ (J ++ [lO (lf.eraseIdx r), lO nm])) (n := m1.length + J.length + 1) (xs0 := nm.map iD) (xs := nm.map iD) (as := [iD lf[r]]) (d := .non) (ys := nm.map iD ++ [iD lf[r]])
    rfl (at7 m1 _ _ rfl) (by simp only [e_cons, e3, bind_ok, e_nil]) (at7 m2 _ _ l2) (by
      unfold mAppend
      rw [List.length_map]
      exact if_pos (by rw [LIM_eq]; omega))
  have hq : O.lst (nm.map iD ++ [iD lf[r]]) = lO (nm ++ [lf[r]]) := by unfold lO; rw [List.map_append]; rfl
  rw [set7, hq] at e4
  unfold bdN
  rw [s_drop]
  show (fMeth mAppend _ _ R _).out R (fun _ m' => Out.nx R m') = _
  rw [e4]
  rfl
theorem names_ok {n many style k : Nat} {m1 J : M} {a4 a5 : Option D} (h : Box n m1) (h1 : 1 ≤ many) (h8 : many ≤ 8) :
    ∃ (m2 : M) (nm : List Nat) (lf : List Nat) (b4 : Option D), Up n m1 m2 ∧ nm.length = many ∧ (∀ x ∈ nm, x < many) ∧
      forL (srcR 0 many) (gN 4) bdN many 0 (rhoN n many style k (m1.length + J.length) a4 a5) (m1 ++ (J ++ [lO (List.range many), lO []])) = .nx (rhoN n many style k (m1.length + J.length) b4 a5) (m2 ++ (J ++ [lO lf, lO nm])) := by
  obtain ⟨ρ', m', e, m2, lf, nm, b4, u, hl, hn, hlf, hnm, rfl, rfl⟩ := forL_inv (src := srcR 0 many) (n := many) (gt := gN 4) (body := bdN)
    (fun i ρ mm => ∃ (m2 : M) (lf nm : List Nat) (b4 : Option D), Up n m1 m2 ∧ lf.length = many - i ∧ nm.length = i ∧ (∀ x ∈ lf, x < many) ∧ (∀ x ∈ nm, x < many) ∧ ρ = rhoN n many style k (m1.length + J.length) b4 a5 ∧ mm = m2 ++ (J ++ [lO lf, lO nm])) rfl
    (by
      rintro i ρ mm hi ⟨m2, lf, nm, b4, u, hl, hn, hlf, hnm, rfl, rfl⟩
      obtain ⟨m3, r, hr, u3, e3⟩ := name_step (n := n) (many := many) (style := style) (k := k) (i := i) (J := J) (lf := lf) (nm := nm) (a5 := a5) (u.box h) (by omega) (by omega) (by omega)
      rw [u.len] at e3
      refine ⟨iD i, _, _, _, by simp [srcR], rfl, e3, m3, _, _, some (iD i), u.trans u3, by rw [List.length_eraseIdx_of_lt hr]; omega, by simp [hn], fun x hx => hlf x (List.mem_of_mem_eraseIdx hx), fun x hx => ?_, rfl, rfl⟩
      rcases List.mem_append.mp hx with hx | hx
      · exact hnm x hx
      · have : x = lf[r] := by simpa using hx
        rw [this]
        exact hlf _ (List.getElem_mem hr))
    (fun _ _ _ => rfl) many 0 (rhoN n many style k (m1.length + J.length) a4 a5) (m1 ++ (J ++ [lO (List.range many), lO []])) (by omega) ⟨m1, List.range many, [], a4, Up.refl h, by simp, rfl, fun x hx => List.mem_range.mp hx, fun x hx => by simp at hx, rfl, rfl⟩
  exact ⟨m2, nm, lf, b4, u, hn, hnm, e⟩
end K93

namespace K93
open PySem PyProof.Rows L2 Dl
/-- one map by the names -/
def named (nm f : List Nat) (many : Nat) : List Nat := (List.range many).foldl (fun made b => made.set (nm.getD b 0) (nm.getD (f.getD b 0) 0)) (List.replicate many 0)
theorem named_len (nm f : List Nat) (many : Nat) : (named nm f many).length = many := by
  unfold named
  have : ∀ (l : List Nat) (a : List Nat), (l.foldl (fun made b => made.set (nm.getD b 0) (nm.getD (f.getD b 0) 0)) a).length = a.length := by
    intro l
    induction l with
    | nil => intro a; rfl
    | cons x t ih => intro a; rw [List.foldl_cons, ih, List.length_set]
  rw [this, List.length_replicate]
theorem named_lt {nm f : List Nat} {many : Nat} (h1 : 1 ≤ many) (hn : ∀ x ∈ nm, x < many) : ∀ x ∈ named nm f many, x < many := by
  unfold named
  have hg : ∀ k, nm.getD k 0 < many := fun k => by
    rw [List.getD_eq_getElem?_getD]
    cases hk : nm[k]? with
    | none => exact h1
    | some y => exact hn y (List.mem_of_getElem? hk)
  have : ∀ (l : List Nat) (a : List Nat), (∀ x ∈ a, x < many) → ∀ x ∈ l.foldl (fun made b => made.set (nm.getD b 0) (nm.getD (f.getD b 0) 0)) a, x < many := by
    intro l
    induction l with
    | nil => intro a h; exact h
    | cons y t ih =>
      intro a h
      rw [List.foldl_cons]
      refine ih _ fun x hx => ?_
      rcases List.mem_or_eq_of_mem_set hx with hx | hx
      · exact h x hx
      · rw [hx]; exact hg _
  exact this _ _ fun x hx => by rw [List.eq_of_mem_replicate hx]; exact h1
def bdB : FS := (sSub (fOp gIx (fVar 7) (fOp gIx (fVar 5) (fVar 10))) (fVar 9) (fOp gIx (fVar 7) (fVar 10)))
theorem inner_ok {many rw' q P : Nat} {nm f : List Nat} {mm : M} {a0 a2 a3 a4 a6 a8 a10 : Option D} (h1 : 1 ≤ many) (hn : nm.length = many) (hnl : ∀ x ∈ nm, x < many) (hf : f.length = many) (hfl : ∀ x ∈ f, x < many)
    (e5 : mm[rw']? = some (lO f)) (e7 : mm[q]? = some (lO nm)) (e9 : mm[P]? = some (lO (List.replicate many 0))) (n5 : P ≠ rw') (n7 : P ≠ q) :
    ∃ b10 : Option D, forL (srcR 0 many) (gN 10) bdB many 0 [a0, some (iD many), a2, a3, a4, some (.ref rw'), a6, some (.ref q), a8, some (.ref P), a10, none] mm = .nx [a0, some (iD many), a2, a3, a4, some (.ref rw'), a6, some (.ref q), a8, some (.ref P), b10, none] (mm.set P (lO (named nm f many))) := by
  let mk : Nat → List Nat := fun i => (List.range i).foldl (fun made b => made.set (nm.getD b 0) (nm.getD (f.getD b 0) 0)) (List.replicate many 0)
  have mkl : ∀ i, (mk i).length = many := by
    intro i
    have : ∀ (l : List Nat) (a : List Nat), (l.foldl (fun made b => made.set (nm.getD b 0) (nm.getD (f.getD b 0) 0)) a).length = a.length := by
      intro l
      induction l with
      | nil => intro a; rfl
      | cons x t ih => intro a; rw [List.foldl_cons, ih, List.length_set]
    exact (this (List.range i) (List.replicate many 0)).trans (List.length_replicate)
  have hP : P < mm.length := (List.getElem?_eq_some_iff.mp e9).1
  obtain ⟨ρ', m', e, b10, rfl, rfl⟩ := forL_inv (src := srcR 0 many) (n := many) (gt := gN 10) (body := bdB)
    (fun i ρ m2 => ∃ b10 : Option D, ρ = [a0, some (iD many), a2, a3, a4, some (.ref rw'), a6, some (.ref q), a8, some (.ref P), b10, none] ∧ m2 = mm.set P (lO (mk i))) rfl
    (by
      rintro i ρ m2 hi ⟨b10, rfl, rfl⟩
      have g5 : (mm.set P (lO (mk i)))[rw']? = some (.lst (f.map iD)) := by rw [List.getElem?_set_ne n5]; exact e5
      have g7 : (mm.set P (lO (mk i)))[q]? = some (.lst (nm.map iD)) := by rw [List.getElem?_set_ne n7]; exact e7
      have g9 : (mm.set P (lO (mk i)))[P]? = some (.lst ((mk i).map iD)) := by rw [List.getElem?_set_self hP]; rfl
      have at' : ∀ {k j : Nat} {l : List Nat}, (mm.set P (lO (mk i)))[k]? = some (.lst (l.map iD)) → j < l.length → gIx (.ref k) (.int (j : Int)) (mm.set P (lO (mk i))) = .ok (iD (l.getD j 0)) (mm.set P (lO (mk i))) := by
        intro k j l hk hj
        rw [e_ixL _ hk, at_nat (x := iD (l.getD j 0)) (by rw [List.getElem?_map, List.getD_eq_getElem?_getD, List.getElem?_eq_getElem hj]; rfl)]
        rfl
      have hfi : f.getD i 0 < many := by
        rw [List.getD_eq_getElem?_getD, List.getElem?_eq_getElem (by omega)]
        exact hfl _ (List.getElem_mem _)
      have hni : nm.getD i 0 < many := by
        rw [List.getD_eq_getElem?_getD, List.getElem?_eq_getElem (by omega)]
        exact hnl _ (List.getElem_mem _)
      have x1 := at' (j := i) g5 (by omega)
      have x2 := at' (j := f.getD i 0) g7 (by omega)
      have x3 := at' (j := i) g7 (by omega)
      have es := sub_ok (f := fOp gIx (fVar 7) (fOp gIx (fVar 5) (fVar 10))) (fo := fVar 9) (fi := fOp gIx (fVar 7) (fVar 10)) (ρ := [a0, some (iD many), a2, a3, a4, some (.ref rw'), a6, some (.ref q), a8, some (.ref P), some (iD i), none]) (m := mm.set P (lO (mk i))) (m1 := mm.set P (lO (mk i))) (m2 := mm.set P (lO (mk i))) (m3 := mm.set P (lO (mk i))) (d := iD (nm.getD (f.getD i 0) 0)) (n := P) (j := nm.getD i 0) (k := ((nm.getD i 0 : Nat) : Int)) (xs := (mk i).map iD)
        (by simp only [e_op, e_var, List.getElem?_cons_zero, List.getElem?_cons_succ, bind_ok, x1, x2]) rfl
        (by simp only [e_op, e_var, List.getElem?_cons_zero, List.getElem?_cons_succ, bind_ok, x3]) g9 (ixN_nat (by rw [List.length_map, mkl]; omega))
      refine ⟨iD i, _, _, _, by simp [srcR], rfl, es, some (iD i), rfl, ?_⟩
      rw [List.set_set]
      congr 1
      have : mk (i + 1) = (mk i).set (nm.getD i 0) (nm.getD (f.getD i 0) 0) := by
        simp only [mk, List.range_succ, List.foldl_append, List.foldl_cons, List.foldl_nil]
      rw [this]
      unfold lO
      rw [List.map_set])
    (fun _ _ _ => rfl) many 0 [a0, some (iD many), a2, a3, a4, some (.ref rw'), a6, some (.ref q), a8, some (.ref P), a10, none] mm (by omega) ⟨a10, rfl, by
      obtain ⟨h, e⟩ := List.getElem?_eq_some_iff.mp e9
      show mm = mm.set P (lO (List.replicate many 0))
      rw [← e]
      simp⟩
  exact ⟨b10, e⟩
noncomputable def bdF : FS := (sSeq (sSet 9 (fOp gMul (fName (fLst (fCons (fC (.int 0)) fNil))) (fVar 1)))
 (sSeq (sFor (fRng1 (fVar 1)) (gN 10) bdB)
 (sDrop (fMeth mAppend (fVar 8) (fCons (fCB gTuple (fCons (fVar 9) fNil)) fNil)))))
theorem mul_zero {m : M} {many : Nat} (h8 : many ≤ 1000) : gMul (.ref m.length) (.int (many : Int)) (m ++ [lO [0]]) = .ok (.ref (m.length + 1)) (m ++ [lO [0], lO (List.replicate many 0)]) := by
  have e : (m ++ [lO [0]])[m.length]? = some (.lst [iD 0]) := at_snoc _ _
  show (match (m ++ [lO [0]])[m.length]? with
    | some (.lst xs) => if 0 ≤ (many : Int) ∧ (many : Int) ≤ 1000 ∧ xs.length ≤ 100 then Res.ok (D.ref (m ++ [lO [0]]).length) ((m ++ [lO [0]]) ++ [O.lst (List.replicate (many : Int).toNat xs).flatten]) else .bad
    | _ => .bad) = _
  rw [e]
  simp only
  rw [if_pos ⟨by omega, by omega, by simp⟩, Int.toNat_natCast]
  have : (List.replicate many [iD 0]).flatten = (List.replicate many 0).map iD := by
    induction many with
    | zero => rfl
    | succ k ih => rw [List.replicate_succ, List.flatten_cons, ih (by omega), List.replicate_succ, List.map_cons]; rfl
  rw [this]
  simp [lO]
theorem found_step {many R q : Nat} {nm f : List Nat} {ds : List (List Nat)} {base j : M} {a0 a2 a3 a4 a6 a9 a10 : Option D} (h1 : 1 ≤ many) (h8 : many ≤ 8) (hn : nm.length = many) (hnl : ∀ x ∈ nm, x < many) (hf : f.length = many) (hfl : ∀ x ∈ f, x < many)
    (eR : base[R]? = some (lO f)) (eq : base[q]? = some (lO nm)) (hds : ds.length ≤ 1000) :
    ∃ (b9 b10 : Option D) (j' : M), bdF [a0, some (iD many), a2, a3, a4, some (.ref R), a6, some (.ref q), some (.ref base.length), a9, a10, none] (base ++ (.lst (ds.map tI) :: j)) = .nx [a0, some (iD many), a2, a3, a4, some (.ref R), a6, some (.ref q), some (.ref base.length), b9, b10, none] (base ++ (.lst ((ds ++ [named nm f many]).map tI) :: j')) := by
  let mm : M := base ++ (.lst (ds.map tI) :: j)
  have s9 : sSet 9 (fOp gMul (fName (fLst (fCons (fC (.int 0)) fNil))) (fVar 1)) [a0, some (iD many), a2, a3, a4, some (.ref R), a6, some (.ref q), some (.ref base.length), a9, a10, none] mm = .nx [a0, some (iD many), a2, a3, a4, some (.ref R), a6, some (.ref q), some (.ref base.length), some (.ref (mm.length + 1)), a10, none] (mm ++ [lO [0], lO (List.replicate many 0)]) := by
    have l1 : 1 ≤ LIM := by rw [LIM_eq]; omega
    have hm := mul_zero (m := mm) (many := many) (by omega)
    have e0 : fName (fLst (fCons (fC (.int 0)) fNil)) [a0, some (iD many), a2, a3, a4, some (.ref R), a6, some (.ref q), some (.ref base.length), a9, a10, none] mm = .ok (.ref mm.length) (mm ++ [lO [0]]) := by
      simp [l1, lO, iD]
    rw [s_set, e_op, e0]
    simp only [bind_ok, e_var, List.getElem?_cons_zero, List.getElem?_cons_succ]
    rw [hm]
    rfl
  have up : ∀ {k : Nat} {o : O} (j' : M), base[k]? = some o → (mm ++ j')[k]? = some o := fun j' h => app_at j' (app_at _ h)
  have hR : R < base.length := (List.getElem?_eq_some_iff.mp eR).1
  have hq : q < base.length := (List.getElem?_eq_some_iff.mp eq).1
  have hmm : base.length < mm.length := by simp [mm]
  obtain ⟨b10, e10⟩ := inner_ok (a0 := a0) (a2 := a2) (a3 := a3) (a4 := a4) (a6 := a6) (a8 := some (.ref base.length)) (a10 := a10) (mm := mm ++ [lO [0], lO (List.replicate many 0)]) (rw' := R) (q := q) (P := mm.length + 1) h1 hn hnl hf hfl (up _ eR) (up _ eq) (by
    rw [List.getElem?_append_right (by omega)]
    simp) (by omega) (by omega)
  have hset : (mm ++ [lO [0], lO (List.replicate many 0)]).set (mm.length + 1) (lO (named nm f many)) = mm ++ [lO [0], lO (named nm f many)] := by
    rw [List.set_append_right _ _ (by omega)]
    simp
  rw [hset] at e10
  have hr := rngK_n (k := many) (by rw [LIM_eq]; omega) (mm ++ [lO [0], lO (List.replicate many 0)])
  have hF : (mm ++ [lO [0], lO (named nm f many)])[base.length]? = some (.lst (ds.map tI)) := app_at _ (by simp [mm])
  have hP : (mm ++ [lO [0], lO (named nm f many)])[mm.length + 1]? = some (.lst ((named nm f many).map iD)) := by
    rw [List.getElem?_append_right (by omega)]
    simp [lO]
  have hT : (fCons (fCB gTuple (fCons (fVar 9) fNil)) fNil) [a0, some (iD many), a2, a3, a4, some (.ref R), a6, some (.ref q), some (.ref base.length), some (.ref (mm.length + 1)), b10, none] (mm ++ [lO [0], lO (named nm f many)]) = .ok [tI (named nm f many)] (mm ++ [lO [0], lO (named nm f many)]) := by
    simp [lO, tI]
  have e11 := meth_ok (g := mAppend) (fo := fVar 8) (fa := (fCons (fCB gTuple (fCons (fVar 9) fNil)) fNil)) (ρ := [a0, some (iD many), a2, a3, a4, some (.ref R), a6, some (.ref q), some (.ref base.length), some (.ref (mm.length + 1)), b10, none]) (n := base.length) (d := .non) (ys := ds.map tI ++ [tI (named nm f many)]) rfl hF hT hF (by
    unfold mAppend
    rw [List.length_map]
    exact if_pos (by rw [LIM_eq]; omega))
  refine ⟨some (.ref (mm.length + 1)), b10, j ++ [lO [0], lO (named nm f many)], ?_⟩
  unfold bdF
  rw [s_seq]
  show seqK (sSet 9 _ _ mm) _ = _
  rw [s9, seqK_nx, s_seq, s_for]
  have hrf : fRng1 (fVar 1) [a0, some (iD many), a2, a3, a4, some (.ref R), a6, some (.ref q), some (.ref base.length), some (.ref (mm.length + 1)), a10, none] (mm ++ [lO [0], lO (List.replicate many 0)]) = .ok (srcR 0 many) (mm ++ [lO [0], lO (List.replicate many 0)]) := by
    simp [hr]
  rw [hrf, out_ok]
  show seqK (forL (srcR 0 many) (gN 10) bdB many 0 _ _) _ = _
  rw [e10, seqK_nx, s_drop, e11, out_ok]
  simp [mm]
end K93

namespace K93
open PySem PyProof.Rows L2 Dl
/-- all maps by the names -/
theorem founds_w {many L cnt q k : Nat} {nm : List Nat} {fs : List (List Nat)} {base : M} {a0 a2 a4 a5 a6 a9 a10 : Option D} {E : Pst} (h1 : 1 ≤ many) (h8 : many ≤ 8) (hn : nm.length = many) (hnl : ∀ x ∈ nm, x < many) (hfs : MapsOk many fs) (hc : fs.length = cnt) (h6 : cnt ≤ 6)
    (ef : ∀ j f, fs[j]? = some f → base[L + j]? = some (lO f)) (er : base[k]? = some (.lst (refs L cnt))) (eq : base[q]? = some (lO nm))
    (he : ∀ b5 b9 b10 j, E.nx [a0, some (iD many), a2, some (.ref k), a4, b5, a6, some (.ref q), some (.ref base.length), b9, b10, none] (base ++ (.lst ((fs.map fun f => named nm f many).map tI) :: j))) :
    OW (forL (srcL k cnt) (gN 5) bdF cnt 0 [a0, some (iD many), a2, some (.ref k), a4, a5, a6, some (.ref q), some (.ref base.length), a9, a10, none] (base ++ [.lst []])) E := by
  have hk : k < base.length := (List.getElem?_eq_some_iff.mp er).1
  refine for_l (List.range cnt) (fun i => .ref (L + i)) (by simp) (by simp) [5, 9, 10] (fun pre vs m => ∃ a b c j, vs = [a, b, c] ∧ m = base ++ (.lst (((fs.take pre.length).map fun f => named nm f many).map tI) :: j)) ?_ ?_ ?_ ?_
  · exact ⟨_, _, _, [], rfl, by simp⟩
  · rintro pre vs m ⟨a, b, c, j, rfl, rfl⟩
    rw [List.getElem?_append_left hk, er]
    rfl
  · rintro pre i post vs m hl ⟨a, b, c, j, rfl, rfl⟩
    have hi : i = pre.length ∧ pre.length < cnt := by
      have h := congrArg (fun l => l[pre.length]?) hl
      have hlen := congrArg List.length hl
      simp at h hlen
      rw [List.getElem?_eq_some_iff] at h
      obtain ⟨h2, h3⟩ := h
      simp at h2 h3
      exact ⟨by omega, by omega⟩
    obtain ⟨hi, hp⟩ := hi
    subst hi
    have hg := List.getElem?_eq_getElem (l := fs) (i := pre.length) (by omega)
    have hf := hfs _ (List.getElem_mem (l := fs) (n := pre.length) (by omega))
    obtain ⟨b9, b10, j', e⟩ := found_step (a0 := a0) (a2 := a2) (a3 := some (.ref k)) (a4 := a4) (a6 := a6) (a9 := b) (a10 := c) (j := j) (ds := (fs.take pre.length).map fun f => named nm f many) h1 h8 hn hnl hf.1 hf.2 (ef _ _ hg) eq (by simp; omega)
    simp only [bodyAt_n, upd_cons, upd_nil, List.set]
    rw [e]
    refine ⟨[some (.ref (L + pre.length)), b9, b10], rfl, _, _, _, j', rfl, ?_⟩
    rw [List.length_append, List.length_singleton, ← List.take_append_getElem (show pre.length < fs.length by omega), List.map_append (l₁ := List.take _ _)]
    rfl
  · rintro vs m ⟨a, b, c, j, rfl, rfl⟩
    rw [List.length_range, List.take_of_length_le (by omega)]
    exact he _ _ _ _
theorem fsO_len (fs : List (List Nat)) : (fsO fs).length = fs.length := by simp [fsO]
theorem machine_ok {n : Nat} {m : M} (h : Box n m) (hw : Wf m) : ∃ (mc : Mach) (b : Nat) (m' : M), mc.Ok b ∧ Up n m m' ∧ F__law_machine [.ref n] m = .ok (machD mc) m' := by
  have l1 : 1 ≤ LIM := by rw [LIM_eq]; omega
  have l2 : 2 ≤ LIM := by rw [LIM_eq]; omega
  have l4 : 4 ≤ LIM := by rw [LIM_eq]; omega
  have l5 : 5 ≤ LIM := by rw [LIM_eq]; omega
  have hn := h.lt
  let R0 : Sl := [some (.ref n), none, none, none, none, none, none, none, none, none, none, none]
  obtain ⟨t, m1, ht, u1, e1⟩ := take_up (k := 8) h (by decide) (by decide)
  have a1 : (fCons (fVar 0) (fCons (fName (fLst (fCons (fC (.int 8)) (fCons (fC (.int 7)) (fCons (fC (.int 5)) (fCons (fOp gAdd (fC (.int 1)) (fCall F__law_take (fCons (fVar 0) (fCons (fC (.int 8)) fNil)))) fNil)))))) fNil)) R0 m = .ok [.ref n, .ref m1.length] (m1 ++ [.lst ([8, 7, 5, 1 + t].map iD)]) := by
    have e1' : F__law_take [D.ref n, D.int 8] m = .ok (iD t) m1 := e1
    simp [R0, e1', gcR_up u1, l4, iD]
  obtain ⟨many, m2, hmany, u2, e2⟩ := pick_nums a1 u1 h hw (by simp) (by simp)
  have hm : 1 ≤ many ∧ many ≤ 8 := by
    simp at hmany
    omega
  have h2 := u2.box h
  have w2 := u2.wf hw
  have a2 : (fCons (fVar 0) (fCons (fName (fLst (fCons (fC (.int 0)) (fCons (fC (.int 1)) (fCons (fC (.int 2)) (fCons (fC (.int 2)) (fCons (fC (.int 3)) fNil))))))) fNil)) R0 m2 = .ok [.ref n, .ref m2.length] (m2 ++ [.lst ([0, 1, 2, 2, 3].map iD)]) := by
    simp [R0, l5, iD]
  obtain ⟨style, m3, hst, u3, e3⟩ := pick_nums a2 (Up.refl h2) h2 w2 (by simp) (by simp)
  have h3 := u3.box h2
  have w3 := u3.wf w2
  let R1 : Sl := [some (.ref n), some (iD many), some (iD style), none, none, none, none, none, none, none, none, none]
  obtain ⟨t4, m4, ht4, u4, e4⟩ := take_up (k := 6) h3 (by decide) (by decide)
  have a4 : (fCons (fVar 0) (fCons (fName (fLst (fCons (fC (.int 6)) (fCons (fC (.int 4)) (fCons (fC (.int 2)) (fCons (fOp gAdd (fC (.int 1)) (fCall F__law_take (fCons (fVar 0) (fCons (fC (.int 6)) fNil)))) fNil)))))) fNil)) R1 m3 = .ok [.ref n, .ref m4.length] (m4 ++ [.lst ([6, 4, 2, 1 + t4].map iD)]) := by
    have e4' : F__law_take [D.ref n, D.int 6] m3 = .ok (iD t4) m4 := e4
    simp [R1, e4', gcR_up u4, l4, iD]
  obtain ⟨cnt, m5, hcnt, u5, e5⟩ := pick_nums a4 u4 h3 w3 (by simp) (by simp)
  have hcn : 1 ≤ cnt ∧ cnt ≤ 6 := by
    simp at hcnt
    omega
  have h5 := u5.box h3
  have w5 := u5.wf w3
  obtain ⟨fs, m6, hfl, hfs, u6, e6⟩ := maps_ok (style := style) (ρ := R1) (fi := fRng1 (fun _ m => .ok (iD cnt) m)) h5 w5 hm.1 hm.2 (cnt := cnt) (by omega) (by simp [rngK_n (k := cnt) (by rw [LIM_eq]; omega)]) rfl rfl rfl
  have h6 := u6.box h5
  have w6 := u6.wf w5
  let R2 : Option D → Option D → Sl := fun a b => [some (.ref n), some (iD many), some (iD style), some (.ref (m6.length + cnt)), a, b, none, none, none, none, none, none]
  have hM : m6 ++ fsO fs ++ [O.lst (refs m5.length cnt)] = m6 ++ mapM m6 fs := by
    unfold mapM
    rw [u6.len, hfl, List.append_assoc]
  obtain ⟨t7, m7, ht7, u7, e7⟩ := pick_nums (n := n) (ρ := R2 none none) (m := m6 ++ mapM m6 fs) (m1 := m6 ++ mapM m6 fs) (l := [0, 1, 1, 2]) (fa := (fCons (fVar 0) (fCons (fName (fLst (fCons (fC (.int 0)) (fCons (fC (.int 1)) (fCons (fC (.int 1)) (fCons (fC (.int 2)) fNil)))))) fNil))) (by simp [R2, l4, iD]) (Up.refl (h6.app _)) (h6.app _) (by
    refine wf_apps w6 fun o ho => ?_
    unfold mapM at ho ⊢
    rcases List.mem_append.mp ho with ho | ho
    · exact fsO_blw _ _ o ho
    · have : o = .lst (refs m6.length fs.length) := by simpa using ho
      rw [this]
      exact refs_blw _ _ _ (by simp [fsO_len])) (by simp) (by simp)
  obtain ⟨m8, u8, rfl⟩ := up_app h6.lt u7
  have h8 := u8.box h6
  obtain ⟨m9, fs9, b4, b5, u9, hl9, hf9, e9⟩ := turns_ok (style := style) t7 (a4 := none) (a5 := none) h8 hm.1 hm.2 hfl hcn.1 hcn.2 hfs
  have h9 := u9.box h8
  obtain ⟨m10, nm, lf, c4, u10, hnl, hnx, e10⟩ := names_ok (style := style) (k := m6.length + cnt) (J := mapM m9 fs9) (a4 := b4) (a5 := b5) h9 hm.1 hm.2
  have u := (((((u2.trans u3).trans u5).trans u6).trans u8).trans u9).trans u10
  have w10 := (((u8.trans u9).trans u10).wf w6)
  have lJ : (mapM m9 fs9).length = cnt + 1 := by simp [mapM, fsO_len, hl9]
  have l10 : m10.length = m6.length := ((u8.trans u9).trans u10).len
  have l9 : m9.length = m6.length := (u8.trans u9).len
  let base : M := m10 ++ (mapM m9 fs9 ++ [lO lf, lO nm])
  have lb : base.length = m6.length + cnt + 3 := by simp [base, lJ, l10]; omega
  refine ⟨⟨nm.getD 0 0, fs9.map fun f => named nm f many⟩, many, m10, ?_, u, ?_⟩
  · refine ⟨hm.1, hm.2, ?_, by simp [hl9, hcn.1], by simp [hl9, hcn.2], ?_, ?_⟩
    · show nm.getD 0 0 < many
      rw [List.getD_eq_getElem?_getD, List.getElem?_eq_getElem (by omega)]
      exact hnx _ (List.getElem_mem _)
    · intro f hf
      obtain ⟨g, _, rfl⟩ := List.mem_map.mp hf
      exact named_len _ _ _
    · intro f hf
      obtain ⟨g, _, rfl⟩ := List.mem_map.mp hf
      exact named_lt hm.1 hnx
  · refine RW.eq (run_w rfl ?_)
    unfold g__law_machine
    have hr0 : startD 12 [D.ref n] = R0 := rfl
    rw [hr0]
    simp only [s_seq, OW_seqK]
    -- the two draws
    have s1 : sAsg (fTup (fCons (fCall F__law_pick (fCons (fVar 0) (fCons (fName (fLst (fCons (fC (.int 8)) (fCons (fC (.int 7)) (fCons (fC (.int 5)) (fCons (fOp gAdd (fC (.int 1)) (fCall F__law_take (fCons (fVar 0) (fCons (fC (.int 8)) fNil)))) fNil)))))) fNil))) (fCons (fCall F__law_pick (fCons (fVar 0) (fCons (fName (fLst (fCons (fC (.int 0)) (fCons (fC (.int 1)) (fCons (fC (.int 2)) (fCons (fC (.int 2)) (fCons (fC (.int 3)) fNil))))))) fNil))) fNil))) (gT 2 (gCons' (gN 1) (gCons' (gN 2) gNil'))) R0 m = .nx R1 m3 := by
      rw [s_asg, e_tup, e_cons, e2]
      simp only [bind_ok]
      rw [e_cons, e3]
      simp [l2, R0, R1]
    rw [s1, OW_nx, thenP_nx]
    simp only [s_seq, OW_seqK]
    have s2 : sSetL 3 (fLc (fRng1 (fCall F__law_pick (fCons (fVar 0) (fCons (fName (fLst (fCons (fC (.int 6)) (fCons (fC (.int 4)) (fCons (fC (.int 2)) (fCons (fOp gAdd (fC (.int 1)) (fCall F__law_take (fCons (fVar 0) (fCons (fC (.int 6)) fNil)))) fNil)))))) fNil)))) (gN 11) [11] fYes (fCall F__law_map (fCons (fVar 0) (fCons (fVar 1) (fCons (fVar 2) fNil))))) R1 m3 = .nx (R2 none none) (m6 ++ mapM m6 fs) := by
      rw [s_setL]
      have : fLc (fRng1 (fCall F__law_pick (fCons (fVar 0) (fCons (fName (fLst (fCons (fC (.int 6)) (fCons (fC (.int 4)) (fCons (fC (.int 2)) (fCons (fOp gAdd (fC (.int 1)) (fCall F__law_take (fCons (fVar 0) (fCons (fC (.int 6)) fNil)))) fNil)))))) fNil)))) (gN 11) [11] fYes (fCall F__law_map (fCons (fVar 0) (fCons (fVar 1) (fCons (fVar 2) fNil)))) R1 m3 = .ok (refs m5.length cnt) (m6 ++ fsO fs) := by
        rw [← e6]
        unfold fLc
        rw [e_rng, e5, e_rng]
      rw [this]
      simp only [out_ok]
      rw [hM]
      have hl : (m6 ++ fsO fs).length = m6.length + cnt := by rw [List.length_append, fsO_len, hfl]
      rw [hl]
      rfl
    rw [s2, OW_nx, thenP_nx]
    simp only [s_seq, OW_seqK]
    have s3 : ∀ bd, sFor (fRng1 (fCall F__law_pick (fCons (fVar 0) (fCons (fName (fLst (fCons (fC (.int 0)) (fCons (fC (.int 1)) (fCons (fC (.int 1)) (fCons (fC (.int 2)) fNil)))))) fNil)))) (gN 4) bd (R2 none none) (m6 ++ mapM m6 fs) = forL (srcR 0 t7) (gN 4) bd t7 0 (R2 none none) (m8 ++ mapM m8 fs) := by
      intro bd
      rw [s_for, e_rng, e7, bind_ok, mapM_up u8]
      have ht : t7 ≤ LIM := by
        rw [LIM_eq]
        simp at ht7
        omega
      rw [rngK_n ht, out_ok]
      rfl
    rw [s3]
    have e9' := e9
    unfold bdT rhoM at e9'
    rw [u8.len] at e9'
    rw [e9', OW_nx, thenP_nx]
    simp only [s_seq, OW_seqK]
    have s4 : sPar 6 7 (fCons (fLstA (fRgA1 (fVar 1))) (fCons (fName (fLst fNil)) fNil)) [some (.ref n), some (iD many), some (iD style), some (.ref (m6.length + cnt)), b4, b5, none, none, none, none, none, none] (m9 ++ mapM m9 fs9) = .nx (rhoN n many style (m6.length + cnt) (m9.length + (mapM m9 fs9).length) b4 b5) (m9 ++ (mapM m9 fs9 ++ [lO (List.range many), lO []])) := by
      simp [fLstA, fRgA1, rgOk_nat (show many ≤ 1000 by omega), rgD_nat, lO, rhoN, Nat.add_assoc]
    rw [s4, OW_nx, thenP_nx]
    simp only [s_seq, OW_seqK]
    have s5 : ∀ bd, sFor (fRng1 (fVar 1)) (gN 4) bd (rhoN n many style (m6.length + cnt) (m9.length + (mapM m9 fs9).length) b4 b5) (m9 ++ (mapM m9 fs9 ++ [lO (List.range many), lO []])) = forL (srcR 0 many) (gN 4) bd many 0 (rhoN n many style (m6.length + cnt) (m9.length + (mapM m9 fs9).length) b4 b5) (m9 ++ (mapM m9 fs9 ++ [lO (List.range many), lO []])) := by
      intro bd
      rw [s_for, e_rng]
      simp only [rhoN, e_var, List.getElem?_cons_zero, List.getElem?_cons_succ, bind_ok]
      rw [rngK_n (by rw [LIM_eq]; omega), out_ok]
      rfl
    rw [s5]
    have e10' := e10
    unfold bdN at e10'
    rw [e10', OW_nx, thenP_nx]
    simp only [s_seq, OW_seqK]
    have hq : m9.length + (mapM m9 fs9).length + 1 = m6.length + cnt + 2 := by rw [lJ, l9]; omega
    have s6 : sSet 8 (fName (fLst fNil)) (rhoN n many style (m6.length + cnt) (m9.length + (mapM m9 fs9).length) c4 b5) (m10 ++ (mapM m9 fs9 ++ [lO lf, lO nm])) = .nx [some (.ref n), some (iD many), some (iD style), some (.ref (m6.length + cnt)), c4, b5, some (.ref (m9.length + (mapM m9 fs9).length)), some (.ref (m6.length + cnt + 2)), some (.ref base.length), none, none, none] (base ++ [.lst []]) := by
      simp only [s_set, e_name, e_lst, e_nil, bind_ok, List.length_nil, Nat.zero_le, if_true, out_ok, rhoN, hq]
      rfl
    rw [s6, OW_nx, thenP_nx]
    simp only [s_seq, OW_seqK]
    have gM : ∀ j : Nat, j < (mapM m9 fs9).length → base[m6.length + j]? = (mapM m9 fs9)[j]? := by
      intro j hj
      show (m10 ++ (mapM m9 fs9 ++ [lO lf, lO nm]))[m6.length + j]? = _
      rw [List.getElem?_append_right (by omega), List.getElem?_append_left (by omega)]
      congr 1
      omega
    have gR : base[m6.length + cnt]? = some (.lst (refs m6.length cnt)) := by
      rw [gM _ (by omega)]
      unfold mapM
      rw [List.getElem?_append_right (by rw [fsO_len]; omega), fsO_len, hl9, l9]
      simp
    have gN' : base[m6.length + cnt + 2]? = some (lO nm) := by
      show (m10 ++ (mapM m9 fs9 ++ [lO lf, lO nm]))[m6.length + cnt + 2]? = _
      rw [List.getElem?_append_right (by omega), List.getElem?_append_right (by omega), lJ, l10, show m6.length + cnt + 2 - m6.length - (cnt + 1) = 1 by omega]
      rfl
    have gF : ∀ j f, fs9[j]? = some f → base[m6.length + j]? = some (lO f) := by
      intro j f hj
      have hjl : j < fs9.length := (List.getElem?_eq_some_iff.mp hj).1
      rw [gM _ (by omega)]
      unfold mapM fsO
      rw [List.getElem?_append_left (by rw [List.length_map]; omega), List.getElem?_map, hj]
      rfl
    have gR' : (base ++ [O.lst []])[m6.length + cnt]? = some (.lst (refs m6.length cnt)) := app_at _ gR
    have s7 : ∀ bd, sFor (fWalk (fVar 3)) (gN 5) bd [some (.ref n), some (iD many), some (iD style), some (.ref (m6.length + cnt)), c4, b5, some (.ref (m9.length + (mapM m9 fs9).length)), some (.ref (m6.length + cnt + 2)), some (.ref base.length), none, none, none] (base ++ [.lst []]) = forL (srcL (m6.length + cnt) cnt) (gN 5) bd cnt 0 [some (.ref n), some (iD many), some (iD style), some (.ref (m6.length + cnt)), c4, b5, some (.ref (m9.length + (mapM m9 fs9).length)), some (.ref (m6.length + cnt + 2)), some (.ref base.length), none, none, none] (base ++ [.lst []]) := by
      intro bd
      rw [s_for, e_walk]
      simp only [e_var, List.getElem?_cons_zero, List.getElem?_cons_succ, bind_ok]
      rw [srcK_l gR', out_ok, refs_len]
      rfl
    rw [s7]
    refine founds_w (fs := fs9) hm.1 hm.2 hnl hnx hf9 hl9 hcn.2 gF gR gN' fun b5' b9 b10 j => ?_
    rw [thenP_nx]
    have g7 : gIx (.ref (m6.length + cnt + 2)) (.int 0) (base ++ (.lst ((fs9.map fun f => named nm f many).map tI) :: j)) = .ok (iD (nm.getD 0 0)) (base ++ (.lst ((fs9.map fun f => named nm f many).map tI) :: j)) := by
      have g : (base ++ (O.lst ((fs9.map fun f => named nm f many).map tI) :: j))[m6.length + cnt + 2]? = some (.lst (nm.map iD)) := app_at _ gN'
      rw [e_ixL _ g]
      show getK (atI _ ((0 : Nat) : Int)) _ = _
      rw [at_nat (x := iD (nm.getD 0 0)) (by rw [List.getElem?_map, List.getD_eq_getElem?_getD, List.getElem?_eq_getElem (by omega)]; rfl)]
      rfl
    have g8 : (base ++ (O.lst ((fs9.map fun f => named nm f many).map tI) :: j))[base.length]? = some (.lst ((fs9.map fun f => named nm f many).map tI)) := by simp
    have hgc : ∀ J, gc m.length (machD ⟨nm.getD 0 0, fs9.map fun f => named nm f many⟩) (m10 ++ J) = (machD ⟨nm.getD 0 0, fs9.map fun f => named nm f many⟩, m10) := fun J => gc_j u.len w10 (by
      refine num_blw ?_ _
      simp only [machD, mapsD, D.num, D.nums, Bool.true_and, Bool.and_true, nums_iff]
      intro d hd
      obtain ⟨f, _, rfl⟩ := List.mem_map.mp hd
      exact tI_num f)
    simp only [s_ret, e_tup, e_cons, e_op, e_cb, e_var, List.getElem?_cons_zero, List.getElem?_cons_succ, bind_ok, e_c, g7, e_nil, e_tuple, e_itL, g8, List.length_cons, List.length_nil, l2, if_true, out_ok, OW_rt, endP_rt, Nat.zero_add, Nat.reduceAdd]
    rw [show base ++ (O.lst ((fs9.map fun f => named nm f many).map tI) :: j) = m10 ++ ((mapM m9 fs9 ++ [lO lf, lO nm]) ++ (O.lst ((fs9.map fun f => named nm f many).map tI) :: j)) by simp [base]]
    exact ⟨congrArg Prod.fst (hgc _), congrArg Prod.snd (hgc _)⟩
end K93

namespace K93
open PySem PyProof.Rows L2 Dl
theorem cTE_map {α : Type} (l : List α) (g : α → D) : SrcC (srcTE (l.map g)) (l.zipIdx.map fun p => .tup [iD p.2, g p.1]) := by
  have := cTE (l.map g)
  rw [List.zipIdx_map, List.map_map] at this
  exact this
def mB (m : M) (S : Br) : M := m ++ [.dct false (kvD iD tI S), .lst ((S.map (·.1)).map iD)]
theorem mB_d (m : M) (S : Br) : (mB m S)[m.length]? = some (.dct false (kvD iD tI S)) := by simp [mB]
theorem mB_l (m : M) (S : Br) : (mB m S)[m.length + 1]? = some (.lst ((S.map (·.1)).map iD)) := by simp [mB]
def rowD (p : Nat × List Nat) : D := .tup [iD p.1, tI p.2]
theorem rowD_num (p : Nat × List Nat) : (rowD p).num = true := by simp only [rowD, D.num, D.nums, tI_num, Bool.and_self]
theorem rows_blw (S : Br) (L : Nat) : O.blw L (.lst (S.map rowD)) = true := by
  have : (D.tup (S.map rowD)).blw L = true := num_blw (by
    simp only [D.num, nums_iff]
    intro d hd
    obtain ⟨p, _, rfl⟩ := List.mem_map.mp hd
    exact rowD_num p) L
  simpa only [D.blw, O.blw] using this
theorem rows_to_ok {mc : Mach} {b : Nat} (hm : mc.Ok b) {m : M} (hw : Wf m) : F_rows_to [machD mc] m = .ok (.ref m.length) (m ++ [.lst ((bfs mc.maps mc.start b).map rowD)]) := by
  obtain ⟨s, maps⟩ := mc
  have hb8 := hm.b8
  have ok : ∀ k, BrOk maps s b (bfs maps s k) := bfs_ok hm.len hm.ent hm.st
  refine RW.eq (run_w rfl ?_)
  unfold g_rows_to
  have l1 : 1 ≤ LIM := by rw [LIM_eq]; omega
  have l3 : 3 ≤ LIM := by rw [LIM_eq]; omega
  have e1 : sAsg (fVar 0) (gT 2 (gCons' (gN 1) (gCons' (gN 2) gNil'))) (startD 10 [machD ⟨s, maps⟩]) m = .nx [some (machD ⟨s, maps⟩), some (iD s), some (mapsD ⟨s, maps⟩), none, none, none, none, none, none, none] m := rfl
  have e2 : sAsg (fTup (fCons (fDict (fPCons (fVar 1) (fTup fNil) fPNil)) (fCons (fName (fLst (fCons (fVar 1) fNil))) (fCons (fC (.int 0)) fNil)))) (gT 3 (gCons' (gN 3) (gCons' (gN 4) (gCons' (gN 5) gNil')))) [some (machD ⟨s, maps⟩), some (iD s), some (mapsD ⟨s, maps⟩), none, none, none, none, none, none, none] m = .nx [some (machD ⟨s, maps⟩), some (iD s), some (mapsD ⟨s, maps⟩), some (.ref m.length), some (.ref (m.length + 1)), some (iD 0), none, none, none, none] (mB m [(s, [])]) := by
    simp [fDict, fPCons, fPNil, keyD, mergeD, putD, l1, l3, mB, kvD, tI]
  simp only [s_seq, OW_seqK, e1, OW_nx, thenP_nx, e2]
  refine while_w [5, 6, 7, 8] b (fun k vs m' => ∃ at' a6 a7 a8, vs = [some (iD at'), a6, a7, a8] ∧ m' = mB m (bfs maps s at') ∧ at' ≤ (bfs maps s at').length ∧ k = b - at') (by omega) ⟨0, none, none, none, rfl, rfl, Nat.zero_le _, rfl⟩ ?_
  rintro k vs m' ⟨at', a6, a7, a8, rfl, rfl, hle, rfl⟩
  have okk := ok at'
  generalize hS : bfs maps s at' = S at *
  have hlen := okk.le
  have hL : (fTest (fOp gLt (fVar 5) (fCB gLen (fCons (fVar 4) fNil)))) [some (machD ⟨s, maps⟩), some (iD s), some (mapsD ⟨s, maps⟩), some (.ref m.length), some (.ref (m.length + 1)), some (iD at'), a6, a7, a8, none] (mB m S) = .ok (decide (at' < S.length)) (mB m S) := by
    simp [mB_l]
  simp only [upd_cons, upd_nil, List.set, hL, RW_ok]
  by_cases hlt : at' < S.length
  · rw [if_pos (decide_eq_true hlt)]
    obtain ⟨p, hp⟩ : ∃ p, S[at']? = some p := ⟨_, List.getElem?_eq_getElem hlt⟩
    have hpm := List.mem_of_getElem? hp
    have e6 : sSet 6 (fOp gIx (fVar 4) (fVar 5)) [some (machD ⟨s, maps⟩), some (iD s), some (mapsD ⟨s, maps⟩), some (.ref m.length), some (.ref (m.length + 1)), some (iD at'), a6, a7, a8, none] (mB m S) = .nx [some (machD ⟨s, maps⟩), some (iD s), some (mapsD ⟨s, maps⟩), some (.ref m.length), some (.ref (m.length + 1)), some (iD at'), some (iD p.1), a7, a8, none] (mB m S) := by
      have := ref_getD (x := p.1) (k := at') (mB_l m S) (by rw [List.getElem?_map, hp]; rfl)
      simp [this]
    simp only [s_seq, OW_seqK, e6, OW_nx, thenP_nx]
    have e7 : ∀ bd, sFor (fEnum (fVar 2)) (gT 2 (gCons' (gN 7) (gCons' (gN 8) gNil'))) bd [some (machD ⟨s, maps⟩), some (iD s), some (mapsD ⟨s, maps⟩), some (.ref m.length), some (.ref (m.length + 1)), some (iD at'), some (iD p.1), a7, a8, none] (mB m S) = forL (srcTE (maps.map tI)) (gT 2 (gCons' (gN 7) (gCons' (gN 8) gNil'))) bd maps.length 0 [some (machD ⟨s, maps⟩), some (iD s), some (mapsD ⟨s, maps⟩), some (.ref m.length), some (.ref (m.length + 1)), some (iD at'), some (iD p.1), a7, a8, none] (mB m S) := by
      intro bd
      simp [mapsD, srcTE]
    rw [e7]
    refine for_c maps.zipIdx (fun q => .tup [iD q.2, tI q.1]) (cTE_map maps tI) (by simp) [7, 8] (fun pre vs m' => ∃ a7 a8, vs = [a7, a8] ∧ m' = mB m (pre.foldl (ext1 p) S)) ⟨_, _, rfl, rfl⟩ ?_ ?_
    · rintro pre ⟨f, d⟩ post vs m' hl ⟨a7, a8, rfl, rfl⟩
      have hin : ∀ q ∈ pre ++ (f, d) :: post, maps[q.2]? = some q.1 := by rw [← hl]; exact zip_get
      have ok2 := fold_ok hm.len hm.ent okk hp pre fun q hq => hin q (List.mem_append_left _ hq)
      obtain ⟨t, ht⟩ := extN_pre S p pre
      have hfd := hin (f, d) (by simp)
      have hfl : p.1 < f.length := by rw [hm.len f (List.mem_of_getElem? hfd)]; exact okk.lt p hpm
      generalize hT : pre.foldl (ext1 p) S = T at *
      have hpT : T[at']? = some p := by rw [ht, List.getElem?_append_left hlt]; exact hp
      have hT8 := ok2.le
      have ix1 := tI_getD hfl (mB m T)
      have hni := gNotIn_dct (k := f.getD p.1 0) iD_inj (mB_d m T) (keyOk_int _)
      simp only [bodyAt_t2, upd_cons, upd_nil, List.set]
      have ht7 : (fTest (fOp gNotIn (fOp gIx (fVar 8) (fVar 6)) (fVar 3))) [some (machD ⟨s, maps⟩), some (iD s), some (mapsD ⟨s, maps⟩), some (.ref m.length), some (.ref (m.length + 1)), some (iD at'), some (iD p.1), some (iD d), some (tI f), none] (mB m T) = .ok (!decide (f.getD p.1 0 ∈ T.map (·.1))) (mB m T) := by
        simp only [e_test, e_op, e_var, List.getElem?_cons_zero, List.getElem?_cons_succ, bind_ok, ix1, hni, e_asB]
      simp only [s_if, ht7, out_ok]
      rw [List.foldl_append, hT]
      have hfd2 : [(f, d)].foldl (ext1 p) T = ext1 p T (f, d) := rfl
      rw [hfd2]
      unfold ext1
      by_cases hg : f.getD p.1 0 ∈ T.map (·.1)
      · simp only [hg, decide_true, Bool.not_true, Bool.false_eq_true, if_false, if_true, s_next, OW_nx, loopP_nx]
        exact ⟨_, rfl, _, _, rfl, by trivial⟩
      · simp only [hg, decide_false, Bool.not_false, if_true, if_false]
        have hlk := look_at ok2.nd hpT
        have hx := gIx_dct (g := tI) (k := p.1) iD_inj (mB_d m T) (keyOk_int _) hlk
        have hrl := ok2.len at' p hpT
        have la : p.2.length + 1 ≤ LIM := by rw [LIM_eq]; omega
        have hT1 : T.length < LIM := by rw [LIM_eq]; omega
        have es := subD_ok (f := fOp gAdd (fOp gIx (fVar 3) (fVar 6)) (fTup (fCons (fVar 7) fNil))) (fo := fVar 3) (fi := fOp gIx (fVar 8) (fVar 6)) (ρ := [some (machD ⟨s, maps⟩), some (iD s), some (mapsD ⟨s, maps⟩), some (.ref m.length), some (.ref (m.length + 1)), some (iD at'), some (iD p.1), some (iD d), some (tI f), none]) (m := mB m T) (m1 := mB m T) (m2 := mB m T) (m3 := mB m T) (d := tI (p.2 ++ [d])) (k := iD (f.getD p.1 0)) (n := m.length) (t := false)
          (by
            simp only [e_op, e_var, List.getElem?_cons_zero, List.getElem?_cons_succ, bind_ok, hx, e_tup, e_cons, e_nil, List.length_cons, List.length_nil, l1, if_true, Nat.zero_add]
            simp [tI, la])
          rfl (by simp only [e_op, e_var, List.getElem?_cons_zero, List.getElem?_cons_succ, bind_ok, ix1]) (mB_d m T) (keyOk_int _) (by simpa [kvD] using hT1)
        rw [put_new iD_inj hg] at es
        let m2 : M := (mB m T).set m.length (.dct false (kvD iD tI (T ++ [(f.getD p.1 0, p.2 ++ [d])])))
        have hl2 : m2[m.length + 1]? = some (.lst ((T.map (·.1)).map iD)) := by
          show ((mB m T).set m.length _)[m.length + 1]? = _
          rw [List.getElem?_set_ne (by omega)]
          exact mB_l m T
        have ea := meth_ok (g := mAppend) (fo := fVar 4) (fa := fCons (fOp gIx (fVar 8) (fVar 6)) fNil) (ρ := [some (machD ⟨s, maps⟩), some (iD s), some (mapsD ⟨s, maps⟩), some (.ref m.length), some (.ref (m.length + 1)), some (iD at'), some (iD p.1), some (iD d), some (tI f), none]) (m := m2) (m1 := m2) (m2 := m2) (as := [iD (f.getD p.1 0)]) rfl hl2
          (by simp only [e_cons, e_op, e_var, List.getElem?_cons_zero, List.getElem?_cons_succ, bind_ok, tI_getD hfl, e_nil]) hl2 (append_ok (by simpa using hT1))
        simp only [s_seq, OW_seqK, es, OW_nx, thenP_nx, s_drop]
        show OW ((fMeth mAppend _ _ _ m2).out _ _) _
        rw [ea]
        simp only [out_ok, OW_nx, loopP_nx]
        refine ⟨_, rfl, _, _, rfl, ?_⟩
        show ((mB m T).set m.length _).set (m.length + 1) _ = _
        simp [mB]
    · rintro vs m' ⟨a7, a8, rfl, rfl⟩
      have hnext : bfs maps s (at' + 1) = maps.zipIdx.foldl (ext1 p) S := by
        show bfsS maps (bfs maps s at') at' = _
        rw [hS]
        unfold bfsS
        rw [hp]
        rfl
      obtain ⟨t, ht⟩ := extN_pre S p maps.zipIdx
      simp only [upd_cons, upd_nil, List.set, thenP_nx]
      rw [aug_ok (i := 5) (x := iD at') (y := .int 1) (z := iD (at' + 1)) rfl rfl rfl]
      rw [OW_nx, loopP_nx]
      refine ⟨b - (at' + 1), _, by omega, rfl, at' + 1, _, _, _, rfl, by rw [hnext], ?_, rfl⟩
      rw [hnext, ht, List.length_append]
      omega
  · rw [if_neg (by simpa using hlt)]
    have hfin : bfs maps s b = S := by
      have := bfs_stop (maps := maps) (s := s) (k := at') (by rw [hS]; omega) (b - at')
      rw [show at' + (b - at') = b by omega, hS] at this
      exact this
    rw [hfin]
    simp only [thenP_nx]
    have ec : fLc (fWalk (fVar 4)) (gN 9) [9] fYes (fTup (fCons (fVar 9) (fCons (fOp gIx (fVar 3) (fVar 9)) fNil))) [some (machD ⟨s, maps⟩), some (iD s), some (mapsD ⟨s, maps⟩), some (.ref m.length), some (.ref (m.length + 1)), some (iD at'), a6, a7, a8, none] (mB m S) = .ok (S.map rowD) (mB m S) := by
      refine fLc_y S (fun p => iD p.1) rowD (src := srcL (m.length + 1) S.length) ?_ ?_ (by rw [LIM_eq]; omega) fun p hp => ?_
      · simp only [e_walk, e_var, List.getElem?_cons_zero, List.getElem?_cons_succ, bind_ok]
        rw [srcK_l (mB_l m S)]
        simp
      · have := isL (mB_l m S) (k := S.length) (by simp)
        rw [List.map_map] at this
        exact this
      · obtain ⟨i, hi⟩ := List.getElem?_of_mem hp
        have hx := gIx_dct (g := tI) (k := p.1) iD_inj (mB_d m S) (keyOk_int _) (look_at okk.nd hi)
        have l2 : 2 ≤ LIM := by rw [LIM_eq]; omega
        refine ⟨_, rfl, ?_⟩
        simp [wipeD, hx, l2, rowD]
    rw [s_ret, e_name, ec]
    simp only [bind_ok, out_ok, OW_rt, endP_rt]
    have hg := gc_n (L := m.length) (m := m) (j := [.dct false (kvD iD tI S), .lst ((S.map (·.1)).map iD), .lst (S.map rowD)]) (n := (mB m S).length) (o := .lst (S.map rowD)) rfl hw (by simp [mB]) (by simp [mB]) (rows_blw S _)
    have hmem : mB m S ++ [O.lst (S.map rowD)] = m ++ [.dct false (kvD iD tI S), .lst ((S.map (·.1)).map iD), .lst (S.map rowD)] := by simp [mB]
    rw [hmem, hg]
    exact ⟨rfl, rfl⟩
end K93

namespace K93
open PySem PyProof.Rows L2 Dl
def mR (m : M) (S : Br) : M := m ++ [.lst (S.map rowD)]
theorem mR_at (m : M) (S : Br) : (mR m S)[m.length]? = some (.lst (S.map rowD)) := by simp [mR]
theorem mR_wf {m : M} (hw : Wf m) (S : Br) : Wf (mR m S) := hw.app (rows_blw S _)
theorem bfs_all {mc : Mach} {b : Nat} (hm : mc.Ok b) {k : Nat} (hk : b ≤ k) : bfs mc.maps mc.start k = bfs mc.maps mc.start b := by
  have := bfs_stop (maps := mc.maps) (s := mc.start) (k := b) (bfs_ok hm.len hm.ent hm.st b).le (k - b)
  rw [show b + (k - b) = k by omega] at this
  exact this
theorem law_rows_ok {mc : Mach} {b : Nat} (hm : mc.Ok b) {m : M} (hw : Wf m) : F__law_rows [machD mc] m = .ok (.ref m.length) (m ++ [.lst ((bfs mc.maps mc.start b).map rowD)]) := by
  obtain ⟨s, maps⟩ := mc
  have hb8 := hm.b8
  have ok : ∀ k, BrOk maps s b (bfs maps s k) := bfs_ok hm.len hm.ent hm.st
  refine RW.eq (run_w rfl ?_)
  unfold g__law_rows
  have l1 : 1 ≤ LIM := by rw [LIM_eq]; omega
  have l2 : 2 ≤ LIM := by rw [LIM_eq]; omega
  have e1 : sSet 1 (fName (fLst (fCons (fTup (fCons (fOp gIx (fVar 0) (fC (.int 0))) (fCons (fTup fNil) fNil))) fNil))) (startD 8 [machD ⟨s, maps⟩]) m = .nx [some (machD ⟨s, maps⟩), some (.ref m.length), none, none, none, none, none, none] (mR m [(s, [])]) := by
    simp [machD, l1, l2, mR, rowD, tI]
  have e8 : (8 : Int) = ((8 : Nat) : Int) := rfl
  simp only [s_seq, OW_seqK, e1, OW_nx, thenP_nx, s_for, e_rng, e_c, bind_ok]
  rw [e8, rngK_n (k := 8) (by rw [LIM_eq]; omega), out_ok]
  refine for_c (List.range 8) iD (cR 8) (by simp [srcR]) [2, 3, 4, 5] (fun pre vs m' => ∃ a2 a3 a4 a5, vs = [a2, a3, a4, a5] ∧ m' = mR m (bfs maps s pre.length)) ⟨_, _, _, _, rfl, rfl⟩ ?_ ?_
  · rintro pre i post vs m' hl ⟨a2, a3, a4, a5, rfl, rfl⟩
    have hi : i = pre.length := by
      have h := congrArg (fun l => l[pre.length]?) hl
      simp at h
      rw [List.getElem?_eq_some_iff] at h
      obtain ⟨h2, h3⟩ := h
      simpa using h3.symm
    subst hi
    have okk := ok pre.length
    have hnx : bfs maps s (pre ++ [pre.length]).length = bfsS maps (bfs maps s pre.length) pre.length := by rw [List.length_append]; rfl
    rw [hnx]
    generalize hS : bfs maps s pre.length = S at *
    have hlen := okk.le
    generalize pre.length = at' at *
    simp only [bodyAt_n, upd_cons, upd_nil, List.set]
    have hL : (fTest (fOp gLt (fVar 2) (fCB gLen (fCons (fVar 1) fNil)))) [some (machD ⟨s, maps⟩), some (.ref m.length), some (iD at'), a3, a4, a5, none, none] (mR m S) = .ok (decide (at' < S.length)) (mR m S) := by
      simp [mR_at]
    simp only [s_if, hL, out_ok]
    unfold bfsS
    by_cases hlt : at' < S.length
    · obtain ⟨p, hp⟩ : ∃ p, S[at']? = some p := ⟨_, List.getElem?_eq_getElem hlt⟩
      have hpm := List.mem_of_getElem? hp
      simp only [hlt, decide_true, if_true, hp]
      have e7 : ∀ bd, (sFor (fEnum (fOp gIx (fVar 0) (fC (.int 1)))) (gT 2 (gCons' (gN 3) (gCons' (gN 4) gNil'))) bd) [some (machD ⟨s, maps⟩), some (.ref m.length), some (iD at'), a3, a4, a5, none, none] (mR m S) = forL (srcTE (maps.map tI)) (gT 2 (gCons' (gN 3) (gCons' (gN 4) gNil'))) bd maps.length 0 [some (machD ⟨s, maps⟩), some (.ref m.length), some (iD at'), a3, a4, a5, none, none] (mR m S) := by
        intro bd
        simp [machD, mapsD, srcTE]
      rw [e7]
      refine for_c maps.zipIdx (fun q => .tup [iD q.2, tI q.1]) (cTE_map maps tI) (by simp) [3, 4, 5] (fun pre vs m' => ∃ a3 a4 a5, vs = [a3, a4, a5] ∧ m' = mR m (pre.foldl (ext1 p) S)) ⟨_, _, _, rfl, rfl⟩ ?_ ?_
      · rintro pre ⟨f, d⟩ post vs m' hl ⟨a3, a4, a5, rfl, rfl⟩
        have hin : ∀ q ∈ pre ++ (f, d) :: post, maps[q.2]? = some q.1 := by rw [← hl]; exact zip_get
        have ok2 := fold_ok hm.len hm.ent okk hp pre fun q hq => hin q (List.mem_append_left _ hq)
        obtain ⟨t, ht⟩ := extN_pre S p pre
        have hfd := hin (f, d) (by simp)
        have hfl : p.1 < f.length := by rw [hm.len f (List.mem_of_getElem? hfd)]; exact okk.lt p hpm
        rw [List.foldl_append]
        generalize hT : pre.foldl (ext1 p) S = T at *
        have hpT : T[at']? = some p := by rw [ht, List.getElem?_append_left hlt]; exact hp
        have hT8 := ok2.le
        have ix0 : gIx (.ref m.length) (.int (at' : Int)) (mR m T) = .ok (rowD p) (mR m T) := ref_getD (mR_at m T) hpT
        have ix1 := tI_getD hfl (mR m T)
        simp only [bodyAt_t2, upd_cons, upd_nil, List.set]
        have e5 : sSet 5 (fOp gIx (fVar 4) (fOp gIx (fOp gIx (fVar 1) (fVar 2)) (fC (.int 0)))) [some (machD ⟨s, maps⟩), some (.ref m.length), some (iD at'), some (iD d), some (tI f), a5, none, none] (mR m T) = .nx [some (machD ⟨s, maps⟩), some (.ref m.length), some (iD at'), some (iD d), some (tI f), some (iD (f.getD p.1 0)), none, none] (mR m T) := by
          simp only [s_set, e_op, e_var, List.getElem?_cons_zero, List.getElem?_cons_succ, bind_ok, ix0, e_c]
          simp only [rowD, e_ixT, at0, getK_some, bind_ok, ix1, out_ok]
          rfl
        have et : (fGcB (fTest (fOp gNotIn (fVar 5) (fName (fLc (fWalk (fVar 1)) (gT 2 (gCons' (gN 6) (gCons' (gN 7) gNil'))) [6, 7] fYes (fVar 6)))))) [some (machD ⟨s, maps⟩), some (.ref m.length), some (iD at'), some (iD d), some (tI f), some (iD (f.getD p.1 0)), none, none] (mR m T) = .ok (!decide (f.getD p.1 0 ∈ T.map (·.1))) (mR m T) := by
          have ec : fLc (fWalk (fVar 1)) (gT 2 (gCons' (gN 6) (gCons' (gN 7) gNil'))) [6, 7] fYes (fVar 6) [some (machD ⟨s, maps⟩), some (.ref m.length), some (iD at'), some (iD d), some (tI f), some (iD (f.getD p.1 0)), none, none] (mR m T) = .ok (T.map fun p => iD p.1) (mR m T) := by
            refine fLc_y T rowD (fun p => iD p.1) (src := srcL m.length T.length) ?_ (isL (mR_at m T) (by simp)) (by rw [LIM_eq]; omega) fun p hp => ⟨_, rfl, rfl⟩
            simp only [e_walk, e_var, List.getElem?_cons_zero, List.getElem?_cons_succ, bind_ok]
            rw [srcK_l (mR_at m T)]
            simp
          have hni := notIn_lI (m := mR m T ++ [.lst ((T.map (·.1)).map iD)]) (x := f.getD p.1 0) (j := (mR m T).length) (l := T.map (·.1)) (by simp)
          simp only [e_gcB, e_test, e_op, e_var, List.getElem?_cons_zero, List.getElem?_cons_succ, bind_ok, e_name, ec]
          rw [show (T.map fun p => iD p.1) = (T.map (·.1)).map iD by rw [List.map_map]; rfl, hni]
          exact gcB_junk rfl (mR_wf hw T)
        simp only [s_seq, OW_seqK, e5, OW_nx, thenP_nx, s_if, et, out_ok]
        have hfd2 : [(f, d)].foldl (ext1 p) T = ext1 p T (f, d) := rfl
        rw [hfd2]
        unfold ext1
        by_cases hg : f.getD p.1 0 ∈ T.map (·.1)
        · simp only [hg, decide_true, Bool.not_true, Bool.false_eq_true, if_false, if_true, s_next, OW_nx, loopP_nx]
          exact ⟨_, rfl, _, _, _, rfl, by trivial⟩
        · simp only [hg, decide_false, Bool.not_false, if_true, if_false]
          have hrl := ok2.len at' p hpT
          have la : p.2.length + 1 ≤ LIM := by rw [LIM_eq]; omega
          have ea := meth_ok (g := mAppend) (fo := fVar 1) (fa := (fCons (fTup (fCons (fVar 5) (fCons (fOp gAdd (fOp gIx (fOp gIx (fVar 1) (fVar 2)) (fC (.int 1))) (fTup (fCons (fVar 3) fNil))) fNil))) fNil)) (ρ := [some (machD ⟨s, maps⟩), some (.ref m.length), some (iD at'), some (iD d), some (tI f), some (iD (f.getD p.1 0)), none, none]) (m := mR m T) (m1 := mR m T) (m2 := mR m T) (as := [rowD (f.getD p.1 0, p.2 ++ [d])]) rfl (mR_at m T)
            (by
              simp only [e_cons, e_tup, e_op, e_var, List.getElem?_cons_zero, List.getElem?_cons_succ, bind_ok, ix0, e_c, e_nil]
              simp [rowD, tI, l1, l2, la]) (mR_at m T) (append_ok (by rw [List.length_map, LIM_eq]; omega))
          simp only [s_drop, ea, out_ok, OW_nx, loopP_nx]
          refine ⟨_, rfl, _, _, _, rfl, ?_⟩
          simp [mR]
      · rintro vs m' ⟨a3, a4, a5, rfl, rfl⟩
        simp only [upd_cons, upd_nil, List.set, loopP_nx]
        exact ⟨[some (iD at'), a3, a4, a5], rfl, _, _, _, _, rfl, rfl⟩
    · have hnone : S[at']? = none := List.getElem?_eq_none (by omega)
      simp only [hlt, decide_false, Bool.false_eq_true, if_false, hnone, s_next, OW_nx, loopP_nx]
      exact ⟨[some (iD at'), a3, a4, a5], rfl, _, _, _, _, rfl, by trivial⟩
  · rintro vs m' ⟨a2, a3, a4, a5, rfl, rfl⟩
    simp only [upd_cons, upd_nil, List.set, thenP_nx, s_ret, e_var, List.getElem?_cons_zero, List.getElem?_cons_succ, out_ok, OW_rt, endP_rt]
    have hf := bfs_all hm hb8
    rw [List.length_range, hf]
    have hg := gc_n (L := m.length) (m := m) (j := [.lst ((bfs maps s b).map rowD)]) (n := m.length) (o := .lst ((bfs maps s b).map rowD)) rfl hw (Nat.le_refl _) (by simp) (rows_blw _ _)
    show (gc m.length _ (m ++ _)).1 = _ ∧ (gc m.length _ (m ++ _)).2 = _
    rw [hg]
    exact ⟨rfl, rfl⟩
end K93

namespace K93
open PySem PyProof.Rows L2 Dl
noncomputable def rng2K (d e : D) (m : M) : Res Src := match d, e with
  | .int a, .int b => if okR a && okR b then .ok (srcR a (b - a).toNat) m else .bad
  | _, _ => .bad
theorem e_rng2 (f g : FE) (ρ : Sl) (m : M) : fRng2 f g ρ m = (f ρ m).bind fun d m => (g ρ m).bind fun e m => rng2K d e m := nrfl rfl
theorem rng2K_n {a k : Nat} (h : k ≤ LIM) (ha : a ≤ LIM) (m : M) : rng2K (.int (a : Int)) (.int (k : Int)) m = .ok (srcR (a : Int) (k - a)) m := by
  have hl : (LIM : Nat) = 100000 := rfl
  have h1 : okR (a : Int) = true := okR_iff.mpr (by omega)
  have h2 : okR (k : Int) = true := okR_iff.mpr (by omega)
  show (if okR (a : Int) && okR (k : Int) then _ else _) = _
  rw [h1, h2]
  simp only [Bool.and_self, if_true]
  congr 2
  omega
theorem cR2 (a k : Nat) : SrcC (srcR (a : Int) k) ((List.range k).map fun i => iD (a + i)) := by
  refine ⟨by simp [srcR], fun m i hi => ?_, fun _ => rfl⟩
  have hi' : i < k := by simpa using hi
  simp [srcR, hi']
theorem _root_.Dl.SrcC.is {src : Src} {xs : List D} (h : SrcC src xs) (m : M) : SrcIs src xs m := ⟨h.n, h.get m, h.fin m⟩
def unc (maps : List (List Nat)) (b one other : Nat) : Prop := (maps.getD one []).getD ((maps.getD other []).getD b 0) 0 ≠ (maps.getD other []).getD ((maps.getD one []).getD b 0) 0
instance (maps : List (List Nat)) (b one other : Nat) : Decidable (unc maps b one other) := by unfold unc; infer_instance
theorem ne_cast (u v : Nat) : (!decide ((u : Int) = (v : Int))) = decide (u ≠ v) := by
  by_cases q : u = v
  · simp [q]
  · have : ¬ ((u : Int) = (v : Int)) := by omega
    simp [q, this]
abbrev Fd := List Nat × Nat × Nat
def fcD : Option Fd → D
  | none => .non
  | some x => .tup [tI x.1, iD x.2.1, iD x.2.2]
def fc1 (maps : List (List Nat)) (p : Nat × List Nat) (one : Nat) (t : Nat) : Option Fd := if unc maps p.1 one (one + 1 + t) then some (p.2, one, one + 1 + t) else none
def fc2 (maps : List (List Nat)) (p : Nat × List Nat) (one : Nat) : Option Fd := (List.range (maps.length - (one + 1))).findSome? (fc1 maps p one)
def fc3 (maps : List (List Nat)) (p : Nat × List Nat) : Option Fd := (List.range maps.length).findSome? (fc2 maps p)
def fcl (maps : List (List Nat)) (S : Br) : Option Fd := S.findSome? (fc3 maps)
def tlD (x : Fd) : D := .tup [tI x.1, iD x.2.1, iD x.2.2]
theorem fcD_some (x : Fd) : fcD (some x) = tlD x := rfl
theorem find_map {α β γ : Type} (G : α → Option β) (h : β → γ) (l : List α) : l.findSome? (fun a => (G a).map h) = (l.findSome? G).map h := by
  induction l with
  | nil => rfl
  | cons a r ih =>
    rw [List.findSome?_cons, List.findSome?_cons]
    cases G a with
    | none => exact ih
    | some x => rfl
theorem enum_range {α : Type} (l : List α) (g : α → D) (z : α) : (l.zipIdx.map fun p => D.tup [iD p.2, g p.1]) = (List.range l.length).map fun i => .tup [iD i, g (l.getD i z)] := by
  refine List.ext_getElem? fun i => ?_
  rw [List.getElem?_map, List.getElem?_map, List.getElem?_zipIdx]
  by_cases hi : i < l.length
  · simp [hi]
  · rw [List.getElem?_eq_none (show l.length ≤ i by omega), List.getElem?_eq_none (show (List.range l.length).length ≤ i by simpa using hi)]
    rfl
theorem ok_get {mc : Mach} {b : Nat} (hm : mc.Ok b) {i : Nat} (hi : i < mc.maps.length) : (mc.maps.getD i []).length = b ∧ mc.maps[i]? = some (mc.maps.getD i []) ∧ ∀ x, x < b → (mc.maps.getD i []).getD x 0 < b := by
  have e : mc.maps.getD i [] = mc.maps[i] := by rw [List.getD_eq_getElem?_getD, List.getElem?_eq_getElem hi]; rfl
  have hf := List.getElem_mem hi
  rw [e]
  exact ⟨hm.len _ hf, List.getElem?_eq_getElem hi, fun x hx => map_lt hm.len hm.ent hf hx⟩
noncomputable def cb3 : FS := (sIf (fTest (fOp gNe (fOp gIx (fVar 6) (fOp gIx (fOp gIx (fVar 2) (fVar 7)) (fVar 3))) (fOp gIx (fOp gIx (fVar 2) (fVar 7)) (fOp gIx (fVar 6) (fVar 3)))))
 (sRet (fTup (fCons (fVar 4) (fCons (fVar 5) (fCons (fVar 7) fNil)))))
 sNext)
noncomputable def cb2 : FS := (sFor (fRng2 (fOp gAdd (fVar 5) (fC (.int 1))) (fCB gLen (fCons (fVar 2) fNil))) (gN 7) cb3)
noncomputable def cb1 : FS := (sFor (fEnum (fVar 2)) (gT 2 (gCons' (gN 5) (gCons' (gN 6) gNil'))) cb2)
section
variable {mc : Mach} {b : Nat} (hm : mc.Ok b)
include hm
theorem cb2_ok {p : Nat × List Nat} (hp : p.1 < b) {one : Nat} (ho : one < mc.maps.length) (a7 : Option D) (m : M) :
    (∀ x, fc2 mc.maps p one = some x → cb2 [some (machD mc), some (machD mc), some (mapsD mc), some (iD p.1), some (tI p.2), some (iD one), some (tI (mc.maps.getD one [])), a7] m = .rt (tlD x) m) ∧
    (fc2 mc.maps p one = none → ∃ a7', cb2 [some (machD mc), some (machD mc), some (mapsD mc), some (iD p.1), some (tI p.2), some (iD one), some (tI (mc.maps.getD one [])), a7] m = .nx [some (machD mc), some (machD mc), some (mapsD mc), some (iD p.1), some (tI p.2), some (iD one), some (tI (mc.maps.getD one [])), a7'] m) := by
  have hn6 := hm.n6
  have l3 : 3 ≤ LIM := by rw [LIM_eq]; omega
  have key := for_find (m := m) (gt := gN 7) (body := cb3) (ρ := [some (machD mc), some (machD mc), some (mapsD mc), some (iD p.1), some (tI p.2), some (iD one), some (tI (mc.maps.getD one [])), a7]) (List.range (mc.maps.length - (one + 1))) (fun t => iD (one + 1 + t)) ((cR2 (one + 1) _).is m) (k := mc.maps.length - (one + 1)) (by simp) [7] (fun t => (fc1 mc.maps p one t).map tlD) (fun vs => ∃ a, vs = [a]) ⟨_, rfl⟩ (by
    rintro t ht vs ⟨a, rfl⟩
    have ht' : one + 1 + t < mc.maps.length := by
      have := List.mem_range.mp ht
      omega
    obtain ⟨f1, f2, f3⟩ := ok_get hm ho
    obtain ⟨g1, g2, g3⟩ := ok_get hm ht'
    have x1 : gIx (mapsD mc) (.int ((one + 1 + t : Nat) : Int)) m = .ok (tI (mc.maps.getD (one + 1 + t) [])) m := tup_getD g2 m
    have x2 := tI_getD (l := mc.maps.getD (one + 1 + t) []) (k := p.1) (by omega) m
    have x3 := tI_getD (l := mc.maps.getD one []) (k := p.1) (by omega) m
    have x4 := tI_getD (l := mc.maps.getD one []) (k := (mc.maps.getD (one + 1 + t) []).getD p.1 0) (by rw [f1]; exact g3 _ hp) m
    have x5 := tI_getD (l := mc.maps.getD (one + 1 + t) []) (k := (mc.maps.getD one []).getD p.1 0) (by rw [g1]; exact f3 _ hp) m
    have et : (fTest (fOp gNe (fOp gIx (fVar 6) (fOp gIx (fOp gIx (fVar 2) (fVar 7)) (fVar 3))) (fOp gIx (fOp gIx (fVar 2) (fVar 7)) (fOp gIx (fVar 6) (fVar 3))))) [some (machD mc), some (machD mc), some (mapsD mc), some (iD p.1), some (tI p.2), some (iD one), some (tI (mc.maps.getD one [])), some (iD (one + 1 + t))] m = .ok (decide (unc mc.maps p.1 one (one + 1 + t))) m := by
      simp only [e_test, e_op, e_var, List.getElem?_cons_zero, List.getElem?_cons_succ, bind_ok, x1, x2, x3, x4, x5, gNe_int, e_asB]
      rw [ne_cast]
      rfl
    simp only [bodyAt_n, upd_cons, upd_nil, List.set, cb3, s_if, et, out_ok]
    unfold fc1
    by_cases hu : unc mc.maps p.1 one (one + 1 + t)
    · simp only [hu, decide_true, if_true, Option.map_some, s_ret, e_tup, e_cons, e_var, List.getElem?_cons_zero, List.getElem?_cons_succ, bind_ok, e_nil, List.length_cons, List.length_nil, Nat.reduceAdd, l3, out_ok]
      exact ⟨fun d h => (by cases h; rfl), fun h => (by cases h)⟩
    · simp only [hu, decide_false, Bool.false_eq_true, if_false, Option.map_none, s_next]
      exact ⟨fun d h => (by cases h), fun _ => ⟨[some (iD (one + 1 + t))], ⟨_, rfl⟩, rfl⟩⟩)
  rw [find_map] at key
  have st : cb2 [some (machD mc), some (machD mc), some (mapsD mc), some (iD p.1), some (tI p.2), some (iD one), some (tI (mc.maps.getD one [])), a7] m = forL (srcR ((one + 1 : Nat) : Int) (mc.maps.length - (one + 1))) (gN 7) cb3 (mc.maps.length - (one + 1)) 0 [some (machD mc), some (machD mc), some (mapsD mc), some (iD p.1), some (tI p.2), some (iD one), some (tI (mc.maps.getD one [])), a7] m := by
    unfold cb2
    have hit : itemsD m (mapsD mc) = some (mc.maps.map tI) := rfl
    simp only [s_for, e_rng2, e_op, e_cb, e_cons, e_var, List.getElem?_cons_zero, List.getElem?_cons_succ, bind_ok, e_c, e_add, e_nil, e_len, hit, List.length_map]
    rw [show (one : Int) + 1 = ((one + 1 : Nat) : Int) by omega, rng2K_n (by rw [LIM_eq]; omega) (by rw [LIM_eq]; omega), out_ok]
    rfl
  rw [st]
  refine ⟨fun x hx => key.1 _ (by rw [show (List.range (mc.maps.length - (one + 1))).findSome? (fc1 mc.maps p one) = _ from hx]; rfl), fun hx => ?_⟩
  obtain ⟨vs, ⟨a, rfl⟩, e⟩ := key.2 (by rw [show (List.range (mc.maps.length - (one + 1))).findSome? (fc1 mc.maps p one) = _ from hx]; rfl)
  exact ⟨a, e⟩
theorem cb1_ok {p : Nat × List Nat} (hp : p.1 < b) (a5 a6 a7 : Option D) (m : M) :
    (∀ x, fc3 mc.maps p = some x → cb1 [some (machD mc), some (machD mc), some (mapsD mc), some (iD p.1), some (tI p.2), a5, a6, a7] m = .rt (tlD x) m) ∧
    (fc3 mc.maps p = none → ∃ b5 b6 b7, cb1 [some (machD mc), some (machD mc), some (mapsD mc), some (iD p.1), some (tI p.2), a5, a6, a7] m = .nx [some (machD mc), some (machD mc), some (mapsD mc), some (iD p.1), some (tI p.2), b5, b6, b7] m) := by
  have hsrc : SrcIs (srcTE (mc.maps.map tI)) ((List.range mc.maps.length).map fun i => .tup [iD i, tI (mc.maps.getD i [])]) m := by
    have := (cTE_map mc.maps tI).is m
    rw [enum_range mc.maps tI []] at this
    exact this
  have key := for_find (m := m) (gt := gT 2 (gCons' (gN 5) (gCons' (gN 6) gNil'))) (body := cb2) (ρ := [some (machD mc), some (machD mc), some (mapsD mc), some (iD p.1), some (tI p.2), a5, a6, a7]) (List.range mc.maps.length) (fun i => .tup [iD i, tI (mc.maps.getD i [])]) hsrc (k := mc.maps.length) (by simp) [5, 6, 7] (fun one => (fc2 mc.maps p one).map tlD) (fun vs => ∃ a b c, vs = [a, b, c]) ⟨_, _, _, rfl⟩ (by
    rintro one ho vs ⟨a, b', c, rfl⟩
    obtain ⟨k1, k2⟩ := cb2_ok hm hp (List.mem_range.mp ho) c m
    simp only [bodyAt_t2, upd_cons, upd_nil, List.set]
    refine ⟨fun d hd => ?_, fun hd => ?_⟩
    · obtain ⟨x, hx, rfl⟩ := Option.map_eq_some_iff.mp hd
      exact k1 x hx
    · obtain ⟨a7', e⟩ := k2 (Option.map_eq_none_iff.mp hd)
      exact ⟨[some (iD one), some (tI (mc.maps.getD one [])), a7'], ⟨_, _, _, rfl⟩, e⟩)
  rw [find_map] at key
  have st : cb1 [some (machD mc), some (machD mc), some (mapsD mc), some (iD p.1), some (tI p.2), a5, a6, a7] m = forL (srcTE (mc.maps.map tI)) (gT 2 (gCons' (gN 5) (gCons' (gN 6) gNil'))) cb2 mc.maps.length 0 [some (machD mc), some (machD mc), some (mapsD mc), some (iD p.1), some (tI p.2), a5, a6, a7] m := by
    unfold cb1
    simp [mapsD, srcTE]
  rw [st]
  refine ⟨fun x hx => key.1 _ (by rw [show (List.range mc.maps.length).findSome? (fc2 mc.maps p) = _ from hx]; rfl), fun hx => ?_⟩
  obtain ⟨vs, ⟨a, b', c, rfl⟩, e⟩ := key.2 (by rw [show (List.range mc.maps.length).findSome? (fc2 mc.maps p) = _ from hx]; rfl)
  exact ⟨a, b', c, e⟩
theorem clash_ok {m : M} (hw : Wf m) : F_clash [machD mc] m = .ok (fcD (fcl mc.maps (bfs mc.maps mc.start b))) m := by
  have okb := bfs_ok hm.len hm.ent hm.st b
  generalize hS : bfs mc.maps mc.start b = S at *
  have hr := rows_to_ok hm hw
  rw [hS] at hr
  have hb8 := hm.b8
  have hm1 : gIx (machD mc) (.int 1) m = .ok (mapsD mc) m := rfl
  have hat : (m ++ [O.lst (S.map rowD)])[m.length]? = some (.lst (S.map rowD)) := at_snoc _ _
  have key := for_find (m := m ++ [O.lst (S.map rowD)]) (gt := gT 2 (gCons' (gN 3) (gCons' (gN 4) gNil'))) (body := cb1) (ρ := [some (machD mc), some (machD mc), some (mapsD mc), none, none, none, none, none]) S rowD (isL hat (k := S.length) (by simp)) (k := S.length) rfl [3, 4, 5, 6, 7] (fun p => (fc3 mc.maps p).map tlD) (fun vs => ∃ a b c d e, vs = [a, b, c, d, e]) ⟨_, _, _, _, _, rfl⟩ (by
    rintro p hp vs ⟨a, b', c, d, e, rfl⟩
    obtain ⟨k1, k2⟩ := cb1_ok hm (okb.lt p hp) c d e (m ++ [O.lst (S.map rowD)])
    simp only [rowD, bodyAt_t2, upd_cons, upd_nil, List.set]
    refine ⟨fun d hd => ?_, fun hd => ?_⟩
    · obtain ⟨x, hx, rfl⟩ := Option.map_eq_some_iff.mp hd
      exact k1 x hx
    · obtain ⟨b5, b6, b7, e⟩ := k2 (Option.map_eq_none_iff.mp hd)
      exact ⟨[some (iD p.1), some (tI p.2), b5, b6, b7], ⟨_, _, _, _, _, rfl⟩, e⟩)
  rw [find_map] at key
  have st : g_clash (startD 8 [machD mc]) m = seqK (forL (srcL m.length S.length) (gT 2 (gCons' (gN 3) (gCons' (gN 4) gNil'))) cb1 S.length 0 [some (machD mc), some (machD mc), some (mapsD mc), none, none, none, none, none] (m ++ [O.lst (S.map rowD)])) (sRet (fC .non)) := by
    unfold g_clash
    have hg := gcR_new (L := m.length) (m := m) (j := [.lst (S.map rowD)]) (n := m.length) rfl hw (Nat.le_refl _) (at_snoc _ _) (rows_blw _ _)
    have hsrc := srcK_l hat
    rw [List.length_map] at hsrc
    simp [check_machine_ok hm, hm1, hr, hg, hsrc]
    rfl
  have hwr : ∀ d : D, d.num = true ∨ d = .non → gcR m.length (.ok d (m ++ [O.lst (S.map rowD)])) = .ok d m := fun d hd => gcR_junk rfl hw (by
    rcases hd with hd | hd
    · exact num_blw hd _
    · rw [hd]; rfl)
  unfold F_clash runF
  rw [if_pos (by rfl), st]
  cases hc : fcl mc.maps S with
  | none =>
    obtain ⟨vs, _, e⟩ := key.2 (by rw [show S.findSome? (fc3 mc.maps) = _ from hc]; rfl)
    rw [e, seqK_nx, s_ret]
    exact hwr _ (.inr rfl)
  | some x =>
    rw [key.1 (tlD x) (by rw [show S.findSome? (fc3 mc.maps) = _ from hc]; rfl), seqK_rt]
    exact hwr _ (.inl (by simp [tlD, D.num, D.nums, tI_num]))
end
end K93

namespace K93
open PySem PyProof.Rows L2 Dl
noncomputable def lb3 : FS := (sSeq (sSet 6 (fOp gIx (fOp gIx (fVar 0) (fC (.int 1))) (fVar 5)))
 (sIf (fTest (fOp gNe (fOp gIx (fVar 4) (fOp gIx (fVar 6) (fVar 1))) (fOp gIx (fVar 6) (fOp gIx (fVar 4) (fVar 1)))))
 (sRet (fTup (fCons (fVar 2) (fCons (fVar 3) (fCons (fVar 5) fNil)))))
 sNext))
noncomputable def lb2 : FS := (sSeq (sSet 4 (fOp gIx (fOp gIx (fVar 0) (fC (.int 1))) (fVar 3)))
 (sFor (fRng2 (fOp gAdd (fVar 3) (fC (.int 1))) (fCB gLen (fCons (fOp gIx (fVar 0) (fC (.int 1))) fNil))) (gN 5) lb3))
noncomputable def lb1 : FS := (sFor (fRng1 (fCB gLen (fCons (fOp gIx (fVar 0) (fC (.int 1))) fNil))) (gN 3) lb2)
section
variable {mc : Mach} {b : Nat} (hm : mc.Ok b)
include hm
theorem lb2_ok {p : Nat × List Nat} (hp : p.1 < b) {one : Nat} (ho : one < mc.maps.length) (a4 a5 a6 : Option D) (m : M) :
    (∀ x, fc2 mc.maps p one = some x → lb2 [some (machD mc), some (iD p.1), some (tI p.2), some (iD one), a4, a5, a6] m = .rt (tlD x) m) ∧
    (fc2 mc.maps p one = none → ∃ b4 b5 b6, lb2 [some (machD mc), some (iD p.1), some (tI p.2), some (iD one), a4, a5, a6] m = .nx [some (machD mc), some (iD p.1), some (tI p.2), some (iD one), b4, b5, b6] m) := by
  have hn6 := hm.n6
  have l3 : 3 ≤ LIM := by rw [LIM_eq]; omega
  have hm1 : gIx (machD mc) (.int 1) m = .ok (mapsD mc) m := rfl
  obtain ⟨f1, f2, f3⟩ := ok_get hm ho
  have key := for_find (m := m) (gt := gN 5) (body := lb3) (ρ := [some (machD mc), some (iD p.1), some (tI p.2), some (iD one), some (tI (mc.maps.getD one [])), a5, a6]) (List.range (mc.maps.length - (one + 1))) (fun t => iD (one + 1 + t)) ((cR2 (one + 1) _).is m) (k := mc.maps.length - (one + 1)) (by simp) [5, 6] (fun t => (fc1 mc.maps p one t).map tlD) (fun vs => ∃ a c, vs = [a, c]) ⟨_, _, rfl⟩ (by
    rintro t ht vs ⟨a, c, rfl⟩
    have ht' : one + 1 + t < mc.maps.length := by
      have := List.mem_range.mp ht
      omega
    obtain ⟨g1, g2, g3⟩ := ok_get hm ht'
    have x1 : gIx (mapsD mc) (.int ((one + 1 + t : Nat) : Int)) m = .ok (tI (mc.maps.getD (one + 1 + t) [])) m := tup_getD g2 m
    have x2 := tI_getD (l := mc.maps.getD (one + 1 + t) []) (k := p.1) (by omega) m
    have x3 := tI_getD (l := mc.maps.getD one []) (k := p.1) (by omega) m
    have x4 := tI_getD (l := mc.maps.getD one []) (k := (mc.maps.getD (one + 1 + t) []).getD p.1 0) (by rw [f1]; exact g3 _ hp) m
    have x5 := tI_getD (l := mc.maps.getD (one + 1 + t) []) (k := (mc.maps.getD one []).getD p.1 0) (by rw [g1]; exact f3 _ hp) m
    have e6 : sSet 6 (fOp gIx (fOp gIx (fVar 0) (fC (.int 1))) (fVar 5)) [some (machD mc), some (iD p.1), some (tI p.2), some (iD one), some (tI (mc.maps.getD one [])), some (iD (one + 1 + t)), c] m = .nx [some (machD mc), some (iD p.1), some (tI p.2), some (iD one), some (tI (mc.maps.getD one [])), some (iD (one + 1 + t)), some (tI (mc.maps.getD (one + 1 + t) []))] m := by
      simp only [s_set, e_op, e_var, List.getElem?_cons_zero, List.getElem?_cons_succ, bind_ok, e_c, hm1, x1, out_ok]
      rfl
    have et : (fTest (fOp gNe (fOp gIx (fVar 4) (fOp gIx (fVar 6) (fVar 1))) (fOp gIx (fVar 6) (fOp gIx (fVar 4) (fVar 1))))) [some (machD mc), some (iD p.1), some (tI p.2), some (iD one), some (tI (mc.maps.getD one [])), some (iD (one + 1 + t)), some (tI (mc.maps.getD (one + 1 + t) []))] m = .ok (decide (unc mc.maps p.1 one (one + 1 + t))) m := by
      simp only [e_test, e_op, e_var, List.getElem?_cons_zero, List.getElem?_cons_succ, bind_ok, x2, x3, x4, x5, gNe_int, e_asB]
      rw [ne_cast]
      rfl
    simp only [bodyAt_n, upd_cons, upd_nil, List.set, lb3, s_seq, e6, seqK_nx, s_if, et, out_ok]
    unfold fc1
    by_cases hu : unc mc.maps p.1 one (one + 1 + t)
    · simp only [hu, decide_true, if_true, Option.map_some, s_ret, e_tup, e_cons, e_var, List.getElem?_cons_zero, List.getElem?_cons_succ, bind_ok, e_nil, List.length_cons, List.length_nil, Nat.reduceAdd, l3, out_ok]
      exact ⟨fun d h => (by cases h; rfl), fun h => (by cases h)⟩
    · simp only [hu, decide_false, Bool.false_eq_true, if_false, Option.map_none, s_next]
      exact ⟨fun d h => (by cases h), fun _ => ⟨[some (iD (one + 1 + t)), some (tI (mc.maps.getD (one + 1 + t) []))], ⟨_, _, rfl⟩, rfl⟩⟩)
  rw [find_map] at key
  have st : lb2 [some (machD mc), some (iD p.1), some (tI p.2), some (iD one), a4, a5, a6] m = forL (srcR ((one + 1 : Nat) : Int) (mc.maps.length - (one + 1))) (gN 5) lb3 (mc.maps.length - (one + 1)) 0 [some (machD mc), some (iD p.1), some (tI p.2), some (iD one), some (tI (mc.maps.getD one [])), a5, a6] m := by
    unfold lb2
    have hit : itemsD m (mapsD mc) = some (mc.maps.map tI) := rfl
    have x1 : gIx (mapsD mc) (.int (one : Int)) m = .ok (tI (mc.maps.getD one [])) m := tup_getD f2 m
    simp only [s_seq, s_set, s_for, e_rng2, e_op, e_cb, e_cons, e_var, List.getElem?_cons_zero, List.getElem?_cons_succ, bind_ok, e_c, e_add, e_nil, hm1, x1, out_ok, List.set, seqK_nx, e_len, hit, List.length_map]
    rw [show (one : Int) + 1 = ((one + 1 : Nat) : Int) by omega, rng2K_n (by rw [LIM_eq]; omega) (by rw [LIM_eq]; omega), out_ok]
    rfl
  rw [st]
  refine ⟨fun x hx => key.1 _ (by rw [show (List.range (mc.maps.length - (one + 1))).findSome? (fc1 mc.maps p one) = _ from hx]; rfl), fun hx => ?_⟩
  obtain ⟨vs, ⟨a, c, rfl⟩, e⟩ := key.2 (by rw [show (List.range (mc.maps.length - (one + 1))).findSome? (fc1 mc.maps p one) = _ from hx]; rfl)
  exact ⟨_, a, c, e⟩
theorem lb1_ok {p : Nat × List Nat} (hp : p.1 < b) (a3 a4 a5 a6 : Option D) (m : M) :
    (∀ x, fc3 mc.maps p = some x → lb1 [some (machD mc), some (iD p.1), some (tI p.2), a3, a4, a5, a6] m = .rt (tlD x) m) ∧
    (fc3 mc.maps p = none → ∃ b3 b4 b5 b6, lb1 [some (machD mc), some (iD p.1), some (tI p.2), a3, a4, a5, a6] m = .nx [some (machD mc), some (iD p.1), some (tI p.2), b3, b4, b5, b6] m) := by
  have hn6 := hm.n6
  have key := for_find (m := m) (gt := gN 3) (body := lb2) (ρ := [some (machD mc), some (iD p.1), some (tI p.2), a3, a4, a5, a6]) (List.range mc.maps.length) iD (isR _ m) (k := mc.maps.length) (by simp) [3, 4, 5, 6] (fun one => (fc2 mc.maps p one).map tlD) (fun vs => ∃ a b c d, vs = [a, b, c, d]) ⟨_, _, _, _, rfl⟩ (by
    rintro one ho vs ⟨a, b', c, d, rfl⟩
    obtain ⟨k1, k2⟩ := lb2_ok hm hp (List.mem_range.mp ho) b' c d m
    simp only [bodyAt_n, upd_cons, upd_nil, List.set]
    refine ⟨fun d hd => ?_, fun hd => ?_⟩
    · obtain ⟨x, hx, rfl⟩ := Option.map_eq_some_iff.mp hd
      exact k1 x hx
    · obtain ⟨b4, b5, b6, e⟩ := k2 (Option.map_eq_none_iff.mp hd)
      exact ⟨[some (iD one), b4, b5, b6], ⟨_, _, _, _, rfl⟩, e⟩)
  rw [find_map] at key
  have st : lb1 [some (machD mc), some (iD p.1), some (tI p.2), a3, a4, a5, a6] m = forL (srcR 0 mc.maps.length) (gN 3) lb2 mc.maps.length 0 [some (machD mc), some (iD p.1), some (tI p.2), a3, a4, a5, a6] m := by
    unfold lb1
    have hit : itemsD m (mapsD mc) = some (mc.maps.map tI) := rfl
    have hm1 : gIx (machD mc) (.int 1) m = .ok (mapsD mc) m := rfl
    simp only [s_for, e_rng, e_op, e_cb, e_cons, e_var, List.getElem?_cons_zero, List.getElem?_cons_succ, bind_ok, e_c, e_nil, hm1, e_len, hit, List.length_map]
    rw [rngK_n (by rw [LIM_eq]; omega), out_ok]
    rfl
  rw [st]
  refine ⟨fun x hx => key.1 _ (by rw [show (List.range mc.maps.length).findSome? (fc2 mc.maps p) = _ from hx]; rfl), fun hx => ?_⟩
  obtain ⟨vs, ⟨a, b', c, d, rfl⟩, e⟩ := key.2 (by rw [show (List.range mc.maps.length).findSome? (fc2 mc.maps p) = _ from hx]; rfl)
  exact ⟨a, b', c, d, e⟩
theorem law_clash_ok {m : M} (hw : Wf m) : F__law_clash [machD mc] m = .ok (fcD (fcl mc.maps (bfs mc.maps mc.start b))) m := by
  have okb := bfs_ok hm.len hm.ent hm.st b
  generalize hS : bfs mc.maps mc.start b = S at *
  have hr := law_rows_ok hm hw
  rw [hS] at hr
  have hat : (m ++ [O.lst (S.map rowD)])[m.length]? = some (.lst (S.map rowD)) := at_snoc _ _
  have key := for_find (m := m ++ [O.lst (S.map rowD)]) (gt := gT 2 (gCons' (gN 1) (gCons' (gN 2) gNil'))) (body := lb1) (ρ := [some (machD mc), none, none, none, none, none, none]) S rowD (isL hat (k := S.length) (by simp)) (k := S.length) rfl [1, 2, 3, 4, 5, 6] (fun p => (fc3 mc.maps p).map tlD) (fun vs => ∃ a b c d e f, vs = [a, b, c, d, e, f]) ⟨_, _, _, _, _, _, rfl⟩ (by
    rintro p hp vs ⟨a, b', c, d, e, f, rfl⟩
    obtain ⟨k1, k2⟩ := lb1_ok hm (okb.lt p hp) c d e f (m ++ [O.lst (S.map rowD)])
    simp only [rowD, bodyAt_t2, upd_cons, upd_nil, List.set]
    refine ⟨fun d hd => ?_, fun hd => ?_⟩
    · obtain ⟨x, hx, rfl⟩ := Option.map_eq_some_iff.mp hd
      exact k1 x hx
    · obtain ⟨b3, b4, b5, b6, e⟩ := k2 (Option.map_eq_none_iff.mp hd)
      exact ⟨[some (iD p.1), some (tI p.2), b3, b4, b5, b6], ⟨_, _, _, _, _, _, rfl⟩, e⟩)
  rw [find_map] at key
  have st : g__law_clash (startD 7 [machD mc]) m = seqK (forL (srcL m.length S.length) (gT 2 (gCons' (gN 1) (gCons' (gN 2) gNil'))) lb1 S.length 0 [some (machD mc), none, none, none, none, none, none] (m ++ [O.lst (S.map rowD)])) (sRet (fC .non)) := by
    unfold g__law_clash
    have hg := gcR_new (L := m.length) (m := m) (j := [.lst (S.map rowD)]) (n := m.length) rfl hw (Nat.le_refl _) (at_snoc _ _) (rows_blw _ _)
    have hsrc := srcK_l hat
    rw [List.length_map] at hsrc
    simp [hr, hg, hsrc]
    rfl
  have hwr : ∀ d : D, d.num = true ∨ d = .non → gcR m.length (.ok d (m ++ [O.lst (S.map rowD)])) = .ok d m := fun d hd => gcR_junk rfl hw (by
    rcases hd with hd | hd
    · exact num_blw hd _
    · rw [hd]; rfl)
  unfold F__law_clash runF
  rw [if_pos (by rfl), st]
  cases hc : fcl mc.maps S with
  | none =>
    obtain ⟨vs, _, e⟩ := key.2 (by rw [show S.findSome? (fc3 mc.maps) = _ from hc]; rfl)
    rw [e, seqK_nx, s_ret]
    exact hwr _ (.inr rfl)
  | some x =>
    rw [key.1 (tlD x) (by rw [show S.findSome? (fc3 mc.maps) = _ from hc]; rfl), seqK_rt]
    exact hwr _ (.inl (by simp [tlD, D.num, D.nums, tI_num]))
theorem costs_ok {m : M} (hw : Wf m) : F_costs_nothing [machD mc] m = .ok (.bl (fcD (fcl mc.maps (bfs mc.maps mc.start b))).isN) m := runF_rt rfl (by
  simp [g_costs_nothing, fUn, clash_ok hm hw, gIsN])
end
def pair1 (x : Fd) : Hist := x.1.map (fun d => (0, d)) ++ [(0, x.2.1), (1, x.2.2)]
def pair2 (x : Fd) : Hist := x.1.map (fun d => (0, d)) ++ [(1, x.2.2), (0, x.2.1)]
def pairD : Option Fd → D
  | none => .non
  | some x => .tup [histD (pair1 x), histD (pair2 x)]
theorem law_pair_ok {x : Option Fd} (hx : ∀ y, x = some y → y.1.length ≤ 1000) (m : M) : F__law_pair [fcD x] m = .ok (pairD x) m := runF_rt rfl (by
  cases x with
  | none => simp [g__law_pair, fcD, fIsNT, D.isN, pairD]
  | some y =>
    obtain ⟨r, o, t⟩ := y
    have hl := hx _ rfl
    have l2 : 2 ≤ LIM := by rw [LIM_eq]; omega
    have l3 : r.length + 2 ≤ LIM := by rw [LIM_eq]; simp at hl; omega
    have hI : tI r = .tup (r.map iD) := rfl
    simp [g__law_pair, fcD, fIsNT, D.isN]
    rw [fLc_y (m := m) (src := srcT (r.map iD)) r iD (fun d => .tup [iD 0, iD d]) (by simp [hI]) (isT _ _) (by rw [LIM_eq]; simp at hl; omega) fun d _ => ⟨_, rfl, by simp [wipeD, l2]⟩]
    simp [pairD, pair1, pair2, histD, letD, l2, l3, Function.comp_def])
theorem two_ok {mc : Mach} {b : Nat} (hm : mc.Ok b) {m : M} (hw : Wf m) : F_two_of_one_rim [machD mc] m = .ok (pairD (fcl mc.maps (bfs mc.maps mc.start b))) m := runF_rt rfl (by
  have hc := clash_ok hm hw
  have okb := bfs_ok hm.len hm.ent hm.st b
  cases h : fcl mc.maps (bfs mc.maps mc.start b) with
  | none =>
    rw [h] at hc
    simp [g_two_of_one_rim, hc, fcD, fIsNT, D.isN, pairD]
  | some y =>
    rw [h] at hc
    obtain ⟨r, o, t⟩ := y
    have hl : r.length ≤ 1000 := by
      unfold fcl at h
      obtain ⟨p, hp, h1⟩ := List.exists_of_findSome?_eq_some h
      unfold fc3 at h1
      obtain ⟨o', _, h2⟩ := List.exists_of_findSome?_eq_some h1
      unfold fc2 at h2
      obtain ⟨t', _, h3⟩ := List.exists_of_findSome?_eq_some h2
      unfold fc1 at h3
      split at h3
      · simp only [Option.some.injEq, Prod.mk.injEq] at h3
        obtain ⟨i, hi⟩ := List.getElem?_of_mem hp
        have h5 := okb.len i p hi
        have h6 := okb.le
        have h7 := (List.getElem?_eq_some_iff.mp hi).1
        have := hm.b8
        rw [← h3.1]
        omega
      · cases h3
    have l2 : 2 ≤ LIM := by rw [LIM_eq]; omega
    have l3 : r.length + 2 ≤ LIM := by rw [LIM_eq]; omega
    have hI : tI r = .tup (r.map iD) := rfl
    simp [g_two_of_one_rim, hc, fcD, fIsNT, D.isN]
    rw [fLc_y (m := m) (src := srcT (r.map iD)) r iD (fun d => .tup [iD 0, iD d]) (by simp [hI]) (isT _ _) (by rw [LIM_eq]; omega) fun d _ => ⟨_, rfl, by simp [wipeD, l2]⟩]
    simp [pairD, pair1, pair2, histD, letD, l2, l3, Function.comp_def])
end K93

namespace K93
open PySem PyProof.Rows L2 Dl
/-! ### rims, plain -/
def leadH (maps : List (List Nat)) (s : Nat) (row : Hist) : Nat := row.foldl (fun b p => (maps.getD p.2 []).getD b 0) s
def rimR (maps : List (List Nat)) (s : Nat) (row : Hist) : List Nat := (List.range (row.length + 1)).map fun k => leadH maps s (row.take k)
theorem rimR_snoc (maps : List (List Nat)) (s : Nat) (row : Hist) (p : Nat × Nat) : rimR maps s (row ++ [p]) = rimR maps s row ++ [(maps.getD p.2 []).getD (leadH maps s row) 0] := by
  unfold rimR
  rw [List.length_append, List.length_singleton, List.range_succ, List.map_append]
  congr 1
  · refine List.map_congr_left fun k hk => ?_
    have := List.mem_range.mp hk
    rw [List.take_append_of_le_length (by omega)]
  · rw [List.map_singleton, List.take_of_length_le (by simp)]
    simp [leadH]
theorem rimR_last (maps : List (List Nat)) (s : Nat) (row : Hist) : (rimR maps s row)[row.length]? = some (leadH maps s row) := by
  unfold rimR
  rw [List.getElem?_map, List.getElem?_range (by omega)]
  simp
theorem rimR_len (maps : List (List Nat)) (s : Nat) (row : Hist) : (rimR maps s row).length = row.length + 1 := by simp [rimR]
def alone (hs j n : Nat) : List Nat := (List.range hs).map fun i => if i = j then n else 0
theorem alone_len (hs j n : Nat) : (alone hs j n).length = hs := by simp [alone]
theorem alone_succ (hs j n : Nat) : alone (hs + 1) j n = alone hs j n ++ [if hs = j then n else 0] := by
  unfold alone
  rw [List.range_succ, List.map_append, List.map_singleton]
theorem vecs_alone : ∀ (hs j n : Nat), vecs (alone hs j n) = if j < hs then (List.range (n + 1)).map (alone hs j) else [alone hs j 0]
  | 0, j, n => by rw [if_neg (by omega)]; rfl
  | hs + 1, j, n => by
    rw [alone_succ, vecs_snoc, vecs_alone hs j n]
    by_cases h : j < hs
    · rw [if_pos h, if_pos (show j < hs + 1 by omega), if_neg (show ¬ hs = j by omega)]
      unfold stepV
      rw [List.flatMap_map]
      have e : (fun a => (List.range (0 + 1)).map fun k => alone hs j a ++ [k]) = fun a => [alone (hs + 1) j a] := by
        funext a
        rw [alone_succ, if_neg (by omega)]
        rfl
      rw [e]
      generalize List.range (n + 1) = l
      induction l with
      | nil => rfl
      | cons x t ih => rw [List.flatMap_cons, ih]; rfl
    · rw [if_neg h]
      unfold stepV
      have al : ∀ k, alone hs j k = alone hs j 0 := by
        intro k
        unfold alone
        refine List.map_congr_left fun i hi => ?_
        have := List.mem_range.mp hi
        rw [if_neg (by omega), if_neg (by omega)]
      by_cases e : hs = j
      · rw [if_pos e, if_pos (show j < hs + 1 by omega)]
        simp only [List.flatMap_cons, List.flatMap_nil, List.append_nil]
        refine List.map_congr_left fun k _ => ?_
        rw [alone_succ, if_pos e, al k]
      · rw [if_neg e, if_neg (show ¬ j < hs + 1 by omega), alone_succ, if_neg e]
        rfl
theorem alone_getD (hs j n i : Nat) : (alone hs j n).getD i 0 = if i = j ∧ i < hs then n else 0 := by
  unfold alone
  rw [List.getD_eq_getElem?_getD, List.getElem?_map]
  by_cases h : i < hs
  · rw [List.getElem?_range h]
    by_cases e : i = j
    · simp [e]
      omega
    · simp [e]
  · rw [List.getElem?_eq_none (by simpa using h)]
    simp
    omega
theorem stF_alone (maps : List (List Nat)) (j : Nat) : ∀ (h : Hist) (b : Nat) (v : List Nat), j < v.length → (∀ i, i ≠ j → v.getD i 0 = 0) → (stF maps (b, v) h).1 = leadH maps b ((rowOf h j).take (v.getD j 0))
  | [], b, v, _, _ => by simp [stF, rowOf, leadH]
  | p :: h, b, v, hj, hz => by
    rw [stF_cons]
    unfold stp rowOf
    by_cases e : p.1 = j
    · have e' : (p.1 == j) = true := by simpa using e
      simp only [List.filter_cons, e', if_true]
      by_cases hv : 0 < v.getD j 0
      · rw [if_pos (by rw [e]; exact hv)]
        obtain ⟨k, hk⟩ : ∃ k, v.getD j 0 = k + 1 := ⟨v.getD j 0 - 1, by omega⟩
        rw [stF_alone maps j h _ _ (by simpa using hj) (fun i hi => by
          rw [getD_set]
          simp only [e]
          rw [if_neg (by omega)]
          exact hz i hi)]
        rw [hk, List.take_succ_cons, getD_set, if_pos ⟨e, hj⟩]
        simp only [e, hk, Nat.add_sub_cancel]
        rfl
      · rw [if_neg (by rw [e]; exact hv)]
        have hk : v.getD j 0 = 0 := by omega
        rw [stF_alone maps j h _ _ hj hz, hk]
        rfl
    · have e' : (p.1 == j) = false := by simpa using e
      simp only [List.filter_cons, e', Bool.false_eq_true, if_false]
      rw [if_neg (by show ¬ 0 < v.getD p.1 0; rw [hz _ e]; omega)]
      exact stF_alone maps j h _ _ hj hz
theorem rim_brd {mc : Mach} {hs j : Nat} (h : Hist) (hj : j < hs) : (vecs (alone hs j (num1 h j))).map (brd mc.maps mc.start h) = rimR mc.maps mc.start (rowOf h j) := by
  rw [vecs_alone, if_pos hj, List.map_map]
  unfold rimR
  have hl : (rowOf h j).length = num1 h j := rfl
  rw [hl]
  refine List.map_congr_left fun k _ => ?_
  show (stF mc.maps (mc.start, alone hs j k) h).1 = _
  rw [stF_alone mc.maps j h _ _ (by rw [alone_len]; exact hj) (fun i hi => by rw [alone_getD, if_neg (by omega)]), alone_getD, if_pos ⟨rfl, hj⟩]
theorem within_alone {hs j : Nat} (h : Hist) : Within (cnt hs h) (alone hs j (num1 h j)) := by
  refine ⟨by rw [alone_len, cnt_len], fun i n k hn hk => ?_⟩
  have hi : i < hs := by
    have := (List.getElem?_eq_some_iff.mp hn).1
    rwa [cnt_len] at this
  rw [cnt_at h hi] at hn
  have := alone_getD hs j (num1 h j) i
  rw [List.getD_eq_getElem?_getD, hk] at this
  cases hn
  simp only [Option.getD_some] at this
  by_cases e : i = j
  · rw [if_pos ⟨e, hi⟩] at this
    rw [this, e]
    exact Nat.le_refl _
  · rw [if_neg (by omega)] at this
    omega
section
variable {mc : Mach} {b hs : Nat} (S : Set' mc b hs)
include S
theorem rim_ok {h : Hist} (ok : HOk hs mc.maps.length h) (hl : h.length ≤ 12) {j : Nat} (hj : j < hs) {m : M} (hw : Wf m) : F_rim [tab mc hs h, iD j] m = .ok (tI (rimR mc.maps mc.start (rowOf h j))) m := runF_rt rfl (by
  have c1 : 1 ≤ (cnt hs h).length := by rw [cnt_len]; exact S.h1
  have c4 : (cnt hs h).length ≤ 4 := by rw [cnt_len]; exact S.h4
  have e1 : F_check_part [tab mc hs h, .int 8] m = .ok (tab mc hs h) m := check_part_ok (n := 8) c1 c4 (prd_cnt S hl) (by rw [List.length_map, vecs_len]) (fun e he => by
    obtain ⟨v, _, rfl⟩ := List.mem_map.mp he
    exact Nat.lt_of_lt_of_le (brd_ok S ok v) S.m.b8) m
  have e2 : F_need_hand [tab mc hs h, iD j] m = .ok (iD j) m := need_hand_ok (by rw [cnt_len]; exact hj) m
  have e4 : gIx (tab mc hs h) (.int 0) m = .ok (tI (cnt hs h)) m := rfl
  have ep := part_of_ok S ok hl (within_alone (hs := hs) (j := j) h) hw
  rw [rim_brd h hj] at ep
  have ec : ∀ a b c d, fLc (fEnum (fOp gIx (fVar 2) (fC (.int 0)))) (gT 2 (gCons' (gN 4) (gCons' (gN 5) gNil'))) [4, 5] fYes (fIf (fTest (fOp gEq (fVar 4) (fVar 1))) (fVar 5) (fC (.int 0))) [a, some (iD j), some (tab mc hs h), b, c, d] m = .ok ((alone hs j (num1 h j)).map iD) m := by
    intro a b c d
    have hsrc : SrcIs (srcTE ((cnt hs h).map iD)) ((List.range hs).map fun i => .tup [iD i, iD (num1 h i)]) m := by
      have := (cTE_map (cnt hs h) iD).is m
      rw [enum_range (cnt hs h) iD 0, cnt_len] at this
      have e : ((List.range hs).map fun i => D.tup [iD i, iD ((cnt hs h).getD i 0)]) = (List.range hs).map fun i => .tup [iD i, iD (num1 h i)] := by
        refine List.map_congr_left fun i hi => ?_
        rw [getD_some (cnt_at h (List.mem_range.mp hi))]
      rw [e] at this
      exact this
    have hE : enumK m (tI (cnt hs h)) = .ok (srcTE ((cnt hs h).map iD)) m := rfl
    rw [fLc_y (List.range hs) (fun i => .tup [iD i, iD (num1 h i)]) (fun i => iD (if i = j then num1 h j else 0)) (by simp only [e_enum, e_op, e_var, List.getElem?_cons_zero, List.getElem?_cons_succ, bind_ok, e_c, e4, hE]) hsrc (by have := S.h4; rw [LIM_eq]; simp; omega) fun i hi => ?_]
    · congr 1
      unfold alone
      rw [List.map_map]
      rfl
    · refine ⟨_, rfl, ?_⟩
      by_cases e : i = j
      · simp [wipeD, e]
      · have e' : ¬ ((i : Int) = (j : Int)) := by omega
        simp [wipeD, e, e']
  have hT : D.tup ((alone hs j (num1 h j)).map iD) = tI (alone hs j (num1 h j)) := rfl
  simp [g_rim, e1, e2, ec, hT, ep])
/-- a pair of histories as it may be handed in -/
structure IsPair (m : M) (v : D) (h1 h2 : Hist) : Prop where
  seq : F_is_sequence [v] m = .ok (.bl true) m
  len : ∃ x y, itemsD m v = some [x, y]
  src : ∃ src x1 x2, srcK m v = .ok src m ∧ SrcIs src [x1, x2] m ∧ IsHist m x1 h1 ∧ IsHist m x2 h2
def rimsEq (mc : Mach) (hs : Nat) (h1 h2 : Hist) : Prop := cnt hs h1 = cnt hs h2 ∧ tab mc hs h1 ≠ tab mc hs h2 ∧ ∀ j < hs, rimR mc.maps mc.start (rowOf h1 j) = rimR mc.maps mc.start (rowOf h2 j)
noncomputable instance (mc : Mach) (hs : Nat) (h1 h2 : Hist) : Decidable (rimsEq mc hs h1 h2) := Classical.propDecidable _
theorem rims_hold_ok {h1 h2 : Hist} {v : D} {m : M} (hw : Wf m) (hp : IsPair m v h1 h2) (ok1 : HOk hs mc.maps.length h1) (ok2 : HOk hs mc.maps.length h2) (l1 : h1.length ≤ 12) (l2 : h2.length ≤ 12) :
    F_rims_hold [machD mc, iD hs, v] m = .ok (.bl (decide (rimsEq mc hs h1 h2))) m := runF_rt rfl (by
  obtain ⟨src, x1, x2, s1, s2, i1, i2⟩ := hp.src
  obtain ⟨y1, y2, hlen⟩ := hp.len
  have hl2 : (2 : Nat) ≤ LIM := by rw [LIM_eq]; omega
  have c0 := check_history_ok (d := .tup []) (h := []) S.m S.h1 S.h4 (isHist_t m []) ⟨fun p hp => by simp at hp, fun p hp => by simp at hp⟩ (Nat.zero_le _)
  have k1 := check_history_ok S.m S.h1 S.h4 i1 ok1 (by rw [LIM_eq]; omega)
  have k2 := check_history_ok S.m S.h1 S.h4 i2 ok2 (by rw [LIM_eq]; omega)
  have r1 : F_is_row_of [machD mc, iD hs, x1] m = .ok (.bl true) m := runF_rt rfl (by simp [g_is_row_of, k1])
  have r2 : F_is_row_of [machD mc, iD hs, x2] m = .ok (.bl true) m := runF_rt rfl (by simp [g_is_row_of, k2])
  have t1 := table_of_ok S i1 ok1 l1 hw
  have t2 := table_of_ok S i2 ok2 l2 hw
  have s2' : SrcIs src ([0, 1].map fun i => if i = 0 then x1 else x2) m := s2
  have a1 : ∀ b c d e, fLc (fWalk (fVar 2)) (gN 4) [4] fYes (fCall F_is_row_of (fCons (fVar 3) (fCons (fVar 1) (fCons (fVar 4) fNil)))) [some (machD mc), some (iD hs), some v, some (machD mc), b, c, d, e] m = .ok [.bl true, .bl true] m := by
    intro b c d e
    refine (fLc_y [0, 1] (fun i => if i = 0 then x1 else x2) (fun _ => .bl true) (by simp [s1]) s2' (by simpa using hl2) fun i hi => ⟨_, rfl, ?_⟩).trans rfl
    simp at hi
    rcases hi with rfl | rfl
    · simp [wipeD, r1]
    · simp [wipeD, r2]
  have a2 : ∀ b c d e, fLc (fWalk (fVar 2)) (gN 6) [6] fYes (fCall F_table_of (fCons (fVar 3) (fCons (fVar 1) (fCons (fVar 6) fNil)))) [some (machD mc), some (iD hs), some v, some (machD mc), b, c, d, e] m = .ok [tab mc hs h1, tab mc hs h2] m := by
    intro b c d e
    refine (fLc_y [0, 1] (fun i => if i = 0 then x1 else x2) (fun i => if i = 0 then tab mc hs h1 else tab mc hs h2) (by simp [s1]) s2' (by simpa using hl2) fun i hi => ⟨_, rfl, ?_⟩).trans rfl
    simp at hi
    rcases hi with rfl | rfl
    · simp [wipeD, t1]
    · simp [wipeD, t2]
  have ne1 := gNe_num (tI_num (cnt hs h1)) (tI_num (cnt hs h2)) (by have := tI_dep (cnt hs h1); omega) (by have := tI_dep (cnt hs h2); omega) m
  have eq1 := gEq_num (tab_num mc hs h1) (tab_num mc hs h2) (tab_dep mc hs h1) (tab_dep mc hs h2) m
  have f1 : gIx (tab mc hs h1) (.int 0) m = .ok (tI (cnt hs h1)) m := rfl
  have f2 : gIx (tab mc hs h2) (.int 0) m = .ok (tI (cnt hs h2)) m := rfl
  have a3 : ∀ c d, fLc (fRng1 (fVar 1)) (gN 7) [7] fYes (fOp gEq (fCall F_rim (fCons (fVar 4) (fCons (fVar 7) fNil))) (fCall F_rim (fCons (fVar 5) (fCons (fVar 7) fNil)))) [some (machD mc), some (iD hs), some v, some (machD mc), some (tab mc hs h1), some (tab mc hs h2), c, d] m = .ok ((List.range hs).map fun j => D.bl ((fun j => decide (rimR mc.maps mc.start (rowOf h1 j) = rimR mc.maps mc.start (rowOf h2 j))) j)) m := by
    intro c d
    have := S.h4
    refine fLc_y (List.range hs) iD _ (by simp [rngK_n (k := hs) (by rw [LIM_eq]; omega)]) (isR hs m) (by rw [LIM_eq]; simp; omega) fun j hj => ⟨_, rfl, ?_⟩
    have q1 := rim_ok S ok1 l1 (List.mem_range.mp hj) hw
    have q2 := rim_ok S ok2 l2 (List.mem_range.mp hj) hw
    have eq := gEq_num (tI_num (rimR mc.maps mc.start (rowOf h1 j))) (tI_num (rimR mc.maps mc.start (rowOf h2 j))) (by have := tI_dep (rimR mc.maps mc.start (rowOf h1 j)); omega) (by have := tI_dep (rimR mc.maps mc.start (rowOf h2 j)); omega) m
    simp only [e_op, e_call, e_cons, e_var, e_nil, wipeD, List.set, List.getElem?_cons_zero, List.getElem?_cons_succ, bind_ok, q1, q2, gcR_same, eq]
    have : (tI (rimR mc.maps mc.start (rowOf h1 j)) = tI (rimR mc.maps mc.start (rowOf h2 j))) ↔ (rimR mc.maps mc.start (rowOf h1 j) = rimR mc.maps mc.start (rowOf h2 j)) := ⟨tI_inj, congrArg tI⟩
    simp only [this]
  have sA : sAsgL 2 (fLc (fWalk (fVar 2)) (gN 6) [6] fYes (fCall F_table_of (fCons (fVar 3) (fCons (fVar 1) (fCons (fVar 6) fNil))))) (gCons' (gN 4) (gCons' (gN 5) gNil')) [some (machD mc), some (iD hs), some v, some (machD mc), none, none, none, none] m = .nx [some (machD mc), some (iD hs), some v, some (machD mc), some (tab mc hs h1), some (tab mc hs h2), none, none] m := by
    unfold sAsgL
    rw [a2, out_ok]
    rfl
  have hcT : (tI (cnt hs h1) = tI (cnt hs h2)) ↔ (cnt hs h1 = cnt hs h2) := ⟨tI_inj, congrArg tI⟩
  simp only [g_rims_hold, startD_eq, List.map_cons, List.map_nil, List.length_cons, List.length_nil, List.cons_append, List.nil_append]
  have hall : gAllL [.bl true, .bl true] m = .ok (.bl true) m := rfl
  simp [check_machine_ok S.m, c0, hp.seq, hlen, a1, hall, sA, f1, f2, ne1, eq1, hcT]
  by_cases q1 : cnt hs h1 = cnt hs h2
  · by_cases q2 : tab mc hs h1 = tab mc hs h2
    · simp [q1, q2, rimsEq]
    · simp [q1, q2]
      rw [a3, bind_ok, allL_p]
      simp [rimsEq, q1, q2]
      rw [Bool.eq_iff_iff, List.all_eq_true, decide_eq_true_iff]
      simp
  · simp [q1, rimsEq])
end
end K93

namespace K93
open PySem PyProof.Rows L2 Dl
theorem isHist_l {m : M} {k : Nat} {h : Hist} (e : m[k]? = some (.lst (h.map letD))) : IsHist m (.ref k) h := by
  refine ⟨is_sequence_ref e, h.map letD, srcL k h.length, srcLE k h.length, by simp [e], by rw [srcK_l e, List.length_map], isL e (by simp), by rw [enumK_l e, List.length_map], isLE e (by simp), by simp, fun i p hp => ⟨letD p, by simp [hp], rfl, fun hs ds h1 h2 => is_letter_ok h1 h2 m⟩⟩
def rimM (m : M) (rows : List (List Nat)) (J : M) : M := m ++ (.lst (refs (m.length + 1) rows.length) :: (rows.map lO ++ J))
theorem rimM_f (m : M) (rows : List (List Nat)) (J : M) : (rimM m rows J)[m.length]? = some (.lst (refs (m.length + 1) rows.length)) := by simp [rimM]
theorem rimM_r (m : M) (rows : List (List Nat)) (o : O) (J : M) : (rimM m rows (o :: J))[m.length + 1 + rows.length]? = some o := by
  unfold rimM
  rw [List.getElem?_append_right (by omega), show m.length + 1 + rows.length - m.length = rows.length + 1 by omega, List.getElem?_cons_succ, List.getElem?_append_right (by simp)]
  simp
theorem rimM_set (m : M) (rows : List (List Nat)) (o o' : O) (J : M) : (rimM m rows (o :: J)).set (m.length + 1 + rows.length) o' = rimM m rows (o' :: J) := by
  unfold rimM
  rw [List.set_append_right _ _ (by omega), show m.length + 1 + rows.length - m.length = rows.length + 1 by omega, List.set_cons_succ, List.set_append_right _ _ (by simp)]
  simp
theorem set_snoc_cons (m : M) (o o' : O) (J : M) : (m ++ (o :: J)).set m.length o' = m ++ (o' :: J) := by simp [List.set_append]
theorem rimM_len (m : M) (rows : List (List Nat)) (J : M) : (rimM m rows J).length = m.length + 1 + rows.length + J.length := by simp [rimM]; omega
theorem law_rims_ok {mc : Mach} {b hs : Nat} (S : Set' mc b hs) {h : Hist} (ok : HOk hs mc.maps.length h) (hl : h.length ≤ 1000) {m : M} {d0 : D} (w : Wk m d0 h) :
    F__law_rims [machD mc, iD hs, d0] m = .ok (.ref m.length) (rimM m ((List.range hs).map fun j => rimR mc.maps mc.start (rowOf h j)) []) := by
  have l1 : 1 ≤ LIM := by rw [LIM_eq]; omega
  have h4 := S.h4
  refine RW.eq (run_w rfl ?_)
  unfold g__law_rims
  have e1 : sSet 3 (fName (fLst fNil)) (startD 8 [machD mc, iD hs, d0]) m = .nx [some (machD mc), some (iD hs), some d0, some (.ref m.length), none, none, none, none] (rimM m [] []) := by
    simp [rimM, refs]
  simp only [s_seq, OW_seqK, e1, OW_nx, thenP_nx, s_for, e_rng, e_var, List.getElem?_cons_zero, List.getElem?_cons_succ, bind_ok]
  rw [rngK_n (k := hs) (by rw [LIM_eq]; omega), out_ok]
  refine for_c (List.range hs) iD (cR hs) (by simp [srcR]) [4, 5, 6, 7] (fun pre vs m' => ∃ a b c d, vs = [a, b, c, d] ∧ m' = rimM m (pre.map fun j => rimR mc.maps mc.start (rowOf h j)) []) ⟨_, _, _, _, rfl, rfl⟩ ?_ ?_
  · rintro pre j post vs m' hpl ⟨a, b', c, d, rfl, rfl⟩
    have hpre : pre.length < hs := by
      have := congrArg List.length hpl
      simp at this
      omega
    simp only [bodyAt_n, upd_cons, upd_nil, List.set]
    generalize hR : (pre.map fun j => rimR mc.maps mc.start (rowOf h j)) = rows at *
    have hRl : rows.length = pre.length := by rw [← hR]; simp
    have e5 : sSet 5 (fName (fLst (fCons (fOp gIx (fVar 0) (fC (.int 0))) fNil))) [some (machD mc), some (iD hs), some d0, some (.ref m.length), some (iD j), b', c, d] (rimM m rows []) = .nx [some (machD mc), some (iD hs), some d0, some (.ref m.length), some (iD j), some (.ref (m.length + 1 + rows.length)), c, d] (rimM m rows [lO (rimR mc.maps mc.start (rowOf [] j))]) := by
      simp only [s_set, e_name, e_lst, e_cons, e_op, e_var, List.getElem?_cons_zero, List.getElem?_cons_succ, bind_ok, e_c, e_nil, machD, e_ixT, at0, getK_some, List.length_cons, List.length_nil, Nat.zero_add, l1, if_true, out_ok, rimM_len, List.set]
      simp [rimM, rowOf, rimR, leadH, lO, iD]
    simp only [s_seq, OW_seqK, e5, OW_nx, thenP_nx, s_for, e_walk, e_var, List.getElem?_cons_zero, List.getElem?_cons_succ, bind_ok]
    have wJ : ∀ J, Wk (rimM m rows J) d0 h := fun J => w.app _
    rw [(wJ _).k, out_ok]
    refine for_s h letD ((wJ []).is.n.trans (by simp)) [6, 7] (fun pre vs m' => ∃ c d, vs = [c, d] ∧ m' = rimM m rows [lO (rimR mc.maps mc.start (rowOf pre j))]) ⟨_, _, rfl, rfl⟩ ?_ ?_ ?_
    · rintro pre vs m' ⟨c, d, rfl, rfl⟩
      exact (wJ _).is
    · rintro pre p post vs m' hpl ⟨c, d, rfl, rfl⟩
      have hpm : p ∈ h := by rw [hpl]; simp
      have hpre2 : pre.length < h.length := by rw [hpl]; simp
      obtain ⟨f1, f2, f3⟩ := ok_get S.m (ok.deed p hpm)
      have hrow : (rowOf pre j).length ≤ pre.length := List.length_filter_le _ _
      have hlead : leadH mc.maps mc.start (rowOf pre j) < b := by
        have : ∀ (r : Hist) (s : Nat), s < b → (∀ q ∈ r, q.2 < mc.maps.length) → leadH mc.maps s r < b := by
          intro r
          induction r with
          | nil => intro s hs _; exact hs
          | cons q t ih => intro s hs hq; exact ih _ ((ok_get S.m (hq q List.mem_cons_self)).2.2 s hs) fun x hx => hq x (List.mem_cons_of_mem _ hx)
        refine this _ _ S.m.st fun q hq => ok.deed q ?_
        rw [hpl]
        exact List.mem_append_left _ (List.mem_filter.mp hq).1
      have hM := rimM_r m rows (lO (rimR mc.maps mc.start (rowOf pre j))) []
      simp only [letD, bodyAt_t2, upd_cons, upd_nil, List.set]
      have x1 : gIx (machD mc) (.int 1) (rimM m rows [lO (rimR mc.maps mc.start (rowOf pre j))]) = .ok (mapsD mc) (rimM m rows [lO (rimR mc.maps mc.start (rowOf pre j))]) := rfl
      have x2 : gIx (mapsD mc) (.int (p.2 : Int)) (rimM m rows [lO (rimR mc.maps mc.start (rowOf pre j))]) = .ok (tI (mc.maps.getD p.2 [])) (rimM m rows [lO (rimR mc.maps mc.start (rowOf pre j))]) := tup_getD f2 _
      have x3 : gIx (.ref (m.length + 1 + rows.length)) (.int ((rowOf pre j).length : Int)) (rimM m rows [lO (rimR mc.maps mc.start (rowOf pre j))]) = .ok (iD (leadH mc.maps mc.start (rowOf pre j))) (rimM m rows [lO (rimR mc.maps mc.start (rowOf pre j))]) := ref_getD hM (rimR_last _ _ _)
      have x4 := tI_getD (l := mc.maps.getD p.2 []) (k := leadH mc.maps mc.start (rowOf pre j)) (by omega) (rimM m rows [lO (rimR mc.maps mc.start (rowOf pre j))])
      have hit : itemsD (rimM m rows [lO (rimR mc.maps mc.start (rowOf pre j))]) (.ref (m.length + 1 + rows.length)) = some ((rimR mc.maps mc.start (rowOf pre j)).map iD) := by
        rw [e_itL, hM]
        rfl
      have et : (fTest (fOp gEq (fVar 6) (fVar 4))) [some (machD mc), some (iD hs), some d0, some (.ref m.length), some (iD j), some (.ref (m.length + 1 + rows.length)), some (iD p.1), some (iD p.2)] (rimM m rows [lO (rimR mc.maps mc.start (rowOf pre j))]) = .ok (decide (p.1 = j)) (rimM m rows [lO (rimR mc.maps mc.start (rowOf pre j))]) := by
        simp only [e_test, e_op, e_var, List.getElem?_cons_zero, List.getElem?_cons_succ, bind_ok, gEq_int, e_asB]
        by_cases q : p.1 = j
        · simp [q]
        · have : ¬ ((p.1 : Int) = (j : Int)) := by omega
          simp [q, this]
      simp only [s_if, et, out_ok]
      by_cases q : p.1 = j
      · simp only [q, decide_true, if_true]
        have hrow2 : rowOf (pre ++ [p]) j = rowOf pre j ++ [p] := by
          unfold rowOf
          rw [List.filter_append]
          simp [q]
        have ea := meth_ok (g := mAppend) (fo := fVar 5) (fa := (fCons (fOp gIx (fOp gIx (fOp gIx (fVar 0) (fC (.int 1))) (fVar 7)) (fOp gIx (fVar 5) (fOp gSub (fCB gLen (fCons (fVar 5) fNil)) (fC (.int 1))))) fNil)) (ρ := [some (machD mc), some (iD hs), some d0, some (.ref m.length), some (iD j), some (.ref (m.length + 1 + rows.length)), some (iD j), some (iD p.2)]) (m := rimM m rows [lO (rimR mc.maps mc.start (rowOf pre j))]) (m1 := rimM m rows [lO (rimR mc.maps mc.start (rowOf pre j))]) (m2 := rimM m rows [lO (rimR mc.maps mc.start (rowOf pre j))]) (as := [iD ((mc.maps.getD p.2 []).getD (leadH mc.maps mc.start (rowOf pre j)) 0)]) rfl hM
          (by
            simp only [e_cons, e_op, e_cb, e_var, List.getElem?_cons_zero, List.getElem?_cons_succ, bind_ok, e_c, x1, x2, e_nil, e_len, hit, List.length_map, rimR_len, e_sub]
            rw [show (((rowOf pre j).length + 1 : Nat) : Int) - 1 = ((rowOf pre j).length : Int) by omega, x3]
            simp only [bind_ok, x4]) hM (append_ok (by rw [List.length_map, rimR_len, LIM_eq]; omega))
        simp only [s_drop, ea, out_ok, OW_nx, loopP_nx]
        refine ⟨[some (iD j), some (iD p.2)], rfl, _, _, rfl, ?_⟩
        rw [rimM_set, hrow2, rimR_snoc]
        simp [lO]
      · have hrow2 : rowOf (pre ++ [p]) j = rowOf pre j := by
          unfold rowOf
          rw [List.filter_append]
          simp [q]
        simp only [q, decide_false, Bool.false_eq_true, if_false, s_next, OW_nx, loopP_nx]
        exact ⟨[some (iD p.1), some (iD p.2)], rfl, _, _, rfl, by rw [hrow2]⟩
    · rintro vs m' ⟨c, d, rfl, rfl⟩
      have hF := rimM_f m rows [lO (rimR mc.maps mc.start (rowOf h j))]
      have ea := meth_ok (g := mAppend) (fo := fVar 3) (fa := fCons (fVar 5) fNil) (ρ := [some (machD mc), some (iD hs), some d0, some (.ref m.length), some (iD j), some (.ref (m.length + 1 + rows.length)), c, d]) (m := rimM m rows [lO (rimR mc.maps mc.start (rowOf h j))]) (m1 := rimM m rows [lO (rimR mc.maps mc.start (rowOf h j))]) (m2 := rimM m rows [lO (rimR mc.maps mc.start (rowOf h j))]) (as := [.ref (m.length + 1 + rows.length)]) rfl hF rfl hF (append_ok (by rw [refs_len, LIM_eq]; omega))
      simp only [upd_cons, upd_nil, List.set, thenP_nx, s_drop, ea, out_ok, OW_nx, loopP_nx]
      refine ⟨[some (iD j), some (.ref (m.length + 1 + rows.length)), c, d], rfl, _, _, _, _, rfl, ?_⟩
      rw [List.map_append, hR]
      unfold rimM
      rw [set_snoc_cons, List.length_append, List.length_map, List.length_singleton]
      simp [refs_succ]
  · rintro vs m' ⟨a, b', c, d, rfl, rfl⟩
    simp only [upd_cons, upd_nil, List.set, thenP_nx, s_ret, e_var, List.getElem?_cons_zero, List.getElem?_cons_succ, out_ok, OW_rt, endP_rt]
    have hk := gc_keep (L := m.length) (Nat.le_refl _) (rimM_f m ((List.range hs).map fun j => rimR mc.maps mc.start (rowOf h j)) []) (by
      obtain ⟨k, hk⟩ : ∃ k, hs = k + 1 := ⟨hs - 1, by have := S.h1; omega⟩
      rw [List.length_map, List.length_range, hk]
      unfold refs
      rw [List.range_succ_eq_map]
      simp [O.blw, D.blws, D.blw]
      omega)
    rw [hk]
    exact ⟨rfl, rfl⟩
theorem rimM_ps {m : M} {rows : List (List Nat)} {J : M} : Ps DEEP (rimM m rows [] ++ J) (.ref m.length) (.list (rows.map fun r => .list (r.map pI))) 2 := by
  refine ps_ref (ds := refs (m.length + 1) rows.length) (app_at _ (rimM_f m rows [])) ?_
  have e : refs (m.length + 1) rows.length = (List.range rows.length).map fun i => .ref (m.length + 1 + i) := rfl
  have e2 : (rows.map fun r => PyData.list (r.map pI)) = (List.range rows.length).map fun i => .list ((rows.getD i []).map pI) := by
    refine List.ext_getElem? fun i => ?_
    rw [List.getElem?_map, List.getElem?_map]
    by_cases hi : i < rows.length
    · simp [hi]
    · rw [List.getElem?_eq_none (by omega), List.getElem?_eq_none (by simpa using hi)]
      rfl
  rw [e, e2]
  refine pss_map _ _ _ fun i hi => ?_
  have hi' := List.mem_range.mp hi
  refine ps_lI (app_at _ ?_)
  unfold rimM
  rw [List.getElem?_append_right (by omega), show m.length + 1 + i - m.length = i + 1 by omega, List.getElem?_cons_succ, List.append_nil, List.getElem?_map, List.getD_eq_getElem?_getD, List.getElem?_eq_getElem hi']
  rfl
theorem rimM_wf {m : M} (hw : Wf m) (rows : List (List Nat)) : Wf (rimM m rows []) := by
  refine wf_apps hw fun o ho => ?_
  rcases List.mem_cons.mp ho with rfl | ho
  · exact refs_blw _ _ _ (by simp; omega)
  · rw [List.append_nil] at ho
    obtain ⟨r, _, rfl⟩ := List.mem_map.mp ho
    exact lO_blw _ _
theorem law_holds_ok {mc : Mach} {b hs : Nat} (S : Set' mc b hs) {h1 h2 : Hist} (ok1 : HOk hs mc.maps.length h1) (ok2 : HOk hs mc.maps.length h2) (l1 : h1.length ≤ 12) (l2 : h2.length ≤ 12) {m : M} (hw : Wf m) {d1 d2 : D} (w1 : Wk m d1 h1) (w2 : Wk m d2 h2) :
    F__law_holds [machD mc, iD hs, d1, d2] m = .ok (.bl (decide (rimsEq mc hs h1 h2))) m := by
  have c1 := counts_ok S.h4 (show h1.length ≤ 1000 by omega) w1
  have c2 := counts_ok S.h4 (show h2.length ≤ 1000 by omega) w2
  have ne1 := gNe_num (tI_num (cnt hs h1)) (tI_num (cnt hs h2)) (by have := tI_dep (cnt hs h1); omega) (by have := tI_dep (cnt hs h2); omega) m
  have hcT : (tI (cnt hs h1) = tI (cnt hs h2)) ↔ (cnt hs h1 = cnt hs h2) := ⟨tI_inj, congrArg tI⟩
  have t0 : fTest (fOp gNe (fCall F__law_counts (fCons (fVar 1) (fCons (fVar 2) fNil))) (fCall F__law_counts (fCons (fVar 1) (fCons (fVar 3) fNil)))) [some (machD mc), some (iD hs), some d1, some d2] m = .ok (!decide (cnt hs h1 = cnt hs h2)) m := by
    simp only [e_test, e_op, e_call, e_cons, e_nil, e_var, List.getElem?_cons_zero, List.getElem?_cons_succ, bind_ok, c1, c2, gcR_same, ne1, e_asB, hcT]
  refine RW.eq (run_w rfl ?_)
  simp only [g__law_holds, startD_eq, List.map_cons, List.map_nil, List.length_cons, List.length_nil, List.cons_append, List.nil_append, List.replicate, Nat.reduceAdd, Nat.sub_self, s_seq, OW_seqK, s_if, e_orT, t0, bind_ok]
  by_cases q : cnt hs h1 = cnt hs h2
  · simp only [q, decide_true, Bool.not_true, Bool.false_eq_true, if_false]
    let R1 : List (List Nat) := (List.range hs).map fun j => rimR mc.maps mc.start (rowOf h1 j)
    let R2 : List (List Nat) := (List.range hs).map fun j => rimR mc.maps mc.start (rowOf h2 j)
    have r1 := law_rims_ok S ok1 (show h1.length ≤ 1000 by omega) w1
    have w2' : Wk (rimM m R1 []) d2 h2 := w2.app _
    have w1' : Wk (rimM (rimM m R1 []) R2 []) d1 h1 := (w1.app _).app _
    have w2'' : Wk (rimM (rimM m R1 []) R2 []) d2 h2 := w2'.app _
    have r2 := law_rims_ok S ok2 (show h2.length ≤ 1000 by omega) w2'
    have wf2 : Wf (rimM (rimM m R1 []) R2 []) := rimM_wf (rimM_wf hw _) _
    have hi : ∀ n : Nat, 1 ≤ n → ∀ L, O.blw L (.lst (refs (L + 1) n)) = false := fun n hn L => by
      obtain ⟨k, rfl⟩ : ∃ k, n = k + 1 := ⟨n - 1, by omega⟩
      unfold refs
      rw [List.range_succ_eq_map]
      simp [O.blw, D.blws, D.blw]
      omega
    have lR1 : 1 ≤ R1.length := by simp [R1]; exact S.h1
    have lR2 : 1 ≤ R2.length := by simp [R2]; exact S.h1
    have g1 : gcR m.length (.ok (.ref m.length) (rimM m R1 [])) = .ok (.ref m.length) (rimM m R1 []) := by
      show Res.ok (gc _ _ _).1 (gc _ _ _).2 = _
      rw [gc_keep (Nat.le_refl _) (rimM_f m R1 []) (hi _ lR1 _)]
    have g2 : gcR (rimM m R1 []).length (.ok (.ref (rimM m R1 []).length) (rimM (rimM m R1 []) R2 [])) = .ok (.ref (rimM m R1 []).length) (rimM (rimM m R1 []) R2 []) := by
      show Res.ok (gc _ _ _).1 (gc _ _ _).2 = _
      rw [gc_keep (Nat.le_refl _) (rimM_f _ R2 []) (hi _ lR2 _)]
    have p1 : Ps DEEP (rimM (rimM m R1 []) R2 []) (.ref m.length) (.list (R1.map fun r => .list (r.map pI))) 2 := rimM_ps (m := m) (rows := R1) (J := (.lst (refs ((rimM m R1 []).length + 1) R2.length) :: (R2.map lO ++ [])))
    have p2 : Ps DEEP (rimM (rimM m R1 []) R2 []) (.ref (rimM m R1 []).length) (.list (R2.map fun r => .list (r.map pI))) 2 := by
      have := rimM_ps (m := rimM m R1 []) (rows := R2) (J := [])
      rwa [List.append_nil] at this
    obtain ⟨t, et, ht⟩ := gNe_ps p1 p2 (by omega) (by omega)
    have hR : t = true ↔ R1 = R2 := by
      rw [ht]
      constructor
      · intro e
        injection e with e
        exact map_inj (fun {a b} e => by injection e with e; exact pIs_inj e) e
      · intro e
        rw [e]
    have hRR : R1 = R2 ↔ ∀ j < hs, rimR mc.maps mc.start (rowOf h1 j) = rimR mc.maps mc.start (rowOf h2 j) := by
      constructor
      · intro e j hj
        have := congrArg (fun l => l[j]?) e
        simpa [R1, R2, hj] using this
      · intro e
        exact List.map_congr_left fun j hj => e j (List.mem_range.mp hj)
    have t1 : fTest (fOp gNe (fCall F__law_rims (fCons (fVar 0) (fCons (fVar 1) (fCons (fVar 2) fNil)))) (fCall F__law_rims (fCons (fVar 0) (fCons (fVar 1) (fCons (fVar 3) fNil))))) [some (machD mc), some (iD hs), some d1, some d2] m = .ok (!t) (rimM (rimM m R1 []) R2 []) := by
      simp only [e_test, e_op, e_call, e_cons, e_nil, e_var, List.getElem?_cons_zero, List.getElem?_cons_succ, bind_ok, r1]
      rw [show (List.range hs).map (fun j => rimR mc.maps mc.start (rowOf h1 j)) = R1 from rfl, g1, bind_ok, r2]
      rw [show (List.range hs).map (fun j => rimR mc.maps mc.start (rowOf h2 j)) = R2 from rfl, g2, bind_ok, et, e_asB]
    rw [t1, out_ok]
    have hgc : ∀ x : Bool, gc m.length (.bl x) (rimM (rimM m R1 []) R2 []) = (.bl x, m) := fun x => by
      show gc m.length _ ((m ++ _) ++ _) = _
      rw [List.append_assoc]
      exact gc_j rfl hw rfl
    cases t with
    | false =>
      have hf : ¬ rimsEq mc hs h1 h2 := fun ⟨_, _, h3⟩ => by have := hR.mpr (hRR.mpr h3); cases this
      simp only [Bool.not_false, if_true, s_ret, e_c, out_ok, OW_rt, endP_rt, hf, decide_false, hgc, thenP_rt]
      exact ⟨trivial, trivial⟩
    | true =>
      have hall := hRR.mp (hR.mp rfl)
      have b1 := law_table_ok S ok1 l1 wf2 w1'
      have b2 := law_table_ok S ok2 l2 wf2 w2''
      have ne2 := gNe_num (tab_num mc hs h1) (tab_num mc hs h2) (tab_dep mc hs h1) (tab_dep mc hs h2) (rimM (rimM m R1 []) R2 [])
      simp only [Bool.not_true, Bool.false_eq_true, if_false, s_next, OW_nx, thenP_nx, s_ret, e_op, e_call, e_cons, e_nil, e_var, List.getElem?_cons_zero, List.getElem?_cons_succ, bind_ok, b1, b2, gcR_same, ne2, out_ok, OW_rt, endP_rt, hgc]
      refine ⟨?_, trivial⟩
      congr 1
      rw [Bool.eq_iff_iff, decide_eq_true_iff]
      unfold rimsEq
      simp [q]
      intro _ j hj
      exact hall j hj
  · have hf : ¬ rimsEq mc hs h1 h2 := fun ⟨h3, _, _⟩ => q h3
    simp only [q, decide_false, Bool.not_false, if_true, out_ok, s_ret, e_c, OW_rt, endP_rt, thenP_rt, hf, gc_same]
    exact ⟨trivial, trivial⟩
end K93

namespace K93
open PySem PyProof.Rows L2 Dl
theorem Wk.up {n : Nat} {m m' : M} {d : D} {h : Hist} (hb : Box n m) (u : Up n m m') (w : Wk m d h) : Wk m' d h := by
  rcases w with w | ⟨k, rfl, e⟩
  · exact .inl w
  · refine .inr ⟨k, rfl, ?_⟩
    rw [u.other]
    · exact e
    · rintro rfl
      obtain ⟨g, z, hb⟩ := hb
      rw [hb] at e
      injection e with e
      injection e with e
      cases h with
      | nil => cases e
      | cons p t => simp [letD] at e
theorem mixed_ok {n hs : Nat} {h : Hist} {m : M} {d0 : D} (hb : Box n m) (hw : Wf m) (h4 : hs ≤ 4) (hl : h.length ≤ 1000) (ok : ∀ p ∈ h, p.1 < hs) (w : Wk m d0 h) :
    ∃ (fd : Hist) (m' : M), Up n m m' ∧ F__law_mixed [.ref n, iD hs, d0] m = .ok (.ref m'.length) (m' ++ [rO fd]) ∧ fd.length = h.length ∧ ∀ p ∈ fd, p ∈ h := by
  suffices H : RW (F__law_mixed [.ref n, iD hs, d0] m) fun d m2 => ∃ (fd : Hist) (m' : M), Up n m m' ∧ d = .ref m'.length ∧ m2 = m' ++ [rO fd] ∧ fd.length = h.length ∧ ∀ p ∈ fd, p ∈ h by
    obtain ⟨d, m2, e, fd, m', u, rfl, rfl, h1, h2⟩ := H.get
    exact ⟨fd, m', u, e, h1, h2⟩
  have hn := hb.lt
  let rs0 : List Hist := (List.range hs).map (rowOf h)
  have hrs0 : rs0.length = hs := by simp [rs0]
  have l0 : 0 ≤ LIM := Nat.zero_le _
  have inner : ∀ (j : Nat) (a0 a1 a3 a4 a5 a6 : Option D) (mm : M), Wk mm d0 h → fLc (fWalk (fVar 2)) (gN 8) [8] (fTest (fOp gEq (fOp gIx (fVar 8) (fC (.int 0))) (fVar 7))) (fVar 8) [a0, a1, some d0, a3, a4, a5, a6, some (iD j), none] mm = .ok ((rowOf h j).map letD) mm := by
    intro j a0 a1 a3 a4 a5 a6 mm w
    refine fLc_t h letD (fun p => p.1 == j) letD (by simp [w.k]) w.is (by rw [LIM_eq]; omega) fun p _ => ⟨_, rfl, ?_, fun _ => rfl⟩
    have e3 : gIx (letD p) (.int 0) mm = .ok (iD p.1) mm := rfl
    simp only [wipeD, List.set, e_test, e_op, e_var, List.getElem?_cons_succ, List.getElem?_cons_zero, bind_ok, e_c, e3, gEq_int, e_asB]
    by_cases e : p.1 = j
    · simp [e]
    · have e' : ¬ ((p.1 : Int) = (j : Int)) := by omega
      simp [e, e']
  refine run_w rfl ?_
  unfold g__law_mixed
  have eR : fLc (fRng1 (fVar 1)) (gN 7) [7] fYes (fName (fLc (fWalk (fVar 2)) (gN 8) [8] (fTest (fOp gEq (fOp gIx (fVar 8) (fC (.int 0))) (fVar 7))) (fVar 8))) [some (.ref n), some (iD hs), some d0, none, none, none, none, none, none] m = .ok (refs m.length hs) (m ++ rs0.map rO) := by
    refine RW.eq (lc_w (List.range hs) iD (fun pre acc mm => acc = refs m.length pre.length ∧ mm = m ++ (pre.map (rowOf h)).map rO) (src := srcR 0 hs) (by simp [rngK_n (k := hs) (by rw [LIM_eq]; omega)]) (cR hs) ⟨rfl, by simp⟩ ?_ ?_)
    · rintro pre j post acc mm hpl ⟨rfl, rfl⟩
      have hp : pre.length < hs := by
        have := congrArg List.length hpl
        simp at this
        omega
      refine ⟨by rw [refs_len, LIM_eq]; omega, _, rfl, ?_⟩
      simp only [e_yes, RW_ok, if_true, wipeD, List.set, e_name]
      rw [inner j _ _ _ _ _ _ _ (w.app _)]
      simp [refs_succ, rO]
    · rintro acc mm ⟨rfl, rfl⟩
      exact ⟨by simp, rfl⟩
  have e3 : sSetL 3 (fLc (fRng1 (fVar 1)) (gN 7) [7] fYes (fName (fLc (fWalk (fVar 2)) (gN 8) [8] (fTest (fOp gEq (fOp gIx (fVar 8) (fC (.int 0))) (fVar 7))) (fVar 8)))) (startD 9 [.ref n, iD hs, d0]) m = .nx [some (.ref n), some (iD hs), some d0, some (.ref (m.length + hs)), none, none, none, none, none] (m ++ rs0.map rO ++ [.lst (refs m.length hs)]) := by
    have : startD 9 [.ref n, iD hs, d0] = [some (.ref n), some (iD hs), some d0, none, none, none, none, none, none] := rfl
    rw [this, s_setL, eR]
    simp [hrs0]
  have e4 : sSet 4 (fName (fLst fNil)) [some (.ref n), some (iD hs), some d0, some (.ref (m.length + hs)), none, none, none, none, none] (m ++ rs0.map rO ++ [.lst (refs m.length hs)]) = .nx [some (.ref n), some (iD hs), some d0, some (.ref (m.length + hs)), some (.ref (m.length + hs + 1)), none, none, none, none] (ordM m rs0 m.length []) := by
    simp [ordM, hrs0, rO, Nat.add_assoc]
  have wlen : ∀ mm, Wk mm d0 h → ∃ xs, itemsD mm d0 = some xs ∧ xs.length = h.length := by
    intro mm w
    rcases w with rfl | ⟨k, rfl, e⟩
    · exact ⟨h.map letD, rfl, by simp⟩
    · exact ⟨h.map letD, by simp [e], by simp⟩
  obtain ⟨xs, hxs, hxl⟩ := wlen (ordM m rs0 m.length []) (w.app _)
  simp only [s_seq, OW_seqK, e3, OW_nx, thenP_nx, e4, s_for, e_rng, e_cb, e_cons, e_nil, e_var, List.getElem?_cons_zero, List.getElem?_cons_succ, bind_ok, e_len, hxs, hxl]
  rw [rngK_n (k := h.length) (by rw [LIM_eq]; omega), out_ok]
  have hsum0 := num_rows h hs ok
  refine for_c (List.range h.length) iD (cR h.length) (by simp [srcR]) [5, 6] (fun pre vs mm => ∃ (m1 : M) (rs : List Hist) (fd : Hist) (a b : Option D), vs = [a, b] ∧ Up n m m1 ∧ mm = ordM m1 rs m.length fd ∧ rs.length = hs ∧ (∀ r ∈ rs, ∀ p ∈ r, p ∈ h) ∧ (∀ p ∈ fd, p ∈ h) ∧ fd.length = pre.length ∧ (rs.map List.length).sum + pre.length = h.length) ?_ ?_ ?_
  · refine ⟨m, rs0, [], _, _, rfl, Up.refl hb, rfl, hrs0, ?_, fun p hp => by simp at hp, rfl, ?_⟩
    · intro r hr p hp
      obtain ⟨j, _, rfl⟩ := List.mem_map.mp hr
      exact (List.mem_filter.mp hp).1
    · show (((List.range hs).map (rowOf h)).map List.length).sum + 0 = _
      rw [List.map_map, Nat.add_zero]
      exact hsum0
  · rintro pre t post vs mm hpl ⟨m1, rs, fd, a, b, rfl, u, rfl, hrl, hrow, hfm, hfl, hsum⟩
    have htl : pre.length < h.length := by
      have := congrArg List.length hpl
      simp at this
      omega
    have hl1 := u.len
    have hw1 := u.wf hw
    have hb1 := u.box hb
    have hn1 := hb1.lt
    have hcr := comp_rows (rs := rs) (fd := fd) hw1 (by omega) (some (.ref n)) (some (iD hs)) (some d0) (some (.ref (m.length + hs + 1))) (some (iD t)) b
    rw [hl1, hrl] at hcr
    have hne : ∃ r ∈ rs, r ≠ [] := sum_pos (by omega)
    have hbx : Box n (ordM m1 rs m.length fd) := hb1.app _
    have hxs : ∀ x ∈ (refs m.length hs).filterMap (nonE (ordM m1 rs m.length fd)), ∃ j r, rs[j]? = some r ∧ r ≠ [] ∧ x = .ref (m.length + j) := by
      intro x hx
      have := nonE_map (m1 := m1) (rs := rs) (fd := fd) (x := x) (by rw [hl1, hrl]; exact hx)
      rw [hl1] at this
      exact this
    have hx1 : (refs m.length hs).filterMap (nonE (ordM m1 rs m.length fd)) ≠ [] := by
      have := nonE_ne (m1 := m1) (fd := fd) hne
      rw [hl1, hrl] at this
      exact this
    have hordl : (ordM m1 rs m.length fd).length = m.length + hs + 2 := by
      unfold ordM
      simp [hl1, hrl]
      omega
    have hwo : Wf (ordM m1 rs m.length fd) := by rw [← hl1]; exact ordM_wf hw1
    obtain ⟨x, m2, hx, u2, e2⟩ := pick_new (n := n) (ρ := [some (.ref n), some (iD hs), some d0, some (.ref (m.length + hs)), some (.ref (m.length + hs + 1)), some (iD t), b, none, none]) (m := ordM m1 rs m.length fd) (m1 := ordM m1 rs m.length fd) (fa := fCons (fVar 0) (fCons (fName compR) fNil)) (by simp [hcr]) (Up.refl hbx) hbx hwo hx1
      (Nat.lt_of_le_of_lt (List.length_filterMap_le _ _) (by rw [refs_len]; omega)) (fun x hx => by
        obtain ⟨j, r, hj, _, rfl⟩ := hxs x hx
        have := (List.getElem?_eq_some_iff.mp hj).1
        rw [hordl]
        simp only [D.blw, decide_eq_true_eq]
        omega)
    obtain ⟨j, r, hj, hr, rfl⟩ := hxs x hx
    obtain ⟨m3, u3, rfl⟩ := ordM_up hn1 u2
    have hl3 : m3.length = m.length := by rw [u3.len, hl1]
    obtain ⟨p, r', rfl⟩ : ∃ p r', r = p :: r' := by
      cases r with
      | nil => exact absurd rfl hr
      | cons p r' => exact ⟨p, r', rfl⟩
    have hjl := (List.getElem?_eq_some_iff.mp hj).1
    have hrj := ordM_row (m1 := m3) (L := m.length) (fd := fd) hj
    rw [hl3] at hrj
    have hpop := meth_ok (g := mPop0) (fo := fVar 6) (fa := fCons (fC (.int 0)) fNil) (ρ := [some (.ref n), some (iD hs), some d0, some (.ref (m.length + hs)), some (.ref (m.length + hs + 1)), some (iD t), some (.ref (m.length + j)), none, none]) (m := ordM m3 rs m.length fd) (m1 := ordM m3 rs m.length fd) (m2 := ordM m3 rs m.length fd) (n := m.length + j) (xs0 := (p :: r').map letD) (xs := (p :: r').map letD) (as := [.int 0]) (d := letD p) (ys := r'.map letD)
      rfl hrj rfl hrj rfl
    have hs1 := ordM_set (m1 := m3) (L := m.length) (fd := fd) (r := r') hjl
    rw [hl3] at hs1
    have hs1' : (ordM m3 rs m.length fd).set (m.length + j) (.lst (r'.map letD)) = ordM m3 (rs.set j r') m.length fd := hs1
    rw [hs1'] at hpop
    have hF0 := ordM_fd (m1 := m3) (rs := rs) (L := m.length) (fd := fd)
    have hF1 := ordM_fd (m1 := m3) (rs := rs.set j r') (L := m.length) (fd := fd)
    rw [hl3, hrl] at hF0
    rw [hl3, List.length_set, hrl] at hF1
    have happ := meth_ok (g := mAppend) (fo := fVar 4) (fa := fCons (fMeth mPop0 (fVar 6) (fCons (fC (.int 0)) fNil)) fNil) (ρ := [some (.ref n), some (iD hs), some d0, some (.ref (m.length + hs)), some (.ref (m.length + hs + 1)), some (iD t), some (.ref (m.length + j)), none, none]) (m := ordM m3 rs m.length fd) (m1 := ordM m3 rs m.length fd) (m2 := ordM m3 (rs.set j r') m.length fd) (n := m.length + hs + 1) (xs0 := fd.map letD) (xs := fd.map letD) (as := [letD p]) (d := .non) (ys := fd.map letD ++ [letD p])
      rfl hF0 (by simp only [e_cons, hpop, bind_ok, e_nil]) hF1 (append_ok (by rw [List.length_map, LIM_eq]; omega))
    have hs2 := ordM_setF (m1 := m3) (rs := rs.set j r') (L := m.length) (fd := fd) (fd' := fd ++ [p])
    rw [hl3, List.length_set, hrl] at hs2
    have hs2' : (ordM m3 (rs.set j r') m.length fd).set (m.length + hs + 1) (.lst (fd.map letD ++ [letD p])) = ordM m3 (rs.set j r') m.length (fd ++ [p]) := by
      rw [← hs2]
      unfold rO
      rw [List.map_append]
      rfl
    rw [hs2'] at happ
    have hrm := hrow _ (List.mem_of_getElem? hj)
    have e2' : fCall F__law_pick (fCons (fVar 0) (fCons (fName (fLc (fWalk (fVar 3)) (gN 6) [6] (fGcB (fTest (fOp gNe (fVar 6) (fName (fLst fNil))))) (fVar 6))) fNil)) [some (.ref n), some (iD hs), some d0, some (.ref (m.length + hs)), some (.ref (m.length + hs + 1)), some (iD t), b, none, none] (ordM m1 rs m.length fd) = .ok (.ref (m.length + j)) (ordM m3 rs m.length fd) := e2
    simp only [bodyAt_n, upd_cons, upd_nil, List.set, s_seq, OW_seqK, s_set, e2', out_ok, OW_nx, thenP_nx, s_drop, happ, loopP_nx]
    refine ⟨[some (iD t), some (.ref (m.length + j))], rfl, m3, rs.set j r', fd ++ [p], _, _, rfl, u.trans u3, rfl, by rw [List.length_set]; exact hrl, ?_, ?_, by simp [hfl], ?_⟩
    · intro r hr q hq
      rcases List.mem_or_eq_of_mem_set hr with hr | rfl
      · exact hrow r hr q hq
      · exact hrm q (List.mem_cons_of_mem _ hq)
    · intro q hq
      rcases List.mem_append.mp hq with hq | hq
      · exact hfm q hq
      · rw [List.mem_singleton.mp hq]; exact hrm p List.mem_cons_self
    · have := sum_set hj
      rw [List.length_append, List.length_singleton]
      omega
  · rintro vs mm ⟨m1, rs, fd, a, b, rfl, u, rfl, hrl, hrow, hfm, hfl, hsum⟩
    simp only [upd_cons, upd_nil, List.set, thenP_nx, s_ret, e_var, List.getElem?_cons_zero, List.getElem?_cons_succ, out_ok, OW_rt, endP_rt]
    have hF := ordM_fd (m1 := m1) (rs := rs) (L := m.length) (fd := fd)
    rw [u.len, hrl] at hF
    have hg := gc_n (L := m.length) (m := m1) (j := rs.map rO ++ [.lst (refs m.length rs.length), rO fd]) (n := m.length + hs + 1) u.len (u.wf hw) (by omega) hF (hist_blw _ _)
    have hmem : ordM m1 rs m.length fd = m1 ++ (rs.map rO ++ [.lst (refs m.length rs.length), rO fd]) := rfl
    rw [hmem, hg]
    exact ⟨fd, m1, u, by rw [u.len], rfl, by rw [hfl]; simp, hfm⟩
end K93

namespace K93
open PySem PyProof.Rows L2 Dl
theorem same_n : ∀ (n : Nat) (d : D) (m : M), Wf m → d.smb = true → d.dep < n → Fa__law_same n [d, d] m = .ok (.bl true) m
  | 0, d, m, _, _, h => absurd h (by omega)
  | n + 1, d, m, hw, hd, h => by
    cases d with
    | non => exact runF_rt rfl (by simp [g__law_same, tyD, kb1])
    | bl b => exact runF_rt rfl (by simp [g__law_same, tyD, kb2, kb6, gEq_bl])
    | int i => exact runF_rt rfl (by simp [g__law_same, tyD, kb3, kit_int_int, kit_int_bool])
    | str x => exact runF_rt rfl (by simp [g__law_same, tyD, kb4, kb7, kb8, kb9, gEq_str])
    | tup ds =>
      simp only [D.smb, Bool.and_eq_true, decide_eq_true_eq] at hd
      simp only [D.dep] at h
      have l0 : 0 ≤ LIM := Nat.zero_le _
      have hc : ∀ a, fLc (fRng1 (fCB gLen (fCons (fVar 1) fNil))) (gN 2) [2] (fNotT (fTest (fCall (Fa__law_same n) (fCons (fOp gIx (fVar 0) (fVar 2)) (fCons (fOp gIx (fVar 1) (fVar 2)) fNil))))) (fVar 2) [some (.tup ds), some (.tup ds), a] m = .ok [] m := by
        intro a
        have := fLc_t (fi := fRng1 (fCB gLen (fCons (fVar 1) fNil))) (gt := gN 2) (vs := [2]) (t := fNotT (fTest (fCall (Fa__law_same n) (fCons (fOp gIx (fVar 0) (fVar 2)) (fCons (fOp gIx (fVar 1) (fVar 2)) fNil))))) (e := fVar 2) (ρ := [some (.tup ds), some (.tup ds), a]) (m := m) (src := srcR 0 ds.length) (List.range ds.length) iD (fun _ => false) iD
          (by simp [rngK_n (k := ds.length) (by rw [LIM_eq]; omega)]) (isR _ m) (by rw [List.length_range, LIM_eq]; omega) (fun i hi => by
            have hi' := List.mem_range.mp hi
            have hm : ds[i] ∈ ds := List.getElem_mem hi'
            have hx : gIx (.tup ds) (.int (i : Int)) m = .ok ds[i] m := tup_at (List.getElem?_eq_getElem hi') m
            have hr := same_n n ds[i] m hw (smbs_iff.mp hd.2 _ hm) (by have := dep_mem hm; omega)
            refine ⟨_, rfl, ?_, fun q => by cases q⟩
            simp only [wipeD, List.set, e_notT, e_test, e_call, e_cons, e_op, e_var, List.getElem?_cons_zero, List.getElem?_cons_succ, bind_ok, hx, e_nil, hr, gcR_same, e_asB]
            rfl)
        rw [this]
        simp
      have heq := gEq_nils (m := m ++ [O.lst [], O.lst []]) (i := m.length) (j := m.length + 1) (by simp) (by simp)
      refine runF_rtJ (m' := m) (j := [O.lst [], O.lst []]) rfl ?_ rfl hw rfl
      simp [g__law_same, tyD, kb5, hc, heq]
    | rol _ => simp [D.smb] at hd
    | ref _ => simp [D.smb] at hd
    | ty _ => simp [D.smb] at hd
theorem same_ok {d : D} {m : M} (hw : Wf m) (hd : d.smb = true) (h : d.dep < 8) : F__law_same [d, d] m = .ok (.bl true) m := same_n 8 d m hw hd h
end K93

namespace K93
open PySem PyProof.Rows L2 Dl
theorem pair_t {m : M} {x1 x2 : D} {h1 h2 : Hist} (i1 : IsHist m x1 h1) (i2 : IsHist m x2 h2) : IsPair m (.tup [x1, x2]) h1 h2 := ⟨is_sequence_tup _ m, ⟨x1, x2, rfl⟩, srcT [x1, x2], x1, x2, rfl, isT _ _, i1, i2⟩
theorem pair_l {m : M} {k : Nat} {x1 x2 : D} {h1 h2 : Hist} (e : m[k]? = some (.lst [x1, x2])) (i1 : IsHist m x1 h1) (i2 : IsHist m x2 h2) : IsPair m (.ref k) h1 h2 := ⟨is_sequence_ref e, ⟨x1, x2, by simp [e]⟩, srcL k 2, x1, x2, by rw [srcK_l e]; rfl, isL e rfl, i1, i2⟩
theorem rimsEq_symm (mc : Mach) (hs : Nat) (h1 h2 : Hist) : rimsEq mc hs h1 h2 ↔ rimsEq mc hs h2 h1 := ⟨fun ⟨a, b, c⟩ => ⟨a.symm, fun e => b e.symm, fun j hj => (c j hj).symm⟩, fun ⟨a, b, c⟩ => ⟨a.symm, fun e => b e.symm, fun j hj => (c j hj).symm⟩⟩
/-- what is drawn out of three, and stays -/
theorem value_ok {n L r5 : Nat} {mm : M} {one oth : Hist} {ρ : Sl} (hb : Box n mm) (hw : Wf mm) (hL : mm[L]? = some (rO one)) (hr : mm[r5]? = some (rO oth)) (r0 : ρ[0]? = some (some (.ref n))) (r4 : ρ[4]? = some (some (.ref L))) (r5' : ρ[5]? = some (some (.ref r5))) :
    ∃ (v : D) (mm' J' : M), Up n mm mm' ∧ Wf (mm' ++ J') ∧ (IsPair (mm' ++ J') v one oth ∨ IsPair (mm' ++ J') v oth one) ∧
      (fCall F__law_pick (fCons (fVar 0) (fCons (fName (fLst (fCons (fTup (fCons (fCB gTuple (fCons (fVar 4) fNil)) (fCons (fCB gTuple (fCons (fVar 5) fNil)) fNil))) (fCons (fName (fLst (fCons (fVar 4) (fCons (fVar 5) fNil)))) (fCons (fTup (fCons (fVar 5) (fCons (fVar 4) fNil))) fNil))))) fNil))) ρ mm = .ok v (mm' ++ J') := by
  have l2 : 2 ≤ LIM := by rw [LIM_eq]; omega
  have l3 : 3 ≤ LIM := by rw [LIM_eq]; omega
  let xs : List D := [.tup [histD one, histD oth], .ref mm.length, .tup [.ref r5, .ref L]]
  have hLl := (List.getElem?_eq_some_iff.mp hL).1
  have hrl := (List.getElem?_eq_some_iff.mp hr).1
  have iL : ∀ J, itemsD (mm ++ J) (.ref L) = some (one.map letD) := fun J => by rw [e_itL, app_at J hL]; rfl
  have iL0 : itemsD mm (.ref L) = some (one.map letD) := by rw [e_itL, hL]; rfl
  have ir0 : itemsD mm (.ref r5) = some (oth.map letD) := by rw [e_itL, hr]; rfl
  have ea : (fCons (fVar 0) (fCons (fName (fLst (fCons (fTup (fCons (fCB gTuple (fCons (fVar 4) fNil)) (fCons (fCB gTuple (fCons (fVar 5) fNil)) fNil))) (fCons (fName (fLst (fCons (fVar 4) (fCons (fVar 5) fNil)))) (fCons (fTup (fCons (fVar 5) (fCons (fVar 4) fNil))) fNil))))) fNil)) ρ mm = .ok [.ref n, .ref (mm.length + 1)] (mm ++ [.lst [.ref L, .ref r5], .lst xs]) := by
    simp only [e_cons, e_var, r0, r4, r5', bind_ok, e_name, e_lst, e_tup, e_cb, e_nil, e_tuple, iL0, ir0, List.length_cons, List.length_nil, Nat.zero_add, Nat.reduceAdd, l2, l3, if_true]
    simp [xs, histD]
  obtain ⟨x, m', hx, u, e⟩ := pick_list (n := n) (k := mm.length + 1) (m := mm ++ [.lst [.ref L, .ref r5], .lst xs]) (xs := xs) (hb.app _) (by have := hb.lt; omega) (by simp) (by simp [xs]) (by simp [xs])
  obtain ⟨mm', u', rfl⟩ := up_app hb.lt u
  have hl' := u'.len
  have hw' := u'.wf hw
  have hL' : mm'[L]? = some (rO one) := by
    rw [u'.other]
    · exact hL
    · rintro rfl
      obtain ⟨g, z, hb⟩ := hb
      rw [hb] at hL
      injection hL with e
      injection e with e
      cases one with
      | nil => cases e
      | cons p t => simp [letD] at e
  have hr' : mm'[r5]? = some (rO oth) := by
    rw [u'.other]
    · exact hr
    · rintro rfl
      obtain ⟨g, z, hb⟩ := hb
      rw [hb] at hr
      injection hr with e
      injection e with e
      cases oth with
      | nil => cases e
      | cons p t => simp [letD] at e
  have e0 : (fCall F__law_pick (fCons (fVar 0) (fCons (fName (fLst (fCons (fTup (fCons (fCB gTuple (fCons (fVar 4) fNil)) (fCons (fCB gTuple (fCons (fVar 5) fNil)) fNil))) (fCons (fName (fLst (fCons (fVar 4) (fCons (fVar 5) fNil)))) (fCons (fTup (fCons (fVar 5) (fCons (fVar 4) fNil))) fNil))))) fNil))) ρ mm = gcR mm.length (.ok x (mm' ++ [.lst [.ref L, .ref r5], .lst xs])) := by
    rw [e_call, ea, bind_ok, e]
  simp only [xs, List.mem_cons, List.not_mem_nil, or_false] at hx
  rcases hx with rfl | rfl | rfl
  · refine ⟨.tup [histD one, histD oth], mm', [], u', by simpa using hw', .inl ?_, ?_⟩
    · exact pair_t (isHist_t _ _) (isHist_t _ _)
    · rw [e0, List.append_nil]
      exact gcR_junk hl'.symm hw' (num_blw (by simp [D.num, D.nums, histD, hist_nums]) _)
  · refine ⟨.ref mm.length, mm', [.lst [.ref L, .ref r5]], u', hw'.app (by simp [O.blw, D.blws, D.blw]; omega), .inl (pair_l (x1 := .ref L) (x2 := .ref r5) (by rw [← hl']; simp) (isHist_l (app_at _ hL')) (isHist_l (app_at _ hr'))), ?_⟩
    rw [e0]
    have := gcR_new (L := mm.length) (m := mm') (j := [.lst [.ref L, .ref r5], .lst xs]) (n := mm.length) (o := .lst [.ref L, .ref r5]) hl'.symm hw' (by omega) (by rw [← hl']; simp) (by simp [O.blw, D.blws, D.blw]; omega)
    rw [this, hl']
  · refine ⟨.tup [.ref r5, .ref L], mm', [], u', by simpa using hw', .inr ?_, ?_⟩
    · exact pair_t (isHist_l (app_at _ hr')) (isHist_l (app_at _ hL'))
    · rw [e0, List.append_nil]
      exact gcR_junk hl'.symm hw' (by simp [D.blw, D.blws]; omega)
theorem HOk.set {hs ds : Nat} {h : Hist} (ok : HOk hs ds h) {a : Nat} {p : Nat × Nat} (h1 : p.1 < hs) (h2 : p.2 < ds) : HOk hs ds (h.set a p) := by
  refine ⟨fun q hq => ?_, fun q hq => ?_⟩
  · rcases List.mem_or_eq_of_mem_set hq with hq | rfl
    · exact ok.hand q hq
    · exact h1
  · rcases List.mem_or_eq_of_mem_set hq with hq | rfl
    · exact ok.deed q hq
    · exact h2
def rr (n : Nat) (mc : Mach) (hs many : Nat) (a4 a5 a6 a7 : Option D) : Sl := [some (.ref n), some (machD mc), some (iD hs), some (iD many), a4, a5, a6, a7, none]
theorem rims_right_ok {mc : Mach} {b hs n : Nat} {m : M} (S : Set' mc b hs) (hb : Box n m) (hw : Wf m) : ∃ m', Up n m m' ∧ F__law_rims_right [.ref n, machD mc, iD hs] m = .ok (.bl true) m' := by
  suffices H : RW (F__law_rims_right [.ref n, machD mc, iD hs] m) fun d m2 => Up n m m2 ∧ d = .bl true by
    obtain ⟨d, m2, e, u, rfl⟩ := H.get
    exact ⟨m2, u, e⟩
  have l0 : 0 ≤ LIM := Nat.zero_le _
  have l2 : 2 ≤ LIM := by rw [LIM_eq]; omega
  have l4 : 4 ≤ LIM := by rw [LIM_eq]; omega
  have h4 := S.h4
  have n1 := S.m.n1
  have n6 := S.m.n6
  have hit : ∀ q, itemsD q (mapsD mc) = some (mc.maps.map tI) := fun _ => rfl
  have hm1 : ∀ q, gIx (machD mc) (.int 1) q = .ok (mapsD mc) q := fun _ => rfl
  -- how many
  let R0 : Sl := [some (.ref n), some (machD mc), some (iD hs), none, none, none, none, none, none]
  let kk : Nat := if 2 < hs then 13 else 10
  have hkk : 1 ≤ kk ∧ kk ≤ 13 := by
    show 1 ≤ (if 2 < hs then 13 else 10) ∧ (if 2 < hs then 13 else 10) ≤ 13
    split <;> omega
  obtain ⟨t, m1, ht, u1, e1⟩ := take_up (k := kk) hb hkk.1 (by omega)
  have eif : (fIf (fTest (fOp gGt (fVar 2) (fC (.int 2)))) (fC (.int 13)) (fC (.int 10))) R0 m = .ok (iD kk) m := by
    show _ = Res.ok (D.int ((if 2 < hs then 13 else 10 : Nat) : Int)) m
    by_cases q : 2 < hs
    · have : (2 : Int) < (hs : Int) := by omega
      simp [R0, q, this]
    · have : ¬ (2 : Int) < (hs : Int) := by omega
      simp [R0, q, this]
  have a1 : (fCons (fVar 0) (fCons (fName (fLst (fCons (fC (.int 2)) (fCons (fC (.int 4)) (fCons (fC (.int 7)) (fCons (fCall F__law_take (fCons (fVar 0) (fCons (fIf (fTest (fOp gGt (fVar 2) (fC (.int 2)))) (fC (.int 13)) (fC (.int 10))) fNil))) fNil)))))) fNil)) R0 m = .ok [.ref n, .ref m1.length] (m1 ++ [.lst ([2, 4, 7, t].map iD)]) := by
    have r0 : R0[0]? = some (some (.ref n)) := rfl
    simp only [e_cons, e_var, r0, bind_ok, e_name, e_lst, e_c, e_call, eif, e_nil, e1, gcR_up u1, List.length_cons, List.length_nil, Nat.zero_add, Nat.reduceAdd, l4, if_true]
    rfl
  obtain ⟨many, m2, hmany, u2, e2⟩ := pick_nums a1 u1 hb hw (by simp) (by simp)
  have hm12 : many ≤ 12 := by
    simp at hmany
    omega
  have b2 := u2.box hb
  have w2 := u2.wf hw
  refine run_w rfl ?_
  unfold g__law_rims_right
  have s3 : sSet 3 (fCall F__law_pick (fCons (fVar 0) (fCons (fName (fLst (fCons (fC (.int 2)) (fCons (fC (.int 4)) (fCons (fC (.int 7)) (fCons (fCall F__law_take (fCons (fVar 0) (fCons (fIf (fTest (fOp gGt (fVar 2) (fC (.int 2)))) (fC (.int 13)) (fC (.int 10))) fNil))) fNil)))))) fNil))) (startD 9 [.ref n, machD mc, iD hs]) m = .nx (rr n mc hs many none none none none) m2 := by
    rw [s_set]
    rw [show startD 9 [.ref n, machD mc, iD hs] = R0 from rfl, e2]
    rfl
  simp only [s_seq, OW_seqK, s3, OW_nx, thenP_nx]
  -- one
  have hone : RW (fLc (fRng1 (fVar 3)) (gN 8) [8] fYes (fTup (fCons (fCall F__law_take (fCons (fVar 0) (fCons (fVar 2) fNil))) (fCons (fCall F__law_take (fCons (fVar 0) (fCons (fCB gLen (fCons (fOp gIx (fVar 1) (fC (.int 1))) fNil)) fNil))) fNil))) (rr n mc hs many none none none none) m2) fun acc mm => ∃ h : Hist, acc = h.map letD ∧ h.length = many ∧ HOk hs mc.maps.length h ∧ Up n m2 mm := by
    refine lc_w (List.range many) iD (fun pre acc mm => ∃ h : Hist, acc = h.map letD ∧ h.length = pre.length ∧ HOk hs mc.maps.length h ∧ Up n m2 mm) (src := srcR 0 many) (by simp [rr, rngK_n (k := many) (by rw [LIM_eq]; omega)]) (cR many) ⟨[], rfl, rfl, ⟨fun p hp => by simp at hp, fun p hp => by simp at hp⟩, Up.refl b2⟩ ?_ ?_
    · rintro pre i post acc mm hpl ⟨h, rfl, hl, ok, u⟩
      have hpre : pre.length < many := by
        have := congrArg List.length hpl
        simp at this
        omega
      obtain ⟨x, ma, hx, ua, ea⟩ := take_up (k := hs) (u.box b2) S.h1 (by omega)
      obtain ⟨y, mb, hy, ub, eb⟩ := take_up (k := mc.maps.length) (ua.box (u.box b2)) n1 (by omega)
      refine ⟨by rw [List.length_map, LIM_eq]; omega, _, rfl, ?_⟩
      simp only [e_yes, RW_ok, if_true, wipeD, rr, List.set, e_tup, e_cons, e_call, e_var, List.getElem?_cons_zero, List.getElem?_cons_succ, bind_ok, e_nil, ea, gcR_up ua, e_cb, e_op, e_c, hm1, e_len, hit, List.length_map, eb, gcR_up ub, List.length_cons, List.length_nil, Nat.zero_add, Nat.reduceAdd, l2]
      refine ⟨h ++ [(x, y)], by simp [letD], by simp [hl], ⟨fun p hp => ?_, fun p hp => ?_⟩, u.trans (ua.trans ub)⟩
      · rcases List.mem_append.mp hp with hp | hp
        · exact ok.hand p hp
        · rw [List.mem_singleton.mp hp]; exact hx
      · rcases List.mem_append.mp hp with hp | hp
        · exact ok.deed p hp
        · rw [List.mem_singleton.mp hp]; exact hy
    · rintro acc mm ⟨h, rfl, hl, ok, u⟩
      exact ⟨h, rfl, by rw [hl]; simp, ok, u⟩
  obtain ⟨acc, m3, ec, one, rfl, honel, ok1, u3⟩ := hone.get
  have b3 := u3.box b2
  have w3 := u3.wf w2
  simp only [s_setL, ec, out_ok, OW_nx, thenP_nx, s_seq, OW_seqK]
  -- other
  have hM3 : m3 ++ [O.lst (one.map letD)] = m3 ++ [rO one] := rfl
  rw [hM3]
  have wM3 : Wf (m3 ++ [rO one]) := w3.app (hist_blw _ _)
  obtain ⟨fd, m', u4, e4, hfdl, hfdm⟩ := mixed_ok (n := n) (hs := hs) (h := one) (m := m3 ++ [rO one]) (d0 := .ref m3.length) (b3.app _) wM3 h4 (by omega) ok1.hand (wk_l (at_snoc _ _))
  obtain ⟨m4, u4', rfl⟩ := up_app b3.lt u4
  have b4 := u4'.box b3
  have w4 := u4'.wf w3
  have l43 := u4'.len
  have ok2 : HOk hs mc.maps.length fd := ⟨fun p hp => ok1.hand p (hfdm p hp), fun p hp => ok1.deed p (hfdm p hp)⟩
  have s5 : sSet 5 (fCall F__law_mixed (fCons (fVar 0) (fCons (fVar 2) (fCons (fVar 4) fNil)))) ((rr n mc hs many none none none none).set 4 (some (.ref m3.length))) (m3 ++ [rO one]) = .nx (rr n mc hs many (some (.ref m3.length)) (some (.ref (m3.length + 1))) none none) (m4 ++ [rO one, rO fd]) := by
    have hg := gcR_new (L := (m3 ++ [rO one]).length) (m := m4 ++ [rO one]) (j := [rO fd]) (n := (m4 ++ [rO one]).length) (o := rO fd) (by simp [l43]) (u4.wf wM3) (Nat.le_refl _) (by simp) (hist_blw _ _)
    simp only [rr, List.set, s_set, e_call, e_cons, e_var, List.getElem?_cons_zero, List.getElem?_cons_succ, bind_ok, e_nil, e4, hg, out_ok]
    simp [l43]
  simp only [s5, OW_nx, thenP_nx, s_seq, OW_seqK]
  -- turned
  have hturn : ∃ (m5 : M) (fd' : Hist) (a6 : Option D), Up n m4 m5 ∧ fd'.length = many ∧ HOk hs mc.maps.length fd' ∧ (sIf (fAndT (fTest (fOp gGt (fVar 3) (fC (.int 0)))) (fTest (fOp gEq (fCall F__law_take (fCons (fVar 0) (fCons (fC (.int 3)) fNil))) (fC (.int 0)))))
 (sSeq (sSet 6 (fCall F__law_take (fCons (fVar 0) (fCons (fVar 3) fNil))))
 (sSub (fTup (fCons (fOp gIx (fOp gIx (fVar 5) (fVar 6)) (fC (.int 0))) (fCons (fCall F__law_take (fCons (fVar 0) (fCons (fCB gLen (fCons (fOp gIx (fVar 1) (fC (.int 1))) fNil)) fNil))) fNil))) (fVar 5) (fVar 6)))
 sNext) (rr n mc hs many (some (.ref m3.length)) (some (.ref (m3.length + 1))) none none) (m4 ++ [rO one, rO fd]) = .nx (rr n mc hs many (some (.ref m3.length)) (some (.ref (m3.length + 1))) a6 none) (m5 ++ [rO one, rO fd']) := by
    by_cases h0 : many = 0
    · refine ⟨m4, fd, none, Up.refl b4, by omega, ok2, ?_⟩
      subst h0
      simp [rr]
    · have hpos : (0 : Int) < (many : Int) := by omega
      obtain ⟨r, ma, hr, ua, ea⟩ := take_at (j := [rO one, rO fd]) b4 (k := 3) (by omega) (by omega)
      have ea' : F__law_take [.ref n, .int 3] (m4 ++ [rO one, rO fd]) = .ok (iD r) (ma ++ [rO one, rO fd]) := ea
      have ga : ∀ d, gcR (m4 ++ [rO one, rO fd]).length (.ok d (ma ++ [rO one, rO fd])) = .ok d (ma ++ [rO one, rO fd]) := fun d => gcR_same' d (by simp [ua.len])
      have ba := ua.box b4
      by_cases hr0 : r = 0
      · obtain ⟨at', mb, hat, ub, eb⟩ := take_at (j := [rO one, rO fd]) ba (k := many) (by omega) (by omega)
        have gb : ∀ d, gcR (ma ++ [rO one, rO fd]).length (.ok d (mb ++ [rO one, rO fd])) = .ok d (mb ++ [rO one, rO fd]) := fun d => gcR_same' d (by simp [ub.len])
        have bb := ub.box ba
        obtain ⟨y, mc', hy, uc, ec'⟩ := take_at (j := [rO one, rO fd]) bb (k := mc.maps.length) n1 (by omega)
        have gc' : ∀ d, gcR (mb ++ [rO one, rO fd]).length (.ok d (mc' ++ [rO one, rO fd])) = .ok d (mc' ++ [rO one, rO fd]) := fun d => gcR_same' d (by simp [uc.len])
        obtain ⟨p, hp⟩ : ∃ p, fd[at']? = some p := ⟨_, List.getElem?_eq_getElem (by omega)⟩
        have lb : mb.length = m3.length := by rw [ub.len, ua.len, l43]
        have lc : mc'.length = m3.length := by rw [uc.len, lb]
        have at5 : ∀ q : M, q.length = m3.length → (q ++ [rO one, rO fd])[m3.length + 1]? = some (.lst (fd.map letD)) := fun q hq => by rw [List.getElem?_append_right (by omega), show m3.length + 1 - q.length = 1 by omega]; rfl
        have x5 := ref_getD (at5 mb lb) hp
        have x5b : gIx (letD p) (.int 0) (mb ++ [rO one, rO fd]) = .ok (iD p.1) (mb ++ [rO one, rO fd]) := rfl
        have es := sub_ok (f := fTup (fCons (fOp gIx (fOp gIx (fVar 5) (fVar 6)) (fC (.int 0))) (fCons (fCall F__law_take (fCons (fVar 0) (fCons (fCB gLen (fCons (fOp gIx (fVar 1) (fC (.int 1))) fNil)) fNil))) fNil))) (fo := fVar 5) (fi := fVar 6) (ρ := rr n mc hs many (some (.ref m3.length)) (some (.ref (m3.length + 1))) (some (iD at')) none) (m := mb ++ [rO one, rO fd]) (m1 := mc' ++ [rO one, rO fd]) (m2 := mc' ++ [rO one, rO fd]) (m3 := mc' ++ [rO one, rO fd]) (d := letD (p.1, y)) (n := m3.length + 1) (j := at') (k := (at' : Int)) (xs := fd.map letD)
          (by
            simp only [rr, e_tup, e_cons, e_op, e_call, e_cb, e_var, List.getElem?_cons_zero, List.getElem?_cons_succ, bind_ok, e_c, x5, x5b, e_nil, hm1, e_len, hit, List.length_map, ec', gc', List.length_cons, List.length_nil, Nat.zero_add, Nat.reduceAdd, l2, if_true]
            rfl) rfl rfl (at5 mc' lc) (ixN_nat (by rw [List.length_map]; omega))
        refine ⟨mc', fd.set at' (p.1, y), some (iD at'), ua.trans (ub.trans uc), by rw [List.length_set]; omega, ok2.set (ok2.hand p (List.mem_of_getElem? hp)) hy, ?_⟩
        have hset : (mc' ++ [rO one, rO fd]).set (m3.length + 1) (.lst ((fd.map letD).set at' (letD (p.1, y)))) = mc' ++ [rO one, rO (fd.set at' (p.1, y))] := by
          rw [List.set_append_right _ _ (by omega), show m3.length + 1 - mc'.length = 1 by omega]
          unfold rO
          rw [List.map_set]
          rfl
        rw [hset] at es
        have et : (fAndT (fTest (fOp gGt (fVar 3) (fC (.int 0)))) (fTest (fOp gEq (fCall F__law_take (fCons (fVar 0) (fCons (fC (.int 3)) fNil))) (fC (.int 0))))) (rr n mc hs many (some (.ref m3.length)) (some (.ref (m3.length + 1))) none none) (m4 ++ [rO one, rO fd]) = .ok true (ma ++ [rO one, rO fd]) := by
          simp only [rr, e_andT, e_test, e_op, e_call, e_cons, e_nil, e_var, List.getElem?_cons_zero, List.getElem?_cons_succ, bind_ok, e_c, e_gt, e_asB, decide_eq_true hpos, if_true, ea', ga, gEq_int, hr0]
          rfl
        have e6 : sSet 6 (fCall F__law_take (fCons (fVar 0) (fCons (fVar 3) fNil))) (rr n mc hs many (some (.ref m3.length)) (some (.ref (m3.length + 1))) none none) (ma ++ [rO one, rO fd]) = .nx (rr n mc hs many (some (.ref m3.length)) (some (.ref (m3.length + 1))) (some (iD at')) none) (mb ++ [rO one, rO fd]) := by
          simp only [rr, s_set, e_call, e_cons, e_nil, e_var, List.getElem?_cons_zero, List.getElem?_cons_succ, bind_ok, eb, gb, out_ok, List.set]
        rw [s_if, et, out_ok, if_pos rfl, s_seq, e6, seqK_nx]
        exact es
      · refine ⟨ma, fd, none, ua, by omega, ok2, ?_⟩
        have hr0' : ¬ ((r : Int) = 0) := by omega
        have et : (fAndT (fTest (fOp gGt (fVar 3) (fC (.int 0)))) (fTest (fOp gEq (fCall F__law_take (fCons (fVar 0) (fCons (fC (.int 3)) fNil))) (fC (.int 0))))) (rr n mc hs many (some (.ref m3.length)) (some (.ref (m3.length + 1))) none none) (m4 ++ [rO one, rO fd]) = .ok false (ma ++ [rO one, rO fd]) := by
          simp only [rr, e_andT, e_test, e_op, e_call, e_cons, e_nil, e_var, List.getElem?_cons_zero, List.getElem?_cons_succ, bind_ok, e_c, e_gt, e_asB, decide_eq_true hpos, if_true, ea', ga, gEq_int, decide_eq_false hr0']
        rw [s_if, et, out_ok]
        rfl
  obtain ⟨m5, fd', a6, u5, hfl', ok3, e5⟩ := hturn
  have b5 := u5.box b4
  have w5 := u5.wf w4
  have l5 : m5.length = m3.length := by rw [u5.len, l43]
  simp only [e5, OW_nx, thenP_nx, s_seq, OW_seqK]
  -- cut
  obtain ⟨r9, m6, hr9, u6, e6⟩ := take_at (j := [rO one, rO fd']) b5 (k := 9) (by omega) (by omega)
  have e6' : F__law_take [.ref n, .int 9] (m5 ++ [rO one, rO fd']) = .ok (iD r9) (m6 ++ [rO one, rO fd']) := e6
  have g6 : ∀ d, gcR (m5 ++ [rO one, rO fd']).length (.ok d (m6 ++ [rO one, rO fd'])) = .ok d (m6 ++ [rO one, rO fd']) := fun d => gcR_same' d (by simp [u6.len])
  have b6 := u6.box b5
  have w6 := u6.wf w5
  have l6 : m6.length = m3.length := by rw [u6.len, l5]
  have hcut : ∃ (oth : Hist) (J : M) (r5 : Nat), oth.length ≤ 12 ∧ HOk hs mc.maps.length oth ∧ (m6 ++ J)[m3.length]? = some (rO one) ∧ (m6 ++ J)[r5]? = some (rO oth) ∧ Wf (m6 ++ J) ∧
      (sIf (fTest (fOp gEq (fCall F__law_take (fCons (fVar 0) (fCons (fC (.int 9)) fNil))) (fC (.int 0)))) (sSet 5 (fCut (fVar 5) (fPart (fC (.int 1))) fNoPart)) sNext) (rr n mc hs many (some (.ref m3.length)) (some (.ref (m3.length + 1))) a6 none) (m5 ++ [rO one, rO fd']) = .nx (rr n mc hs many (some (.ref m3.length)) (some (.ref r5)) a6 none) (m6 ++ J) := by
    have et : (fTest (fOp gEq (fCall F__law_take (fCons (fVar 0) (fCons (fC (.int 9)) fNil))) (fC (.int 0)))) (rr n mc hs many (some (.ref m3.length)) (some (.ref (m3.length + 1))) a6 none) (m5 ++ [rO one, rO fd']) = .ok (decide ((r9 : Int) = 0)) (m6 ++ [rO one, rO fd']) := by
      simp only [rr, e_test, e_op, e_call, e_cons, e_nil, e_var, List.getElem?_cons_zero, bind_ok, e_c, e6', g6, gEq_int, e_asB]
    have wJ2 : Wf (m6 ++ [rO one, rO fd']) := wf_apps w6 fun o ho => by
      simp only [List.mem_cons, List.not_mem_nil, or_false] at ho
      rcases ho with rfl | rfl <;> exact hist_blw _ _
    have at4 : ∀ J, (m6 ++ (rO one :: J))[m3.length]? = some (rO one) := fun J => by rw [← l6]; simp
    have at5 : ∀ J, (m6 ++ (rO one :: rO fd' :: J))[m3.length + 1]? = some (rO fd') := fun J => by rw [List.getElem?_append_right (by omega), show m3.length + 1 - m6.length = 1 by omega]; rfl
    by_cases hz : (r9 : Int) = 0
    · refine ⟨fd'.drop 1, [rO one, rO fd', rO (fd'.drop 1)], m3.length + 2, by rw [List.length_drop]; omega, ⟨fun p hp => ok3.hand p (List.mem_of_mem_drop hp), fun p hp => ok3.deed p (List.mem_of_mem_drop hp)⟩, at4 _, ?_, ?_, ?_⟩
      · rw [List.getElem?_append_right (by omega), show m3.length + 2 - m6.length = 2 by omega]; rfl
      · have := wJ2.app (o := rO (fd'.drop 1)) (hist_blw _ _)
        simpa using this
      · have hcd : cutD (fd'.map letD) (some 1) none = (fd'.drop 1).map letD := by
          by_cases q : 1 ≤ fd'.length
          · have := cut_drop (xs := fd'.map letD) (k := 1) (by simpa using q)
            rw [List.map_drop]
            exact this
          · have : fd' = [] := List.eq_nil_of_length_eq_zero (by omega)
            subst this
            rfl
        have hgc : gCut (some 1) none (.ref (m3.length + 1)) (m6 ++ [rO one, rO fd']) = .ok (.ref (m3.length + 2)) (m6 ++ [rO one, rO fd', rO (fd'.drop 1)]) := by
          show (match (m6 ++ [rO one, rO fd'])[m3.length + 1]? with
            | some (.lst xs) => Res.ok (D.ref (m6 ++ [rO one, rO fd']).length) ((m6 ++ [rO one, rO fd']) ++ [O.lst (cutD xs (some 1) none)])
            | _ => .bad) = _
          rw [at5 []]
          show Res.ok _ (_ ++ [O.lst (cutD (fd'.map letD) (some 1) none)]) = _
          rw [hcd]
          simp [l6, rO]
        rw [s_if, et, out_ok]
        simp only [hz, decide_true, if_true, rr, s_set, e_cut, e_var, List.getElem?_cons_zero, List.getElem?_cons_succ, bind_ok, e_part, e_c, e_noPart, hgc, out_ok, List.set]
    · refine ⟨fd', [rO one, rO fd'], m3.length + 1, by omega, ok3, at4 _, at5 [], wJ2, ?_⟩
      rw [s_if, et, out_ok, decide_eq_false hz]
      rfl
  obtain ⟨oth, J, r5, hol, ok4, aL, aR, wJ, e7⟩ := hcut
  simp only [e7, OW_nx, thenP_nx, s_seq, OW_seqK]
  -- the value
  obtain ⟨v, mm', J', u8, wv, hpair, e8⟩ := value_ok (n := n) (L := m3.length) (r5 := r5) (mm := m6 ++ J) (one := one) (oth := oth) (ρ := rr n mc hs many (some (.ref m3.length)) (some (.ref r5)) a6 none) (b6.app _) wJ aL aR rfl rfl rfl
  obtain ⟨m7, u7, rfl⟩ := up_app b6.lt u8
  simp only [s_set, e8, out_ok, OW_nx, thenP_nx]
  have hU : Up n m m7 := ((((u2.trans u3).trans u4').trans u5).trans u6).trans u7
  have w7 : Wf m7 := hU.wf hw
  have hrims : F_rims_hold [machD mc, iD hs, v] (m7 ++ J ++ J') = .ok (.bl (decide (rimsEq mc hs one oth))) (m7 ++ J ++ J') := by
    rcases hpair with hp | hp
    · exact rims_hold_ok S wv hp ok1 ok4 (by omega) hol
    · rw [rims_hold_ok S wv hp ok4 ok1 hol (by omega)]
      congr 2
      rw [Bool.eq_iff_iff, decide_eq_true_iff, decide_eq_true_iff]
      exact rimsEq_symm _ _ _ _
  have aL7 : Wk (m7 ++ J ++ J') (.ref m3.length) one := by
    have : Wk (m6 ++ J) (.ref m3.length) one := wk_l aL
    exact (Wk.up (b6.app _) u8 this).app _
  have aR7 : Wk (m7 ++ J ++ J') (.ref r5) oth := by
    have : Wk (m6 ++ J) (.ref r5) oth := wk_l aR
    exact (Wk.up (b6.app _) u8 this).app _
  have hholds := law_holds_ok S ok1 ok4 (by omega) hol wv aL7 aR7
  have hsame := same_ok (d := .bl (decide (rimsEq mc hs one oth))) (m := m7 ++ J ++ J') wv rfl (by simp [D.dep])
  have hpm : (fun ds m => F_rims_hold (pm_2_1_0 ds) m) [v, iD hs, machD mc] (m7 ++ J ++ J') = F_rims_hold [machD mc, iD hs, v] (m7 ++ J ++ J') := rfl
  simp only [rr, List.set, s_ret, e_call, e_cons, e_nil, e_var, List.getElem?_cons_zero, List.getElem?_cons_succ, bind_ok]
  rw [show F_rims_hold (pm_2_1_0 [v, iD hs, machD mc]) (m7 ++ J ++ J') = F_rims_hold [machD mc, iD hs, v] (m7 ++ J ++ J') from rfl, hrims]
  simp only [gcR_same, bind_ok, hholds, hsame, out_ok, OW_rt, endP_rt]
  have hg : gc m.length (.bl true) (m7 ++ J ++ J') = (.bl true, m7) := by
    rw [List.append_assoc]
    exact gc_j hU.len w7 rfl
  rw [hg]
  exact ⟨hU, rfl⟩
end K93

namespace K93
open PySem PyProof.Rows L2 Dl
theorem fcl_some {maps : List (List Nat)} {S : Br} {x : Fd} (h : fcl maps S = some x) : ∃ p ∈ S, x.1 = p.2 ∧ unc maps p.1 x.2.1 x.2.2 ∧ x.2.1 < maps.length ∧ x.2.2 < maps.length := by
  unfold fcl at h
  obtain ⟨p, hp, h1⟩ := List.exists_of_findSome?_eq_some h
  unfold fc3 at h1
  obtain ⟨o', ho, h2⟩ := List.exists_of_findSome?_eq_some h1
  unfold fc2 at h2
  obtain ⟨t', ht, h3⟩ := List.exists_of_findSome?_eq_some h2
  unfold fc1 at h3
  have ho' := List.mem_range.mp ho
  have ht' := List.mem_range.mp ht
  split at h3
  · rename_i hu
    cases h3
    exact ⟨p, hp, rfl, hu, ho', by show o' + 1 + t' < maps.length; omega⟩
  · cases h3
theorem stF_full (maps : List (List Nat)) : ∀ (h : Hist) (b : Nat) (v : List Nat), (∀ p ∈ h, num1 h p.1 ≤ v.getD p.1 0) → (stF maps (b, v) h).1 = leadH maps b h
  | [], b, v, _ => rfl
  | p :: h, b, v, hv => by
    rw [stF_cons]
    have hp := hv p List.mem_cons_self
    rw [num1_cons, if_pos rfl] at hp
    unfold stp
    rw [if_pos (show 0 < (b, v).2.getD p.1 0 by show 0 < v.getD p.1 0; omega)]
    refine (stF_full maps h _ _ fun q hq => ?_).trans rfl
    have hq' := hv q (List.mem_cons_of_mem _ hq)
    rw [num1_cons] at hq'
    simp only [getD_set]
    by_cases e : p.1 = q.1
    · have hl : q.1 < v.length := by
        refine Decidable.byContradiction fun z => ?_
        rw [e, List.getD_eq_getElem?_getD, List.getElem?_eq_none (by omega)] at hp
        simp at hp
      rw [if_pos ⟨e, hl⟩]
      rw [if_pos e] at hq'
      rw [e]
      omega
    · rw [if_neg (by simp [e])]
      omega
theorem leadH_app (maps : List (List Nat)) (s : Nat) (a b : Hist) : leadH maps s (a ++ b) = leadH maps (leadH maps s a) b := by simp [leadH]
theorem leadH_row (maps : List (List Nat)) (s : Nat) (r : List Nat) : leadH maps s (r.map fun d => (0, d)) = led maps s r := by
  unfold leadH led
  rw [List.foldl_map]
section
variable {mc : Mach} {b hs : Nat} (S : Set' mc b hs) (h2 : 2 ≤ hs)
include S h2
theorem pair_ok {x : Fd} (hx : fcl mc.maps (bfs mc.maps mc.start b) = some x) : x.1.length ≤ 8 ∧ HOk hs mc.maps.length (pair1 x) ∧ HOk hs mc.maps.length (pair2 x) ∧ rimsEq mc hs (pair1 x) (pair2 x) := by
  obtain ⟨p, hp, e1, hu, ho, ht⟩ := fcl_some hx
  have okb := bfs_ok S.m.len S.m.ent S.m.st b
  obtain ⟨i, hi⟩ := List.getElem?_of_mem hp
  have hl8 : x.1.length ≤ 8 := by
    have h5 := okb.len i p hi
    have h6 := okb.le
    have h7 := (List.getElem?_eq_some_iff.mp hi).1
    have := S.m.b8
    rw [e1]
    omega
  have hd : ∀ d ∈ x.1, d < mc.maps.length := by rw [e1]; exact okb.deed p hp
  have m1 : ∀ q ∈ pair1 x, (q.1 = 0 ∨ q.1 = 1) ∧ q.2 < mc.maps.length := by
    intro q hq
    unfold pair1 at hq
    rcases List.mem_append.mp hq with hq | hq
    · obtain ⟨d, hdm, rfl⟩ := List.mem_map.mp hq
      exact ⟨.inl rfl, hd d hdm⟩
    · simp only [List.mem_cons, List.not_mem_nil, or_false] at hq
      rcases hq with rfl | rfl
      · exact ⟨.inl rfl, ho⟩
      · exact ⟨.inr rfl, ht⟩
  have m2 : ∀ q ∈ pair2 x, (q.1 = 0 ∨ q.1 = 1) ∧ q.2 < mc.maps.length := by
    intro q hq
    unfold pair2 at hq
    rcases List.mem_append.mp hq with hq | hq
    · obtain ⟨d, hdm, rfl⟩ := List.mem_map.mp hq
      exact ⟨.inl rfl, hd d hdm⟩
    · simp only [List.mem_cons, List.not_mem_nil, or_false] at hq
      rcases hq with rfl | rfl
      · exact ⟨.inr rfl, ht⟩
      · exact ⟨.inl rfl, ho⟩
  have o1 : HOk hs mc.maps.length (pair1 x) := ⟨fun q hq => by have := (m1 q hq).1; omega, fun q hq => (m1 q hq).2⟩
  have o2 : HOk hs mc.maps.length (pair2 x) := ⟨fun q hq => by have := (m2 q hq).1; omega, fun q hq => (m2 q hq).2⟩
  have hrow : ∀ j, rowOf (pair1 x) j = rowOf (pair2 x) j := by
    intro j
    unfold rowOf pair1 pair2
    rw [List.filter_append, List.filter_append]
    congr 1
    by_cases j0 : j = 0
    · subst j0; rfl
    · by_cases j1 : j = 1
      · subst j1; rfl
      · have q0 : (0 == j) = false := by simpa using fun e => j0 e.symm
        have q1 : (1 == j) = false := by simpa using fun e => j1 e.symm
        simp [List.filter_cons, q0, q1]
  have hcnt : cnt hs (pair1 x) = cnt hs (pair2 x) := by
    unfold Dl.cnt
    refine List.map_congr_left fun j _ => ?_
    show (rowOf (pair1 x) j).length = (rowOf (pair2 x) j).length
    rw [hrow]
  refine ⟨hl8, o1, o2, hcnt, fun e => ?_, fun j _ => by rw [hrow]⟩
  unfold tab at e
  injection e with e
  injection e with _ e
  injection e with e _
  have e' := tI_inj e
  rw [← hcnt] at e'
  have full : ∀ h : Hist, HOk hs mc.maps.length h → brd mc.maps mc.start h (cnt hs h) = leadH mc.maps mc.start h := fun h ok => stF_full mc.maps h _ _ fun q hq => by rw [getD_some (cnt_at h (ok.hand q hq))]; exact Nat.le_refl _
  have hmem : cnt hs (pair1 x) ∈ vecs (cnt hs (pair1 x)) := mem_vecs.mpr ⟨rfl, fun i n k h1 h2 => by rw [h1] at h2; cases h2; exact Nat.le_refl _⟩
  obtain ⟨k, hk⟩ := List.getElem?_of_mem hmem
  have e3 := congrArg (fun l => l[k]?) e'
  simp only [List.getElem?_map, hk, Option.map_some, Option.some.injEq] at e3
  rw [full _ o1] at e3
  have e4 := full _ o2
  rw [← hcnt] at e4
  rw [e4] at e3
  unfold pair1 pair2 at e3
  rw [leadH_app, leadH_app, leadH_row, e1, okb.led p hp] at e3
  exact hu e3.symm
end
theorem gc_bl (L : Nat) (x : Bool) (m : M) : (gc L (.bl x) m).1 = .bl x := by
  unfold gc
  split <;> simp [D.blw]
theorem law_ok (ns : List Int) (hl : ns.length ≤ 63) : ∃ m, F_law [scriptD ns] [] = .ok (.bl true) m := by
  suffices H : RW (F_law [scriptD ns] []) fun d _ => d = .bl true by
    obtain ⟨d, m, e, rfl⟩ := H.get
    exact ⟨m, e⟩
  refine run_w rfl ?_
  unfold g_law
  have l2 : 2 ≤ LIM := by rw [LIM_eq]; omega
  have l3 : 3 ≤ LIM := by rw [LIM_eq]; omega
  have e0 : startD 7 [scriptD ns] = [some (scriptD ns), none, none, none, none, none, none] := rfl
  rw [e0]
  have r3 : ∀ q, rngK (.int 3) q = .ok (srcR 0 3) q := fun q => rngK_n (k := 3) (by rw [LIM_eq]; omega) q
  have r4 : ∀ q, rngK (.int 4) q = .ok (srcR 0 4) q := fun q => rngK_n (k := 4) (by rw [LIM_eq]; omega) q
  simp only [s_seq, OW_seqK, s_for, e_rng, e_c, bind_ok]
  rw [r3, out_ok]
  refine for_c (List.range 3) iD (cR 3) (by simp [srcR]) [1, 2, 3, 4, 5, 6] (fun pre vs mm => ∃ a b c d e f, vs = [a, b, c, d, e, f] ∧ Wf mm) ⟨_, _, _, _, _, _, rfl, wf_nil⟩ ?_ ?_
  · rintro pre k post vs m hpl ⟨a1, a2, a3, a4, a5, a6, rfl, hw⟩
    have hk : k < 3 := by
      have : k ∈ List.range 3 := by rw [hpl]; simp
      exact List.mem_range.mp this
    obtain ⟨g, z, ebox⟩ := box_ok ns hl k (by omega) m
    have gb := gcR_new (L := m.length) (m := m) (j := [bx g z]) (n := m.length) (o := bx g z) rfl hw (Nat.le_refl _) (at_snoc _ _) (bx_blw g z _)
    have hb : Box m.length (m ++ [bx g z]) := ⟨g, z, at_snoc _ _⟩
    have hw1 : Wf (m ++ [bx g z]) := hw.app (bx_blw g z _)
    obtain ⟨mc, b, m2, ok, u2, e2⟩ := machine_ok hb hw1
    have b2 := u2.box hb
    have w2 := u2.wf hw1
    obtain ⟨r, m3, hr, u3, e3⟩ := take_up (k := 3) b2 (by omega) (by omega)
    have e3' : F__law_take [.ref m.length, .int 3] m2 = .ok (iD r) m3 := e3
    have b3 := u3.box b2
    have w3 := u3.wf w2
    have hs2 : 2 ≤ 2 + r := by omega
    have S : Set' mc b (2 + r) := ⟨ok, by omega, by omega⟩
    have hcl := law_clash_ok ok w3
    have hcp := clash_ok ok w3
    have hco := costs_ok ok w3
    have htw := two_ok ok w3
    generalize hx : fcl mc.maps (bfs mc.maps mc.start b) = x at *
    have hx8 : ∀ y, x = some y → y.1.length ≤ 8 := fun y hy => (pair_ok S hs2 (by rw [hx]; exact hy)).1
    have hlp := law_pair_ok (x := x) (fun y hy => Nat.le_trans (hx8 y hy) (by omega)) m3
    have hsm : (D.tup [fcD x, .bl (fcD x).isN, pairD x]).smb = true ∧ (D.tup [fcD x, .bl (fcD x).isN, pairD x]).dep < 8 := by
      cases x with
      | none => exact ⟨rfl, by decide⟩
      | some y =>
        have hy := hx8 y rfl
        have tI_smb : ∀ l : List Nat, l.length ≤ 90000 → (tI l).smb = true := fun l hl => by
          simp only [tI, D.smb, Bool.and_eq_true, decide_eq_true_eq, List.length_map]
          refine ⟨hl, smbs_iff.mpr fun d hd => ?_⟩
          obtain ⟨a, _, rfl⟩ := List.mem_map.mp hd
          rfl
        have hist_smb : ∀ h : Hist, h.length ≤ 90000 → (histD h).smb = true := fun h hl => by
          simp only [histD, D.smb, Bool.and_eq_true, decide_eq_true_eq, List.length_map]
          refine ⟨hl, smbs_iff.mpr fun d hd => ?_⟩
          obtain ⟨a, _, rfl⟩ := List.mem_map.mp hd
          simp [letD, D.smb, D.smbs]
        have hist_dep : ∀ h : Hist, (histD h).dep ≤ 2 := fun h => by
          simp only [histD, D.dep]
          have := deps_le (ds := h.map letD) (k := 1) fun d hd => by
            obtain ⟨a, _, rfl⟩ := List.mem_map.mp hd
            simp [letD, D.dep, D.deps]
          omega
        have p1 := hist_smb (pair1 y) (by unfold pair1; simp; omega)
        have p2 := hist_smb (pair2 y) (by unfold pair2; simp; omega)
        have p3 := tI_smb y.1 (by omega)
        have q1 := hist_dep (pair1 y)
        have q2 := hist_dep (pair2 y)
        have q3 := tI_dep y.1
        refine ⟨?_, ?_⟩
        · simp [D.smb, D.smbs, fcD, pairD, p1, p2, p3]
        · simp only [D.dep, D.deps, fcD, pairD]
          omega
    have hsame := same_ok w3 hsm.1 hsm.2
    have s2 : sSet 2 (fCall F__law_box (fCons (fVar 0) (fCons (fVar 1) fNil))) [some (scriptD ns), some (iD k), a2, a3, a4, a5, a6] m = .nx [some (scriptD ns), some (iD k), some (.ref m.length), a3, a4, a5, a6] (m ++ [bx g z]) := by
      simp only [s_set, e_call, e_cons, e_nil, e_var, List.getElem?_cons_zero, List.getElem?_cons_succ, bind_ok, ebox, gb, out_ok, List.set]
    have s3 : sPar 3 4 (fCons (fCall F__law_machine (fCons (fVar 2) fNil)) (fCons (fOp gAdd (fC (.int 2)) (fCall F__law_take (fCons (fVar 2) (fCons (fC (.int 3)) fNil)))) fNil)) [some (scriptD ns), some (iD k), some (.ref m.length), a3, a4, a5, a6] (m ++ [bx g z]) = .nx [some (scriptD ns), some (iD k), some (.ref m.length), some (machD mc), some (iD (2 + r)), a5, a6] m3 := by
      simp only [s_par, e_call, e_cons, e_nil, e_var, e_op, e_c, List.getElem?_cons_zero, List.getElem?_cons_succ, bind_ok, e2, gcR_up u2, e3', gcR_up u3, e_add, out_ok, List.set]
      rfl
    have s5 : sSet 5 (fCall F__law_clash (fCons (fVar 3) fNil)) [some (scriptD ns), some (iD k), some (.ref m.length), some (machD mc), some (iD (2 + r)), a5, a6] m3 = .nx [some (scriptD ns), some (iD k), some (.ref m.length), some (machD mc), some (iD (2 + r)), some (fcD x), a6] m3 := by
      simp only [s_set, e_call, e_cons, e_nil, e_var, List.getElem?_cons_zero, List.getElem?_cons_succ, bind_ok, hcl, gcR_same, out_ok, List.set]
    have t1 : (fNotT (fTest (fCall F__law_same (fCons (fTup (fCons (fCall F_clash (fCons (fVar 3) fNil)) (fCons (fCall F_costs_nothing (fCons (fVar 3) fNil)) (fCons (fCall F_two_of_one_rim (fCons (fVar 3) fNil)) fNil)))) (fCons (fTup (fCons (fVar 5) (fCons (fUn gIsN (fVar 5)) (fCons (fCall F__law_pair (fCons (fVar 5) fNil)) fNil)))) fNil))))) [some (scriptD ns), some (iD k), some (.ref m.length), some (machD mc), some (iD (2 + r)), some (fcD x), a6] m3 = .ok false m3 := by
      simp only [e_notT, e_test, e_call, e_cons, e_nil, e_tup, e_un, e_isN, e_var, List.getElem?_cons_zero, List.getElem?_cons_succ, bind_ok, hcp, hco, htw, hlp, gcR_same, List.length_cons, List.length_nil, Nat.zero_add, Nat.reduceAdd, l3, if_true, hsame, e_asB, Bool.not_true]
    have t2 : (fAndT (fNotNT (fVar 5)) (fTest (fOp gNotB (fCall F_rims_hold (fCons (fVar 3) (fCons (fVar 4) (fCons (fCall F__law_pair (fCons (fVar 5) fNil)) fNil)))) (fC (.bl true))))) [some (scriptD ns), some (iD k), some (.ref m.length), some (machD mc), some (iD (2 + r)), some (fcD x), a6] m3 = .ok false m3 := by
      cases x with
      | none => rfl
      | some y =>
        obtain ⟨q1, q2, q3, q4⟩ := pair_ok S hs2 hx
        have hrh := rims_hold_ok S w3 (pair_t (isHist_t m3 (pair1 y)) (isHist_t m3 (pair2 y))) q2 q3 (by unfold pair1; simp; omega) (by unfold pair2; simp; omega)
        rw [decide_eq_true q4] at hrh
        have hpd : pairD (some y) = .tup [histD (pair1 y), histD (pair2 y)] := rfl
        rw [hpd] at hlp
        simp only [e_andT, e_notNT, e_test, e_op, e_call, e_cons, e_nil, e_var, e_c, List.getElem?_cons_zero, List.getElem?_cons_succ, bind_ok, hlp, gcR_same, hrh, e_notB, e_asB]
        simp [fcD]
    simp only [bodyAt_n, upd_cons, upd_nil, List.set, s_seq, OW_seqK, s2, OW_nx, thenP_nx, s3, s5, s_if, t1, t2, out_ok, Bool.false_eq_true, if_false, s_next, s_for, e_rng, e_c, bind_ok]
    rw [r4, out_ok]
    refine for_c (List.range 4) iD (cR 4) (by simp [srcR]) [6] (fun pre vs mm => ∃ f, vs = [f] ∧ Up m.length m3 mm) ⟨_, rfl, Up.refl b3⟩ ?_ ?_
    · rintro pre t post vs mm _ ⟨f, rfl, u⟩
      obtain ⟨m4, u4, e4⟩ := rims_right_ok S (u.box b3) (u.wf w3)
      have t3 : (fNotT (fTest (fCall F__law_rims_right (fCons (fVar 2) (fCons (fVar 3) (fCons (fVar 4) fNil)))))) [some (scriptD ns), some (iD k), some (.ref m.length), some (machD mc), some (iD (2 + r)), some (fcD x), some (iD t)] mm = .ok false m4 := by
        simp only [e_notT, e_test, e_call, e_cons, e_nil, e_var, List.getElem?_cons_zero, List.getElem?_cons_succ, bind_ok, e4, gcR_up u4, e_asB, Bool.not_true]
      simp only [bodyAt_n, upd_cons, upd_nil, List.set, s_if, t3, out_ok, Bool.false_eq_true, if_false, s_next, OW_nx, loopP_nx]
      exact ⟨[some (iD t)], rfl, _, rfl, u.trans u4⟩
    · rintro vs mm ⟨f, rfl, u⟩
      simp only [upd_cons, upd_nil, List.set, loopP_nx]
      exact ⟨[some (iD k), some (.ref m.length), some (machD mc), some (iD (2 + r)), some (fcD x), f], rfl, _, _, _, _, _, _, rfl, u.wf w3⟩
  · rintro vs m ⟨a, b, c, d, e, f, rfl, hw⟩
    simp only [upd_cons, upd_nil, List.set, thenP_nx, s_ret, e_c, out_ok, OW_rt, endP_rt]
    exact gc_bl _ _ _
end K93

namespace K93
open PySem PySem.Spec PyProof.Rows L2 Dl
def lo0 : List PySem.Str := ["OwnError", "BadMachine", "BadHistory", "BadTable", "Refused", "NoHand", "MOST_HANDS", "MOST_DEEDS", "MOST_BOARDS", "is_integer", "is_number", "is_below", "is_positive", "is_sequence", "are_below", "is_hands", "is_map", "are_deeds", "check_machine", "need_hands", "is_letter", "check_row", "check_history", "are_counts", "need_counts", "vectors", "is_vector", "place_of", "check_part", "need_hand"]
def lo1 : List PySem.Str := ["part_of", "rim", "first_table", "grown", "table_of", "TWO", "rows_to", "clash", "costs_nothing", "two_of_one_rim", "is_row_of", "rims_hold", "_law_box", "_law_take", "_law_pick", "_law_same", "_law_counts", "_law_vectors", "_law_board", "_law_table", "_law_rings", "_law_map", "_law_machine", "_law_rows", "_law_clash", "_law_pair", "_law_mixed", "_law_rims", "_law_holds", "_law_rims_right"]
def loose : List PySem.Str := lo0 ++ lo1
abbrev R : PySem.W.OpenRow := PySem.W.OpenLaw.row PySem.Challenge.rw_ownback_k93_whole_clashes_of_many_boards
abbrev hk : PySem.W.Hook := He.hookD 5 fa fn
def ob (s : PySem.W.SharedT) : He.AlD := He.obsDG 5 fa fn (HandSHeadRun.getT s)
theorem ob_eq (s : PySem.W.SharedT) : ob s = hk.obs s.abs := He.obsDG_eq (HandSHeadRun.getT_eq s)
theorem run (w : World) : HandSHeadRun.RunEq R (PySem.W.view R.prog [67]) hk ob 4000 loose w := by
  intro os
  kernel_rfl
end K93
open PySem PySem.W PySem.Calls PyProof.Rows in
theorem K93.holds (plain : ∀ ns : List Int, ns.length ≤ 63 → ∃ m, K93.F_law [Dl.scriptD ns] [] = .ok (.bl true) m) : PySem.Challenge.rw_ownback_k93_whole_clashes_of_many_boards.Holds := by
  w_on; o_law
  refine HandSHeadRun.head_any (r := OpenLaw.row PySem.Challenge.rw_ownback_k93_whole_clashes_of_many_boards) (q := view (OpenLaw.row PySem.Challenge.rw_ownback_k93_whole_clashes_of_many_boards).prog [67]) (H := K93.hk) (ob := K93.ob) (M := 4000) (loose := K93.loose) (d := HandSHeadRun.topDef (OpenLaw.row PySem.Challenge.rw_ownback_k93_whole_clashes_of_many_boards).prog 67) (kwd := []) K93.ob_eq
    (by kernel_rfl) (fun s => by kernel_rfl) K93.run (by kernel_rfl) (by kernel_rfl) (by kernel_rfl) (by rfl) (by first | assumption | decide +kernel) (by decide +kernel) ⟨rfl, rfl, rfl, rfl, rfl, by decide +kernel⟩ ?hw ?hc
  case hw => w_witness2
  case hc =>
    refine Dl.walk_D (l := PySem.Challenge.rw_ownback_k93_whole_clashes_of_many_boards) (n := 63) (k := 13) (x := "script") (FL := K93.F_law) rfl (by decide) (by kernel_rfl) ⟨rfl, by decide, by decide⟩ Dl.caller_guards ?F plain
    intro w mg fa h Y G hmg0
    obtain ⟨K, KX, c⟩ := Y
    have H := K93.hd_of KX G c
    have hmg : mg ("law" : PySem.Str) = some (.ref fa) := by
      have e : (HandSHeadRun.topDef (OpenLaw.row PySem.Challenge.rw_ownback_k93_whole_clashes_of_many_boards).prog 67).name = ("law" : PySem.Str) := by kernel_rfl
      rw [← e]
      exact hmg0
    obtain ⟨fd, D0⟩ := H.d_law
    have e := hmg.symm.trans H.g_law
    cases e
    exact ⟨K, fd, KX, fun s v => L2.FunD.bindsA (ps := ["script"]) D0 (fun _ _ _ _ _ _ us hl => match us, hl with | [_], _ => rfl) s [v] rfl, fun base _ _ => K93.fn_law H D0⟩
theorem PySem.Challenge.cw_ownback_k93_whole_clashes_of_many_boards_holds : PySem.Challenge.rw_ownback_k93_whole_clashes_of_many_boards.Holds :=
  K93.holds K93.law_ok
