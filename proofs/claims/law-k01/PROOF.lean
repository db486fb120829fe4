import PyProof.Rows.All
import HandS.ForMost
import HandS.Exc
import HandS.ExcOwn
import HandS.TryOnly
import HandS.Lambda
import KE.LtData
import KE.DataEq
import HandS.TupAny
import HandS.TupLe
import HandS.Style
import HandS.TupMul
import PyProof.ReprRoads
import HandS.Comp
import HandS.IsInst
import HandS.ExcIs
import HandS.ExcField
import HandS.WordsDict
import HandS.Iter
import HandS.Small
import HandS.EndBits
import HandS.EndTab
import HandS.Head0
import HandS.Head1
import HandS.Head2
import HandS.HeadEnd
import HandS.HeadHook1
import HandS.HeadHook2
import HandS.HeadHook3
import HandS.HeadHook4
import HandS.HeadWalk
import PyProof.ExcBaseAll.ValueError
import PySem.Challenge.RW_calltakers_k01_values_ordered
set_option Elab.async false
set_option linter.all false
set_option maxRecDepth 100000
set_option maxHeartbeats 1000000
namespace Fw
open PySem PySem.Spec PyProof.Rows L2

/-! data as the proofs see it: no addresses -/
inductive D where
  | non | bl (b : Bool) | int (i : Int) | str (x : Str) | ty (n : String)
  | glo (x : Str)
  | scr (ns : List Int)
  | ref (l : Nat)
  | tup (ds : List D) | lst (ds : List D)
  | dct (ks : List Key) (ds : List D)
  | obj (C : Str) (ks : List Str) (ds : List D)
instance : Inhabited D := ⟨.non⟩
/-- a thing that may be changed, at a place of the store -/
inductive O where
  | lst (ds : List D)
  | dct (ks : List Key) (ds : List D)
  | ins (C : Str) (ks : List Str) (ds : List D)
abbrev Sto := List O
abbrev En := List (Option D)
structure Xc where
  C : Str
  ks : List Str
  ds : List D
inductive R (α : Type) where
  | ok (a : α) (S : Sto)
  | exc (x : Xc) (S : Sto)
  | bad
def R.bind {α β : Type} (r : R α) (k : α → Sto → R β) : R β := match r with
  | .ok a S => k a S
  | .exc x S => .exc x S
  | .bad => .bad

mutual
def D.closed (n : Nat) : D → Bool
  | .ref l => decide (l < n)
  | .tup ds => closedL n ds
  | .lst ds => closedL n ds
  | .dct _ ds => closedL n ds
  | .obj _ _ ds => closedL n ds
  | .non => true | .bl _ => true | .int _ => true | .str _ => true | .ty _ => true | .glo _ => true | .scr _ => true
def closedL (n : Nat) : List D → Bool
  | [] => true
  | d :: ds => d.closed n && closedL n ds
end
def O.closed (n : Nat) : O → Bool
  | .lst ds => closedL n ds
  | .dct _ ds => closedL n ds
  | .ins _ _ ds => closedL n ds

/-! how data lies in the heap -/
structure Wd where
  K : PySem.W.Frag
  mg : Str → Option Value
  T : List (Addr × Str)
/-- the tables of code objects that a text's closures ask for -/
class Tb where
  T : List (Addr × Str)
abbrev Rho := Nat → Addr
/-- not a place of the store -/
def Fz (n : Nat) (r : Rho) (a : Addr) : Prop := ∀ l, l < n → a ≠ r l
def KTup (K : PySem.W.Frag) (a : Addr) (xs : List V) : Prop :=
  ∃ (o : Obj) (its : Array Value) (n : Nat), K.lookup a = some o ∧ o.cls = .type "tuple" ∧ o.data = .seq its n ∧ its.size ≤ sizeLine ∧ Vals xs its.toList
def FT (K : PySem.W.Frag) (n : Nat) (r : Rho) (H : Hp) (a : Addr) (xs : List V) : Prop := (Rd H a (.tup xs) ∧ Fz n r a) ∨ KTup K a xs
def FL (n : Nat) (r : Rho) (H : Hp) (a : Addr) (xs : List V) : Prop := H a = some (.lst xs) ∧ Fz n r a
/-- the script: read alone -/
def FS (K : PySem.W.Frag) (n : Nat) (r : Rho) (H : Hp) (a : Addr) (xs : List V) : Prop := (Rd H a (.lst xs) ∧ Fz n r a) ∨
  ∃ (o : Obj) (its : Array Value) (n : Nat), K.lookup a = some o ∧ o.cls = .type "list" ∧ o.dict = none ∧ o.data = .seq its n ∧ its.size ≤ sizeLine ∧ Vals xs its.toList
theorem FS.sq {K : PySem.W.Frag} {n : Nat} {r : Rho} {H : Hp} {a : Addr} {xs : List V} (h : FS K n r H a xs) : SqL K H a xs := h.elim (fun q => .inl q.1) .inr
theorem FT.sq {K : PySem.W.Frag} {n : Nat} {r : Rho} {H : Hp} {a : Addr} {xs : List V} (h : FT K n r H a xs) : SqT K H a xs := h.elim (fun q => .inl q.1) .inr
theorem FL.sq {K : PySem.W.Frag} {n : Nat} {r : Rho} {H : Hp} {a : Addr} {xs : List V} (h : FL n r H a xs) : SqL K H a xs := .inl (.inl h.1)

mutual
def Rep (W : Wd) (n : Nat) (r : Rho) (H : Hp) : D → V → Prop
  | .non, v => v = .non
  | .bl b, v => v = .bl b
  | .int i, v => v = .int i
  | .str x, v => v = .str x
  | .ty t, v => v = .ty t
  | .glo x, v => ∃ a, v = .ref a ∧ W.mg x = some (.ref a)
  | .scr ns, v => ∃ a, v = .ref a ∧ FS W.K n r H a (ns.map V.int)
  | .ref l, v => l < n ∧ v = .ref (r l)
  | .tup ds, v => ∃ a vs, v = .ref a ∧ FT W.K n r H a vs ∧ RepL W n r H ds vs
  | .lst ds, v => ∃ a vs, v = .ref a ∧ FL n r H a vs ∧ RepL W n r H ds vs
  | .dct ks ds, v => ∃ a kvs, v = .ref a ∧ H a = some (.dK kvs) ∧ Fz n r a ∧ kvs.map Prod.fst = ks ∧ RepL W n r H ds (kvs.map Prod.snd)
  | .obj C ks ds, v => ∃ a c dx fs, v = .ref a ∧ W.mg C = some (.ref c) ∧ H a = some (.ins c dx fs) ∧ Fz n r a ∧ fs.map Prod.fst = ks ∧ RepL W n r H ds (fs.map Prod.snd)
def RepL (W : Wd) (n : Nat) (r : Rho) (H : Hp) : List D → List V → Prop
  | [], vs => vs = []
  | d :: ds, vs => ∃ v q, vs = v :: q ∧ Rep W n r H d v ∧ RepL W n r H ds q
end
def ORep (W : Wd) (n : Nat) (r : Rho) (H : Hp) (a : Addr) : O → Prop
  | .lst ds => ∃ vs, H a = some (.lst vs) ∧ RepL W n r H ds vs
  | .dct ks ds => ∃ kvs, H a = some (.dK kvs) ∧ kvs.map Prod.fst = ks ∧ RepL W n r H ds (kvs.map Prod.snd)
  | .ins C ks ds => ∃ c dx fs, W.mg C = some (.ref c) ∧ H a = some (.ins c dx fs) ∧ fs.map Prod.fst = ks ∧ RepL W n r H ds (fs.map Prod.snd)
structure Emb (W : Wd) (S : Sto) (r : Rho) (H : Hp) : Prop where
  inj : ∀ l l', l < S.length → l' < S.length → r l = r l' → l = l'
  at_ : ∀ l o, S[l]? = some o → ORep W S.length r H (r l) o
  tabs : LamX.Tabs W.T H
def RepE (W : Wd) (n : Nat) (r : Rho) (H : Hp) (s : En) (t : L2.St) : Prop :=
  s.length = t.length ∧ ∀ (i : Nat) d, s[i]? = some (some d) → ∃ v, t[i]? = some (some v) ∧ Rep W n r H d v
def XRep (W : Wd) (n : Nat) (r : Rho) (H : Hp) (x : Xc) (cls : Value) (dd : Option Addr) : Prop :=
  ∃ c, W.mg x.C = some (.ref c) ∧ cls = .ref c ∧ ((x.ks = [] ∧ dd = none) ∨ ∃ d fs, dd = some d ∧ H d = some (.xd fs) ∧ Fz n r d ∧ fs.map Prod.fst = x.ks ∧ RepL W n r H x.ds (fs.map Prod.snd) ∧ x.ks ≠ [])

/-! one state behind another -/
structure Stp (n : Nat) (r : Rho) (H : Hp) (n' : Nat) (r' : Rho) (H' : Hp) : Prop where
  le : n ≤ n'
  eq : ∀ l, l < n → r' l = r l
  fz : ∀ a o, H a = some o → Fz n r a → (∀ ps, o ≠ .tbl ps) → H' a = some o ∧ Fz n' r' a
theorem Stp.refl (n : Nat) (r : Rho) (H : Hp) : Stp n r H n r H := ⟨Nat.le_refl _, fun _ _ => rfl, fun _ _ h f _ => ⟨h, f⟩⟩
theorem Stp.trans {n n1 n2 : Nat} {r r1 r2 : Rho} {H H1 H2 : Hp} (a : Stp n r H n1 r1 H1) (b : Stp n1 r1 H1 n2 r2 H2) : Stp n r H n2 r2 H2 :=
  ⟨Nat.le_trans a.le b.le, fun l h => (b.eq l (Nat.lt_of_lt_of_le h a.le)).trans (a.eq l h), fun c o h f t => let ⟨h1, f1⟩ := a.fz c o h f t; b.fz c o h1 f1 t⟩
section
variable {W : Wd} {n n' : Nat} {r r' : Rho} {H H' : Hp}
theorem Stp.rd (s : Stp n r H n' r' H') {a : Addr} {u : HO} (h : Rd H a u) (f : Fz n r a) (t : ∀ ps, u ≠ .tbl ps) : Rd H' a u ∧ Fz n' r' a := by
  rcases h with h | ⟨o, h⟩
  · exact ⟨.inl (s.fz a _ h f t).1, (s.fz a _ h f t).2⟩
  · have q := s.fz a _ h f (fun ps e => by cases e)
    exact ⟨.inr ⟨o, q.1⟩, q.2⟩
mutual
theorem Rep.stp (s : Stp n r H n' r' H') : ∀ (d : D) (v : V), Rep W n r H d v → Rep W n' r' H' d v
  | .non, _, h => by unfold Rep at *; exact h
  | .bl _, _, h => by unfold Rep at *; exact h
  | .int _, _, h => by unfold Rep at *; exact h
  | .str _, _, h => by unfold Rep at *; exact h
  | .ty _, _, h => by unfold Rep at *; exact h
  | .glo _, _, h => by unfold Rep at *; exact h
  | .scr ns, _, h => by
    unfold Rep at *
    obtain ⟨a, e, f⟩ := h
    refine ⟨a, e, ?_⟩
    rcases f with ⟨f1, f2⟩ | f
    · exact .inl (s.rd f1 f2 fun ps e => by cases e)
    · exact .inr f
  | .ref l, _, h => by
    unfold Rep at *
    exact ⟨Nat.lt_of_lt_of_le h.1 s.le, by rw [s.eq l h.1]; exact h.2⟩
  | .tup ds, _, h => by
    unfold Rep at *
    obtain ⟨a, vs, e, f, q⟩ := h
    refine ⟨a, vs, e, ?_, RepL.stp s ds vs q⟩
    rcases f with ⟨f1, f2⟩ | f
    · exact .inl (s.rd f1 f2 fun ps e => by cases e)
    · exact .inr f
  | .lst ds, _, h => by
    unfold Rep at *
    obtain ⟨a, vs, e, f, q⟩ := h
    exact ⟨a, vs, e, s.fz a _ f.1 f.2 (fun ps e => by cases e), RepL.stp s ds vs q⟩
  | .dct ks ds, _, h => by
    unfold Rep at *
    obtain ⟨a, kvs, e, f1, f2, k, q⟩ := h
    have z := s.fz a _ f1 f2 fun ps e => by cases e
    exact ⟨a, kvs, e, z.1, z.2, k, RepL.stp s ds _ q⟩
  | .obj C ks ds, _, h => by
    unfold Rep at *
    obtain ⟨a, c, dx, fs, e, m, f1, f2, k, q⟩ := h
    have z := s.fz a _ f1 f2 fun ps e => by cases e
    exact ⟨a, c, dx, fs, e, m, z.1, z.2, k, RepL.stp s ds _ q⟩
theorem RepL.stp (s : Stp n r H n' r' H') : ∀ (ds : List D) (vs : List V), RepL W n r H ds vs → RepL W n' r' H' ds vs
  | [], _, h => by unfold RepL at *; exact h
  | d :: ds, _, h => by
    unfold RepL at *
    obtain ⟨v, q, e, h1, h2⟩ := h
    exact ⟨v, q, e, Rep.stp s d v h1, RepL.stp s ds q h2⟩
end
theorem RepE.stp (s : Stp n r H n' r' H') {e : En} {t : L2.St} (h : RepE W n r H e t) : RepE W n' r' H' e t :=
  ⟨h.1, fun i d q => let ⟨v, a, b⟩ := h.2 i d q; ⟨v, a, Rep.stp s d v b⟩⟩
theorem XRep.stp (s : Stp n r H n' r' H') {x : Xc} {cls : Value} {dd : Option Addr} (h : XRep W n r H x cls dd) : XRep W n' r' H' x cls dd := by
  obtain ⟨c, h1, h2, h3⟩ := h
  refine ⟨c, h1, h2, ?_⟩
  rcases h3 with h3 | ⟨d, fs, e, h4, h5, h6, h7, h8⟩
  · exact .inl h3
  · have z := s.fz d _ h4 h5 fun ps e => by cases e
    exact .inr ⟨d, fs, e, z.1, z.2, h6, RepL.stp s _ _ h7, h8⟩

theorem RepL.length : ∀ {ds : List D} {vs : List V}, RepL W n r H ds vs → vs.length = ds.length
  | [], _, h => by unfold RepL at h; rw [h]; rfl
  | d :: ds, _, h => by
    unfold RepL at h
    obtain ⟨v, q, e, _, h2⟩ := h
    rw [e, List.length_cons, List.length_cons, RepL.length h2]
theorem RepL.get : ∀ {ds : List D} {vs : List V} {i : Nat} {d : D}, RepL W n r H ds vs → ds[i]? = some d → ∃ v, vs[i]? = some v ∧ Rep W n r H d v
  | [], _, _, _, _, e => by simp at e
  | d :: ds, _, 0, _, h, e => by
    unfold RepL at h
    obtain ⟨v, q, e1, h1, _⟩ := h
    simp at e
    subst e e1
    exact ⟨v, rfl, h1⟩
  | d :: ds, _, i + 1, _, h, e => by
    unfold RepL at h
    obtain ⟨v, q, e1, _, h2⟩ := h
    subst e1
    obtain ⟨u, a, b⟩ := RepL.get (i := i) h2 (by simpa using e)
    exact ⟨u, by simpa using a, b⟩
theorem RepL.append : ∀ {ds es : List D} {vs us : List V}, RepL W n r H ds vs → RepL W n r H es us → RepL W n r H (ds ++ es) (vs ++ us)
  | [], _, _, _, h, g => by unfold RepL at h; rw [h]; exact g
  | d :: ds, _, _, _, h, g => by
    unfold RepL at h
    obtain ⟨v, q, e1, h1, h2⟩ := h
    rw [e1, List.cons_append, List.cons_append, RepL]
    exact ⟨v, _, rfl, h1, RepL.append h2 g⟩
theorem RepL.take : ∀ {ds : List D} {vs : List V} (k : Nat), RepL W n r H ds vs → RepL W n r H (ds.take k) (vs.take k)
  | _, _, 0, _ => by simp [RepL]
  | [], _, k + 1, h => by unfold RepL at h; rw [h]; simp [RepL]
  | d :: ds, _, k + 1, h => by
    unfold RepL at h
    obtain ⟨v, q, e1, h1, h2⟩ := h
    rw [e1, List.take_succ_cons, List.take_succ_cons, RepL]
    exact ⟨v, _, rfl, h1, RepL.take k h2⟩
theorem RepL.drop : ∀ {ds : List D} {vs : List V} (k : Nat), RepL W n r H ds vs → RepL W n r H (ds.drop k) (vs.drop k)
  | _, _, 0, h => h
  | [], _, k + 1, h => by unfold RepL at h; rw [h]; simp [RepL]
  | d :: ds, _, k + 1, h => by
    unfold RepL at h
    obtain ⟨v, q, e1, h1, h2⟩ := h
    rw [e1]
    exact RepL.drop k h2
theorem RepL.one {d : D} {v : V} (h : Rep W n r H d v) : RepL W n r H [d] [v] := by
  rw [RepL]
  exact ⟨v, [], rfl, h, by rw [RepL]⟩
theorem RepL.cons {d : D} {v : V} {ds : List D} {vs : List V} (h : Rep W n r H d v) (t : RepL W n r H ds vs) : RepL W n r H (d :: ds) (v :: vs) := by
  rw [RepL]
  exact ⟨v, vs, rfl, h, t⟩
theorem RepL.nil : RepL W n r H [] [] := by rw [RepL]
theorem RepL.set : ∀ {ds : List D} {vs : List V} {d : D} {v : V} (i : Nat), RepL W n r H ds vs → Rep W n r H d v → RepL W n r H (ds.set i d) (vs.set i v)
  | [], _, _, _, _, h, _ => by unfold RepL at h; rw [h]; simp [RepL]
  | e :: ds, _, _, _, 0, h, g => by
    unfold RepL at h
    obtain ⟨v, q, e1, _, h2⟩ := h
    rw [e1]
    exact RepL.cons g h2
  | e :: ds, _, _, _, i + 1, h, g => by
    unfold RepL at h
    obtain ⟨v, q, e1, h1, h2⟩ := h
    rw [e1]
    exact RepL.cons h1 (RepL.set i h2 g)
theorem RepE.set {e : En} {t : L2.St} {d : D} {v : V} (h : RepE W n r H e t) (i : Nat) (g : Rep W n r H d v) : RepE W n r H (e.set i (some d)) (t.set i (some v)) := by
  refine ⟨by simpa using h.1, fun j d' q => ?_⟩
  by_cases hj : i = j
  · subst hj
    by_cases hl : i < e.length
    · rw [List.getElem?_set_self hl] at q
      have q' := Option.some.inj (Option.some.inj q)
      subst q'
      exact ⟨v, by rw [List.getElem?_set_self (by rw [← h.1]; exact hl)], g⟩
    · rw [List.getElem?_eq_none (by simpa using hl)] at q
      cases q
  · rw [List.getElem?_set_ne hj] at q
    obtain ⟨u, a, b⟩ := h.2 j d' q
    exact ⟨u, by rw [List.getElem?_set_ne hj]; exact a, b⟩
theorem RepE.get {e : En} {t : L2.St} (h : RepE W n r H e t) {i : Nat} {d : D} (q : e[i]? = some (some d)) : ∃ v, t[i]? = some (some v) ∧ Rep W n r H d v := h.2 i d q

/-! what an end leaves, for every way in which it can lie -/
def Out {α : Type} (W : Wd) (n : Nat) (r : Rho) (H : Hp) (G : α → Sto → Rho → Hp → Prop) (X : Xc → Sto → Rho → Hp → Prop) : R α → Prop
  | .ok a S' => ∀ r' H', Stp n r H S'.length r' H' → Emb W S' r' H' → G a S' r' H'
  | .exc x S' => ∀ r' H', Stp n r H S'.length r' H' → Emb W S' r' H' → X x S' r' H'
  | .bad => False
theorem Out.bind {α β : Type} {G : β → Sto → Rho → Hp → Prop} {X : Xc → Sto → Rho → Hp → Prop} {x : R α} {k : α → Sto → R β} (h : Out W n r H G X (x.bind k)) :
    Out W n r H (fun a S1 r1 H1 => Out W S1.length r1 H1 G X (k a S1)) X x := by
  cases x with
  | ok a S' =>
    intro r' H' s e
    have h' : Out W n r H G X (k a S') := h
    generalize k a S' = y at *
    cases y with
    | ok b S2 => exact fun r2 H2 s2 e2 => h' r2 H2 (s.trans s2) e2
    | exc x S2 => exact fun r2 H2 s2 e2 => h' r2 H2 (s.trans s2) e2
    | bad => exact h'
  | exc x S' => exact h
  | bad => exact h
theorem Out.imp {α : Type} {G G' : α → Sto → Rho → Hp → Prop} {X X' : Xc → Sto → Rho → Hp → Prop} {x : R α} (h : Out W n r H G X x)
    (g : ∀ a S' r' H', Stp n r H S'.length r' H' → Emb W S' r' H' → G a S' r' H' → G' a S' r' H') (k : ∀ a S' r' H', Stp n r H S'.length r' H' → Emb W S' r' H' → X a S' r' H' → X' a S' r' H') : Out W n r H G' X' x := by
  cases x with
  | ok a S' => exact fun r' H' s e => g a S' r' H' s e (h r' H' s e)
  | exc x S' => exact fun r' H' s e => k x S' r' H' s e (h r' H' s e)
  | bad => exact h
end

/-! the heap grows by a thing that is no place of the store -/
theorem fz_new {n : Nat} {r : Rho} {H : Hp} {W : Wd} {S : Sto} (e : Emb W S r H) {p : Addr} (hp : H p = none) : Fz S.length r p := fun l hl q => by
  have h := e.at_ l S[l] (by rw [List.getElem?_eq_getElem hl])
  rw [← q] at h
  cases o : S[l] with
  | lst ds => rw [o] at h; obtain ⟨_, h, _⟩ := h; rw [hp] at h; cases h
  | dct ks ds => rw [o] at h; obtain ⟨_, h, _⟩ := h; rw [hp] at h; cases h
  | ins C ks ds => rw [o] at h; obtain ⟨_, _, _, _, h, _⟩ := h; rw [hp] at h; cases h
theorem stp_new {n : Nat} {r : Rho} {H : Hp} {p : Addr} {o : HO} (hp : H p = none) : Stp n r H n r (upd H p o) :=
  ⟨Nat.le_refl _, fun _ _ => rfl, fun a o' h f _ => ⟨by rw [upd_ne (ne_of_none h hp)]; exact h, f⟩⟩
theorem ORep.stp {W : Wd} {n n' : Nat} {r r' : Rho} {H H' : Hp} {a : Addr} (s : Stp n r H n' r' H') : ∀ {o : O}, ORep W n r H a o → (∀ u, H a = some u → H' a = some u) → ORep W n' r' H' a o
  | .lst _, ⟨vs, h, q⟩, k => ⟨vs, k _ h, RepL.stp s _ _ q⟩
  | .dct _ _, ⟨kvs, h, e, q⟩, k => ⟨kvs, k _ h, e, RepL.stp s _ _ q⟩
  | .ins _ _ _, ⟨c, dx, fs, m, h, e, q⟩, k => ⟨c, dx, fs, m, k _ h, e, RepL.stp s _ _ q⟩
theorem tabs_new {T : List (Addr × Str)} {H : Hp} {p : Addr} {o : HO} (t : LamX.Tabs T H) (hp : H p = none) : LamX.Tabs T (upd H p o) := t.ext fun b u h => by rw [upd_ne (ne_of_none h hp)]; exact h
def Tame (o : HO) : Prop := (∀ ps, o ≠ .tbl ps) ∧ ∀ φ, o ≠ .ext φ
theorem tabs_set {T : List (Addr × Str)} {H : Hp} {a : Addr} {o u : HO} (t : LamX.Tabs T H) (ha : H a = some o) (k : Tame o) : LamX.Tabs T (upd H a u) := by
  intro p hp
  obtain ⟨ps, h1, h2, h3⟩ := t p hp
  have n1 : p.1 ≠ a := fun z => by
    rw [z, ha] at h1
    exact k.1 _ (Option.some.inj h1)
  refine ⟨ps, by rw [upd_ne n1]; exact h1, h2, fun pos cv hc => ?_⟩
  obtain ⟨c, e1, e2⟩ := h3 pos cv hc
  refine ⟨c, e1, ?_⟩
  have n2 : c ≠ a := fun z => by
    rw [z, ha] at e2
    exact k.2 _ (Option.some.inj e2)
  rw [upd_ne n2]
  exact e2
theorem orep_tame {W : Wd} {n : Nat} {r : Rho} {H : Hp} {a : Addr} : ∀ {o : O}, ORep W n r H a o → ∃ u, H a = some u ∧ Tame u
  | .lst _, ⟨vs, h, q⟩ => ⟨_, h, fun _ z => (by cases z), fun _ z => (by cases z)⟩
  | .dct _ _, ⟨kvs, h, _, q⟩ => ⟨_, h, fun _ z => (by cases z), fun _ z => (by cases z)⟩
  | .ins _ _ _, ⟨c, dx, fs, _, h, _, q⟩ => ⟨_, h, fun _ z => (by cases z), fun _ z => (by cases z)⟩
theorem emb_new {W : Wd} {S : Sto} {r : Rho} {H : Hp} {p : Addr} {o : HO} (e : Emb W S r H) (hp : H p = none) : Emb W S r (upd H p o) :=
  ⟨e.inj, fun l q h => (e.at_ l q h).stp (stp_new hp) fun u hu => by rw [upd_ne (ne_of_none hu hp)]; exact hu, tabs_new e.tabs hp⟩
/-- .. by a new place of the store -/
def rput (r : Rho) (n : Nat) (p : Addr) : Rho := fun l => if l = n then p else r l
theorem rput_old {r : Rho} {n l : Nat} {p : Addr} (h : l < n) : rput r n p l = r l := if_neg (Nat.ne_of_lt h)
theorem rput_new {r : Rho} {n : Nat} {p : Addr} : rput r n p n = p := if_pos rfl
theorem stp_put {n : Nat} {r : Rho} {H : Hp} {p : Addr} {o : HO} (hp : H p = none) : Stp n r H (n + 1) (rput r n p) (upd H p o) :=
  ⟨Nat.le_succ _, fun l h => rput_old h, fun a o' h f _ => ⟨by rw [upd_ne (ne_of_none h hp)]; exact h, fun l hl => by
    by_cases q : l = n
    · subst q; rw [rput_new]; exact ne_of_none h hp
    · rw [rput_old (by omega)]; exact f l (by omega)⟩⟩
theorem emb_put {W : Wd} {S : Sto} {r : Rho} {H : Hp} {p : Addr} {u : HO} {o : O} (e : Emb W S r H) (hp : H p = none) (ho : ORep W (S.length + 1) (rput r S.length p) (upd H p u) p o) : Emb W (S ++ [o]) (rput r S.length p) (upd H p u) := by
  have fz := fz_new (n := S.length) e hp
  refine ⟨fun l l' h1 h2 q => ?_, fun l o' h => ?_, tabs_new e.tabs hp⟩
  · rw [List.length_append, List.length_singleton] at h1 h2
    by_cases e1 : l = S.length
    · by_cases e2 : l' = S.length
      · rw [e1, e2]
      · rw [e1, rput_new, rput_old (by omega)] at q
        exact absurd q (fz l' (by omega))
    · by_cases e2 : l' = S.length
      · rw [e2, rput_new, rput_old (by omega)] at q
        exact absurd q.symm (fz l (by omega))
      · rw [rput_old (by omega), rput_old (by omega)] at q
        exact e.inj l l' (by omega) (by omega) q
  · rw [List.length_append, List.length_singleton]
    by_cases hl : l < S.length
    · rw [List.getElem?_append_left hl] at h
      rw [rput_old hl]
      exact (e.at_ l o' h).stp (stp_put hp) fun u hu => by rw [upd_ne (ne_of_none hu hp)]; exact hu
    · have e1 : l = S.length := by
        have h2 := (List.getElem?_eq_some_iff.mp h).1
        rw [List.length_append, List.length_singleton] at h2
        omega
      subst e1
      rw [List.getElem?_append_right (Nat.le_refl _), Nat.sub_self] at h
      have e2 : o = o' := by simpa using h
      subst e2
      rw [rput_new]
      exact ho
/-- .. a place of the store is changed -/
theorem stp_set {W : Wd} {S : Sto} {r : Rho} {H : Hp} {l : Nat} {u : HO} (hl : l < S.length) : Stp S.length r H S.length r (upd H (r l) u) :=
  ⟨Nat.le_refl _, fun _ _ => rfl, fun a o h f _ => ⟨by rw [upd_ne (f l hl)]; exact h, f⟩⟩
theorem emb_set {W : Wd} {S : Sto} {r : Rho} {H : Hp} {l : Nat} {u : HO} {o : O} (e : Emb W S r H) (hl : l < S.length) (ho : ORep W S.length r (upd H (r l) u) (r l) o) : Emb W (S.set l o) r (upd H (r l) u) := by
  obtain ⟨u0, t1, t2⟩ := orep_tame (e.at_ l _ (List.getElem?_eq_getElem hl))
  refine ⟨fun a b h1 h2 q => e.inj a b (by simpa using h1) (by simpa using h2) q, fun a o' h => ?_, tabs_set e.tabs t1 t2⟩
  rw [List.length_set]
  by_cases q : l = a
  · subst q
    rw [List.getElem?_set_self hl] at h
    cases h
    exact ho
  · rw [List.getElem?_set_ne q] at h
    have ha : a < S.length := (List.getElem?_eq_some_iff.mp h).1
    exact (e.at_ a o' h).stp (stp_set (W := W) hl) fun u hu => by rw [upd_ne (fun z => q (e.inj _ _ hl ha z.symm))]; exact hu
end Fw

set_option Elab.async false
set_option linter.all false
set_option maxRecDepth 100000
set_option maxHeartbeats 4000000
/-! tuples and lists by their first different items, where the items behind may be of any kinds -/
namespace Fw
open PySem PySem.SeqAt PySem.PyData
open AutoSeq1 (wpAny_loadPart')
open MeetsSeq MeetsSeq2 MeetsSeq3 SeqRoads2
abbrev SeqO (c : String) (d : Option Addr) (xs : Array Value) (n : Nat) (q : Array (Option Value)) : Obj := { cls := .type c, dict := d, data := .seq xs n, slots := q }
/-- what the order of two rows of items leans on: only the first difference is asked -/
def LtIt (A : Around) (s : Shared) (us vs : Array Value) (e r : Nat → Bool) : Prop :=
  (∀ (j : Nat) (p : j < us.size) (q : j < vs.size), EqAt A.in1 s us[j] vs[j] (e j)) ∧
  ∀ (j : Nat) (p : j < us.size) (q : j < vs.size), (∀ i, i < j → e i = true) → e j = false → RcLt A.in1 s us[j] vs[j] (r j)
def ltRes (us vs : Array Value) (e r : Nat → Bool) : Bool := firstLt e r (decide (us.size < vs.size)) (List.range (min us.size vs.size))
theorem ltT_at (l b : Addr) (us vs : Array Value) (n m : Nat) (d1 d2 : Option Addr) (q1 q2 : Array (Option Value)) (e r : Nat → Bool) :
    Meets (Builtin.«tuple.__lt__» ⟨[.ref l, .ref b], []⟩)
      (fun A R s => s.heap.get? l = some (SeqO "tuple" d1 us n q1) ∧ s.heap.get? b = some (SeqO "tuple" d2 vs m q2) ∧ LtIt A s us vs e r ∧ R (.ok (.ret (.bool (ltRes us vs e r)))) s) :=
  .of_wp fun prog w A R s h => by
    obtain ⟨hp, g, d, tk, os⟩ := s
    obtain ⟨hl, hb, ⟨he, hr⟩, h⟩ := h
    have tt := AutoSeq1.sub_tuple_tuple
    have zl : (us.toList.zip vs.toList).length = min us.size vs.size := by simp
    unfold ltRes at h
    wp_walk using wpAny_loadPart' hl, wpAny_loadPart' hb, wpAny_forIn_list _ (fun more c s' => c.1 = Option.none ∧ s' = ⟨hp, g, d, tk, os⟩ ∧ ∃ i, more = (us.toList.zip vs.toList).drop i ∧ (∀ i', i' < i → e i' = true) ∧
      R (.ok (.ret (.bool (firstLt e r (decide (us.size < vs.size)) ((List.range (min us.size vs.size)).drop i))))) ⟨hp, g, d, tk, os⟩) _
    case turn =>
      rintro ⟨y, x⟩ more c s' ⟨hc, rfl, i, hz, ha, hR⟩
      have lt0 : i < (us.toList.zip vs.toList).length := by
        rcases Nat.lt_or_ge i (us.toList.zip vs.toList).length with q | q
        · exact q
        · rw [List.drop_of_length_le q] at hz
          cases hz
      have lm : i < min us.size vs.size := zl ▸ lt0
      have l1 : i < us.size := Nat.lt_of_lt_of_le lm (Nat.min_le_left _ _)
      have l2 : i < vs.size := Nat.lt_of_lt_of_le lm (Nat.min_le_right _ _)
      rw [List.drop_eq_getElem_cons lt0] at hz
      injection hz with zyx zr
      have ey : y = us[i] := by
        have := congrArg Prod.fst zyx
        simpa using this
      have ex : x = vs[i] := by
        have := congrArg Prod.snd zyx
        simpa using this
      subst ey ex
      have dr : (List.range (min us.size vs.size)).drop i = i :: (List.range (min us.size vs.size)).drop (i + 1) := by simp [List.drop_eq_getElem_cons, lm]
      rw [dr] at hR
      refine wpAny_bind (he i l1 l2 prog w _ _ ?_)
      cases hy : e i with
      | true =>
        rw [firstLt_yes hy] at hR
        wp_walk
        refine ⟨rfl, rfl, i + 1, zr, fun j hj => ?_, hR⟩
        by_cases ej : j = i
        · rw [ej, hy]
        · exact ha j (by omega)
      | false =>
        rw [firstLt_no hy] at hR
        have hrr := fun E Q q => hr i l1 l2 ha hy prog w E Q q
        repeat (first | with_reducible refine wpAny_bind (hrr _ _ ?_) | wp_step)
        exact ⟨_, rfl, hR⟩
    case fin =>
      rintro ⟨c1, c2⟩ s' ⟨hc, rfl, i, hz, ha, hR⟩
      simp only at hc
      subst hc
      have ge : min us.size vs.size ≤ i := by
        rcases Nat.lt_or_ge i (us.toList.zip vs.toList).length with q | q
        · rw [List.drop_eq_getElem_cons q] at hz
          cases hz
        · exact zl ▸ q
      rw [List.drop_of_length_le (by simpa using ge)] at hR
      wp_walk
      exact ⟨_, rfl, by simpa [Builtin.Tuple.tupleCompareSizes, firstLt] using hR⟩
    case h => exact ⟨rfl, rfl, 0, rfl, fun _ q => absurd q (Nat.not_lt_zero _), by simpa using h⟩

theorem ltL_loop (l b : Addr) (us vs : Array Value) (n m : Nat) (d1 d2 : Option Addr) (q1 q2 : Array (Option Value)) (e r : Nat → Bool) (k : Nat) :
    ∀ i : Nat, min us.size vs.size - i = k → (∀ i', i' < i → e i' = true) → Meets (Builtin.«list.__eq__.loop» ⟨[.ref l, .ref b, rawInt i, rawInt 0], []⟩)
      (fun A R s => s.heap.get? l = some (SeqO "list" d1 us n q1) ∧ s.heap.get? b = some (SeqO "list" d2 vs m q2) ∧ LtIt A s us vs e r ∧
        R (.ok (.ret (.bool (firstLt e r (decide (us.size < vs.size)) ((List.range (min us.size vs.size)).drop i))))) s) := by
  induction k with
  | zero =>
    intro i hk ha prog w A R s h
    obtain ⟨hp, g, d, tk, os⟩ := s
    obtain ⟨hl, hb, hi, h⟩ := h
    have dr : (List.range (min us.size vs.size)).drop i = [] := by
      simp
      omega
    rw [dr] at h
    wp_walk using wpAny_loadPart' hl, wpAny_loadPart' hb
    by_cases p : us.size ≤ i
    · have n1 : us[((i : Nat) : Int).toNat]? = Option.none := by
        simp
        omega
      rw [n1]
      wp_walk using wpAny_loadPart' hl, wpAny_loadPart' hb
      exact h
    · have lt0 : i < us.size := by omega
      have s1 : us[((i : Nat) : Int).toNat]? = some us[i] := by simp [lt0]
      have n2 : vs[((i : Nat) : Int).toNat]? = Option.none := by
        simp
        omega
      rw [s1, n2]
      wp_walk using wpAny_loadPart' hl, wpAny_loadPart' hb
      exact h
  | succ k ih =>
    intro i hk ha prog w A R s h
    obtain ⟨hp, g, d, tk, os⟩ := s
    obtain ⟨hl, hb, ⟨he, hr⟩, h⟩ := h
    wp_walk using wpAny_loadPart' hl, wpAny_loadPart' hb
    have lm : i < min us.size vs.size := by omega
    have l1 : i < us.size := Nat.lt_of_lt_of_le lm (Nat.min_le_left _ _)
    have l2 : i < vs.size := Nat.lt_of_lt_of_le lm (Nat.min_le_right _ _)
    have s1 : us[((i : Nat) : Int).toNat]? = some us[i] := by simp [l1]
    have s2 : vs[((i : Nat) : Int).toNat]? = some vs[i] := by simp [l2]
    have dr : (List.range (min us.size vs.size)).drop i = i :: (List.range (min us.size vs.size)).drop (i + 1) := by simp [List.drop_eq_getElem_cons, lm]
    have ec : ((i : Int) + 1) = ((i + 1 : Nat) : Int) := by
      push_cast
      rfl
    rw [dr] at h
    rw [s1, s2]
    refine wpAny_bind (he i l1 l2 prog w _ _ ?_)
    cases hy : e i with
    | true =>
      rw [firstLt_yes hy] at h
      wp_walk
      rw [ec]
      have ha' : ∀ i', i' < i + 1 → e i' = true := fun j hj => by
        by_cases ej : j = i
        · rw [ej, hy]
        · exact ha j (by omega)
      refine ⟨plainId_quiet plain_eq_loop _, codeAny_builtin entry_eq_loop ?_⟩
      rw [Around.under_plainId plain_eq_loop _]
      exact ih (i + 1) (by omega) ha' prog w A R _ ⟨hl, hb, ⟨he, hr⟩, h⟩
    | false =>
      rw [firstLt_no hy] at h
      wp_walk using wpAny_loadPart' hl, wpAny_loadPart' hb
      rw [s1, s2]
      have hrr := fun E Q q => hr i l1 l2 ha hy prog w E Q q
      repeat (first | with_reducible refine wpAny_bind (hrr _ _ ?_) | wp_step)
      exact h
theorem ltL_at (l b : Addr) (us vs : Array Value) (n m : Nat) (d1 d2 : Option Addr) (q1 q2 : Array (Option Value)) (e r : Nat → Bool) :
    Meets (Builtin.«list.__lt__» ⟨[.ref l, .ref b], []⟩)
      (fun A R s => s.heap.get? l = some (SeqO "list" d1 us n q1) ∧ s.heap.get? b = some (SeqO "list" d2 vs m q2) ∧ LtIt A s us vs e r ∧ R (.ok (.ret (.bool (ltRes us vs e r)))) s) := by
  intro prog w A R s h
  obtain ⟨hp, g, d, tk, os⟩ := s
  obtain ⟨hl, hb, hi, h⟩ := h
  have tt := AutoSeq1.sub_list_list
  wp_walk using wpAny_loadPart' hl, wpAny_loadPart' hb
  refine ⟨plainId_quiet plain_eq_loop _, codeAny_builtin entry_eq_loop ?_⟩
  rw [Around.under_plainId plain_eq_loop _]
  exact ltL_loop l b us vs n m d1 d2 q1 q2 e r _ 0 rfl (fun _ q => absurd q (Nat.not_lt_zero _)) prog w A R _ ⟨hl, hb, hi, by simpa [ltRes] using h⟩

theorem lt_tups {A : Around} {s : Shared} {l b : Addr} {us vs : Array Value} {e r : Nat → Bool} (hl : s.heap.IsTuple l us) (hb : s.heap.IsTuple b vs) (hu : A.units < cLine) (hi : LtIt A s us vs e r) :
    RcLt A s (.ref l) (.ref b) (ltRes us vs e r) := fun prog w E Q h => by
  obtain ⟨⟨c1, d1, t1, q1⟩, ho, hc, n, hd⟩ := id hl
  obtain ⟨⟨c2, d2, t2, q2⟩, ho2, hc2, m, hd2⟩ := id hb
  simp only at hc hd hc2 hd2
  subst hc hd hc2 hd2
  refine richCompare_meets_room (op := .Lt) ⟨_, ho, rfl⟩ ⟨_, ho2, rfl⟩ F.slot_tuple_lt F.entry_tuple_lt (F.args_tuple_lt_2 _ _) (ltT_at l b us vs n m d1 d2 q1 q2 e r) ⟨ho, ho2, hi, ?_⟩ hu
  show Value.bool (ltRes us vs e r) ≠ Value.notImplemented ∧ Q (.bool (ltRes us vs e r)) s
  exact ⟨(fun x => nomatch x), h⟩
theorem lt_lsts {A : Around} {s : Shared} {l b : Addr} {us vs : Array Value} {e r : Nat → Bool} (hl : s.heap.IsList l us) (hb : s.heap.IsList b vs) (hu : A.units < cLine) (hi : LtIt A s us vs e r) :
    RcLt A s (.ref l) (.ref b) (ltRes us vs e r) := fun prog w E Q h => by
  obtain ⟨⟨c1, d1, t1, q1⟩, ho, hc, n, hd⟩ := id hl
  obtain ⟨⟨c2, d2, t2, q2⟩, ho2, hc2, m, hd2⟩ := id hb
  simp only at hc hd hc2 hd2
  subst hc hd hc2 hd2
  refine richCompare_meets_room (op := .Lt) ⟨_, ho, rfl⟩ ⟨_, ho2, rfl⟩ F.slot_list_lt F.entry_list_lt (F.args_list_lt_2 _ _) (ltL_at l b us vs n m d1 d2 q1 q2 e r) ⟨ho, ho2, hi, ?_⟩ hu
  show Value.bool (ltRes us vs e r) ≠ Value.notImplemented ∧ Q (.bool (ltRes us vs e r)) s
  exact ⟨(fun x => nomatch x), h⟩

mutual
/-- a < b, where Python has an answer -/
def ltP : PyData → PyData → Option Bool
  | .int a, .int b => some (decide (a < b))
  | .bool a, .bool b => some (decide (PyProof.Rows.b2i a < PyProof.Rows.b2i b))
  | .str a, .str b => some (decide (a.cps.toList < b.cps.toList))
  | .tuple xs, .tuple ys => ltPL xs ys
  | .list xs, .list ys => ltPL xs ys
  | _, _ => none
def ltPL : List PyData → List PyData → Option Bool
  | [], [] => some false
  | [], _ :: _ => some true
  | _ :: _, [] => some false
  | x :: xs, y :: ys => if eqv x y = true then ltPL xs ys else ltP x y
end
theorem firstLt_ltPL {r : Nat → Bool} : ∀ (xs ys : List PyData) (o : Nat) {e : Nat → Bool} {k : Bool}, ltPL xs ys = some k → (∀ j, j < min xs.length ys.length → e (o + j) = pairEq xs ys j) →
    (∀ j, j < min xs.length ys.length → (∀ i, i < j → pairEq xs ys i = true) → pairEq xs ys j = false → ltP (xs.getD j .none) (ys.getD j .none) = some (r (o + j))) →
    firstLt e r (decide (xs.length < ys.length)) ((List.range (min xs.length ys.length)).map (o + ·)) = k
  | [], [], o, e, k, h, _, _ => by
    rw [ltPL] at h
    cases h
    rfl
  | [], y :: ys, o, e, k, h, _, _ => by
    rw [ltPL] at h
    cases h
    simp [firstLt]
  | x :: xs, [], o, e, k, h, _, _ => by
    rw [ltPL] at h
    cases h
    simp [firstLt]
  | x :: xs, y :: ys, o, e, k, h, he, hr => by
    rw [ltPL] at h
    have em : min (x :: xs).length (y :: ys).length = min xs.length ys.length + 1 := by
      simp only [List.length_cons]
      omega
    have ed : decide ((x :: xs).length < (y :: ys).length) = decide (xs.length < ys.length) := by simp
    rw [em, ed, List.range_succ_eq_map, List.map_cons, List.map_map]
    have e0 := he 0 (by omega)
    have p0 : pairEq (x :: xs) (y :: ys) 0 = eqv x y := rfl
    rw [p0] at e0
    by_cases c : eqv x y = true
    · rw [if_pos c] at h
      rw [firstLt_yes (by rw [e0, c])]
      have ih := firstLt_ltPL xs ys (o + 1) (e := e) h (fun j hj => by
        have z := he (j + 1) (by omega)
        rw [show o + 1 + j = o + (j + 1) by omega, z]
        rfl) (fun j hj ha hn => by
        have z := hr (j + 1) (by omega) (fun i hi => by
          cases i with
          | zero => exact c
          | succ i => exact ha i (by omega)) hn
        rw [show o + 1 + j = o + (j + 1) by omega]
        exact z)
      have ef : (List.range (min xs.length ys.length)).map ((fun x => o + x) ∘ Nat.succ) = (List.range (min xs.length ys.length)).map (fun x => o + 1 + x) := by
        apply List.map_congr_left
        intro a _
        show o + (a + 1) = o + 1 + a
        omega
      rw [ef]
      exact ih
    · have c' : eqv x y = false := by simpa using c
      rw [if_neg c] at h
      rw [firstLt_no (by rw [e0, c'])]
      have z := hr 0 (by omega) (fun i hi => absurd hi (Nat.not_lt_zero _)) c'
      have z' : ltP x y = some (r (o + 0)) := z
      rw [h] at z'
      exact (Option.some.inj z').symm
mutual
theorem lt_reads : ∀ (da db : PyData) (k : Bool) (A : Around) (s : Shared) (a b : Value) (as bs : List Addr), Reads s.heap a da as → Reads s.heap b db bs → da.plain = true → db.plain = true → ltP da db = some k →
    A.units + min da.depth db.depth < cLine → RcLt A s a b k
  | .none, db, k, _, _, _, _, _, _, _, _, _, _, h, _ => by cases db <;> cases h
  | .dict _, db, k, _, _, _, _, _, _, _, _, _, _, h, _ => by cases db <;> cases h
  | .bool x, db, k, A, s, a, b, as, bs, ra, rb, _, _, h, _ => by
    cases db with
    | bool y =>
      cases ra
      cases rb
      rw [ltP] at h
      intro prog w E Q q
      rw [← Option.some.inj h] at q
      exact PyProof.Rows.lt_bool q
    | _ => cases h
  | .int x, db, k, A, s, a, b, as, bs, ra, rb, _, _, h, _ => by
    cases db with
    | int y =>
      cases ra
      cases rb
      rw [ltP] at h
      intro prog w E Q q
      rw [← Option.some.inj h] at q
      exact P.lt_int q
    | _ => cases h
  | .str x, db, k, A, s, a, b, as, bs, ra, rb, _, _, h, _ => by
    cases db with
    | str y =>
      cases ra
      cases rb
      rw [ltP] at h
      intro prog w E Q q
      rw [← Option.some.inj h] at q
      exact P.lt_str q
    | _ => cases h
  | .tuple xs, db, k, A, s, a, b, as, bs, ra, rb, pa, pb, h, hu => by
    cases db with
    | tuple ys =>
      rw [ltP] at h
      cases ra with
      | @tuple l o us n _ as1 h1 h2 h3 h4 =>
        cases rb with
        | @tuple l' o' vs n' _ bs1 k1 k2 k3 k4 =>
          obtain ⟨r, hr, e⟩ := lt_readsAll xs ys k A.in1 s us.toList vs.toList as bs h4 k4 pa pb h (room_in hu)
          have sz1 : us.size = xs.length := by simpa using ReadsAll.length _ _ _ h4
          have sz2 : vs.size = ys.length := by simpa using ReadsAll.length _ _ _ k4
          have z := lt_tups (e := pairEq xs ys) (r := r) (A := A) ⟨_, h1, h2, _, h3⟩ ⟨_, k1, k2, _, k3⟩ (room_here hu) ⟨fun j p q => by
            have t := eqAt_plainAll xs ys A.in1 s us.toList vs.toList _ _ h4 k4 pa pb (room_in hu) j (by simpa using p) (by simpa using q)
            simpa using t, fun j p q ha hn => by
            have t := hr j (by simpa using p) (by simpa using q) ha hn
            simpa using t⟩
          unfold ltRes at z
          rw [sz1, sz2] at z
          rw [e] at z
          exact z
    | _ => cases h
  | .list xs, db, k, A, s, a, b, as, bs, ra, rb, pa, pb, h, hu => by
    cases db with
    | list ys =>
      rw [ltP] at h
      cases ra with
      | @list l o us n _ as1 h1 h2 h3 h4 =>
        cases rb with
        | @list l' o' vs n' _ bs1 k1 k2 k3 k4 =>
          obtain ⟨r, hr, e⟩ := lt_readsAll xs ys k A.in1 s us.toList vs.toList _ _ h4 k4 pa pb h (room_in hu)
          have sz1 : us.size = xs.length := by simpa using ReadsAll.length _ _ _ h4
          have sz2 : vs.size = ys.length := by simpa using ReadsAll.length _ _ _ k4
          have z := lt_lsts (e := pairEq xs ys) (r := r) (A := A) ⟨_, h1, h2, _, h3⟩ ⟨_, k1, k2, _, k3⟩ (room_here hu) ⟨fun j p q => by
            have t := eqAt_plainAll xs ys A.in1 s us.toList vs.toList _ _ h4 k4 pa pb (room_in hu) j (by simpa using p) (by simpa using q)
            simpa using t, fun j p q ha hn => by
            have t := hr j (by simpa using p) (by simpa using q) ha hn
            simpa using t⟩
          unfold ltRes at z
          rw [sz1, sz2] at z
          rw [e] at z
          exact z
    | _ => cases h
theorem lt_readsAll : ∀ (xs ys : List PyData) (k : Bool) (A : Around) (s : Shared) (us vs : List Value) (as bs : List Addr), ReadsAll s.heap us xs as → ReadsAll s.heap vs ys bs → plainAll xs = true → plainAll ys = true → ltPL xs ys = some k →
    A.units + min (depthAll xs) (depthAll ys) < cLine →
    ∃ r : Nat → Bool, (∀ j (p : j < us.length) (q : j < vs.length), (∀ i, i < j → pairEq xs ys i = true) → pairEq xs ys j = false → RcLt A s us[j] vs[j] (r j)) ∧
      firstLt (pairEq xs ys) r (decide (xs.length < ys.length)) (List.range (min xs.length ys.length)) = k
  | [], [], k, A, s, _, _, _, _, ra, rb, _, _, h, _ => by
    rw [ltPL] at h
    cases h
    cases ra
    exact ⟨fun _ => false, fun j p => absurd p (Nat.not_lt_zero _), rfl⟩
  | [], y :: ys, k, A, s, _, _, _, _, ra, rb, _, _, h, _ => by
    rw [ltPL] at h
    cases h
    cases ra
    exact ⟨fun _ => false, fun j p => absurd p (Nat.not_lt_zero _), by simp [firstLt]⟩
  | x :: xs, [], k, A, s, _, _, _, _, ra, rb, _, _, h, _ => by
    rw [ltPL] at h
    cases h
    cases rb
    exact ⟨fun _ => false, fun j p q => absurd q (Nat.not_lt_zero _), by simp [firstLt]⟩
  | x :: xs, y :: ys, k, A, s, _, _, _, _, ra, rb, pa, pb, h, hu => by
    rw [ltPL] at h
    cases ra with
    | cons r0 rs =>
      cases rb with
      | cons r0' rs' =>
        have px : plain x = true ∧ plainAll xs = true := by simpa [plainAll] using pa
        have py : plain y = true ∧ plainAll ys = true := by simpa [plainAll] using pb
        by_cases c : eqv x y = true
        · rw [if_pos c] at h
          obtain ⟨r, hr, e⟩ := lt_readsAll xs ys k A s _ _ _ _ rs rs' px.2 py.2 h (room_tail hu)
          refine ⟨fun j => r (j - 1), fun j p q ha hn => ?_, ?_⟩
          · cases j with
            | zero =>
              have hn' : eqv x y = false := hn
              rw [c] at hn'
              cases hn'
            | succ j =>
              exact hr j (Nat.lt_of_succ_lt_succ p) (Nat.lt_of_succ_lt_succ q) (fun i hi => ha (i + 1) (by omega)) hn
          · have em : min (x :: xs).length (y :: ys).length = min xs.length ys.length + 1 := by
              simp only [List.length_cons]
              omega
            have ed : decide ((x :: xs).length < (y :: ys).length) = decide (xs.length < ys.length) := by simp
            rw [em, ed, List.range_succ_eq_map, firstLt_yes (show pairEq (x :: xs) (y :: ys) 0 = true from c), ← e]
            rw [W.firstLt_map]
            rfl
        · have c' : eqv x y = false := by simpa using c
          rw [if_neg c] at h
          refine ⟨fun _ => k, fun j p q ha hn => ?_, ?_⟩
          · cases j with
            | zero => exact lt_reads x y k A s _ _ _ _ r0 r0' px.1 py.1 h (room_head hu)
            | succ j =>
              have z : eqv x y = true := ha 0 (by omega)
              rw [c'] at z
              cases z
          · have em : min (x :: xs).length (y :: ys).length = min xs.length ys.length + 1 := by
              simp only [List.length_cons]
              omega
            rw [em, List.range_succ_eq_map, firstLt_no (show pairEq (x :: xs) (y :: ys) 0 = false from c')]
end
end Fw

set_option Elab.async false
set_option linter.all false
set_option maxRecDepth 100000
set_option maxHeartbeats 2000000
namespace Fw
open PySem PySem.Spec PyProof.Rows L2

/-- what stands at a place, if it is a list or a dict, in its stead -/
def flat (S : Sto) : D → D
  | .ref l => match S[l]? with
    | some (.lst ds) => .lst ds
    | some (.dct ks ds) => .dct ks ds
    | _ => .ref l
  | d => d
mutual
def toPy : D → Option PyData
  | .non => some .none
  | .bl b => some (.bool b)
  | .int i => some (.int i)
  | .str x => some (.str x)
  | .tup ds => (toPyL ds).map PyData.tuple
  | .lst ds => (toPyL ds).map PyData.list
  | .ty _ => none | .glo _ => none | .scr _ => none | .ref _ => none | .dct _ _ => none | .obj _ _ _ => none
def toPyL : List D → Option (List PyData)
  | [] => some []
  | d :: ds => (toPy d).bind fun p => (toPyL ds).map fun q => p :: q
end
/-- as Rep, but a list or a dict may be a place's -/
def RepF (W : Wd) (n : Nat) (r : Rho) (H : Hp) : D → V → Prop
  | .lst ds, v => ∃ a vs, v = .ref a ∧ H a = some (.lst vs) ∧ RepL W n r H ds vs
  | .dct ks ds, v => ∃ a kvs, v = .ref a ∧ H a = some (.dK kvs) ∧ kvs.map Prod.fst = ks ∧ RepL W n r H ds (kvs.map Prod.snd)
  | d, v => Rep W n r H d v
theorem Rep.toF {W : Wd} {n : Nat} {r : Rho} {H : Hp} : ∀ {d : D} {v : V}, Rep W n r H d v → RepF W n r H d v
  | .lst ds, _, h => by
    rw [Rep] at h
    obtain ⟨a, vs, e, f, q⟩ := h
    exact ⟨a, vs, e, f.1, q⟩
  | .dct ks ds, _, h => by
    rw [Rep] at h
    obtain ⟨a, kvs, e, f, _, k, q⟩ := h
    exact ⟨a, kvs, e, f, k, q⟩
  | .non, _, h => h | .bl _, _, h => h | .int _, _, h => h | .str _, _, h => h | .ty _, _, h => h | .glo _, _, h => h
  | .scr _, _, h => h | .ref _, _, h => h | .tup _, _, h => h | .obj _ _ _, _, h => h
theorem flat_ok {W : Wd} {S : Sto} {r : Rho} {H : Hp} {d : D} {v : V} (e : Emb W S r H) (h : Rep W S.length r H d v) : RepF W S.length r H (flat S d) v := by
  cases d with
  | ref l =>
    have h0 := h
    rw [Rep] at h
    obtain ⟨hl, ev⟩ := h
    show RepF W S.length r H (match S[l]? with
      | some (.lst ds) => .lst ds
      | some (.dct ks ds) => .dct ks ds
      | _ => .ref l) v
    cases q : S[l]? with
    | none => exact h0
    | some o =>
      have z := e.at_ l o q
      cases o with
      | lst ds =>
        obtain ⟨vs, z1, z2⟩ := z
        exact ⟨_, vs, ev, z1, z2⟩
      | dct ks ds =>
        obtain ⟨kvs, z1, z2, z3⟩ := z
        exact ⟨_, kvs, ev, z1, z2, z3⟩
      | ins C ks ds => exact h0
  | _ => exact h.toF
section
variable {W : Wd} {n : Nat} {r : Rho} {H : Hp}
mutual
theorem dp_of : ∀ (d : D) (v : V) (p : PyData), Rep W n r H d v → toPy d = some p → Dp W.K H v p
  | .non, _, _, h, e => by
    rw [Rep] at h
    rw [toPy] at e
    cases e
    rw [h]
    exact .non
  | .bl b, _, _, h, e => by
    rw [Rep] at h
    rw [toPy] at e
    cases e
    rw [h]
    exact .bl b
  | .int b, _, _, h, e => by
    rw [Rep] at h
    rw [toPy] at e
    cases e
    rw [h]
    exact .int b
  | .str b, _, _, h, e => by
    rw [Rep] at h
    rw [toPy] at e
    cases e
    rw [h]
    exact .str b
  | .tup ds, _, _, h, e => by
    rw [Rep] at h
    obtain ⟨a, vs, ev, f, q⟩ := h
    rw [toPy, Option.map_eq_some_iff] at e
    obtain ⟨ps, e1, e2⟩ := e
    rw [ev, ← e2]
    exact .tup f.sq (dpL_of ds vs ps q e1)
  | .lst ds, _, _, h, e => by
    rw [Rep] at h
    obtain ⟨a, vs, ev, f, q⟩ := h
    rw [toPy, Option.map_eq_some_iff] at e
    obtain ⟨ps, e1, e2⟩ := e
    rw [ev, ← e2]
    exact .lst f.sq (dpL_of ds vs ps q e1)
  | .ty _, _, _, _, e => by rw [toPy] at e; cases e
  | .glo _, _, _, _, e => by rw [toPy] at e; cases e
  | .scr _, _, _, _, e => by rw [toPy] at e; cases e
  | .ref _, _, _, _, e => by rw [toPy] at e; cases e
  | .dct _ _, _, _, _, e => by rw [toPy] at e; cases e
  | .obj _ _ _, _, _, _, e => by rw [toPy] at e; cases e
theorem dpL_of : ∀ (ds : List D) (vs : List V) (ps : List PyData), RepL W n r H ds vs → toPyL ds = some ps → DpAll W.K H vs ps
  | [], _, _, h, e => by
    rw [RepL] at h
    rw [toPyL] at e
    cases e
    rw [h]
    exact .nil
  | d :: ds, _, _, h, e => by
    rw [RepL] at h
    obtain ⟨v, q, ev, h1, h2⟩ := h
    rw [toPyL, Option.bind_eq_some_iff] at e
    obtain ⟨p, e1, e2⟩ := e
    rw [Option.map_eq_some_iff] at e2
    obtain ⟨ps, e3, e4⟩ := e2
    rw [ev, ← e4]
    exact .cons (dp_of d v p h1 e1) (dpL_of ds q ps h2 e3)
end
theorem dpF_of : ∀ {d : D} {v : V} {p : PyData}, RepF W n r H d v → toPy d = some p → Dp W.K H v p
  | .lst ds, _, _, ⟨a, vs, ev, f, q⟩, e => by
    rw [toPy, Option.map_eq_some_iff] at e
    obtain ⟨ps, e1, e2⟩ := e
    rw [ev, ← e2]
    exact .lst (.inl (.inl f)) (dpL_of ds vs ps q e1)
  | .dct _ _, _, _, _, e => by rw [toPy] at e; cases e
  | .non, v, p, h, e => dp_of _ v p h e | .bl _, v, p, h, e => dp_of _ v p h e | .int _, v, p, h, e => dp_of _ v p h e
  | .str _, v, p, h, e => dp_of _ v p h e | .ty _, v, p, h, e => dp_of _ v p h e | .glo _, v, p, h, e => dp_of _ v p h e
  | .scr _, v, p, h, e => dp_of _ v p h e | .ref _, v, p, h, e => dp_of _ v p h e | .tup _, v, p, h, e => dp_of _ v p h e | .obj _ _ _, v, p, h, e => dp_of _ v p h e
end
mutual
theorem toPy_plain : ∀ (d : D) (p : PyData), toPy d = some p → p.plain = true
  | .non, _, e => by rw [toPy] at e; cases e; rfl
  | .bl _, _, e => by rw [toPy] at e; cases e; rfl
  | .int _, _, e => by rw [toPy] at e; cases e; rfl
  | .str _, _, e => by rw [toPy] at e; cases e; rfl
  | .tup ds, _, e => by
    rw [toPy, Option.map_eq_some_iff] at e
    obtain ⟨ps, e1, e2⟩ := e
    rw [← e2, PyData.plain]
    exact toPyL_plain ds ps e1
  | .lst ds, _, e => by
    rw [toPy, Option.map_eq_some_iff] at e
    obtain ⟨ps, e1, e2⟩ := e
    rw [← e2, PyData.plain]
    exact toPyL_plain ds ps e1
  | .ty _, _, e => by rw [toPy] at e; cases e
  | .glo _, _, e => by rw [toPy] at e; cases e
  | .scr _, _, e => by rw [toPy] at e; cases e
  | .ref _, _, e => by rw [toPy] at e; cases e
  | .dct _ _, _, e => by rw [toPy] at e; cases e
  | .obj _ _ _, _, e => by rw [toPy] at e; cases e
theorem toPyL_plain : ∀ (ds : List D) (ps : List PyData), toPyL ds = some ps → PyData.plainAll ps = true
  | [], _, e => by rw [toPyL] at e; cases e; rfl
  | d :: ds, _, e => by
    rw [toPyL, Option.bind_eq_some_iff] at e
    obtain ⟨p, e1, e2⟩ := e
    rw [Option.map_eq_some_iff] at e2
    obtain ⟨ps, e3, e4⟩ := e2
    rw [← e4, PyData.plainAll, toPy_plain d p e1, toPyL_plain ds ps e3]
    rfl
end

/-! operators -/
def smallF (i : Int) : Bool := decide (-(2 ^ 64) < i) && decide (i < 2 ^ 64)
def bin1 : Operator → D → D → Sto → R D
  | .Add, .int i, .int j, S => .ok (.int (i + j)) S
  | .Add, .str x, .str y, S => if x.length + y.length ≤ sizeLine then .ok (.str (x ++ y)) S else .bad
  | .Add, .tup a, .tup b, S => if a.length + b.length ≤ sizeLine then .ok (.tup (a ++ b)) S else .bad
  | .Add, .lst a, .lst b, S => if a.length + b.length ≤ sizeLine then .ok (.lst (a ++ b)) S else .bad
  | .Sub, .int i, .int j, S => .ok (.int (i - j)) S
  | .Mult, .int i, .int j, S => if (smallF i || smallF j) = true then .ok (.int (i * j)) S else .bad
  | .Mult, .lst a, .int k, S => if -1000 ≤ k ∧ k ≤ 1000 ∧ a.length ≤ 1000 then .ok (.lst (List.replicate k.toNat a).flatten) S else .bad
  | .FloorDiv, .int i, .int j, S => if 0 < j ∧ j < 1073741824 then .ok (.int (i / j)) S else .bad
  | .Mod, .int i, .int j, S => if 0 < j then .ok (.int (i % j)) S else .bad
  | .Pow, .int i, .int j, S => if 0 ≤ j ∧ j ≤ 1000 ∧ smallF i = true then .ok (.int (i ^ j.toNat)) S else .bad
  | _, _, _, _ => .bad
def binD (o : Operator) (x y : D) (S : Sto) : R D := bin1 o (flat S x) (flat S y) S
def eqD (x y : D) : Option Bool := (toPy x).bind fun p => (toPy y).bind fun q => if min p.depth q.depth ≤ 60 then some (PyData.eqv p q) else none
def ltD (x y : D) : Option Bool := (toPy x).bind fun p => (toPy y).bind fun q => if min p.depth q.depth ≤ 60 then ltP p q else none
def keyD : D → Option Key
  | .int i => some (.inl i)
  | .str x => some (.inr x)
  | _ => none
def dgetD : List Key → List D → Key → Option D
  | k :: ks, d :: ds, q => if k = q then some d else dgetD ks ds q
  | _, _, _ => none
def inD (x y : D) : Option Bool := match y with
  | .lst ds => (toPy x).bind fun p => (toPyL ds).bind fun qs => if p.depth ≤ 60 then some (qs.any fun q => PyData.eqv q p) else none
  | .tup ds => (toPy x).bind fun p => (toPyL ds).bind fun qs => if p.depth ≤ 60 then some (qs.any fun q => PyData.eqv q p) else none
  | .dct ks ds => (keyD x).map fun k => (dgetD ks ds k).isSome
  | .str z => (match x with
    | .str w => if w.cps.size = 1 then some (decide (w.cps.getD 0 0 ∈ z.cps.toList)) else none
    | _ => none)
  | _ => none
def isD (x y : D) : Option Bool := match x, y with
  | .non, .non => some true
  | .bl a, .bl b => some (decide (a = b))
  | .bl _, .non => some false | .int _, .non => some false | .str _, .non => some false | .tup _, .non => some false | .lst _, .non => some false
  | .dct _ _, .non => some false | .obj _ _ _, .non => some false | .ref _, .non => some false | .glo _, .non => some false
  | _, _ => none
def cmp1 (o : CmpOp) (x y : D) : Option Bool := match o with
  | .Eq => eqD x y
  | .NotEq => (eqD x y).map not
  | .Lt => ltD x y
  | .LtE => (match x, y with
    | .int i, .int j => some (decide (i ≤ j))
    | _, _ => none)
  | .Gt => (match x, y with
    | .int i, .int j => some (decide (j < i))
    | _, _ => none)
  | .GtE => (match x, y with
    | .int i, .int j => some (decide (j ≤ i))
    | _, _ => none)
  | .Is => isD x y
  | .IsNot => (isD x y).map not
  | .In => inD x y
  | .NotIn => (inD x y).map not
def cmpD (o : CmpOp) (x y : D) (S : Sto) : R D := match cmp1 o (flat S x) (flat S y) with
  | some b => .ok (.bl b) S
  | none => .bad
end Fw

set_option Elab.async false
set_option linter.all false
set_option maxRecDepth 100000
set_option maxHeartbeats 2000000
namespace Fw
open PySem PySem.Spec PyProof.Rows L2
variable [Tb]
abbrev Wo (X : Cx) : Wd := ⟨X.K, X.mg, Tb.T⟩
/-- units enough -/
def RU (k : Nat) (A : Around) : Prop := A.units + 16 * k + 200 < cLine
/-- the wish, told by data -/
abbrev Gv (X : Cx) (Q : VK) : D → Sto → Rho → Hp → Prop := fun d S r H => ∀ v, Rep (Wo X) S.length r H d v → Q v H
abbrev Xn : Xc → Sto → Rho → Hp → Prop := fun _ _ _ _ => False
def rD2 (X : Cx) (f : D → D → Sto → R D) : R2 := fun x y H Q => ∃ E S r dx dy, Emb (Wo X) S r H ∧ Rep (Wo X) S.length r H dx x ∧ Rep (Wo X) S.length r H dy y ∧ Out (Wo X) S.length r H (Gv X Q) E (f dx dy S)
section
variable {X : Cx} {S : Sto} {r : Rho} {H : Hp} {Q : VK} {E : Xc → Sto → Rho → Hp → Prop}
theorem out_same {α : Type} {W : Wd} {a : α} {G : α → Sto → Rho → Hp → Prop} (e : Emb W S r H) (h : Out W S.length r H G E (.ok a S)) : G a S r H := h r H (Stp.refl _ _ _) e
theorem out_v {d : D} {v : V} (e : Emb (Wo X) S r H) (h : Out (Wo X) S.length r H (Gv X Q) E (.ok d S)) (g : Rep (Wo X) S.length r H d v) : Q v H := out_same e h v g
theorem out_tup {ds : List D} {vs : List V} {p : Addr} (e : Emb (Wo X) S r H) (h : Out (Wo X) S.length r H (Gv X Q) E (.ok (.tup ds) S)) (g : RepL (Wo X) S.length r H ds vs) (hp : H p = none) : Q (.ref p) (upd H p (.tup vs)) := by
  refine h r _ (stp_new hp) (emb_new e hp) _ ?_
  rw [Rep]
  exact ⟨p, vs, rfl, .inl ⟨.inl upd_same, fz_new (n := S.length) e hp⟩, RepL.stp (stp_new hp) ds vs g⟩
theorem out_lst {ds : List D} {vs : List V} {p : Addr} (e : Emb (Wo X) S r H) (h : Out (Wo X) S.length r H (Gv X Q) E (.ok (.lst ds) S)) (g : RepL (Wo X) S.length r H ds vs) (hp : H p = none) : Q (.ref p) (upd H p (.lst vs)) := by
  refine h r _ (stp_new hp) (emb_new e hp) _ ?_
  rw [Rep]
  exact ⟨p, vs, rfl, ⟨upd_same, fz_new (n := S.length) e hp⟩, RepL.stp (stp_new hp) ds vs g⟩
end
theorem RepL.nil_iff {W : Wd} {n : Nat} {r : Rho} {H : Hp} {ds : List D} {vs : List V} (h : RepL W n r H ds vs) : vs = [] ↔ ds = [] := by
  cases ds with
  | nil => rw [RepL] at h; simp [h]
  | cons d ds =>
    rw [RepL] at h
    obtain ⟨v, q, e, _⟩ := h
    simp [e]
theorem RepL.rep {W : Wd} {n : Nat} {r : Rho} {H : Hp} {ds : List D} {vs : List V} (h : RepL W n r H ds vs) : ∀ k : Nat, RepL W n r H (List.replicate k ds).flatten (List.replicate k vs).flatten
  | 0 => RepL.nil
  | k + 1 => by
    rw [List.replicate_succ, List.flatten_cons, List.replicate_succ, List.flatten_cons]
    exact RepL.append h (RepL.rep h k)
theorem smallF_iff {i : Int} (h : smallF i = true) : -(2 ^ 64) < i ∧ i < 2 ^ 64 := by
  unfold smallF at h
  simpa using h
theorem bin_ok {X : Cx} {k : Nat} (hr : RU k X.A) (o : Operator) : OpR X (binaryOp o) (rD2 X (binD o)) := by
  intro pins s σ H x y v u Q I rx ry ⟨E0, S, r, dx, dy, e, hx, hy, h⟩
  unfold binD at h
  have fx := flat_ok e hx
  have fy := flat_ok e hy
  generalize flat S dx = cx at fx h
  generalize flat S dy = cy at fy h
  unfold bin1 at h
  split at h
  · simp only [RepF, Rep] at fx fy
    subst fx fy
    exact op_add pins s σ H _ _ v u Q I rx ry ⟨_, _, rfl, rfl, out_v e h (by rw [Rep])⟩
  · simp only [RepF, Rep] at fx fy
    subst fx fy
    split at h
    · rename_i hz
      exact op_add_str pins s σ H _ _ v u Q I rx ry ⟨_, _, rfl, rfl, hz, out_v e h (by rw [Rep])⟩
    · exact h.elim
  · rename_i as bs
    simp only [RepF, Rep] at fx fy
    obtain ⟨a, vs, rfl, f1, g1⟩ := fx
    obtain ⟨b, ws, rfl, f2, g2⟩ := fy
    split at h
    · rename_i hz
      refine op_catA pins s σ H _ _ v u Q I rx ry ⟨a, b, vs, ws, rfl, rfl, f1.sq, f2.sq, by rw [g1.length, g2.length]; exact hz, fun q => ?_, fun q1 q2 => ?_, fun q1 q2 p hp => ?_⟩
      · have e1 := g1.nil_iff.mp q
        subst e1
        refine out_v e h ?_
        rw [Rep]
        exact ⟨b, ws, rfl, f2, by simpa using g2⟩
      · have e1 := g2.nil_iff.mp q2
        subst e1
        refine out_v e h ?_
        rw [Rep]
        exact ⟨a, vs, rfl, f1, by simpa using g1⟩
      · exact out_tup e h (RepL.append g1 g2) hp
    · exact h.elim
  · rename_i as bs
    obtain ⟨a, vs, rfl, f1, g1⟩ := fx
    obtain ⟨b, ws, rfl, f2, g2⟩ := fy
    split at h
    · rename_i hz
      refine op_cat pins s σ H _ _ v u Q I rx ry ⟨a, b, vs, ws, rfl, rfl, f1, f2, by rw [g1.length, g2.length]; exact hz, fun p hp => ?_⟩
      exact out_lst e h (RepL.append g1 g2) hp
    · exact h.elim
  · simp only [RepF, Rep] at fx fy
    subst fx fy
    exact op_sub pins s σ H _ _ v u Q I rx ry ⟨_, _, rfl, rfl, out_v e h (by rw [Rep])⟩
  · simp only [RepF, Rep] at fx fy
    subst fx fy
    split at h
    · rename_i hz
      rw [Bool.or_eq_true] at hz
      exact op_mul pins s σ H _ _ v u Q I rx ry ⟨_, _, rfl, rfl, hz.elim (fun z => .inl (smallF_iff z)) (fun z => .inr (smallF_iff z)), out_v e h (by rw [Rep])⟩
    · exact h.elim
  · rename_i as kk
    obtain ⟨a, vs, rfl, f1, g1⟩ := fx
    simp only [RepF, Rep] at fy
    subst fy
    split at h
    · rename_i hz
      obtain ⟨z1, z2, z3⟩ := hz
      have hl := g1.length
      refine op_rep pins s σ H _ _ v u Q I rx ry ⟨a, kk, vs, rfl, rfl, f1, by omega, by omega, ?_, fun p hp => ?_⟩
      · have q1 : vs.length * kk.toNat ≤ 1000 * 1000 := Nat.mul_le_mul (by omega) (by omega)
        have q2 : (1000 * 1000 : Nat) ≤ sizeLine := by decide
        exact Nat.le_trans q1 q2
      · exact out_lst e h (g1.rep _) hp
    · exact h.elim
  · simp only [RepF, Rep] at fx fy
    subst fx fy
    split at h
    · rename_i hz
      exact op_fdiv pins s σ H _ _ v u Q I rx ry ⟨_, _, rfl, rfl, hz, out_v e h (by rw [Rep])⟩
    · exact h.elim
  · simp only [RepF, Rep] at fx fy
    subst fx fy
    split at h
    · rename_i hz
      exact op_mod pins s σ H _ _ v u Q I rx ry ⟨_, _, rfl, rfl, hz, out_v e h (by rw [Rep])⟩
    · exact h.elim
  · rename_i i j
    simp only [RepF, Rep] at fx fy
    subst fx fy
    split at h
    · rename_i hz
      obtain ⟨z1, z2, z3⟩ := hz
      have zz := smallF_iff z3
      exact op_pow pins s σ H _ _ v u Q I rx ry ⟨_, _, rfl, rfl, ⟨z1, by omega, by omega⟩, out_v e h (by rw [Rep])⟩
    · exact h.elim
  · exact h.elim

/-! comparisons -/
theorem RepF.inv_int {W : Wd} {n : Nat} {r : Rho} {H : Hp} {i : Int} {v : V} (h : RepF W n r H (.int i) v) : v = .int i := by
  simp only [RepF, Rep] at h
  exact h
section
variable {X : Cx} {pins : List (Addr × Obj)} {σ : L2.St} {H : Hp} {s : Shared} {n : Nat} {r : Rho} {cx cy : D} {x y : V} {v u : Value} {k : Nat} {E : Value → Shared → Prop}
theorem room60 {A : Around} {k : Nat} (hr : RU k A) {a b : Nat} (h : min a b ≤ 60) : A.units + min a b < cLine := by
  unfold RU at hr
  omega
theorem reads_of (I : Inv X pins σ H s) (h : RepF (Wo X) n r H cx x) {p : PyData} (e : toPy cx = some p) (rx : RelV x v) : ∃ as, Reads s.heap v p as := Dp.reads I p x v (dpF_of h e) rx
theorem eq_ok (hr : RU k X.A) (I : Inv X pins σ H s) (hx : RepF (Wo X) n r H cx x) (hy : RepF (Wo X) n r H cy y) (rx : RelV x v) (ry : RelV y u) {b : Bool} (h : eqD cx cy = some b) {Q : Value → Shared → Prop} (q : Q (.bool b) s) :
    wpAny (model X.prog X.w) X.A (compareOp .Eq v u) Q E s := by
  unfold eqD at h
  rw [Option.bind_eq_some_iff] at h
  obtain ⟨p, e1, h⟩ := h
  rw [Option.bind_eq_some_iff] at h
  obtain ⟨p', e2, h⟩ := h
  split at h
  · rename_i hd
    obtain ⟨as, ra⟩ := reads_of I hx e1 rx
    obtain ⟨bs, rb⟩ := reads_of I hy e2 ry
    exact PySem.SeqAt.eq_plain ra rb (toPy_plain _ _ e1) (toPy_plain _ _ e2) (room60 hr hd) (by rw [Option.some.inj h]; exact q)
  · cases h
theorem ne_ok (hr : RU k X.A) (I : Inv X pins σ H s) (hx : RepF (Wo X) n r H cx x) (hy : RepF (Wo X) n r H cy y) (rx : RelV x v) (ry : RelV y u) {b : Bool} (h : eqD cx cy = some b) {Q : Value → Shared → Prop} (q : Q (.bool (!b)) s) :
    wpAny (model X.prog X.w) X.A (compareOp .NotEq v u) Q E s := by
  unfold eqD at h
  rw [Option.bind_eq_some_iff] at h
  obtain ⟨p, e1, h⟩ := h
  rw [Option.bind_eq_some_iff] at h
  obtain ⟨p', e2, h⟩ := h
  split at h
  · rename_i hd
    obtain ⟨as, ra⟩ := reads_of I hx e1 rx
    obtain ⟨bs, rb⟩ := reads_of I hy e2 ry
    exact PySem.SeqAt.ne_plain ra rb (toPy_plain _ _ e1) (toPy_plain _ _ e2) (room60 hr hd) (by rw [Option.some.inj h]; exact q)
  · cases h
theorem lt_ok (hr : RU k X.A) (I : Inv X pins σ H s) (hx : RepF (Wo X) n r H cx x) (hy : RepF (Wo X) n r H cy y) (rx : RelV x v) (ry : RelV y u) {b : Bool} (h : ltD cx cy = some b) {Q : Value → Shared → Prop} (q : Q (.bool b) s) :
    wpAny (model X.prog X.w) X.A (compareOp .Lt v u) Q E s := by
  unfold ltD at h
  rw [Option.bind_eq_some_iff] at h
  obtain ⟨p, e1, h⟩ := h
  rw [Option.bind_eq_some_iff] at h
  obtain ⟨p', e2, h⟩ := h
  split at h
  · rename_i hd
    obtain ⟨as, ra⟩ := reads_of I hx e1 rx
    obtain ⟨bs, rb⟩ := reads_of I hy e2 ry
    exact lt_reads p p' b _ _ v u as bs ra rb (toPy_plain _ _ e1) (toPy_plain _ _ e2) h (room60 hr hd) X.prog X.w _ _ q
  · cases h
theorem kv_rd {ks : List Key} {ds : List D} {kvs : List (Key × V)} (hk : kvs.map Prod.fst = ks) (h : RepL (Wo X) n r H ds (kvs.map Prod.snd)) (q : Key) :
    match dgetD ks ds q with
    | some d => ∃ v, valV kvs q = some v ∧ Rep (Wo X) n r H d v
    | none => valV kvs q = none := by
  induction kvs generalizing ks ds with
  | nil =>
    rw [List.map_nil] at hk
    subst hk
    cases ds <;> exact valV_nil
  | cons p rest ih =>
    rw [List.map_cons] at hk
    subst hk
    cases ds with
    | nil => rw [RepL] at h; cases h
    | cons d ds =>
      rw [List.map_cons, RepL] at h
      obtain ⟨v, q', e, h1, h2⟩ := h
      injection e with e1 e2
      subst e1 e2
      by_cases c : p.1 = q
      · rw [dgetD, if_pos c]
        exact ⟨p.2, valV_pos c, h1⟩
      · rw [dgetD, if_neg c, valV_neg c]
        exact ih rfl h2
theorem key_ok {d : D} {q : Key} (h : keyD d = some q) (g : RepF (Wo X) n r H d x) : x = kV q := by
  unfold keyD at h
  split at h
  · cases h
    simp only [RepF, Rep] at g
    exact g
  · cases h
    simp only [RepF, Rep] at g
    exact g
  · cases h
theorem in_ok (hr : RU k X.A) (I : Inv X pins σ H s) (hx : RepF (Wo X) n r H cx x) (hy : RepF (Wo X) n r H cy y) (rx : RelV x v) (ry : RelV y u) {b : Bool} (h : inD cx cy = some b) {Q : VK} (q : Q (.bl b) H) :
    wpAny (model X.prog X.w) X.A (compareOp .In v u) (EP X pins σ Q) E s ∧ ∀ Q' : VK, Q' (.bl (!b)) H → wpAny (model X.prog X.w) X.A (compareOp .NotIn v u) (EP X pins σ Q') E s := by
  have hr2 : X.A.units + 16 * k + 200 < cLine := hr
  unfold inD at h
  split at h
  · rename_i ds
    rw [Option.bind_eq_some_iff] at h
    obtain ⟨p, e1, h⟩ := h
    rw [Option.bind_eq_some_iff] at h
    obtain ⟨ps, e2, h⟩ := h
    split at h
    · rename_i hd
      obtain ⟨as, ra⟩ := reads_of I hx e1 rx
      obtain ⟨bs, rb⟩ := reads_of I hy (p := .list ps) (by rw [toPy, e2]; rfl) ry
      have e3 := Option.some.inj h
      exact ⟨PySem.SeqAt.in_list_data rb ra (toPyL_plain _ _ e2) (toPy_plain _ _ e1) (by omega) ⟨.bl b, H, I, by rw [e3]; rfl, q⟩,
        fun Q' q' => PySem.SeqAt.notIn_list_data rb ra (toPyL_plain _ _ e2) (toPy_plain _ _ e1) (by omega) ⟨.bl (!b), H, I, by rw [e3]; rfl, q'⟩⟩
    · cases h
  · rename_i ds
    rw [Option.bind_eq_some_iff] at h
    obtain ⟨p, e1, h⟩ := h
    rw [Option.bind_eq_some_iff] at h
    obtain ⟨ps, e2, h⟩ := h
    split at h
    · rename_i hd
      obtain ⟨as, ra⟩ := reads_of I hx e1 rx
      obtain ⟨bs, rb⟩ := reads_of I hy (p := .tuple ps) (by rw [toPy, e2]; rfl) ry
      have e3 := Option.some.inj h
      exact ⟨PySem.SeqAt.in_tuple_data rb ra (toPyL_plain _ _ e2) (toPy_plain _ _ e1) (by omega) ⟨.bl b, H, I, by rw [e3]; rfl, q⟩,
        fun Q' q' => PySem.SeqAt.notIn_tuple_data rb ra (toPyL_plain _ _ e2) (toPy_plain _ _ e1) (by omega) ⟨.bl (!b), H, I, by rw [e3]; rfl, q'⟩⟩
    · cases h
  · rename_i ks ds
    obtain ⟨a, kvs, rfl, hH, hk, g⟩ := hy
    rw [Option.map_eq_some_iff] at h
    obtain ⟨kk, e1, e2⟩ := h
    have ex := key_ok e1 hx
    subst ex
    cases ry
    have z := kv_rd hk g kk
    have eb : (valV kvs kk).isSome = b := by
      rw [← e2]
      cases c : dgetD ks ds kk with
      | none =>
        rw [c] at z
        rw [z]
        rfl
      | some d =>
        rw [c] at z
        obtain ⟨w, z, _⟩ := z
        rw [z]
        rfl
    exact ⟨d_in (by omega) I (DGet.k hH) rx fun s' I' => ⟨.bl b, H, I', by rw [eb]; rfl, q⟩, fun Q' q' => d_notIn (by omega) I (DGet.k hH) rx fun s' I' => ⟨.bl (!b), H, I', by rw [eb]; rfl, q'⟩⟩
  · rename_i z
    split at h
    · rename_i w
      split at h
      · rename_i h1
        simp only [RepF, Rep] at hx hy
        subst hx hy
        have ew : w = ⟨#[w.cps.getD 0 0]⟩ := by
          obtain ⟨a⟩ := w
          congr 1
          apply Array.ext
          · simpa using h1
          · intro i h2 h3
            have h1' : a.size = 1 := h1
            have : i = 0 := by omega
            subst this
            simp [Array.getD, h2]
        have e3 := Option.some.inj h
        obtain ⟨tk, rfl⟩ := rx
        obtain ⟨tk', rfl⟩ := ry
        rw [ew]
        exact ⟨PyProof.Rows.in_str (fin_bl I q (by rw [← e3]; exact (PySem.StrLaws.found_one z _).symm)),
          fun Q' q' => PyProof.Rows.notIn_str (fin_bl I q' (by rw [← e3]; exact congrArg Bool.not (PySem.StrLaws.found_one z _).symm))⟩
      · cases h
    · cases h
  · cases h
end
theorem repF_non {W : Wd} {n : Nat} {r : Rho} {H : Hp} : ∀ {d : D} {x : V}, RepF W n r H d x → x = .non → d = .non
  | .non, _, _, _ => rfl
  | .lst _, _, ⟨_, _, e, _⟩, z => by rw [e] at z; cases z
  | .dct _ _, _, ⟨_, _, e, _⟩, z => by rw [e] at z; cases z
  | .bl _, _, h, z => by
    have h : Rep W n r H (.bl _) _ := h
    rw [Rep, z] at h; cases h
  | .int _, _, h, z => by
    have h : Rep W n r H (.int _) _ := h
    rw [Rep, z] at h; cases h
  | .str _, _, h, z => by
    have h : Rep W n r H (.str _) _ := h
    rw [Rep, z] at h; cases h
  | .ty _, _, h, z => by
    have h : Rep W n r H (.ty _) _ := h
    rw [Rep, z] at h; cases h
  | .glo _, _, h, z => by
    have h : Rep W n r H (.glo _) _ := h
    rw [Rep, z] at h; obtain ⟨_, e, _⟩ := h; cases e
  | .scr _, _, h, z => by
    have h : Rep W n r H (.scr _) _ := h
    rw [Rep, z] at h; obtain ⟨_, e, _⟩ := h; cases e
  | .ref _, _, h, z => by
    have h : Rep W n r H (.ref _) _ := h
    rw [Rep, z] at h; cases h.2
  | .tup _, _, h, z => by
    have h : Rep W n r H (.tup _) _ := h
    rw [Rep, z] at h; obtain ⟨_, _, e, _⟩ := h; cases e
  | .obj _ _ _, _, h, z => by
    have h : Rep W n r H (.obj _ _ _) _ := h
    rw [Rep, z] at h; obtain ⟨_, _, _, _, e, _⟩ := h; cases e
theorem is_ok {X : Cx} {pins : List (Addr × Obj)} {σ : L2.St} {H : Hp} {s : Shared} {n : Nat} {r : Rho} {cx cy : D} {x y : V} {v u : Value} (I : Inv X pins σ H s) (hx : RepF (Wo X) n r H cx x) (hy : RepF (Wo X) n r H cy y) (rx : RelV x v) (ry : RelV y u)
    {b : Bool} (h : isD cx cy = some b) {Q : VK} (q : Q (.bl b) H) :
    wpAny (model X.prog X.w) X.A (compareOp .Is v u) (EP X pins σ Q) X.xe s ∧ ∀ Q' : VK, Q' (.bl (!b)) H → wpAny (model X.prog X.w) X.A (compareOp .IsNot v u) (EP X pins σ Q') X.xe s := by
  have nn : ∀ {x : V}, decide (x = .non) = b → RelV x v → y = .non → wpAny (model X.prog X.w) X.A (compareOp .Is v u) (EP X pins σ Q) X.xe s ∧ ∀ Q' : VK, Q' (.bl (!b)) H → wpAny (model X.prog X.w) X.A (compareOp .IsNot v u) (EP X pins σ Q') X.xe s :=
    fun {x} e r1 ey => ⟨op_isN pins s σ H x y v u Q I r1 ry ⟨ey, by rw [e]; exact q⟩, fun Q' q' => op_notN pins s σ H x y v u Q' I r1 ry ⟨ey, by rw [e]; exact q'⟩⟩
  unfold isD at h
  split at h
  · have zx : Rep (Wo X) n r H .non x := hx
    have zy : Rep (Wo X) n r H .non y := hy
    rw [Rep] at zx zy
    cases h
    exact nn (x := x) (by rw [zx]; rfl) rx zy
  · rename_i a c
    have zx : Rep (Wo X) n r H (.bl a) x := hx
    have zy : Rep (Wo X) n r H (.bl c) y := hy
    rw [Rep] at zx zy
    subst zx zy
    have e := Option.some.inj h
    exact ⟨op_is_bl pins s σ H _ _ v u Q I rx ry ⟨a, c, rfl, rfl, by rw [e]; exact q⟩, fun Q' q' => op_isnot_bl pins s σ H _ _ v u Q' I rx ry ⟨a, c, rfl, rfl, by rw [e]; exact q'⟩⟩
  all_goals first
    | cases h; done
    | (have hy' : y = .non := by
         have z : Rep (Wo X) n r H .non y := hy
         rw [Rep] at z
         exact z
       have hn : x ≠ .non := fun z => by
         have q' := repF_non hx z
         cases q'
       cases h
       exact nn (x := x) (decide_eq_false hn) rx hy')
theorem cmp_ok {X : Cx} {k : Nat} (hr : RU k X.A) (o : CmpOp) : OpR X (compareOp o) (rD2 X (cmpD o)) := by
  intro pins s σ H x y v u Q I rx ry ⟨E0, S, r, dx, dy, e, hx, hy, h⟩
  unfold cmpD at h
  have fx := flat_ok e hx
  have fy := flat_ok e hy
  generalize flat S dx = cx at fx h
  generalize flat S dy = cy at fy h
  split at h
  · rename_i b hb
    have q : Q (.bl b) H := out_v e h (by rw [Rep])
    have fin : ∀ {b' : Bool}, b' = b → EP X pins σ Q (.bool b') s := fun z => ⟨.bl b, H, I, by rw [z]; rfl, q⟩
    unfold cmp1 at hb
    split at hb
    · exact eq_ok hr I fx fy rx ry hb (fin rfl)
    · rw [Option.map_eq_some_iff] at hb
      obtain ⟨c, e1, e2⟩ := hb
      exact ne_ok hr I fx fy rx ry e1 (fin e2)
    · exact lt_ok hr I fx fy rx ry hb (fin rfl)
    · split at hb
      · have e1 := fx.inv_int
        have e2 := fy.inv_int
        subst e1 e2
        exact op_le pins s σ H _ _ v u Q I rx ry ⟨_, _, rfl, rfl, by dsimp only; rw [Option.some.inj hb]; exact q⟩
      · cases hb
    · split at hb
      · have e1 := fx.inv_int
        have e2 := fy.inv_int
        subst e1 e2
        exact op_gt pins s σ H _ _ v u Q I rx ry ⟨_, _, rfl, rfl, by dsimp only; rw [Option.some.inj hb]; exact q⟩
      · cases hb
    · split at hb
      · have e1 := fx.inv_int
        have e2 := fy.inv_int
        subst e1 e2
        exact op_ge pins s σ H _ _ v u Q I rx ry ⟨_, _, rfl, rfl, by dsimp only; rw [Option.some.inj hb]; exact q⟩
      · cases hb
    · exact (is_ok I fx fy rx ry hb q).1
    · rw [Option.map_eq_some_iff] at hb
      obtain ⟨c, e1, e2⟩ := hb
      have z := (is_ok (Q := fun _ _ => True) I fx fy rx ry e1 trivial).2 Q (by rw [e2]; exact q)
      exact z
    · exact (in_ok hr I fx fy rx ry hb q).1
    · rw [Option.map_eq_some_iff] at hb
      obtain ⟨c, e1, e2⟩ := hb
      have z := (in_ok (E := X.xe) (Q := fun _ _ => True) hr I fx fy rx ry e1 trivial).2 Q (by rw [e2]; exact q)
      exact z
  · exact h.elim
end Fw

set_option Elab.async false
set_option linter.all false
set_option maxRecDepth 100000
set_option maxHeartbeats 2000000
namespace Fw
open PySem PySem.Spec PyProof.Rows L2

/-! the text, as the proofs read it -/
inductive Tg where
  | nm (i : Nat)
  | tp (ts : List Tg)
mutual
inductive Ex where
  | var (i : Nat)
  | glo (x : Str)
  | con (c : Const)
  | bin (o : Operator) (a b : Ex)
  | neg (a : Ex)
  | cmp (o : CmpOp) (a b : Ex)
  | cmp2 (o p : CmpOp) (a b c : Ex)
  | and (a b : Ex) | or (a b : Ex) | not (a : Ex)
  | ite (c a b : Ex)
  | tup (es : Es)
  | lst (m : Bool) (es : Es)
  | dct (m : Bool) (ks : List Str) (es : Es)
  | idx (a b : Ex)
  | sl (a : Ex) (lo hi : Op)
  | call (f : Str) (es : Es) (ks : List Str) (kes : Es)
  | bi (f : Str) (es : Es)
  | mt (a : Ex) (m : Str) (es : Es)
  | lc (m : Bool) (own : List (Str × Nat)) (tg : Tg) (it : It1) (c : Op) (e : Ex)
  | lam (f : Str) (e : Ex)
  | isE (i : Nat) (c : Ex)
  | fldE (i : Nat) (f : Str)
  | act (i : Nat)
inductive Es where
  | nil
  | cons (e : Ex) (r : Es)
inductive Op where
  | no
  | yes (e : Ex)
inductive It1 where
  | ex (e : Ex)
  | rng (a : Ex)
  | rng2 (a b : Ex)
end
/-- a program's text, as calls see it: the names that may be called, the module's constants, the built-ins that stand, isinstance between classes, what calls do -/
structure Nms where
  /-- names that may be called -/
  T : List Str
  /-- built-ins that stand -/
  F : List Str
  /-- defs that take a closure -/
  LT : List Str
  /-- own classes that clauses name -/
  CN : List Str
structure Sta where
  nm : Nms
  G : Str → Option D
  I : Sum String Str → Sum String Str → Option Bool
  C : Str → List D → List (Str × D) → Sto → R D
  /-- classes whose instances are data -/
  IC : List Str
  /-- except's question, the class of an error against a clause's -/
  EI : Str → Str → Option Bool
  /-- own error classes without __init__ that are raised -/
  RX : List Str
  /-- error classes -/
  EC : List Str
  /-- fields of errors that are read -/
  XF : List (Str × Str)
  /-- defs that take a closure, and what they do with it -/
  L : Str → (Sto → R D) → Sto → R D
  /-- closures may be made here -/
  lam : Bool
  /-- in an except suite: the slot of the error, the error -/
  hot : Option (Option Nat × Xc)
  /-- the slot of a closure, and what it does -/
  thk : Option (Nat × (Sto → R D))

def Sta.inner (t : Sta) : Sta := { t with lam := false, hot := none, thk := none }
/-- within a comprehension -/
def Sta.blk (t : Sta) : Sta := { t with lam := false, hot := none, thk := none }
/-- not in an except suite -/
def Sta.cold {α : Type} (t : Sta) (r : R α) : R α := if t.hot.isNone then r else .bad
def conD : Const → Option D
  | .none => some .non
  | .bool b => some (.bl b)
  | .int i => some (.int i)
  | .str x => some (.str x)
  | _ => none
/-! names -/
def visB (sc : Scope) (x : Str) : Bool := match sc.names.lookup x with
  | some .local => true
  | some .cell => true
  | some .free => true
  | _ => false
def glB (sc : Scope) (x : Str) : Bool := decide (sc.names.lookup x = some .globalImplicit)
def nmB (x : Str) : Bool := !(x == ("__debug__" : Str)) && (!(x == ("__classdict__" : Str)) && !decide (x = "__name__"))
def locB (sc : Scope) (x : Str) : Bool := decide (sc.names.lookup x = some .local) || decide (sc.names.lookup x = some .cell)
/-! small tables -/
def atD (ds : List D) (i : Int) : Option D := atI ds i
def idxD (x y : D) (S : Sto) : R D := match flat S x, y with
  | .lst ds, .int i => (match atI ds i with
    | some d => .ok d S
    | none => .bad)
  | .tup ds, .int i => (match atI ds i with
    | some d => .ok d S
    | none => .bad)
  | .str z, .int i => if z.length ≤ sizeLine then (match atI z.cps.toList i with
    | some c => .ok (.str ⟨#[c]⟩) S
    | none => .bad) else .bad
  | .dct ks ds, y => (match keyD y with
    | some k => (match dgetD ks ds k with
      | some d => .ok d S
      | none => .bad)
    | none => .bad)
  | _, _ => .bad
def cutD {α : Type} (xs : List α) (lo hi : Option Int) : List α := (xs.drop (HT.sIx xs.length 0 lo)).take (HT.sIx xs.length xs.length hi - HT.sIx xs.length 0 lo)
def slD (x : D) (lo hi : Option Int) (S : Sto) : R D := match flat S x with
  | .lst ds => .ok (.lst (cutD ds lo hi)) S
  | .tup ds => .ok (.tup (cutD ds lo hi)) S
  | _ => .bad
/-- the things that a walk comes to, and the place whose list they are -/
def itD (S : Sto) : D → R (List D × Option Nat)
  | .lst ds => .ok (ds, none) S
  | .tup ds => .ok (ds, none) S
  | .scr ns => .ok (ns.map .int, none) S
  | .str x => .ok (x.cps.toList.map fun c => .str ⟨#[c]⟩, none) S
  | .ref l => (match S[l]? with
    | some (.lst ds) => .ok (ds, some l) S
    | _ => .bad)
  | _ => .bad
def rngL (lo : Int) (n : Nat) : List D := (List.range n).map fun i => .int (lo + ((i : Nat) : Int))
def small62 (i : Int) : Bool := decide (-(2 ^ 62) ≤ i) && decide (i < 2 ^ 62)
def okW (S : Sto) (ds : List D) : Option Nat → Prop
  | none => True
  | some l => S[l]? = some (.lst ds)
mutual
/-- the same data, by a look -/
def dEq : D → D → Bool
  | .non, .non => true
  | .bl a, .bl b => a == b
  | .int a, .int b => decide (a = b)
  | .str a, .str b => decide (a = b)
  | .ty a, .ty b => decide (a = b)
  | .glo a, .glo b => decide (a = b)
  | .scr a, .scr b => decide (a = b)
  | .ref a, .ref b => decide (a = b)
  | .tup a, .tup b => dEqL a b
  | .lst a, .lst b => dEqL a b
  | .dct k a, .dct l b => decide (k = l) && dEqL a b
  | .obj C k a, .obj E l b => decide (C = E) && (decide (k = l) && dEqL a b)
  | _, _ => false
def dEqL : List D → List D → Bool
  | [], [] => true
  | x :: xs, y :: ys => dEq x y && dEqL xs ys
  | _, _ => false
end
mutual
theorem dEq_ok : ∀ x y : D, dEq x y = true → x = y
  | .non, y, h => by cases y <;> first | rfl | (simp [dEq] at h)
  | .bl a, y, h => by
    cases y with
    | bl b => simp [dEq] at h; rw [h]
    | _ => simp [dEq] at h
  | .int a, y, h => by
    cases y with
    | int b => simp [dEq] at h; rw [h]
    | _ => simp [dEq] at h
  | .str a, y, h => by
    cases y with
    | str b => simp [dEq] at h; rw [h]
    | _ => simp [dEq] at h
  | .ty a, y, h => by
    cases y with
    | ty b => simp [dEq] at h; rw [h]
    | _ => simp [dEq] at h
  | .glo a, y, h => by
    cases y with
    | glo b => simp [dEq] at h; rw [h]
    | _ => simp [dEq] at h
  | .scr a, y, h => by
    cases y with
    | scr b => simp [dEq] at h; rw [h]
    | _ => simp [dEq] at h
  | .ref a, y, h => by
    cases y with
    | ref b => simp [dEq] at h; rw [h]
    | _ => simp [dEq] at h
  | .tup a, y, h => by
    cases y with
    | tup b => rw [dEq] at h; rw [dEqL_ok a b h]
    | _ => simp [dEq] at h
  | .lst a, y, h => by
    cases y with
    | lst b => rw [dEq] at h; rw [dEqL_ok a b h]
    | _ => simp [dEq] at h
  | .dct k a, y, h => by
    cases y with
    | dct l b =>
      rw [dEq, Bool.and_eq_true] at h
      rw [dEqL_ok a b h.2, of_decide_eq_true h.1]
    | _ => simp [dEq] at h
  | .obj C k a, y, h => by
    cases y with
    | obj E l b =>
      rw [dEq, Bool.and_eq_true, Bool.and_eq_true] at h
      rw [dEqL_ok a b h.2.2, of_decide_eq_true h.1, of_decide_eq_true h.2.1]
    | _ => simp [dEq] at h
theorem dEqL_ok : ∀ x y : List D, dEqL x y = true → x = y
  | [], y, h => by cases y <;> first | rfl | (simp [dEqL] at h)
  | x :: xs, y, h => by
    cases y with
    | nil => simp [dEqL] at h
    | cons y ys =>
      rw [dEqL, Bool.and_eq_true] at h
      rw [dEq_ok x y h.1, dEqL_ok xs ys h.2]
end
def okB (S : Sto) (ds : List D) : Option Nat → Bool
  | none => true
  | some l => (match S[l]? with
    | some (.lst es) => dEqL es ds
    | _ => false)
theorem okB_ok {S : Sto} {ds : List D} {w : Option Nat} (h : okB S ds w = true) : okW S ds w := by
  cases w with
  | none => trivial
  | some l =>
    have h : (match S[l]? with
      | some (.lst es) => dEqL es ds
      | _ => false) = true := h
    show S[l]? = some (.lst ds)
    cases hq : S[l]? with
    | none => rw [hq] at h; cases h
    | some o =>
      rw [hq] at h
      cases o with
      | lst es =>
        have z := dEqL_ok es ds h
        rw [z]
      | dct _ _ => cases h
      | ins _ _ _ => cases h
mutual
def tgD : Tg → D → En → Option En
  | .nm i, d, s => some (s.set i (some d))
  | .tp ts, .tup ds, s => tgL ts ds s
  | .tp _, _, _ => none
def tgL : List Tg → List D → En → Option En
  | [], [], s => some s
  | t :: ts, d :: ds, s => (tgD t d s).bind fun s' => tgL ts ds s'
  | _, _, _ => none
end
mutual
def slT : Tg → List Nat
  | .nm i => [i]
  | .tp ts => slTs ts
def slTs : List Tg → List Nat
  | [] => []
  | t :: ts => slT t ++ slTs ts
end
def slotsIn (tg : Tg) (own : List (Str × Nat)) : Bool := (slT tg).all fun i => decide (i ∈ own.map (·.2))
def wipeD (s : En) : List Nat → En
  | [] => s
  | v :: vs => (wipeD s vs).set v none
/-! what built-ins do -/
def tyD : D → Sto → Option (Sum String Str)
  | .non, _ => some (.inl "NoneType")
  | .bl _, _ => some (.inl "bool")
  | .int _, _ => some (.inl "int")
  | .str _, _ => some (.inl "str")
  | .tup _, _ => some (.inl "tuple")
  | .lst _, _ => some (.inl "list")
  | .scr _, _ => none
  | .dct _ _, _ => some (.inl "dict")
  | .obj C _ _, _ => some (.inr C)
  | .ref l, S => (match S[l]? with
    | some (.lst _) => some (.inl "list")
    | some (.dct _ _) => some (.inl "dict")
    | some (.ins C _ _) => some (.inr C)
    | none => none)
  | .ty _, _ => none
  | .glo _, _ => none
def clsD : D → Option (Sum String Str)
  | .ty n => some (.inl n)
  | .glo C => some (.inr C)
  | _ => none
def isiL (I : Sum String Str → Sum String Str → Option Bool) (a : Sum String Str) : List D → Option Bool
  | [] => some false
  | c :: cs => (clsD c).bind fun b => (I a b).bind fun r => if r = true then some true else isiL I a cs
def inrOk (IC : List Str) : Sum String Str → Bool
  | .inl _ => true
  | .inr C => decide (C ∈ IC)
def isiD (IC : List Str) (I : Sum String Str → Sum String Str → Option Bool) (x c : D) (S : Sto) : Option Bool := (tyD x S).bind fun a => if inrOk IC a then (match c with
  | .tup cs => isiL I a cs
  | c => (clsD c).bind fun b => I a b) else none
def isiX (I : Sum String Str → Sum String Str → Option Bool) (C : Str) : D → Option Bool
  | .tup cs => isiL I (.inr C) cs
  | c => (clsD c).bind fun b => I (.inr C) b
def lookD : List Str → List D → Str → Option D
  | k :: ks, d :: ds, f => if f == k then some d else lookD ks ds f
  | _, _, _ => none
def blsD : List D → Option (List Bool)
  | [] => some []
  | .bl b :: ds => (blsD ds).map fun bs => b :: bs
  | _ :: _ => none
def biD (t : Sta) (f : Str) (ds : List D) (S : Sto) : R D :=
  if f = "len" then (match ds with
    | [d] => (match flat S d with
      | .lst es => .ok (.int es.length) S
      | .tup es => .ok (.int es.length) S
      | .scr ns => .ok (.int ns.length) S
      | .str x => if x.length ≤ sizeLine then .ok (.int x.length) S else .bad
      | _ => .bad)
    | _ => .bad)
  else if f = "isinstance" then (match ds with
    | [x, c] => (match isiD t.IC t.I x c S with
      | some b => .ok (.bl b) S
      | none => .bad)
    | _ => .bad)
  else if f = "int" then (match ds with
    | [.int i] => .ok (.int i) S
    | [.bl b] => .ok (.int (b2i b)) S
    | _ => .bad)
  else if f = "bool" then (match ds with
    | [.int i] => .ok (.bl (i != 0)) S
    | [.bl b] => .ok (.bl b) S
    | _ => .bad)
  else if f = "list" then (match ds with
    | [d] => (match flat S d with
      | .lst es => .ok (.lst es) S
      | .tup es => .ok (.lst es) S
      | .scr ns => .ok (.lst (ns.map .int)) S
      | _ => .bad)
    | _ => .bad)
  else if f = "tuple" then (match ds with
    | [d] => (match flat S d with
      | .lst es => .ok (.tup es) S
      | .tup es => .ok (.tup es) S
      | _ => .bad)
    | _ => .bad)
  else if f = "repr" then (match ds with
    | [d] => (match toPy (flat S d) with
      | some p => if p.showable && (decide (p.depth ≤ 60) && decide (p.shown.length ≤ sizeLine)) then .ok (.str p.shown) S else .bad
      | none => .bad)
    | _ => .bad)
  else if f = "all" then t.cold (match ds with
    | [d] => (match flat S d with
      | .lst es => (match blsD es with
        | some bs => .ok (.bl (bs.all id)) S
        | none => .bad)
      | _ => .bad)
    | _ => .bad)
  else if f = "any" then t.cold (match ds with
    | [d] => (match flat S d with
      | .lst es => (match blsD es with
        | some bs => .ok (.bl (bs.any id)) S
        | none => .bad)
      | _ => .bad)
    | _ => .bad)
  else .bad
def putO (l : Nat) (o : O) (d : D) (S : Sto) : R D := .ok d (S.set l o)
/-- x.index(y): the first place that is equal -/
def fstEq (p : PyData) : List PyData → Nat → Option Nat
  | [], _ => none
  | q :: qs, i => if PyData.eqv q p = true then some i else fstEq p qs (i + 1)
def isStrD : D → Bool
  | .str _ => true
  | _ => false
def eqStrD (y : Str) : D → Bool
  | .str z => decide (z = y)
  | _ => false
def mtNames : List Str := ["append", "pop", "index"]
def isLstD : D → Bool
  | .lst _ => true
  | _ => false
def rcvB (m : Str) (x : D) : Bool := isLstD x
def mtD (m : Str) (x : D) (ds : List D) (S : Sto) : R D :=
  if m = "append" then (match x, ds with
    | .ref l, [d] => (match S[l]? with
      | some (.lst es) => if es.length < sizeLine then putO l (.lst (es ++ [d])) .non S else .bad
      | _ => .bad)
    | _, _ => .bad)
  else if m = "pop" then (match x, ds with
    | .ref l, [.int i] => (match S[l]? with
      | some (.lst es) => (match es, i with
        | e :: r, 0 => putO l (.lst r) e S
        | _, _ => .bad)
      | _ => .bad)
    | _, _ => .bad)
  else if m = "index" then (match flat S x, ds with
    | .lst es, [.str y] => (match es.findIdx? (eqStrD y) with
      | some j => if es.all isStrD then .ok (.int j) S else .bad
      | none => .bad)
    | _, _ => .bad)
  else .bad

/-- a comprehension's turns: the list stands at place n -/
def lcGo (n : Nat) (all : List D) (w : Option Nat) (st : D → Sto → R (Option D)) : List D → Sto → R Unit
  | [], S => if okB S all w = true then .ok () S else .bad
  | d :: r, S => if okB S all w = true then (st d S).bind fun o S1 => (match o with
    | none => lcGo n all w st r S1
    | some y => (match S1[n]? with
      | some (.lst acc) => if acc.length < sizeLine then lcGo n all w st r (S1.set n (.lst (acc ++ [y]))) else .bad
      | _ => .bad)) else .bad
/-- an exception here is not carried -/
def noX {α : Type} : R α → R α
  | .exc _ _ => .bad
  | r => r
/-- what stands at the last place n of the store is a value from now on -/
def thaw (n : Nat) (S : Sto) : R D := if S.length = n + 1 then (match S[n]? with
  | some (.lst ds) => if closedL n ds && (S.take n).all (O.closed n) then .ok (.lst ds) (S.take n) else .bad
  | some (.dct ks ds) => if closedL n ds && (S.take n).all (O.closed n) then .ok (.dct ks ds) (S.take n) else .bad
  | _ => .bad) else .bad
mutual
def evE (t : Sta) : Ex → En → Sto → R D
  | .var i, s, S => match s[i]? with
    | some (some d) => .ok d S
    | _ => .bad
  | .glo x, _, S => match t.G x with
    | some d => .ok d S
    | none => .bad
  | .con c, _, S => match conD c with
    | some d => .ok d S
    | none => .bad
  | .bin o a b, s, S => (evE t a s S).bind fun x S1 => (evE t b s S1).bind fun y S2 => binD o x y S2
  | .neg a, s, S => (evE t a s S).bind fun x S1 => match x with
    | .int i => .ok (.int (-i)) S1
    | _ => .bad
  | .cmp o a b, s, S => (evE t a s S).bind fun x S1 => (evE t b s S1).bind fun y S2 => cmpD o x y S2
  | .cmp2 o p a b c, s, S => (evE t a s S).bind fun x S1 => (evE t b s S1).bind fun y S2 => (cmpD o x y S2).bind fun r S3 => match r with
    | .bl true => (evE t c s S3).bind fun z S4 => cmpD p y z S4
    | .bl false => .ok (.bl false) S3
    | _ => .bad
  | .and a b, s, S => (evE t a s S).bind fun x S1 => match x with
    | .bl true => evE t b s S1
    | .bl false => .ok (.bl false) S1
    | _ => .bad
  | .or a b, s, S => (evE t a s S).bind fun x S1 => match x with
    | .bl true => .ok (.bl true) S1
    | .bl false => evE t b s S1
    | _ => .bad
  | .not a, s, S => (evE t a s S).bind fun x S1 => match x with
    | .bl b => .ok (.bl (!b)) S1
    | _ => .bad
  | .ite c a b, s, S => (evE t c s S).bind fun x S1 => match x with
    | .bl true => evE t a s S1
    | .bl false => evE t b s S1
    | _ => .bad
  | .tup es, s, S => (evL t es s S).bind fun ds S1 => if ds.length ≤ sizeLine then .ok (.tup ds) S1 else .bad
  | .lst m es, s, S => (evL t es s S).bind fun ds S1 => if ds.length ≤ sizeLine then (if m then .ok (.ref S1.length) (S1 ++ [.lst ds]) else .ok (.lst ds) S1) else .bad
  | .dct m ks es, s, S => (evL t es s (S ++ [.dct [] []])).bind fun ds S1 => match S1[S.length]? with
    | some (.dct [] []) => (if m then .ok (.ref S.length) (S1.set S.length (.dct (ks.map Sum.inr) ds)) else thaw S.length (S1.set S.length (.dct (ks.map Sum.inr) ds)))
    | _ => .bad
  | .idx a b, s, S => (evE t a s S).bind fun x S1 => (evE t b s S1).bind fun y S2 => idxD x y S2
  | .sl a lo hi, s, S => (evE t a s S).bind fun x S1 => (evO t lo s S1).bind fun l S2 => (evO t hi s S2).bind fun h S3 => slD x l h S3
  | .call f es ks kes, s, S => (evL t es s S).bind fun ds S1 => (evL t kes s S1).bind fun qs S2 => t.cold (t.C f ds (ks.zip qs) S2)
  | .bi f es, s, S => (evL t es s S).bind fun ds S1 => biD t f ds S1
  | .mt a m es, s, S => (evE t a s S).bind fun x S1 => if rcvB m (flat S1 x) = true then ((evL t es s S1).bind fun ds S2 => mtD m x ds S2) else .bad
  | .lam f e, s, S => t.cold (if t.lam then t.L f (fun S1 => evE t.inner e s S1) S else .bad)
  | .isE i c, s, S => match t.hot with
    | some (some j, x) => if i = j ∧ x.ks = [] then ((evE t c s S).bind fun y S1 => match isiX t.I x.C y with
      | some b => .ok (.bl b) S1
      | none => .bad) else .bad
    | _ => .bad
  | .fldE i f, _, S => match t.hot with
    | some (some j, x) => if i = j ∧ (x.C, f) ∈ t.XF then (match lookD x.ks x.ds f with
      | some d => .ok d S
      | none => .bad) else .bad
    | _ => .bad
  | .act i, _, S => match t.thk with
    | some (j, th) => if i = j then t.cold (th S) else .bad
    | none => .bad
  | .lc m own tg it c e, s, S => t.cold <| (evI t it s S).bind fun ds S1 => (lcGo S1.length ds.1 ds.2 (fun d S2 => match tgD tg d (wipeD s (own.map (·.2))) with
    | none => .bad
    | some s2 => noX ((evC t.blk c s2 S2).bind fun b S3 => if b = true then (evE t.blk e s2 S3).bind fun y S4 => .ok (some y) S4 else .ok none S3)) ds.1 (S1 ++ [.lst []])).bind fun _ S5 => if m then .ok (.ref S1.length) S5 else thaw S1.length S5
def evL (t : Sta) : Es → En → Sto → R (List D)
  | .nil, _, S => .ok [] S
  | .cons e r, s, S => (evE t e s S).bind fun d S1 => (evL t r s S1).bind fun ds S2 => .ok (d :: ds) S2
def evO (t : Sta) : Op → En → Sto → R (Option Int)
  | .no, _, S => .ok none S
  | .yes e, s, S => (evE t e s S).bind fun d S1 => match d with
    | .int i => .ok (some i) S1
    | _ => .bad
def evC (t : Sta) : Op → En → Sto → R Bool
  | .no, _, S => .ok true S
  | .yes e, s, S => (evE t e s S).bind fun d S1 => match d with
    | .bl b => .ok b S1
    | _ => .bad
def evI (t : Sta) : It1 → En → Sto → R (List D × Option Nat)
  | .ex e, s, S => (evE t e s S).bind fun d S1 => itD S1 d
  | .rng a, s, S => (evE t a s S).bind fun d S1 => match d with
    | .int j => if small62 j = true then .ok (rngL 0 j.toNat, none) S1 else .bad
    | _ => .bad
  | .rng2 a b, s, S => (evE t a s S).bind fun d S1 => (evE t b s S1).bind fun c S2 => match d, c with
    | .int i, .int j => if (small62 i && small62 j) = true then .ok (rngL i (j - i).toNat, none) S2 else .bad
    | _, _ => .bad
end

/-! does a text stand for this one? -/
def biNames : List Str := ["len", "isinstance", "int", "bool", "list", "tuple", "repr", "all", "any"]
def kwOk (ks : List Str) (kws : List Keyword) : Bool := decide (kws.map (·.arg) = ks.map some)
/-- o.m(..): no super() -/
def baseB : Expr → Bool
  | .Call _ [] [] _ => false
  | _ => true
def notSl : Expr → Bool
  | .Slice _ _ _ _ => false
  | _ => true
def notStar : Expr → Bool
  | .Starred _ _ => false
  | _ => true
def conSet : Expr → Bool
  | .Set _ _ _ => false
  | _ => true
mutual
def ckT (cl : Bool) (N : List Str) (sc : Scope) : Tg → Expr → Bool
  | .nm i, e => match e with
    | .Name x _ => decide (N[i]? = some x) && (decide (sc.names.lookup x = some .local) || (cl && decide (sc.names.lookup x = some .cell)))
    | _ => false
  | .tp ts, e => match e with
    | .Tuple es _ _ => ckTs cl N sc ts es
    | _ => false
def ckTs (cl : Bool) (N : List Str) (sc : Scope) : List Tg → List Expr → Bool
  | [], es => es.isEmpty
  | t :: ts, es => match es with
    | e :: r => notStar e && (ckT cl N sc t e && ckTs cl N sc ts r)
    | [] => false
end
def noArgs : Arguments → Bool
  | ⟨[], [], none, [], [], none, []⟩ => true
  | _ => false
def inner (sc scope : Scope) : Scope := relS scope sc
mutual
def ckE (t : Nms) (N : List Str) : Scope → Ex → Expr → Bool
  | sc, .var i, e => match e with
    | .Name x _ => decide (N[i]? = some x) && (visB sc x && nmB x)
    | _ => false
  | sc, .glo y, e => match e with
    | .Name x _ => decide (x = y) && (glB sc x && nmB x)
    | _ => false
  | _, .con c, e => match e with
    | .Constant c' _ _ => decide (c' = c) && (conD c).isSome
    | _ => false
  | sc, .bin o a b, e => match e with
    | .BinOp l p r _ => decide (p = o) && (ckE t N sc a l && ckE t N sc b r)
    | _ => false
  | sc, .neg a, e => match e with
    | .UnaryOp p x _ => decide (p = .USub) && ckE t N sc a x
    | _ => false
  | sc, .cmp o a b, e => match e with
    | .Compare l [p] [r] _ => decide (p = o) && (conSet r && (ckE t N sc a l && ckE t N sc b r))
    | _ => false
  | sc, .cmp2 o q a b c, e => match e with
    | .Compare l [p, p2] [r, r2] _ => decide (p = o) && (decide (p2 = q) && (conSet r2 && (ckE t N sc a l && (ckE t N sc b r && ckE t N sc c r2))))
    | _ => false
  | sc, .and a b, e => match e with
    | .BoolOp p [x, y] _ => decide (p = .And) && (ckE t N sc a x && ckE t N sc b y)
    | .BoolOp p (x :: y :: z :: r) q => decide (p = .And) && (ckE t N sc a x && ckE t N sc b (.BoolOp p (y :: z :: r) q))
    | _ => false
  | sc, .or a b, e => match e with
    | .BoolOp p [x, y] _ => decide (p = .Or) && (ckE t N sc a x && ckE t N sc b y)
    | .BoolOp p (x :: y :: z :: r) q => decide (p = .Or) && (ckE t N sc a x && ckE t N sc b (.BoolOp p (y :: z :: r) q))
    | _ => false
  | sc, .not a, e => match e with
    | .UnaryOp p x _ => decide (p = .Not) && ckE t N sc a x
    | _ => false
  | sc, .ite c a b, e => match e with
    | .IfExp x y z _ => ckE t N sc c x && (ckE t N sc a y && ckE t N sc b z)
    | _ => false
  | sc, .tup es, e => match e with
    | .Tuple xs _ _ => ckL t N sc es xs
    | _ => false
  | sc, .lst _ es, e => match e with
    | .List xs _ => ckL t N sc es xs
    | _ => false
  | sc, .dct _ ks es, e => match e with
    | .Dict keys vals _ => decide (ks.length ≤ 15) && (decide (ks.Nodup) && ckD t N sc ks es keys vals)
    | _ => false
  | sc, .idx a b, e => match e with
    | .Subscript x y _ => notSl y && (ckE t N sc a x && ckE t N sc b y)
    | _ => false
  | sc, .sl a lo hi, e => match e with
    | .Subscript x (.Slice l h none _) _ => ckE t N sc a x && (ckO t N sc lo l && ckO t N sc hi h)
    | _ => false
  | sc, .call f es ks kes, e => match e with
    | .Call (.Name x _) xs kws _ => decide (x = f) && (glB sc x && (nmB x && (decide (f ∈ t.T) && (ckL t N sc es xs && (kwOk ks kws && ckL t N sc kes (kws.map (·.value)))))))
    | _ => false
  | sc, .bi f es, e => match e with
    | .Call (.Name x _) (y :: xs) [] _ => decide (x = f) && (glB sc x && (nmB x && (decide (f ∈ biNames) && (decide (f ∈ t.F) && ckL t N sc es (y :: xs)))))
    | _ => false
  | sc, .mt a m es, e => match e with
    | .Call (.Attribute o m' apos) (y :: xs) [] pos => decide (m' = m) && (decide (m ∈ mtNames) && (baseB o && ((apos.endLine == pos.line) && (decide (xs.length < 20) && (ckE t N sc a o && ckL t N sc es (y :: xs))))))
    | _ => false
  | sc, .lam f e, x => match x with
    | .Call (.Name y _) [.Lambda params body scope _] [] _ => decide (y = f) && (glB sc y && (nmB y && (decide (f ∈ t.LT) && (noArgs params && (LamX.lamSB sc scope && ckE t N scope e body)))))
    | _ => false
  | sc, .isE i c, x => match x with
    | .Call (.Name f _) [.Name y _, b] [] _ => decide (f = "isinstance") && (glB sc f && (decide (f ∈ t.F) && (decide (N[i]? = some y) && (visB sc y && (nmB y && (notStar b && ckE t N sc c b))))))
    | _ => false
  | sc, .fldE i f, x => match x with
    | .Attribute (.Name y _) g _ => decide (g = f) && (decide (N[i]? = some y) && (visB sc y && nmB y))
    | _ => false
  | sc, .act i, x => match x with
    | .Call (.Name y _) [] [] _ => decide (N[i]? = some y) && (visB sc y && nmB y)
    | _ => false
  | sc, .lc _ own tg it c e, x => match x with
    | .ListComp elt [⟨tgt, iter, ifs, 0⟩] scope _ => blkC N sc scope own && (ckT false N (inner sc scope) tg tgt && (slotsIn tg own && (ckI t N sc it iter && (conSet iter && (ckIf t N (inner sc scope) c ifs && ckE t N (inner sc scope) e elt)))))
    | _ => false
def ckL (t : Nms) (N : List Str) : Scope → Es → List Expr → Bool
  | _, .nil, xs => xs.isEmpty
  | sc, .cons e r, xs => match xs with
    | y :: ys => notStar y && (ckE t N sc e y && ckL t N sc r ys)
    | [] => false
def ckO (t : Nms) (N : List Str) : Scope → Op → Option Expr → Bool
  | _, .no, x => x.isNone
  | sc, .yes e, x => match x with
    | some y => ckE t N sc e y
    | none => false
def ckIf (t : Nms) (N : List Str) : Scope → Op → List Expr → Bool
  | _, .no, xs => xs.isEmpty
  | sc, .yes e, xs => match xs with
    | [y] => ckE t N sc e y
    | _ => false
def ckI (t : Nms) (N : List Str) : Scope → It1 → Expr → Bool
  | sc, .ex e, x => ckE t N sc e x
  | sc, .rng a, x => match x with
    | .Call (.Name f _) [y] [] _ => decide (f = "range") && (glB sc f && (decide (f ∈ t.F) && (notStar y && ckE t N sc a y)))
    | _ => false
  | sc, .rng2 a b, x => match x with
    | .Call (.Name f _) [y, z] [] _ => decide (f = "range") && (glB sc f && (decide (f ∈ t.F) && (notStar y && (notStar z && (ckE t N sc a y && ckE t N sc b z)))))
    | _ => false
def ckD (t : Nms) (N : List Str) : Scope → List Str → Es → List (Option Expr) → List Expr → Bool
  | _, ks, .nil, keys, vals => ks.isEmpty && (keys.isEmpty && vals.isEmpty)
  | sc, ks, .cons e r, keys, vals => match ks, keys, vals with
    | k :: ks, some (.Constant (.str k') _ _) :: keys, v :: vals => decide (k' = k) && (ckE t N sc e v && ckD t N sc ks r keys vals)
    | _, _, _ => false
end
end Fw

set_option Elab.async false
set_option linter.all false
set_option maxRecDepth 100000
set_option maxHeartbeats 2000000
namespace Fw
open PySem PySem.Spec PyProof.Rows L2
variable [Tb]

/-- what a call of the def (or class) at fa does -/
def CallP (P : Program) (w : World) (K : PySem.W.Frag) (mg : Str → Option Value) (base : Heap) (k : Nat) (fa : Addr) (c : List D → List (Str × D) → Sto → R D) : Prop :=
  ∀ (A : Around) (outer : List Env) (s : Shared) (H : Hp) (us ws : List Value) (ks : List Str) (vs zs : List V) (Q : VK) (E : XK) (S : Sto) (r : Rho) (ds es : List D),
    Room k A → A.guards = some [] → Env0 P w K mg base A outer s H → Vals vs us → Vals zs ws → Emb ⟨K, mg, Tb.T⟩ S r H → RepL ⟨K, mg, Tb.T⟩ S.length r H ds vs → RepL ⟨K, mg, Tb.T⟩ S.length r H es zs → ks.length = es.length →
    Out ⟨K, mg, Tb.T⟩ S.length r H (fun d S' r' H' => ∀ v, Rep ⟨K, mg, Tb.T⟩ S'.length r' H' d v → Q v H') (fun x S' r' H' => ∀ cls dd, XRep ⟨K, mg, Tb.T⟩ S'.length r' H' x cls dd → E cls dd H') (c ds (ks.zip es) S) →
    codeAny (model P w) A (.call (.ref fa) ⟨us, ks.zip ws⟩) (CR (L2.CX P w) outer P w H s Q E) s
def clsAt (mg : Str → Option Value) : Sum String Str → Value → Prop
  | .inl n, u => u = .type n
  | .inr C, u => mg C = some u ∧ ∃ a, u = .ref a
/-- what is wished of an error, what the frame keeps -/
structure Wm where
  w : WX
  I : L2.St → Nat → Rho → Hp → Prop
  mono : ∀ σ n r H n' r' H', Stp n r H n' r' H' → I σ n r H → I σ n' r' H'
  fix : List Nat
  keep : ∀ σ σ' n r H, (∀ i ∈ fix, σ'[i]? = σ[i]?) → I σ n r H → I σ' n r H
def Wm.of (w : WX) : Wm := ⟨w, fun _ _ _ _ => True, fun _ _ _ _ _ _ _ _ h => h, [], fun _ _ _ _ _ _ h => h⟩
structure EnvR (Wx : Wd) (W : Wm) (n : Nat) (r : Rho) (H : Hp) (e : En) (σ : L2.St) : Prop where
  rep : RepE Wx n r H e σ
  inv : W.I σ n r H
theorem EnvR.stp {Wx : Wd} {W : Wm} {n n' : Nat} {r r' : Rho} {H H' : Hp} {e : En} {σ : L2.St} (h : EnvR Wx W n r H e σ) (s : Stp n r H n' r' H') : EnvR Wx W n' r' H' e σ := ⟨h.rep.stp s, W.mono _ _ _ _ _ _ _ s h.inv⟩
theorem EnvR.get {Wx : Wd} {W : Wm} {n : Nat} {r : Rho} {H : Hp} {e : En} {σ : L2.St} (h : EnvR Wx W n r H e σ) {i : Nat} {d : D} (q : e[i]? = some (some d)) : ∃ v, σ[i]? = some (some v) ∧ Rep Wx n r H d v := h.rep.get q
def GE (X : Cx) (W : Wm) (σ : L2.St) : Xc → Sto → Rho → Hp → Prop := fun x S r H => ∀ cls dd, XRep (Wo X) S.length r H x cls dd → W.w cls dd σ H
def tA {α : Type} (X : Cx) (W : Wm) (f : En → Sto → R α) (G : α → Sto → Rho → Hp → Prop) : L2.St → Hp → Prop := fun σ H =>
  ∃ S r e, Emb (Wo X) S r H ∧ EnvR (Wo X) W S.length r H e σ ∧ Out (Wo X) S.length r H G (GE X W σ) (f e S)
def tE (X : Cx) (W : Wm) (f : En → Sto → R D) : TE := fun σ H Q => tA X W f (Gv X Q) σ H
def tT (X : Cx) (W : Wm) (f : En → Sto → R D) : TT := fun σ H Q => tA X W f (fun d S r H => ∃ b, d = .bl b ∧ Q b H) σ H
def tL (X : Cx) (W : Wm) (f : En → Sto → R (List D)) : TA := fun σ H Q => tA X W f (fun ds S r H => ∀ vs, RepL (Wo X) S.length r H ds vs → Q vs H) σ H
def tO (X : Cx) (W : Wm) (f : En → Sto → R (Option Int)) : TO := fun σ H Q => tA X W f (fun o S r H => Q o H) σ H
/-- a closure at f, made behind the state s0 (the abstract heap H0) under the frames outer: it may be called from now on, and does th -/
structure ThkP (P : Program) (w : World) (K : PySem.W.Frag) (mg : Str → Option Value) (base : Heap) (k : Nat) (outer : List Env) (s0 : Shared) (H0 : Hp) (f c' : Addr) (q : Str) (e : En) (σ : L2.St) (th : Sto → R D) : Prop where
  fn : ∀ h' H', Un (frs outer) [] H0 H' s0.heap h' → PySem.W.FnAt f h'
  run : ∀ (A' : Around) (outer' : List Env) (s' : Shared) (H' : Hp) (S' : Sto) (r' : Rho) (Q' : VK) (E' : XK), Room k A' → A'.guards = some [] → Env0 P w K mg base A' outer' s' H' →
      Un (frs outer) [] H0 H' s0.heap s'.heap → Emb ⟨K, mg, Tb.T⟩ S' r' H' → RepE ⟨K, mg, Tb.T⟩ S'.length r' H' e σ → H' c' = some (LamX.CodeO c' q) →
      Out ⟨K, mg, Tb.T⟩ S'.length r' H' (fun d S' r' H' => ∀ v, Rep ⟨K, mg, Tb.T⟩ S'.length r' H' d v → Q' v H') (fun x S' r' H' => ∀ cls dd, XRep ⟨K, mg, Tb.T⟩ S'.length r' H' x cls dd → E' cls dd H') (th S') →
      codeAny (model P w) A' (.call (.ref f) ⟨[], []⟩) (CR (L2.CX P w) outer' P w H' s' Q' E') s'
/-- what a def that takes a closure does with it -/
def LamP (P : Program) (w : World) (K : PySem.W.Frag) (mg : Str → Option Value) (base : Heap) (k : Nat) (g : Addr) (L : (Sto → R D) → Sto → R D) : Prop :=
  ∀ (A : Around) (outer : List Env) (s : Shared) (H : Hp) (f c' : Addr) (q : Str) (e : En) (σ : L2.St) (th : Sto → R D) (Q : VK) (E : XK) (S : Sto) (r : Rho),
    Room (k + 2) A → A.guards = some [] → Env0 P w K mg base A outer s H → Emb ⟨K, mg, Tb.T⟩ S r H → RepE ⟨K, mg, Tb.T⟩ S.length r H e σ → H c' = some (LamX.CodeO c' q) → Fz S.length r c' →
    ThkP P w K mg base (k + 1) outer s H f c' q e σ th →
    Out ⟨K, mg, Tb.T⟩ S.length r H (fun d S' r' H' => ∀ v, Rep ⟨K, mg, Tb.T⟩ S'.length r' H' d v → Q v H') (fun x S' r' H' => ∀ cls dd, XRep ⟨K, mg, Tb.T⟩ S'.length r' H' x cls dd → E cls dd H') (L th S) →
    codeAny (model P w) A (.call (.ref g) ⟨[.ref f], []⟩) (CR (L2.CX P w) outer P w H s Q E) s
structure InsC (K : PySem.W.Frag) (c : Addr) : Prop where
  cl : Cls K c
  ha : PySem.W.findIn K (.ref c) "__class__" = some (some (.builtin "object.__class__"))
  hn : PySem.W.specialIn K (.builtin "object.__class__") "__get__" = some (some (.builtin "getset_descriptor.__get__"))
  ht : PySem.W.takesIn K (.builtin "object.__class__") = some true
  hm : PySem.W.mroIn K c (.type "object") = some true
structure SOk (P : Program) (w : World) (K : PySem.W.Frag) (mg : Str → Option Value) (base : Heap) (t : Sta) (k : Nat) : Prop where
  call : ∀ f, f ∈ t.nm.T → ∃ fa, mg f = some (.ref fa) ∧ PySem.W.keepIn K (.ref fa) = true ∧ CallP P w K mg base k fa (t.C f)
  con : ∀ x d, t.G x = some d → ∃ u v, (mg x = some u ∨ (mg x = none ∧ bootBuiltins x = some u)) ∧ RelV v u ∧ ∀ n r H, Rep ⟨K, mg, Tb.T⟩ n r H d v
  free : ∀ x, x ∈ t.nm.F → mg x = none
  ins : ∀ C c, C ∈ t.IC → mg C = some (.ref c) → InsC K c
  xf : ∀ C c g, (C, g) ∈ t.XF → mg C = some (.ref c) → PySem.W.findIn K (.ref c) g = some none
  exm : ∀ C x b, t.EI C x = some b → ∀ c d, mg C = some (.ref c) → mg x = some (.ref d) → PySem.W.exmOne K (.ref c) (.ref d) = some b
  cn : ∀ x, x ∈ t.nm.CN → ∃ c, mg x = some (.ref c)
  rx : ∀ C, C ∈ t.RX → ∃ c, mg C = some (.ref c) ∧ PySem.W.keepIn K (.ref c) = true ∧ PySem.W.subIn K (.ref c) (.type "BaseException") = some true ∧ PySem.W.typeIn K (.ref c) = some (.type "type") ∧
    ∃ (B newId initId : String) (bmB : List Value), ExcBaseFacts B newId initId bmB ∧ PySem.W.excIn K c bmB newId = true
  exc : ∀ C c, mg C = some (.ref c) → C ∈ t.EC → ExcC K c ∧ XfC K c
  lamf : ∀ f, f ∈ t.nm.LT → ∃ fa, mg f = some (.ref fa) ∧ PySem.W.keepIn K (.ref fa) = true ∧ LamP P w K mg base k fa (t.L f)
  isi : ∀ a b r, t.I a b = some r → ∀ u v, clsAt mg a u → clsAt mg b v → PySem.W.kitOne K u v = some r
structure Good (t : Sta) (k : Nat) (N : List Str) (sc : Scope) (X : Cx) (W : Wm) : Prop where
  hN : X.N = N
  hs : X.env.scope = sc
  nd : N.Nodup
  un : RU k X.A
  gd : X.A.guards = some []
  ok : SOk X.prog X.w X.K X.mg X.base t k
  cold : t.hot = none → X.calm = true ∧ Room k X.A ∧ Takes X W.w
  hot : ∀ i x, t.hot = some (some i, x) → ∃ (X0 : Cx) (a c : Addr) (oe : Obj) (dd : Option Addr) (pn : List (Addr × Obj)), X = X0.suite a ((a, oe) :: pn) ∧ Zc (.ref c) dd oe ∧ (∃ vs, oe.data = .fields vs) ∧ ExcC X.K c ∧ XfC X.K c ∧ X.mg x.C = some (.ref c) ∧
    ∀ σ n r H, W.I σ n r H → σ[i]? = some (some (.ref a)) ∧ XRep (Wo X) n r H x (.ref c) dd
  lam : t.hot = none → t.lam = true → Room (k + 2) X.A ∧ ∃ c P, LamX.TabB X.base X.mg c P ∧ X.env.code = .ref c ∧ (P, X.env.qual ++ "<lambda>") ∈ Tb.T ∧ ∀ p ∈ (Tb.T : List (Addr × Str)), p.1 = P → p.2 = X.env.qual ++ "<lambda>"
  thk : ∀ i th, t.hot = none → t.thk = some (i, th) → ∃ (f c' : Addr) (q : Str) (e0 : En) (σ0 : L2.St), (X.ex = [] ∧ ∃ j, Room j X.A ∧ ThkP X.prog X.w X.K X.mg X.base j X.outer X.s_0 X.H_0 f c' q e0 σ0 th) ∧
    ∀ σ n r H, W.I σ n r H → σ[i]? = some (some (.ref f)) ∧ RepE (Wo X) n r H e0 σ0 ∧ H c' = some (LamX.CodeO c' q)
/-- one part, then the rest -/
theorem on_seq {α β : Type} {X : Cx} {W : Wm} {f : En → Sto → R α} {k : α → Sto → R β} {G : β → Sto → Rho → Hp → Prop} {G' : α → Sto → Rho → Hp → Prop} {σ : L2.St} {S : Sto} {r : Rho} {H : Hp} {e : En}
    (emb : Emb (Wo X) S r H) (he : EnvR (Wo X) W S.length r H e σ) (o : Out (Wo X) S.length r H G (GE X W σ) ((f e S).bind k))
    (hk : ∀ a S1 r1 H1, Stp S.length r H S1.length r1 H1 → Emb (Wo X) S1 r1 H1 → EnvR (Wo X) W S1.length r1 H1 e σ → Out (Wo X) S1.length r1 H1 G (GE X W σ) (k a S1) → G' a S1 r1 H1) : tA X W f G' σ H :=
  ⟨S, r, e, emb, he, o.bind.imp (fun a S1 r1 H1 st em q => hk a S1 r1 H1 st em (he.stp st) q) fun _ _ _ _ _ _ q => q⟩
/-- .. the last part -/
theorem on_last {α : Type} {X : Cx} {W : Wm} {f : En → Sto → R α} {G G' : α → Sto → Rho → Hp → Prop} {σ : L2.St} {S : Sto} {r : Rho} {H : Hp} {e : En}
    (emb : Emb (Wo X) S r H) (he : EnvR (Wo X) W S.length r H e σ) (o : Out (Wo X) S.length r H G (GE X W σ) (f e S))
    (hk : ∀ a S1 r1 H1, Stp S.length r H S1.length r1 H1 → Emb (Wo X) S1 r1 H1 → G a S1 r1 H1 → G' a S1 r1 H1) : tA X W f G' σ H :=
  ⟨S, r, e, emb, he, o.imp hk fun _ _ _ _ _ _ q => q⟩
theorem peI {X : Cx} {e : Expr} {t t' : TE} (h : PE X e t) (g : ∀ σ H Q, t' σ H Q → t σ H Q) : PE X e t' := ⟨fun pins s σ H Q I q => h.run pins s σ H Q I (g σ H Q q)⟩
theorem ptI {X : Cx} {e : Expr} {t t' : TT} (h : PT X e t) (g : ∀ σ H Q, t' σ H Q → t σ H Q) : PT X e t' := ⟨fun pins s σ H Q I q => h.run pins s σ H Q I (g σ H Q q)⟩
theorem pwI {X : Cx} {e : Expr} {t t' : TT} (h : PW X e t) (g : ∀ σ H Q, t' σ H Q → t σ H Q) : PW X e t' := ⟨fun wh pins s σ H Q I q => h.run wh pins s σ H Q I (g σ H Q q)⟩
theorem paI {X : Cx} {e : List Expr} {t t' : TA} (h : PA X e t) (g : ∀ σ H Q, t' σ H Q → t σ H Q) : PA X e t' := ⟨fun p pins s σ H Q I q => h.run p pins s σ H Q I (g σ H Q q)⟩
/-- a test, whatever the whole is where it is one of and, or -/
def PTw (X : Cx) : Expr → TT → Prop
  | .BoolOp o es p, t => PW X (.BoolOp o es p) t
  | e, t => PT X e t
theorem PTw.pt {X : Cx} {e : Expr} {t : TT} (h : PTw X e t) : PT X e t := by
  cases e <;> first | exact PW.pt h | exact h
theorem PTw.of {X : Cx} {e : Expr} {t : TT} (h : PT X e t) (hb : ∀ o es p, e ≠ .BoolOp o es p) : PTw X e t := by
  cases e <;> first | exact absurd rfl (hb _ _ _) | exact h
theorem tT_of {X : Cx} {W : Wm} {f : En → Sto → R D} {σ : L2.St} {H : Hp} {Q : Bool → Hp → Prop} (h : tT X W f σ H Q) : tB (tE X W f) σ H Q := by
  obtain ⟨S, r, e, emb, he, o⟩ := h
  refine ⟨S, r, e, emb, he, o.imp (fun d S1 r1 H1 st em q v hv => ?_) fun _ _ _ _ _ _ q => q⟩
  obtain ⟨b, rfl, q⟩ := q
  rw [Rep] at hv
  exact ⟨b, hv, q⟩

section
variable {X : Cx} {W : Wm} {t : Sta} {k : Nat} {N : List Str} {sc : Scope} {a b c : Expr} {f g h : En → Sto → R D} {pos : Pos}
theorem vis_of {x : Str} (h : visB sc x = true) : Vis sc x := by
  unfold visB at h
  unfold Vis
  split at h <;> first | (rename_i e; rw [e]; simp; done) | cases h
theorem c_var (G : Good t k N sc X W) {i : Nat} {x : Str} (hi : N[i]? = some x) (hv : visB sc x = true) (hn : nmB x = true) : PE X (.Name x pos) (tE X W (fun s S => match s[i]? with
    | some (some d) => .ok d S
    | _ => .bad)) := by
  unfold nmB at hn
  simp only [Bool.and_eq_true, Bool.not_eq_true', decide_eq_false_iff_not] at hn
  refine peI (pe_var (i := i) (by rw [G.hN]; exact hi) (by rw [G.hs]; exact vis_of hv) hn.1 hn.2.1) fun σ H Q ⟨S, r, e, emb, he, o⟩ => ?_
  dsimp only at o
  split at o
  · rename_i d hd
    obtain ⟨v, h1, h2⟩ := he.get hd
    exact ⟨v, h1, out_v emb o h2⟩
  · exact o.elim
theorem gl_of (G : Good t k N sc X W) {x : Str} (h : glB sc x = true) : Gl X x := by
  unfold Gl Env.kindOf
  rw [G.hs]
  exact of_decide_eq_true h
theorem c_glo (G : Good t k N sc X W) {x : Str} (hg : glB sc x = true) (hn : nmB x = true) : PE X (.Name x pos) (tE X W (fun _ S => match t.G x with
    | some d => .ok d S
    | none => .bad)) := by
  unfold nmB at hn
  simp only [Bool.and_eq_true, Bool.not_eq_true', decide_eq_false_iff_not] at hn
  cases hd : t.G x with
  | none => exact ⟨fun _ _ _ _ _ _ ⟨_, _, _, _, _, o⟩ => o.elim⟩
  | some d =>
    obtain ⟨u, v, h1, h2, h3⟩ := G.ok.con x d hd
    rcases h1 with h1 | ⟨h1, h4⟩
    · exact peI (pe_glob (gl_of G hg) h1 h2 hn.1) fun σ H Q ⟨S, r, e, emb, he, o⟩ => out_v emb o (h3 _ _ _)
    · exact peI (pe_bltn (gl_of G hg) h1 h4 h2 hn.2.2 hn.1) fun σ H Q ⟨S, r, e, emb, he, o⟩ => out_v emb o (h3 _ _ _)
theorem c_con {c : Const} {j : Nat} : PE X (.Constant c j pos) (tE X W (fun _ S => match conD c with
    | some d => .ok d S
    | none => .bad)) := by
  cases c with
  | none => exact peI pe_non fun σ H Q ⟨S, r, e, emb, he, o⟩ => out_v emb o (by rw [Rep])
  | bool b => exact peI pe_bl fun σ H Q ⟨S, r, e, emb, he, o⟩ => out_v emb o (by rw [Rep])
  | int b => exact peI pe_int fun σ H Q ⟨S, r, e, emb, he, o⟩ => out_v emb o (by rw [Rep])
  | str b => exact peI pe_str fun σ H Q ⟨S, r, e, emb, he, o⟩ => out_v emb o (by rw [Rep])
  | _ => exact ⟨fun _ _ _ _ _ _ ⟨_, _, _, _, _, o⟩ => o.elim⟩
theorem two {r2 : D → D → Sto → R D} {σ : L2.St} {H : Hp} {Q : VK} (h : tE X W (fun s S => (f s S).bind fun x S1 => (g s S1).bind fun y S2 => r2 x y S2) σ H Q) : tOp (rD2 X r2) (tE X W f) (tE X W g) σ H Q := by
  obtain ⟨S, r, e, emb, he, o⟩ := h
  refine on_seq emb he o fun x S1 r1 H1 st1 emb1 he1 o1 v hv => ?_
  refine on_seq emb1 he1 o1 fun y S2 r2 H2 st2 emb2 he2 o2 v2 hv2 => ?_
  exact ⟨_, S2, r2, x, y, emb2, Rep.stp st2 _ _ hv, hv2, o2⟩
theorem c_bin (G : Good t k N sc X W) {o : Operator} (ha : PE X a (tE X W f)) (hb : PE X b (tE X W g)) : PE X (.BinOp a o b pos) (tE X W (fun s S => (f s S).bind fun x S1 => (g s S1).bind fun y S2 => binD o x y S2)) :=
  peI (pe_op (bin_ok G.un o) ha hb) fun _ _ _ h => two h
theorem mark_of {o : CmpOp} {b : Expr} (h : conSet b = true) : behindInMarks o b = false := by
  cases b <;> first | rfl | cases h
theorem c_cmp (G : Good t k N sc X W) {o : CmpOp} (ha : PE X a (tE X W f)) (hb : PE X b (tE X W g)) (hs : conSet b = true) :
    PE X (.Compare a [o] [b] pos) (tE X W (fun s S => (f s S).bind fun x S1 => (g s S1).bind fun y S2 => cmpD o x y S2)) ∧
    PT X (.Compare a [o] [b] pos) (tT X W (fun s S => (f s S).bind fun x S1 => (g s S1).bind fun y S2 => cmpD o x y S2)) :=
  ⟨peI (pe_cmpR (cmp_ok G.un o) ha hb (mark_of hs)) fun _ _ _ h => two h, ptI (pt_cmpR (cmp_ok G.un o) ha hb (mark_of hs)) fun _ _ _ h => two (tT_of h)⟩
theorem last_of {o p : CmpOp} {b c : Expr} (h : conSet c = true) : lastMarks [o, p] [b, c] = false := mark_of (o := p) h
theorem three {o p : CmpOp} {σ : L2.St} {H : Hp} {Q : VK} (hx : tE X W (fun s S => (f s S).bind fun x S1 => (g s S1).bind fun y S2 => (cmpD o x y S2).bind fun r S3 => match r with
    | .bl true => (h s S3).bind fun z S4 => cmpD p y z S4
    | .bl false => .ok (.bl false) S3
    | _ => .bad) σ H Q) : tChain (rD2 X (cmpD o)) (rD2 X (cmpD p)) (tE X W f) (tE X W g) (tE X W h) σ H Q := by
  obtain ⟨S, r, e, emb, he, oo⟩ := hx
  refine on_seq emb he oo fun x S1 r1 H1 st1 emb1 he1 o1 v hv => ?_
  refine on_seq emb1 he1 o1 fun y S2 r2 H2 st2 emb2 he2 o2 v2 hv2 => ?_
  refine ⟨GE X W σ, S2, r2, x, y, emb2, Rep.stp st2 _ _ hv, hv2, o2.bind.imp (fun q S3 r3 H3 st3 emb3 o3 z hz => ?_) fun _ _ _ _ _ _ q => q⟩
  split at o3
  · rw [Rep] at hz
    refine ⟨true, hz, ?_⟩
    refine iteT ?_
    refine on_seq emb3 (he2.stp st3) o3 fun z S4 r4 H4 st4 emb4 he4 o4 v4 hv4 => ?_
    exact ⟨_, S4, r4, y, z, emb4, Rep.stp (st3.trans st4) _ _ hv2, hv4, o4⟩
  · rw [Rep] at hz
    refine ⟨false, hz, ?_⟩
    refine iteF ?_
    exact out_v emb3 o3 (by rw [Rep])
  · exact o3.elim
theorem c_cmp2 (G : Good t k N sc X W) {o p : CmpOp} (ha : PE X a (tE X W f)) (hb : PE X b (tE X W g)) (hc : PE X c (tE X W h)) (hs : conSet c = true) :
    PE X (.Compare a [o, p] [b, c] pos) (tE X W (fun s S => (f s S).bind fun x S1 => (g s S1).bind fun y S2 => (cmpD o x y S2).bind fun r S3 => match r with
      | .bl true => (h s S3).bind fun z S4 => cmpD p y z S4
      | .bl false => .ok (.bl false) S3
      | _ => .bad)) ∧
    PT X (.Compare a [o, p] [b, c] pos) (tT X W (fun s S => (f s S).bind fun x S1 => (g s S1).bind fun y S2 => (cmpD o x y S2).bind fun r S3 => match r with
      | .bl true => (h s S3).bind fun z S4 => cmpD p y z S4
      | .bl false => .ok (.bl false) S3
      | _ => .bad)) :=
  ⟨peI (pe_chain (cmp_ok G.un o) (cmp_ok G.un p) ha hb hc (last_of hs)) fun _ _ _ h => three h, ptI (pt_chain (cmp_ok G.un o) (cmp_ok G.un p) ha hb hc (last_of hs)) fun _ _ _ h => three (tT_of h)⟩
/-- a value whose test is by its truth -/
def plainT (e : Expr) : Prop := ∀ env whole, isTrue e env whole = (do let v ← whole; standAt e.pos; holding [v] (truthy v))
theorem c_test (hp : plainT a) (ha : PE X a (tE X W f)) : PT X a (tT X W f) := ptI (pt_val ha (hp X.env)) fun _ _ _ h => tT_of h
abbrev andF (f g : En → Sto → R D) : En → Sto → R D := fun s S => (f s S).bind fun x S1 => match x with
  | .bl true => g s S1
  | .bl false => .ok (.bl false) S1
  | _ => .bad
abbrev orF (f g : En → Sto → R D) : En → Sto → R D := fun s S => (f s S).bind fun x S1 => match x with
  | .bl true => .ok (.bl true) S1
  | .bl false => g s S1
  | _ => .bad
theorem and_v {σ : L2.St} {H : Hp} {Q : VK} (hx : tE X W (andF f g) σ H Q) : tAndV (tE X W f) (tE X W g) σ H Q := by
  obtain ⟨S, r, e, emb, he, oo⟩ := hx
  refine on_seq emb he oo fun x S1 r1 H1 st1 emb1 he1 o1 v hv => ?_
  split at o1
  · rw [Rep] at hv
    refine ⟨true, hv, ?_⟩
    refine iteT ?_
    exact ⟨S1, r1, e, emb1, he1, o1⟩
  · rw [Rep] at hv
    refine ⟨false, hv, ?_⟩
    refine iteF ?_
    exact out_v emb1 o1 (by rw [Rep])
  · exact o1.elim
theorem or_v {σ : L2.St} {H : Hp} {Q : VK} (hx : tE X W (orF f g) σ H Q) : tOrV (tE X W f) (tE X W g) σ H Q := by
  obtain ⟨S, r, e, emb, he, oo⟩ := hx
  refine on_seq emb he oo fun x S1 r1 H1 st1 emb1 he1 o1 v hv => ?_
  split at o1
  · rw [Rep] at hv
    refine ⟨true, hv, ?_⟩
    refine iteT ?_
    exact out_v emb1 o1 (by rw [Rep])
  · rw [Rep] at hv
    refine ⟨false, hv, ?_⟩
    refine iteF ?_
    exact ⟨S1, r1, e, emb1, he1, o1⟩
  · exact o1.elim
theorem and_t {σ : L2.St} {H : Hp} {Q : Bool → Hp → Prop} (hx : tT X W (andF f g) σ H Q) : tAnd (tT X W f) (tT X W g) σ H Q := by
  obtain ⟨S, r, e, emb, he, oo⟩ := hx
  refine on_seq emb he oo fun x S1 r1 H1 st1 emb1 he1 o1 => ?_
  split at o1
  · refine ⟨true, rfl, ?_⟩
    refine iteT ?_
    exact ⟨S1, r1, e, emb1, he1, o1⟩
  · refine ⟨false, rfl, ?_⟩
    refine iteF ?_
    obtain ⟨b, e1, q⟩ := out_same emb1 o1
    cases e1
    exact q
  · exact o1.elim
theorem or_t {σ : L2.St} {H : Hp} {Q : Bool → Hp → Prop} (hx : tT X W (orF f g) σ H Q) : tOr (tT X W f) (tT X W g) σ H Q := by
  obtain ⟨S, r, e, emb, he, oo⟩ := hx
  refine on_seq emb he oo fun x S1 r1 H1 st1 emb1 he1 o1 => ?_
  split at o1
  · refine ⟨true, rfl, ?_⟩
    refine iteT ?_
    obtain ⟨b, e1, q⟩ := out_same emb1 o1
    cases e1
    exact q
  · refine ⟨false, rfl, ?_⟩
    refine iteF ?_
    exact ⟨S1, r1, e, emb1, he1, o1⟩
  · exact o1.elim
abbrev notF (f : En → Sto → R D) : En → Sto → R D := fun s S => (f s S).bind fun x S1 => match x with
  | .bl b => .ok (.bl (!b)) S1
  | _ => .bad
theorem c_not (ha : PE X a (tE X W f)) (ht : PT X a (tT X W f)) : PE X (.UnaryOp .Not a pos) (tE X W (notF f)) ∧ PT X (.UnaryOp .Not a pos) (tT X W (notF f)) := by
  refine ⟨peI (pe_not ha) fun σ H Q hx => ?_, ptI (pt_not ht) fun σ H Q hx => ?_⟩
  · obtain ⟨S, r, e, emb, he, oo⟩ := hx
    refine on_seq emb he oo fun x S1 r1 H1 st1 emb1 he1 o1 v hv => ?_
    split at o1
    · rw [Rep] at hv
      exact ⟨_, hv, out_v emb1 o1 (by rw [Rep])⟩
    · exact o1.elim
  · obtain ⟨S, r, e, emb, he, oo⟩ := hx
    refine on_seq emb he oo fun x S1 r1 H1 st1 emb1 he1 o1 => ?_
    split at o1
    · rename_i b
      obtain ⟨c, e1, q⟩ := out_same emb1 o1
      cases e1
      exact ⟨b, rfl, q⟩
    · exact o1.elim
theorem c_neg (ha : PE X a (tE X W f)) : PE X (.UnaryOp .USub a pos) (tE X W (fun s S => (f s S).bind fun x S1 => match x with
    | .int i => .ok (.int (-i)) S1
    | _ => .bad)) := by
  refine peI (pe_un un_neg ha) fun σ H Q hx => ?_
  obtain ⟨S, r, e, emb, he, oo⟩ := hx
  refine on_seq emb he oo fun x S1 r1 H1 st1 emb1 he1 o1 v hv => ?_
  split at o1
  · rw [Rep] at hv
    exact ⟨_, hv, out_v emb1 o1 (by rw [Rep])⟩
  · exact o1.elim
theorem c_ite (hc : PT X c (tT X W h)) (ha : PE X a (tE X W f)) (hb : PE X b (tE X W g)) : PE X (.IfExp c a b pos) (tE X W (fun s S => (h s S).bind fun x S1 => match x with
    | .bl true => f s S1
    | .bl false => g s S1
    | _ => .bad)) := by
  refine peI (pe_ifExp hc ha hb) fun σ H Q hx => ?_
  obtain ⟨S, r, e, emb, he, oo⟩ := hx
  refine on_seq emb he oo fun x S1 r1 H1 st1 emb1 he1 o1 => ?_
  split at o1
  · exact ⟨true, rfl, iteT ⟨S1, r1, e, emb1, he1, o1⟩⟩
  · exact ⟨false, rfl, iteF ⟨S1, r1, e, emb1, he1, o1⟩⟩
  · exact o1.elim
/-! lists of arguments, displays -/
theorem star_of {e : Expr} {es : List Expr} {env : Env} (h : notStar e = true) : starEach (e :: es) env = (false, eval e env) :: starEach es env := by
  cases e <;> first | rfl | cases h
theorem c_nil : PA X [] (tL X W (fun _ S => .ok [] S)) := paI pa_nil fun σ H Q ⟨S, r, e, emb, he, oo⟩ => out_same emb oo [] RepL.nil
theorem c_cons {es : List Expr} {fs : En → Sto → R (List D)} (hs : notStar a = true) (ha : PE X a (tE X W f)) (hb : PA X es (tL X W fs)) : PA X (a :: es) (tL X W (fun s S => (f s S).bind fun d S1 => (fs s S1).bind fun ds S2 => .ok (d :: ds) S2)) := by
  refine paI (pa_cons ha hb (star_of hs)) fun σ H Q hx => ?_
  obtain ⟨S, r, e, emb, he, oo⟩ := hx
  refine on_seq emb he oo fun x S1 r1 H1 st1 emb1 he1 o1 v hv => ?_
  refine on_seq emb1 he1 o1 fun xs S2 r2 H2 st2 emb2 he2 o2 vs hvs => ?_
  exact out_same emb2 o2 _ (RepL.cons (Rep.stp st2 _ _ hv) hvs)
theorem c_tup {es : List Expr} {fs : En → Sto → R (List D)} {j : Nat} (hb : PA X es (tL X W fs)) : PE X (.Tuple es j pos) (tE X W (fun s S => (fs s S).bind fun ds S1 => if ds.length ≤ sizeLine then .ok (.tup ds) S1 else .bad)) := by
  refine peI (pe_tup hb) fun σ H Q hx => ?_
  obtain ⟨S, r, e, emb, he, oo⟩ := hx
  refine on_seq emb he oo fun xs S1 r1 H1 st1 emb1 he1 o1 vs hvs => ?_
  split at o1
  · rename_i hz
    exact ⟨by rw [hvs.length]; exact hz, fun p hp => out_tup emb1 o1 hvs hp⟩
  · exact o1.elim
theorem out_put {S : Sto} {r : Rho} {H : Hp} {p : Addr} {u : HO} {ob : O} {G : D → Sto → Rho → Hp → Prop} {E : Xc → Sto → Rho → Hp → Prop} (emb : Emb (Wo X) S r H) (o : Out (Wo X) S.length r H G E (.ok (.ref S.length) (S ++ [ob]))) (hp : H p = none)
    (ho : ORep (Wo X) (S.length + 1) (rput r S.length p) (upd H p u) p ob) : G (.ref S.length) (S ++ [ob]) (rput r S.length p) (upd H p u) := by
  have st := stp_put (n := S.length) (r := r) (o := u) hp
  have hl : (S ++ [ob]).length = S.length + 1 := by simp
  exact o _ _ (by rw [hl]; exact st) (emb_put emb hp ho)
theorem c_lst {es : List Expr} {fs : En → Sto → R (List D)} {m : Bool} (hb : PA X es (tL X W fs)) : PE X (.List es pos) (tE X W (fun s S => (fs s S).bind fun ds S1 => if ds.length ≤ sizeLine then (if m then .ok (.ref S1.length) (S1 ++ [.lst ds]) else .ok (.lst ds) S1) else .bad)) := by
  refine peI (pe_lst hb) fun σ H Q hx => ?_
  obtain ⟨S, r, e, emb, he, oo⟩ := hx
  refine on_seq emb he oo fun xs S1 r1 H1 st1 emb1 he1 o1 vs hvs => ?_
  split at o1
  · rename_i hz
    refine ⟨by rw [hvs.length]; exact hz, fun p hp => ?_⟩
    cases m with
    | false => exact out_lst emb1 o1 hvs hp
    | true =>
      have z := out_put (u := .lst vs) emb1 o1 hp ⟨vs, upd_same, RepL.stp (stp_put hp) _ _ hvs⟩
      refine z _ ?_
      rw [Rep]
      exact ⟨by simp, by rw [rput_new]⟩
  · exact o1.elim
end
end Fw

set_option Elab.async false
set_option linter.all false
set_option maxRecDepth 100000
set_option maxHeartbeats 4000000
namespace Fw
open PySem PySem.Spec PyProof.Rows L2
variable [Tb]
/-! x[y] -/
theorem idx_ok {X : Cx} {k : Nat} (hr : RU k X.A) : IxR X (rD2 X idxD) := by
  intro value slice pins s σ H x y v u Q I rx ry ⟨E0, S, r, dx, dy, e, hx, hy, h⟩ hs
  unfold idxD at h
  have fx := flat_ok e hx
  generalize flat S dx = cx at fx h
  split at h
  · simp only [Rep] at hy
    subst hy
    obtain ⟨a, vs, rfl, f1, g1⟩ := fx
    split at h
    · rename_i ha
      unfold atI at ha
      obtain ⟨j, e1, e2⟩ := Option.bind_eq_some_iff.mp ha
      obtain ⟨w, e3, e4⟩ := g1.get e2
      exact ix_list value slice pins s σ H _ _ v u Q I rx ry ⟨a, vs, _, w, rfl, rfl, .inl (.inl f1), by unfold atI; rw [g1.length]; exact Option.bind_eq_some_iff.mpr ⟨j, e1, e3⟩, out_v e h e4⟩ hs
    · exact h.elim
  · simp only [Rep] at hy
    subst hy
    simp only [RepF, Rep] at fx
    obtain ⟨a, vs, rfl, f1, g1⟩ := fx
    split at h
    · rename_i ha
      unfold atI at ha
      obtain ⟨j, e1, e2⟩ := Option.bind_eq_some_iff.mp ha
      obtain ⟨w, e3, e4⟩ := g1.get e2
      exact ix_tup value slice pins s σ H _ _ v u Q I rx ry ⟨a, vs, _, w, rfl, rfl, f1.sq, by unfold atI; rw [g1.length]; exact Option.bind_eq_some_iff.mpr ⟨j, e1, e3⟩, out_v e h e4⟩ hs
    · exact h.elim
  · simp only [Rep] at hy
    subst hy
    simp only [RepF, Rep] at fx
    subst fx
    split at h
    · rename_i hz
      split at h
      · rename_i c hc
        exact ix_str value slice pins s σ H _ _ v u Q I rx ry ⟨_, _, c, rfl, rfl, hz, hc, out_v e h (by rw [Rep])⟩ hs
      · exact h.elim
    · exact h.elim
  · rename_i ks ds
    obtain ⟨a, kvs, rfl, f1, f2, g1⟩ := fx
    split at h
    · rename_i q hq
      have ek := key_ok hq hy.toF
      subst ek
      have z := kv_rd f2 g1 q
      split at h
      · rename_i d hd
        rw [hd] at z
        obtain ⟨w, z1, z2⟩ := z
        have dg : DGet H a (kV q) (some w) := z1 ▸ DGet.k f1
        obtain rfl : v = Value.ref a := rx
        have hu : X.A.units + 1 < cLine := by unfold RU at hr; omega
        exact tail_any (dict_typeIs I dg) PySem.F.slot_dict_getitem.lookup (d_getItem hu I dg ry fun w' s3 I3 rw' => ⟨w, H, I3, rw', out_v e h z2⟩) hs
      · exact h.elim
    · exact h.elim
  · exact h.elim
section
variable {X : Cx} {W : Wm} {t : Sta} {k : Nat} {N : List Str} {sc : Scope} {a b c : Expr} {f g h : En → Sto → R D} {pos : Pos}
theorem plain_ix {b : Expr} (h : notSl b = true) : PlainIx b := by
  cases b <;> first | (intro o i; rfl) | cases h
theorem c_idx (G : Good t k N sc X W) (hs : notSl b = true) (ha : PE X a (tE X W f)) (hb : PE X b (tE X W g)) : PE X (.Subscript a b pos) (tE X W (fun s S => (f s S).bind fun x S1 => (g s S1).bind fun y S2 => idxD x y S2)) :=
  peI (pe_ix (idx_ok G.un) ha hb (plain_ix hs)) fun _ _ _ h => two h
/-! x[lo:hi] -/
theorem c_no : PO X none (tO X W (fun _ S => .ok none S)) := ⟨fun pins s σ H Q I ⟨S, r, e, emb, he, o⟩ => po_none.run pins s σ H Q I (out_same emb o)⟩
theorem c_yes (ha : PE X a (tE X W f)) : PO X (some a) (tO X W (fun s S => (f s S).bind fun d S1 => match d with
    | .int i => .ok (some i) S1
    | _ => .bad)) := by
  refine ⟨fun pins s σ H Q I hx => (po_some ha).run pins s σ H Q I ?_⟩
  obtain ⟨S, r, e, emb, he, oo⟩ := hx
  refine on_seq emb he oo fun x S1 r1 H1 st1 emb1 he1 o1 v hv => ?_
  split at o1
  · rw [Rep] at hv
    exact ⟨_, hv, out_same emb1 o1⟩
  · exact o1.elim
def rSlD (X : Cx) : V → Option Int → Option Int → Hp → VK → Prop := fun x lo hi H Q => ∃ E S r dx, Emb (Wo X) S r H ∧ Rep (Wo X) S.length r H dx x ∧ Out (Wo X) S.length r H (Gv X Q) E (slD dx lo hi S)
theorem cut_rep {Wx : Wd} {n : Nat} {r : Rho} {H : Hp} {ds : List D} {vs : List V} (h : RepL Wx n r H ds vs) (lo hi : Option Int) : RepL Wx n r H (cutD ds lo hi) (cutV vs lo hi) := by
  unfold cutD cutV
  rw [h.length]
  exact RepL.take _ (RepL.drop _ h)
theorem sl_ok : SlR X (rSlD X) := by
  intro pins s σ H x v vl vu lo hi sl Q I rx hs pl pu ⟨E0, S, r, dx, e, hx, h⟩
  unfold slD at h
  have fx := flat_ok e hx
  generalize flat S dx = cx at fx h
  split at h
  · obtain ⟨a, vs, rfl, f1, g1⟩ := fx
    exact sl_list pins s σ H _ v vl vu lo hi sl Q I rx hs pl pu ⟨a, vs, rfl, .inl (.inl f1), fun p hp => out_lst e h (cut_rep g1 lo hi) hp⟩
  · simp only [RepF, Rep] at fx
    obtain ⟨a, vs, rfl, f1, g1⟩ := fx
    refine sl_tupA pins s σ H _ v vl vu lo hi sl Q I rx hs pl pu ⟨a, vs, rfl, f1.sq, fun hw => ?_, fun _ p hp => out_tup e h (cut_rep g1 lo hi) hp⟩
    refine out_v e h ?_
    rw [Rep]
    refine ⟨a, vs, rfl, f1, ?_⟩
    have e1 : cutV vs lo hi = vs := by
      unfold cutV
      rw [hw.1, hw.2]
      simp
    have z := cut_rep g1 lo hi
    rw [e1] at z
    exact z
  · exact h.elim
theorem c_sl {lo hi : Option Expr} {fl fh : En → Sto → R (Option Int)} {p2 : Pos} (ha : PE X a (tE X W f)) (hl : PO X lo (tO X W fl)) (hh : PO X hi (tO X W fh)) :
    PE X (.Subscript a (.Slice lo hi none p2) pos) (tE X W (fun s S => (f s S).bind fun x S1 => (fl s S1).bind fun l S2 => (fh s S2).bind fun h S3 => slD x l h S3)) := by
  refine peI (pe_slice sl_ok ha hl hh) fun σ H Q hx => ?_
  obtain ⟨S, r, e, emb, he, oo⟩ := hx
  refine on_seq emb he oo fun x S1 r1 H1 st1 emb1 he1 o1 v hv => ?_
  refine on_seq emb1 he1 o1 fun l S2 r2 H2 st2 emb2 he2 o2 => ?_
  refine on_seq emb2 he2 o2 fun hh S3 r3 H3 st3 emb3 he3 o3 => ?_
  exact ⟨_, S3, r3, x, emb3, Rep.stp (st2.trans st3) _ _ hv, o3⟩
/-! calls -/
def plainB (es : List Expr) : Bool := es.all notStar
theorem plain_any {es : List Expr} {env : Env} (h : plainB es = true) : (backTo pos (starEach es env)).any (·.1) = false := by
  induction es with
  | nil => rfl
  | cons e es ih =>
    unfold plainB at h
    rw [List.all_cons, Bool.and_eq_true] at h
    rw [star_of h.1]
    exact ih h.2
theorem plain_all {es : List Expr} {env : Env} (h : plainB es = true) : (backTo pos (starEach es env)).all (fun x => !x.1) = true := by
  induction es with
  | nil => rfl
  | cons e es ih =>
    unfold plainB at h
    rw [List.all_cons, Bool.and_eq_true] at h
    rw [star_of h.1]
    exact ih h.2
theorem kw_all : ∀ {kws : List Keyword} {ks : List Str} {env : Env}, kwOk ks kws = true → (backToKw pos (keywordEach kws env)).all (·.1.isSome) = true ∧ (backToKw pos (keywordEach kws env)).filterMap (·.1) = ks ∧ (backToKw pos (keywordEach kws env)).any (·.1.isNone) = false
  | [], ks, env, h => by
    unfold kwOk at h
    have h := of_decide_eq_true h
    cases ks with
    | nil => exact ⟨rfl, rfl, rfl⟩
    | cons => cases h
  | ⟨nm, v, p⟩ :: kws, [], env, h => by
    unfold kwOk at h
    have h := of_decide_eq_true h
    cases h
  | ⟨nm, v, p⟩ :: kws, x :: ks, env, h => by
    unfold kwOk at h
    have h := of_decide_eq_true h
    rw [List.map_cons, List.map_cons] at h
    injection h with h1 h2
    have h1 : nm = some x := h1
    subst h1
    obtain ⟨z1, z2, z3⟩ := kw_all (kws := kws) (ks := ks) (env := env) (by unfold kwOk; exact decide_eq_true h2)
    refine ⟨?_, ?_, ?_⟩
    · show ((some x).isSome && (backToKw pos (keywordEach kws env)).all (·.1.isSome)) = true
      rw [z1]
      rfl
    · show x :: (backToKw pos (keywordEach kws env)).filterMap (·.1) = x :: ks
      rw [z2]
    · show ((some x).isNone || (backToKw pos (keywordEach kws env)).any (·.1.isNone)) = false
      rw [z3]
      rfl
theorem pkI {kws : List Keyword} {t t' : TA} (h : PK X kws t) (g : ∀ σ H Q, t' σ H Q → t σ H Q) : PK X kws t' := ⟨fun p pins s σ H Q I q => h.run p pins s σ H Q I (g σ H Q q)⟩
theorem c_nilK : PK X [] (tL X W (fun _ S => .ok [] S)) := pkI pk_nil fun σ H Q ⟨S, r, e, emb, he, oo⟩ => out_same emb oo [] RepL.nil
theorem c_consK {kws : List Keyword} {nm : Option Str} {kp : Pos} {fs : En → Sto → R (List D)} (ha : PE X a (tE X W f)) (hb : PK X kws (tL X W fs)) : PK X (⟨nm, a, kp⟩ :: kws) (tL X W (fun s S => (f s S).bind fun d S1 => (fs s S1).bind fun ds S2 => .ok (d :: ds) S2)) := by
  refine pkI (pk_cons ha hb) fun σ H Q hx => ?_
  obtain ⟨S, r, e, emb, he, oo⟩ := hx
  refine on_seq emb he oo fun x S1 r1 H1 st1 emb1 he1 o1 v hv => ?_
  refine on_seq emb1 he1 o1 fun xs S2 r2 H2 st2 emb2 he2 o2 vs hvs => ?_
  exact out_same emb2 o2 _ (RepL.cons (Rep.stp st2 _ _ hv) hvs)
/-- the callee has come: it runs as it promised -/
theorem run_call (G : Good t k N sc X W) (hc : t.hot = none) {fa : Addr} {C : List D → List (Str × D) → Sto → R D} (cp : CallP X.prog X.w X.K X.mg X.base k fa C) {pins : List (Addr × Obj)} {σ : L2.St} {H : Hp} {s : Shared} {Q : VK} {us ws : List Value} {vs zs : List V} {ks : List Str} {S : Sto} {r : Rho} {ds es : List D}
    (I : Inv X pins σ H s) (rv : Vals vs us) (rz : Vals zs ws) (emb : Emb (Wo X) S r H) (h1 : RepL (Wo X) S.length r H ds vs) (h2 : RepL (Wo X) S.length r H es zs) (hl : ks.length = es.length)
    (o : Out (Wo X) S.length r H (Gv X Q) (GE X W σ) (C ds (ks.zip es) S)) : wpAny (model X.prog X.w) X.A (call (.ref fa) us (ks.zip ws)) (EP X pins σ Q) X.xe s := by
  obtain ⟨g1, g2, g3⟩ := G.cold hc
  refine wpAny_call (codeAny_mono (cp X.A X.stack s H us ws ks vs zs Q (fun cls dd H' => W.w cls dd σ H') S r ds es g2 G.gd I.env0 rv rz emb h1 h2 hl o) fun q s' hq => ?_)
  cases q with
  | error e => exact g3 e s' (XE.of_call I (fun cls d H' w => w) hq)
  | ok fl =>
    cases fl with
    | ret u => exact I.after hq
    | next => exact False.elim hq
    | brk => exact False.elim hq
    | cont => exact False.elim hq
theorem nil_args {M : Model} {A : Around} {E : Value → Shared → Prop} {s : Shared} {fv : Value} {kw : List (Option Str × Sem Value)} {Q : Args → Shared → Prop} (hall : kw.all (·.1.isSome) = true)
    (h : wpAny M A (spliced []) (fun vs s1 => wpAny M A (evalAll (kw.map (·.2))) (fun ws s2 => Q ⟨vs, (kw.filterMap (·.1)).zip ws⟩ s2) E s1) E s) : wpAny M A (evalArgs fv true [] kw) Q E s := by
  unfold evalArgs
  refine wpAny_bind ?_
  refine wpAny_mono h (fun us s1 h1 => ?_) fun _ _ z => z
  refine wpAny_bind (wpAny_pure (wpAny_holding ?_))
  simp only [hall, if_true]
  exact wpAny_bind (wpAny_mono h1 (fun ws s2 h2 => wpAny_bind (wpAny_pure (wpAny_pure h2))) fun _ _ z => z)
theorem c_call {x : Str} {p : Pos} {xs : List Expr} {kws : List Keyword} {ks : List Str} {fs gs : En → Sto → R (List D)} (G : Good t k N sc X W) (hg : glB sc x = true) (hn : nmB x = true) (hT : x ∈ t.nm.T) (hp : plainB xs = true) (hk : kwOk ks kws = true)
    (ha : PA X xs (tL X W fs)) (hb : PK X kws (tL X W gs)) (hlen : ∀ s S ds S', gs s S = .ok ds S' → ds.length = ks.length) :
    PE X (.Call (.Name x p) xs kws pos) (tE X W (fun s S => (fs s S).bind fun ds S1 => (gs s S1).bind fun qs S2 => t.cold (t.C x ds (ks.zip qs) S2))) := by
  unfold nmB at hn
  simp only [Bool.and_eq_true, Bool.not_eq_true', decide_eq_false_iff_not] at hn
  obtain ⟨fa, m1, m2, cp⟩ := G.ok.call x hT
  obtain ⟨k1, k2, k3⟩ := kw_all (pos := pos) (env := X.env) hk
  refine ⟨fun pins s σ H Q I hx => ?_⟩
  have last : ∀ {us ws : List Value} {vs zs : List V} {s2 : Shared} {H2 : Hp} {S2 : Sto} {r2 : Rho} {ds qs : List D}, Inv X pins σ H2 s2 → Vals vs us → Vals zs ws → Emb (Wo X) S2 r2 H2 → RepL (Wo X) S2.length r2 H2 ds vs → RepL (Wo X) S2.length r2 H2 qs zs → qs.length = ks.length →
      Out (Wo X) S2.length r2 H2 (Gv X Q) (GE X W σ) (t.cold (t.C x ds (ks.zip qs) S2)) → X.K.In s2.heap ∧ wpAny (model X.prog X.w) X.A (call (.ref fa) us (ks.zip ws)) (EP X pins σ Q) X.xe s2 := by
    intro us ws vs zs s2 H2 S2 r2 ds qs I2 rv rz emb h1 h2 hl o
    unfold Sta.cold at o
    split at o
    · rename_i hc
      exact ⟨I2.kIn, run_call G (by simpa using hc) cp I2 rv rz emb h1 h2 hl.symm o⟩
    · exact o.elim
  refine wpAny_Call_Name_kw (ld_glob I (gl_of G hg) m1 ?_ hn.1)
  have key : wpAny (model X.prog X.w) X.A (spliced (backTo pos (starEach xs X.env))) (fun us s1 => wpAny (model X.prog X.w) X.A (evalAll ((backToKw pos (keywordEach kws X.env)).map (·.2))) (fun ws s2 => X.K.In s2.heap ∧ wpAny (model X.prog X.w) X.A (call (.ref fa) us (ks.zip ws)) (EP X pins σ Q) X.xe s2) X.xe s1) X.xe s := by
    obtain ⟨S, r, e, emb, he, oo⟩ := hx
    refine thn (ha.run pos pins s σ H (fun vs H1 => ∃ ds S1 r1, RepL (Wo X) S1.length r1 H1 ds vs ∧ Emb (Wo X) S1 r1 H1 ∧ EnvR (Wo X) W S1.length r1 H1 e σ ∧ Out (Wo X) S1.length r1 H1 (Gv X Q) (GE X W σ) ((gs e S1).bind fun qs S2 => t.cold (t.C x ds (ks.zip qs) S2))) I (on_seq emb he oo fun ds S1 r1 H1 st1 emb1 he1 o1 vs hvs => ⟨ds, S1, r1, hvs, emb1, he1, o1⟩)) fun us s1 ⟨vs, H1, I1, rv, ds, S1, r1, hvs, emb1, he1, o1⟩ => ?_
    cases hq : gs e S1 with
    | bad => rw [hq] at o1; exact o1.elim
    | exc y S2 =>
      refine thn (hb.run pos pins s1 σ H1 (fun _ _ => False) I1 ⟨S1, r1, e, emb1, he1, ?_⟩) fun _ _ ⟨_, _, _, _, z⟩ => z.elim
      rw [hq] at o1 ⊢
      exact o1
    | ok qs S2 =>
      refine thn (hb.run pos pins s1 σ H1 (fun zs H2 => ∃ r2, RepL (Wo X) S2.length r2 H2 qs zs ∧ RepL (Wo X) S2.length r2 H2 ds vs ∧ Emb (Wo X) S2 r2 H2 ∧ Out (Wo X) S2.length r2 H2 (Gv X Q) (GE X W σ) (t.cold (t.C x ds (ks.zip qs) S2))) I1 ⟨S1, r1, e, emb1, he1, ?_⟩) fun ws s2 ⟨zs, H2, I2, rz, r2, hzs, hvs2, emb2, o2⟩ => ?_
      · have o1' := o1.bind
        rw [hq] at o1' ⊢
        exact fun r' H' st em vs' hvs' => ⟨r', hvs', RepL.stp st _ _ hvs, em, o1' r' H' st em⟩
      · exact last I2 rv rz emb2 hvs2 hzs (hlen _ _ _ _ hq) o2
  have hpl : ((backTo pos (starEach xs X.env)).any (·.1) || (backToKw pos (keywordEach kws X.env)).any (·.1.isNone)) = false := by
    rw [plain_any hp, k3]
    rfl
  refine PySem.W.callWith_of hpl (PySem.W.keeps_K m2) ?_
  cases xs with
  | nil =>
    refine nil_args k1 ?_
    rw [k2]
    exact key
  | cons y ys =>
    have hy : notStar y = true := by
      unfold plainB at hp
      rw [List.all_cons, Bool.and_eq_true] at hp
      exact hp.1
    have e1 : backTo pos (starEach (y :: ys) X.env) = (false, eval y X.env) :: backTo pos (starEach ys X.env) := by
      rw [star_of hy]
      rfl
    rw [e1] at key ⊢
    refine evalArgs_kw k1 ?_
    rw [k2]
    exact key
/-! isinstance -/
theorem tyX_of (G : Good t k N sc X W) {S : Sto} {r : Rho} {H : Hp} {d : D} {v : V} {y : Sum String Str} (emb : Emb (Wo X) S r H) (hd : Rep (Wo X) S.length r H d v) (h : tyD d S = some y) (hi : inrOk t.IC y = true) : ∃ u, clsAt X.mg y u ∧ TyX X.K H v u := by
  have ins : ∀ {a : Addr} {C : Str} {c dx : Addr} {fs : List (Str × V)}, X.mg C = some (.ref c) → C ∈ t.IC → H a = some (.ins c dx fs) → ∃ u, clsAt X.mg (.inr C) u ∧ TyX X.K H (.ref a) u := fun {a C c dx fs} m hc e => by
    have z := G.ok.ins C c hc m
    exact ⟨.ref c, ⟨m, c, rfl⟩, .base (.ins e z.cl z.ha z.hn z.ht z.hm)⟩
  cases d with
  | non => rw [tyD] at h; cases h; rw [Rep] at hd; rw [hd]; exact ⟨_, rfl, .base .non⟩
  | bl b => rw [tyD] at h; cases h; rw [Rep] at hd; rw [hd]; exact ⟨_, rfl, .base (.bl b)⟩
  | int b => rw [tyD] at h; cases h; rw [Rep] at hd; rw [hd]; exact ⟨_, rfl, .base (.int b)⟩
  | str b => rw [tyD] at h; cases h; rw [Rep] at hd; rw [hd]; exact ⟨_, rfl, .base (.str b)⟩
  | ty n => rw [tyD] at h; cases h
  | glo n => rw [tyD] at h; cases h
  | scr n => rw [tyD] at h; cases h
  | tup ds =>
    rw [tyD] at h; cases h
    rw [Rep] at hd
    obtain ⟨a, vs, rfl, f, _⟩ := hd
    rcases f with ⟨f | ⟨o, f⟩, _⟩ | ⟨o, its, n, f, hc, _⟩
    · exact ⟨_, rfl, .base (.tup f)⟩
    · exact ⟨_, rfl, .fTuple f⟩
    · exact ⟨_, rfl, .kTuple f hc⟩
  | lst ds =>
    rw [tyD] at h; cases h
    rw [Rep] at hd
    obtain ⟨a, vs, rfl, f, _⟩ := hd
    exact ⟨_, rfl, .base (.lst f.1)⟩
  | dct ks ds =>
    rw [tyD] at h; cases h
    rw [Rep] at hd
    obtain ⟨a, kvs, rfl, f, _⟩ := hd
    exact ⟨_, rfl, .base (.dK f)⟩
  | obj C ks ds =>
    rw [tyD] at h; cases h
    rw [Rep] at hd
    obtain ⟨a, c, dx, fs, rfl, m, f, _⟩ := hd
    exact ins m (of_decide_eq_true hi) f
  | ref l =>
    rw [tyD] at h
    rw [Rep] at hd
    obtain ⟨hl, rfl⟩ := hd
    cases q : S[l]? with
    | none => rw [q] at h; cases h
    | some o =>
      rw [q] at h
      have z := emb.at_ l o q
      cases o with
      | lst ds =>
        cases h
        obtain ⟨vs, z1, _⟩ := z
        exact ⟨_, rfl, .base (.lst z1)⟩
      | dct ks ds =>
        cases h
        obtain ⟨kvs, z1, _⟩ := z
        exact ⟨_, rfl, .base (.dK z1)⟩
      | ins C ks ds =>
        cases h
        obtain ⟨c, dx, fs, m, z1, _⟩ := z
        exact ins m (of_decide_eq_true hi) z1
theorem cls_of {Wx : Wd} {n : Nat} {r : Rho} {H : Hp} {d : D} {v : V} {y : Sum String Str} (hd : Rep Wx n r H d v) (h : clsD d = some y) : ∃ u, clsAt Wx.mg y u ∧ ClsV v u := by
  unfold clsD at h
  split at h
  · cases h
    rw [Rep] at hd
    rw [hd]
    exact ⟨_, rfl, .ty _⟩
  · cases h
    rw [Rep] at hd
    obtain ⟨a, rfl, m⟩ := hd
    exact ⟨_, ⟨m, a, rfl⟩, .own a⟩
  · cases h
theorem kit_any {K : PySem.W.Frag} {mg : Str → Option Value} {Wx : Wd} (hm : Wx.mg = mg) {I : Sum String Str → Sum String Str → Option Bool} (hI : ∀ a b q, I a b = some q → ∀ u v, clsAt mg a u → clsAt mg b v → PySem.W.kitOne K u v = some q) {a : Sum String Str} {u : Value} (ha : clsAt mg a u) {n : Nat} {r : Rho} {H : Hp} :
    ∀ {cs : List D} {vs : List V} {us : List Value} {b : Bool}, RepL Wx n r H cs vs → Vals vs us → isiL I a cs = some b → PySem.W.kitAny K u us = some b
  | [], _, _, b, h, hv, e => by
    rw [RepL] at h
    rw [isiL] at e
    cases e
    subst h
    cases hv
    exact kitAny_nil
  | c :: cs, _, _, b, h, hv, e => by
    rw [RepL] at h
    obtain ⟨v, q, rfl, h1, h2⟩ := h
    rw [isiL, Option.bind_eq_some_iff] at e
    obtain ⟨y, e1, e2⟩ := e
    rw [Option.bind_eq_some_iff] at e2
    obtain ⟨p, e3, e4⟩ := e2
    obtain ⟨w, k1, k2⟩ := cls_of h1 e1
    rw [hm] at k1
    have z := hI _ _ _ e3 _ _ ha k1
    cases hv with
    | cons hv1 hv2 =>
      rw [k2.eq hv1]
      cases p with
      | true =>
        rw [if_pos rfl] at e4
        exact kitAny_cons z (fun q => nomatch q) fun _ => (Option.some.inj e4).symm
      | false =>
        rw [if_neg Bool.false_ne_true] at e4
        exact kitAny_cons z (fun _ => kit_any hm hI ha h2 hv2 e4) fun q => nomatch q
/-- a built-in's answer by data -/
def rL (X : Cx) (f : List D → Sto → R D) : List V → Hp → VK → Prop := fun vs H Q => ∃ E S r ds, Emb (Wo X) S r H ∧ RepL (Wo X) S.length r H ds vs ∧ Out (Wo X) S.length r H (Gv X Q) E (f ds S)
theorem RepL.inv1 {Wx : Wd} {n : Nat} {r : Rho} {H : Hp} {d : D} {vs : List V} (h : RepL Wx n r H [d] vs) : ∃ v, vs = [v] ∧ Rep Wx n r H d v := by
  rw [RepL] at h
  obtain ⟨v, q, e, h1, h2⟩ := h
  rw [RepL] at h2
  subst h2
  exact ⟨v, e, h1⟩
theorem RepL.inv2 {Wx : Wd} {n : Nat} {r : Rho} {H : Hp} {d c : D} {vs : List V} (h : RepL Wx n r H [d, c] vs) : ∃ v u, vs = [v, u] ∧ Rep Wx n r H d v ∧ Rep Wx n r H c u := by
  rw [RepL] at h
  obtain ⟨v, q, e, h1, h2⟩ := h
  obtain ⟨u, e2, h3⟩ := h2.inv1
  subst e2
  exact ⟨v, u, e, h1, h3⟩
def biIsi (t : Sta) (ds : List D) (S : Sto) : R D := match ds with
    | [x, c] => (match isiD t.IC t.I x c S with
      | some b => .ok (.bl b) S
      | none => .bad)
    | _ => .bad
theorem isi_ok (G : Good t k N sc X W) : CallR X (.builtin "isinstance") (rL X (biIsi t)) := by
  intro pins s σ H vs us Q I rv ⟨E0, S, r, ds, e, hds, h⟩
  unfold biIsi at h
  split at h
  · rename_i x c
    split at h
    · rename_i b hb
      obtain ⟨v, u, rfl, h1, h2⟩ := hds.inv2
      unfold isiD at hb
      obtain ⟨y, e1, e2⟩ := Option.bind_eq_some_iff.mp hb
      split at e2
      · rename_i hi
        obtain ⟨ty, k1, k2⟩ := tyX_of G e h1 e1 hi
        have fin : Q (.bl b) H := out_v e h (by rw [Rep])
        cases c with
        | tup cs =>
          dsimp only at e2
          rw [Rep] at h2
          obtain ⟨a, ws, rfl, f, g1⟩ := h2
          obtain ⟨u1, u2, rfl, r1, r2⟩ := vals2 rv
          cases (show u2 = Value.ref a from r2)
          obtain ⟨P, Z, p, hx⟩ := kit_of I r1 k2
          obtain ⟨its, rw', ⟨o, q1, q2, n, q3⟩, _⟩ := I.tuple f.sq
          have ka := kit_any (Wx := Wo X) rfl G.ok.isi k1 g1 rw' e2
          obtain ⟨oc, od, dt, sl⟩ := o
          dsimp only at q2 q3
          subst q2 q3
          exact PySem.W.kia_tup Z I.kIn p q1 ka hx fun tk => ⟨.bl b, H, I.tok tk, rfl, fin⟩
        | ty n =>
          obtain ⟨y2, e3, e4⟩ := Option.bind_eq_some_iff.mp e2
          obtain ⟨w, k3, k4⟩ := cls_of h2 e3
          exact call_isi pins s σ H _ us Q I rv ⟨v, u, ty, w, b, rfl, k4, k2, G.ok.isi _ _ _ e4 _ _ k1 k3, fin⟩
        | glo n =>
          obtain ⟨y2, e3, e4⟩ := Option.bind_eq_some_iff.mp e2
          obtain ⟨w, k3, k4⟩ := cls_of h2 e3
          exact call_isi pins s σ H _ us Q I rv ⟨v, u, ty, w, b, rfl, k4, k2, G.ok.isi _ _ _ e4 _ _ k1 k3, fin⟩
        | _ => cases e2
      · cases e2
    · exact h.elim
  · exact h.elim
def biLen (ds : List D) (S : Sto) : R D := match ds with
    | [d] => (match flat S d with
      | .lst es => .ok (.int es.length) S
      | .tup es => .ok (.int es.length) S
      | .scr ns => .ok (.int ns.length) S
      | .str x => if x.length ≤ sizeLine then .ok (.int x.length) S else .bad
      | _ => .bad)
    | _ => .bad
theorem len_ok : CallR X (.builtin "len") (rL X biLen) := by
  intro pins s σ H vs us Q I rv ⟨E0, S, r, ds, e, hds, h⟩
  unfold biLen at h
  split at h
  · rename_i d
    obtain ⟨v, rfl, h1⟩ := hds.inv1
    have fx := flat_ok e h1
    generalize flat S d = cx at fx h
    split at h
    · obtain ⟨a, vs, rfl, f1, g1⟩ := fx
      exact call_len pins s σ H _ us Q I rv ⟨_, _, rfl, .inl ⟨vs, .inl (.inl f1), rfl⟩, out_v e h (by rw [Rep, g1.length])⟩
    · simp only [RepF, Rep] at fx
      obtain ⟨a, vs, rfl, f1, g1⟩ := fx
      exact call_len pins s σ H _ us Q I rv ⟨_, _, rfl, .inr ⟨vs, f1.sq, rfl⟩, out_v e h (by rw [Rep, g1.length])⟩
    · rename_i ns
      simp only [RepF, Rep] at fx
      obtain ⟨a, rfl, f1⟩ := fx
      exact call_len pins s σ H _ us Q I rv ⟨_, _, rfl, .inl ⟨_, f1.sq, rfl⟩, out_v e h (by rw [Rep, List.length_map])⟩
    · simp only [RepF, Rep] at fx
      subst fx
      split at h
      · rename_i hz
        exact call_len pins s σ H _ us Q I rv ⟨_, _, rfl, ⟨hz, rfl⟩, out_v e h (by rw [Rep])⟩
      · exact h.elim
    · exact h.elim
  · exact h.elim
def biInt (ds : List D) (S : Sto) : R D := match ds with
    | [.int i] => .ok (.int i) S
    | [.bl b] => .ok (.int (b2i b)) S
    | _ => .bad
theorem int_ok : CallR X (.type "int") (rL X biInt) := by
  intro pins s σ H vs us Q I rv ⟨E0, S, r, ds, e, hds, h⟩
  unfold biInt at h
  split at h
  · obtain ⟨v, rfl, h1⟩ := hds.inv1
    rw [Rep] at h1
    subst h1
    exact call_int1 pins s σ H _ us Q I rv (.inl ⟨_, rfl, out_v e h (by rw [Rep])⟩)
  · rename_i b
    obtain ⟨v, rfl, h1⟩ := hds.inv1
    rw [Rep] at h1
    subst h1
    exact call_int1 pins s σ H _ us Q I rv (.inr ⟨_, rfl, out_v e h (by rw [Rep]; cases b <;> rfl)⟩)
  · exact h.elim
def biBool (ds : List D) (S : Sto) : R D := match ds with
    | [.int i] => .ok (.bl (i != 0)) S
    | [.bl b] => .ok (.bl b) S
    | _ => .bad
theorem bool_ok : CallR X (.type "bool") (rL X biBool) := by
  intro pins s σ H vs us Q I rv ⟨E0, S, r, ds, e, hds, h⟩
  unfold biBool at h
  split at h
  · obtain ⟨v, rfl, h1⟩ := hds.inv1
    rw [Rep] at h1
    subst h1
    exact call_bool1 pins s σ H _ us Q I rv (.inl ⟨_, rfl, out_v e h (by rw [Rep])⟩)
  · rename_i b
    obtain ⟨v, rfl, h1⟩ := hds.inv1
    rw [Rep] at h1
    subst h1
    exact call_bool1 pins s σ H _ us Q I rv (.inr ⟨_, rfl, out_v e h (by rw [Rep])⟩)
  · exact h.elim
theorem ints_rep {Wx : Wd} {n : Nat} {r : Rho} {H : Hp} : ∀ ns : List Int, RepL Wx n r H (ns.map D.int) (ns.map V.int)
  | [] => RepL.nil
  | i :: ns => RepL.cons (by rw [Rep]) (ints_rep ns)
def biList (ds : List D) (S : Sto) : R D := match ds with
    | [d] => (match flat S d with
      | .lst es => .ok (.lst es) S
      | .tup es => .ok (.lst es) S
      | .scr ns => .ok (.lst (ns.map .int)) S
      | _ => .bad)
    | _ => .bad
theorem list_ok : CallR X (.type "list") (rL X biList) := by
  intro pins s σ H vs us Q I rv ⟨E0, S, r, ds, e, hds, h⟩
  unfold biList at h
  split at h
  · rename_i d
    obtain ⟨v, rfl, h1⟩ := hds.inv1
    have fx := flat_ok e h1
    generalize flat S d = cx at fx h
    split at h
    · obtain ⟨a, vs, rfl, f1, g1⟩ := fx
      exact call_list_of pins s σ H _ us Q I rv ⟨a, vs, rfl, .inl (.inl (.inl f1)), fun l hl => out_lst e h g1 hl⟩
    · simp only [RepF, Rep] at fx
      obtain ⟨a, vs, rfl, f1, g1⟩ := fx
      exact call_list_of pins s σ H _ us Q I rv ⟨a, vs, rfl, .inr f1.sq, fun l hl => out_lst e h g1 hl⟩
    · rename_i ns
      simp only [RepF, Rep] at fx
      obtain ⟨a, rfl, f1⟩ := fx
      exact call_list_of pins s σ H _ us Q I rv ⟨a, _, rfl, .inl f1.sq, fun l hl => out_lst e h (ints_rep ns) hl⟩
    · exact h.elim
  · exact h.elim
def biTup (ds : List D) (S : Sto) : R D := match ds with
    | [d] => (match flat S d with
      | .lst es => .ok (.tup es) S
      | .tup es => .ok (.tup es) S
      | _ => .bad)
    | _ => .bad
theorem tup_ok : CallR X (.type "tuple") (rL X biTup) := by
  intro pins s σ H vs us Q I rv ⟨E0, S, r, ds, e, hds, h⟩
  unfold biTup at h
  split at h
  · rename_i d
    obtain ⟨v, rfl, h1⟩ := hds.inv1
    have fx := flat_ok e h1
    generalize flat S d = cx at fx h
    split at h
    · obtain ⟨a, vs, rfl, f1, g1⟩ := fx
      exact call_tuple_of pins s σ H _ us Q I rv ⟨a, vs, rfl, .inl ⟨.inl (.inl f1), fun l hl => out_tup e h g1 hl⟩⟩
    · simp only [RepF, Rep] at fx
      obtain ⟨a, vs, rfl, f1, g1⟩ := fx
      exact call_tuple_of pins s σ H _ us Q I rv ⟨a, vs, rfl, .inr ⟨f1.sq, out_v e h (by rw [Rep]; exact ⟨a, vs, rfl, f1, g1⟩)⟩⟩
    · exact h.elim
  · exact h.elim
theorem bls_rep {Wx : Wd} {n : Nat} {r : Rho} {H : Hp} : ∀ {ds : List D} {bs : List Bool} {vs : List V}, blsD ds = some bs → RepL Wx n r H ds vs → vs = bs.map V.bl
  | [], bs, vs, h, g => by
    rw [blsD] at h
    cases h
    rw [RepL] at g
    exact g
  | d :: ds, bs, vs, h, g => by
    rw [RepL] at g
    obtain ⟨v, q, rfl, g1, g2⟩ := g
    cases d with
    | bl b =>
      rw [blsD, Option.map_eq_some_iff] at h
      obtain ⟨cs, h1, rfl⟩ := h
      rw [Rep] at g1
      rw [g1, bls_rep h1 g2]
      rfl
    | _ => simp [blsD] at h
def biAll (ds : List D) (S : Sto) : R D := match ds with
    | [d] => (match flat S d with
      | .lst es => (match blsD es with
        | some bs => .ok (.bl (bs.all id)) S
        | none => .bad)
      | _ => .bad)
    | _ => .bad
theorem all_ok (hc : X.calm = true) : CallR X (.builtin "all") (rL X biAll) := by
  intro pins s σ H vs us Q I rv ⟨E0, S, r, ds, e, hds, h⟩
  unfold biAll at h
  split at h
  · rename_i d
    obtain ⟨v, rfl, h1⟩ := hds.inv1
    have fx := flat_ok e h1
    generalize flat S d = cx at fx h
    split at h
    · obtain ⟨a, vs, rfl, f1, g1⟩ := fx
      split at h
      · rename_i bs hb
        exact cr_all hc pins s σ H _ us Q I rv ⟨a, bs, rfl, .inl (.inl (by rw [f1, bls_rep hb g1])), out_v e h (by rw [Rep])⟩
      · exact h.elim
    · exact h.elim
  · exact h.elim
def biAny (ds : List D) (S : Sto) : R D := match ds with
    | [d] => (match flat S d with
      | .lst es => (match blsD es with
        | some bs => .ok (.bl (bs.any id)) S
        | none => .bad)
      | _ => .bad)
    | _ => .bad
theorem any_ok (hc : X.calm = true) : CallR X (.builtin "any") (rL X biAny) := by
  intro pins s σ H vs us Q I rv ⟨E0, S, r, ds, e, hds, h⟩
  unfold biAny at h
  split at h
  · rename_i d
    obtain ⟨v, rfl, h1⟩ := hds.inv1
    have fx := flat_ok e h1
    generalize flat S d = cx at fx h
    split at h
    · obtain ⟨a, vs, rfl, f1, g1⟩ := fx
      split at h
      · rename_i bs hb
        exact cr_any hc pins s σ H _ us Q I rv ⟨a, bs, rfl, .inl (.inl (by rw [f1, bls_rep hb g1])), out_v e h (by rw [Rep])⟩
      · exact h.elim
    · exact h.elim
  · exact h.elim
end
end Fw

set_option Elab.async false
set_option linter.all false
set_option maxRecDepth 100000
set_option maxHeartbeats 4000000
namespace Fw
open PySem PySem.Spec PyProof.Rows L2
variable [Tb]
mutual
theorem toPy_nodict : ∀ (d : D) (p : PyData), toPy d = some p → p.hasDict = false
  | .non, _, e => by rw [toPy] at e; cases e; rfl
  | .bl _, _, e => by rw [toPy] at e; cases e; rfl
  | .int _, _, e => by rw [toPy] at e; cases e; rfl
  | .str _, _, e => by rw [toPy] at e; cases e; rfl
  | .tup ds, _, e => by
    rw [toPy, Option.map_eq_some_iff] at e
    obtain ⟨ps, e1, e2⟩ := e
    rw [← e2, PyData.hasDict]
    exact toPyL_nodict ds ps e1
  | .lst ds, _, e => by
    rw [toPy, Option.map_eq_some_iff] at e
    obtain ⟨ps, e1, e2⟩ := e
    rw [← e2, PyData.hasDict]
    exact toPyL_nodict ds ps e1
  | .ty _, _, e => by rw [toPy] at e; cases e
  | .glo _, _, e => by rw [toPy] at e; cases e
  | .scr _, _, e => by rw [toPy] at e; cases e
  | .ref _, _, e => by rw [toPy] at e; cases e
  | .dct _ _, _, e => by rw [toPy] at e; cases e
  | .obj _ _ _, _, e => by rw [toPy] at e; cases e
theorem toPyL_nodict : ∀ (ds : List D) (ps : List PyData), toPyL ds = some ps → PyData.hasDictAll ps = false
  | [], _, e => by rw [toPyL] at e; cases e; rfl
  | d :: ds, _, e => by
    rw [toPyL, Option.bind_eq_some_iff] at e
    obtain ⟨p, e1, e2⟩ := e
    rw [Option.map_eq_some_iff] at e2
    obtain ⟨ps, e3, e4⟩ := e2
    rw [← e4, PyData.hasDictAll, toPy_nodict d p e1, toPyL_nodict ds ps e3]
    rfl
end
def biRepr (ds : List D) (S : Sto) : R D := match ds with
    | [d] => (match toPy (flat S d) with
      | some p => if p.showable && (decide (p.depth ≤ 60) && decide (p.shown.length ≤ sizeLine)) then .ok (.str p.shown) S else .bad
      | none => .bad)
    | _ => .bad
section
variable {X : Cx} {W : Wm} {t : Sta} {k : Nat} {N : List Str} {sc : Scope} {a b c : Expr} {f g h : En → Sto → R D} {pos : Pos}
theorem repr_any {prog : Program} {w : World} {A : Around} {E : Value → Shared → Prop} {s : Shared} {Q : Value → Shared → Prop} {v : Value} {p : PyData} {as : List Addr} (rd : Reads s.heap v p as) (nd : p.hasDict = false) (hs : p.showable = true) (hg : A.guards = some []) (hu : A.units + (p.depth + 1) < cLine) (hz : p.shown.length ≤ sizeLine)
    (q : ∀ h' u tk, (∀ b o, s.heap.get? b = some o → h'.get? b = some o) → Q (.str p.shown u) { s with heap := h', toks := tk }) : wpAny (model prog w) A (call (.builtin "repr") [v]) Q E s := by
  have hr : ∀ {a : Addr}, Reads s.heap (.ref a) p as → wpAny (model prog w) A (call (.builtin "repr") [.ref a]) Q E s := fun r2 =>
    repr_of_reads' r2 hs (fun z => by rw [nd] at z; cases z) hg hu (fun _ _ z => z) q hz
  have same : ∀ u tk, Q (.str p.shown u) { s with toks := tk } := fun u tk => q s.heap u tk fun _ _ z => z
  cases p with
  | none => cases rd with
    | none => exact P.repr_of_none (same _ _)
  | bool b => cases rd with
    | bool => exact P.repr_of_bool (by have z := same s.toks (s.toks + 1); cases b <;> exact z)
  | int i => cases rd with
    | int => exact P.repr_of_int (of_decide_eq_true hs) (same _ _)
  | str x => cases rd with
    | str => exact P.repr_of_str (same _ _) hz
  | list xs => cases rd with
    | list h1 h2 h3 h4 => exact hr (.list h1 h2 h3 h4)
  | tuple xs => cases rd with
    | tuple h1 h2 h3 h4 => exact hr (.tuple h1 h2 h3 h4)
  | dict kvs => cases nd
theorem repr_ok (G : Good t k N sc X W) : CallR X (.builtin "repr") (rL X biRepr) := by
  intro pins s σ H vs us Q I rv ⟨E0, S, r, ds, e, hds, h⟩
  unfold biRepr at h
  split at h
  · rename_i d
    obtain ⟨v, rfl, h1⟩ := hds.inv1
    have fx := flat_ok e h1
    split at h
    · rename_i p hp
      split at h
      · rename_i hc
        simp only [Bool.and_eq_true, decide_eq_true_eq] at hc
        obtain ⟨c1, c2, c3⟩ := hc
        obtain ⟨u, rfl, ru⟩ := vals1 rv
        obtain ⟨as, rd⟩ := reads_of I fx hp ru
        have hu := G.un
        unfold RU at hu
        refine repr_any rd (toPy_nodict _ _ hp) c1 G.gd (by omega) c3 fun h' u' tk kp => ?_
        exact ⟨.str p.shown, H, I.kept (t' := tk) kp, ⟨_, rfl⟩, out_v e h (by rw [Rep])⟩
      · exact h.elim
    · exact h.elim
  · exact h.elim
theorem bi_fin {x : Str} {id : String} {p : Pos} {y : Expr} {ys : List Expr} {fs : En → Sto → R (List D)} {B : List D → Sto → R D} (G : Good t k N sc X W) (hg : glB sc x = true) (hF : x ∈ t.nm.F) (hn : nmB x = true) (hp : plainB (y :: ys) = true) (ha : PA X (y :: ys) (tL X W fs))
    (hc : CallR X (.builtin id) (rL X B)) (hv : bootBuiltins x = some (.builtin id)) : PE X (.Call (.Name x p) (y :: ys) [] pos) (tE X W (fun s S => (fs s S).bind fun ds S1 => B ds S1)) := by
  unfold nmB at hn
  simp only [Bool.and_eq_true, Bool.not_eq_true', decide_eq_false_iff_not] at hn
  unfold plainB at hp
  rw [List.all_cons, Bool.and_eq_true] at hp
  refine peI (pe_callB hc (gl_of G hg) (G.ok.free x hF) hv ha hn.2.2 hn.1 (star_of hp.1) (plain_any hp.2)) fun σ H Q hx => ?_
  obtain ⟨S, r, e, emb, he, oo⟩ := hx
  refine on_seq emb he oo fun xs S1 r1 H1 st1 emb1 he1 o1 vs hvs => ?_
  exact ⟨_, S1, r1, xs, emb1, hvs, o1⟩
theorem bi_finT {x : Str} {T : String} {p : Pos} {y : Expr} {ys : List Expr} {fs : En → Sto → R (List D)} {B : List D → Sto → R D} (G : Good t k N sc X W) (hg : glB sc x = true) (hF : x ∈ t.nm.F) (hn : nmB x = true) (hp : plainB (y :: ys) = true) (ha : PA X (y :: ys) (tL X W fs))
    (hc : CallR X (.type T) (rL X B)) (hv : bootBuiltins x = some (.type T)) : PE X (.Call (.Name x p) (y :: ys) [] pos) (tE X W (fun s S => (fs s S).bind fun ds S1 => B ds S1)) := by
  unfold nmB at hn
  simp only [Bool.and_eq_true, Bool.not_eq_true', decide_eq_false_iff_not] at hn
  unfold plainB at hp
  rw [List.all_cons, Bool.and_eq_true] at hp
  refine peI (pe_callTy hc (gl_of G hg) (G.ok.free x hF) hv ha hn.2.2 hn.1 (star_of hp.1) (plain_any hp.2)) fun σ H Q hx => ?_
  obtain ⟨S, r, e, emb, he, oo⟩ := hx
  refine on_seq emb he oo fun xs S1 r1 H1 st1 emb1 he1 o1 vs hvs => ?_
  exact ⟨_, S1, r1, xs, emb1, hvs, o1⟩
theorem cold_ok {v : Value} {B : List D → Sto → R D} (h : t.hot = none → CallR X v (rL X B)) : CallR X v (rL X (fun ds S => t.cold (B ds S))) := by
  intro pins s σ H vs us Q I rv ⟨E0, S, r, ds, e, hds, o⟩
  unfold Sta.cold at o
  split at o
  · rename_i hh
    exact h (by simpa using hh) pins s σ H vs us Q I rv ⟨E0, S, r, ds, e, hds, o⟩
  · exact o.elim
theorem c_bi {x : Str} {p : Pos} {y : Expr} {ys : List Expr} {fs : En → Sto → R (List D)} (G : Good t k N sc X W) (hb : x ∈ biNames) (hg : glB sc x = true) (hF : x ∈ t.nm.F) (hn : nmB x = true) (hp : plainB (y :: ys) = true) (ha : PA X (y :: ys) (tL X W fs)) :
    PE X (.Call (.Name x p) (y :: ys) [] pos) (tE X W (fun s S => (fs s S).bind fun ds S1 => biD t x ds S1)) := by
  by_cases h1 : x = "len"
  · subst h1
    exact bi_fin G hg hF hn hp ha len_ok (by decide +kernel)
  by_cases h2 : x = "isinstance"
  · subst h2
    exact bi_fin G hg hF hn hp ha (isi_ok G) (by decide +kernel)
  by_cases h3 : x = "int"
  · subst h3
    exact bi_finT G hg hF hn hp ha int_ok (by decide +kernel)
  by_cases h4 : x = "bool"
  · subst h4
    exact bi_finT G hg hF hn hp ha bool_ok (by decide +kernel)
  by_cases h5 : x = "list"
  · subst h5
    exact bi_finT G hg hF hn hp ha list_ok (by decide +kernel)
  by_cases h6 : x = "tuple"
  · subst h6
    exact bi_finT G hg hF hn hp ha tup_ok (by decide +kernel)
  by_cases h7 : x = "repr"
  · subst h7
    exact bi_fin G hg hF hn hp ha (repr_ok G) (by decide +kernel)
  by_cases h8 : x = "all"
  · subst h8
    exact bi_fin G hg hF hn hp ha (cold_ok (t := t) fun hh => all_ok (G.cold hh).1) (by decide +kernel)
  by_cases h9 : x = "any"
  · subst h9
    exact bi_fin G hg hF hn hp ha (cold_ok (t := t) fun hh => any_ok (G.cold hh).1) (by decide +kernel)
  simp only [biNames, List.mem_cons, List.not_mem_nil, or_false] at hb
  exact absurd hb (by simp only [h1, h2, h3, h4, h5, h6, h7, h8, h9, or_self, not_false_eq_true])
/-! o.m(..) -/
def rM (X : Cx) (B : D → List D → Sto → R D) : V → List V → Hp → VK → Prop := fun x xs H Q => ∃ E S r d ds, Emb (Wo X) S r H ∧ Rep (Wo X) S.length r H d x ∧ RepL (Wo X) S.length r H ds xs ∧ Out (Wo X) S.length r H (Gv X Q) E (B d ds S)
theorem base_of {o : Expr} {m : Str} {env : Env} (h : baseB o = true) : attributeBase o m env (eval o env) = eval o env := by
  unfold attributeBase
  cases o with
  | Call f xs kws p =>
    cases xs with
    | nil =>
      cases kws with
      | nil => cases h
      | cons => cases f <;> rfl
    | cons => cases f <;> rfl
  | _ => rfl
theorem mt_fin {T id : String} {m : Str} {o y : Expr} {ys : List Expr} {apos : Pos} {fs : En → Sto → R (List D)} {B : D → List D → Sto → R D} (hb : baseB o = true) (hl : (apos.endLine == pos.line) = true) (h20 : ys.length < 20) (hp : plainB (y :: ys) = true) (ho : PE X o (tE X W f)) (ha : PA X (y :: ys) (tL X W fs))
    (pa : PlainAttrs T) (slot : Slot T m id) (hty : typeOf (.builtin id) = pure (.type "method_descriptor")) (hm : MtR X id (rM X B)) (rc : D → Bool)
    (hrc : ∀ {S : Sto} {r : Rho} {H : Hp} {d : D} {v : V}, Emb (Wo X) S r H → Rep (Wo X) S.length r H d v → rc (flat S d) = true → tyV X.K T v H) :
    PE X (.Call (.Attribute o m apos) (y :: ys) [] pos) (tE X W (fun s S => (f s S).bind fun x S1 => if rc (flat S1 x) = true then ((fs s S1).bind fun ds S2 => B x ds S2) else .bad)) := by
  have hp0 := hp
  unfold plainB at hp
  rw [List.all_cons, Bool.and_eq_true] at hp
  have few : ((backTo pos (starEach (y :: ys) X.env)).all (fun x => !x.1) && (backToKw pos (keywordEach [] X.env)).all (fun x => x.1.isSome) && decide ((y :: ys).length + ([] : List Keyword).length + (if ([] : List Keyword).isEmpty then 0 else 1) < 30)) = true := by
    rw [plain_all hp0, Bool.true_and, Bool.and_eq_true]
    refine ⟨rfl, decide_eq_true ?_⟩
    simp only [List.length_cons, List.length_nil, List.isEmpty_nil, if_true]
    omega
  refine peI (pe_bm pa slot hty hm ho ha (base_of hb) few hl (star_of hp.1) (plain_any hp.2)) fun σ H Q hx => ?_
  obtain ⟨S, r, e, emb, he, oo⟩ := hx
  refine on_seq emb he oo fun x S1 r1 H1 st1 emb1 he1 o1 v hv => ?_
  split at o1
  · rename_i hr
    refine ⟨hrc emb1 hv hr, ?_⟩
    refine on_seq emb1 he1 o1 fun xs S2 r2 H2 st2 emb2 he2 o2 vs hvs => ?_
    exact ⟨_, S2, r2, x, xs, emb2, Rep.stp st2 _ _ hv, hvs, o2⟩
  · exact o1.elim
theorem rc_list {S : Sto} {r : Rho} {H : Hp} {d : D} {v : V} (emb : Emb (Wo X) S r H) (hd : Rep (Wo X) S.length r H d v) (h : isLstD (flat S d) = true) : tyV X.K "list" v H := by
  have fx := flat_ok emb hd
  generalize flat S d = cx at fx h
  cases cx with
  | lst ds =>
    obtain ⟨a, vs, rfl, f1, _⟩ := fx
    exact .inl ⟨rfl, vs, .inl (.inl f1)⟩
  | _ => cases h
def mtApp (x : D) (ds : List D) (S : Sto) : R D := match x, ds with
    | .ref l, [d] => (match S[l]? with
      | some (.lst es) => if es.length < sizeLine then putO l (.lst (es ++ [d])) .non S else .bad
      | _ => .bad)
    | _, _ => .bad
theorem out_set {S : Sto} {r : Rho} {H : Hp} {l : Nat} {u : HO} {o : O} {d : D} {v : V} {Q : VK} {E : Xc → Sto → Rho → Hp → Prop} (e : Emb (Wo X) S r H) (hl : l < S.length) (h : Out (Wo X) S.length r H (Gv X Q) E (.ok d (S.set l o)))
    (ho : ORep (Wo X) S.length r (upd H (r l) u) (r l) o) (hd : Rep (Wo X) S.length r (upd H (r l) u) d v) : Q v (upd H (r l) u) := by
  have hz : (S.set l o).length = S.length := List.length_set
  exact h r _ (by rw [hz]; exact stp_set (W := Wo X) hl) (emb_set e hl ho) v (by rw [hz]; exact hd)
theorem app_ok2 : MtR X "list.append" (rM X mtApp) := by
  intro pins s σ H x xs v us Q I rx rv ⟨E0, S, r, d, ds, e, hd, hds, h⟩
  unfold mtApp at h
  split at h
  · rename_i l d
    split at h
    · rename_i es hq
      split at h
      · rename_i hz
        obtain ⟨y, rfl, hy⟩ := hds.inv1
        rw [Rep] at hd
        obtain ⟨hl, rfl⟩ := hd
        obtain ⟨vs, z1, z2⟩ := e.at_ l _ hq
        have st := stp_set (W := Wo X) (S := S) (r := r) (H := H) (l := l) (u := .lst (vs ++ [y])) hl
        refine mt_append pins s σ H _ _ v us Q I rx rv ⟨r l, vs, y, rfl, rfl, z1, by rw [z2.length]; exact hz, ?_⟩
        exact out_set e hl h ⟨_, upd_same, RepL.append (RepL.stp st _ _ z2) (RepL.one (Rep.stp st _ _ hy))⟩ (by rw [Rep])
      · exact h.elim
    · exact h.elim
  · exact h.elim
def mtPop (x : D) (ds : List D) (S : Sto) : R D := match x, ds with
    | .ref l, [.int i] => (match S[l]? with
      | some (.lst es) => (match es, i with
        | e :: r, 0 => putO l (.lst r) e S
        | _, _ => .bad)
      | _ => .bad)
    | _, _ => .bad
theorem pop_ok2 : MtR X "list.pop" (rM X mtPop) := by
  intro pins s σ H x xs v us Q I rx rv ⟨E0, S, r, d, ds, e, hd, hds, h⟩
  unfold mtPop at h
  split at h
  · rename_i l i
    split at h
    · rename_i es hq
      split at h
      · rename_i y ys
        obtain ⟨iv, rfl, hy⟩ := hds.inv1
        simp only [Rep] at hd hy
        obtain ⟨hl, rfl⟩ := hd
        subst hy
        obtain ⟨vs, z1, z2⟩ := e.at_ l _ hq
        rw [RepL] at z2
        obtain ⟨w, ws, rfl, z3, z4⟩ := z2
        have st := stp_set (W := Wo X) (S := S) (r := r) (H := H) (l := l) (u := .lst ws) hl
        refine mt_popAt pins s σ H _ _ v us Q I rx rv ⟨r l, w :: ws, 0, 0, w, rfl, rfl, z1, by omega, by omega, ?_, rfl, ?_⟩
        · rw [seqIndex_of (by omega) (by simp)]
          rfl
        · exact out_set e hl h ⟨_, upd_same, RepL.stp st _ _ z4⟩ (Rep.stp st _ _ z3)
      · exact h.elim
    · exact h.elim
  · exact h.elim
def mtIdx (x : D) (ds : List D) (S : Sto) : R D := match flat S x, ds with
    | .lst es, [.str y] => (match es.findIdx? (eqStrD y) with
      | some j => if es.all isStrD then .ok (.int j) S else .bad
      | none => .bad)
    | _, _ => .bad
theorem strs_rep {Wx : Wd} {n : Nat} {r : Rho} {H : Hp} : ∀ {ds : List D} {vs : List V}, RepL Wx n r H ds vs → ds.all isStrD = true → vs.all flatV = true ∧ ∀ (y : Str) (j : Nat) (z : V), vs[j]? = some z → ∃ d, ds[j]? = some d ∧ eqV z (.str y) = eqStrD y d
  | [], vs, h, _ => by
    rw [RepL] at h
    subst h
    exact ⟨rfl, fun y j z hz => by simp at hz⟩
  | d :: ds, vs, h, hs => by
    rw [RepL] at h
    obtain ⟨v, q, rfl, h1, h2⟩ := h
    rw [List.all_cons, Bool.and_eq_true] at hs
    obtain ⟨a1, a2⟩ := strs_rep h2 hs.2
    cases d with
    | str x =>
      rw [Rep] at h1
      subst h1
      refine ⟨by rw [List.all_cons, a1]; rfl, fun y j z hz => ?_⟩
      cases j with
      | zero =>
        have hz : V.str x = z := by simpa using hz
        subst hz
        refine ⟨_, rfl, ?_⟩
        show (x == y) = decide (x = y)
        by_cases hxy : x = y
        · subst hxy
          simp
        · rw [decide_eq_false hxy]
          simpa using hxy
      | succ j => exact a2 y j z (by simpa using hz)
    | _ => cases hs.1
theorem idx_ok2 : MtR X "list.index" (rM X mtIdx) := by
  intro pins s σ H x xs v us Q I rx rv ⟨E0, S, r, d, ds, e, hd, hds, h⟩
  unfold mtIdx at h
  have fx := flat_ok e hd
  generalize flat S d = cx at fx h
  split at h
  · rename_i es y
    obtain ⟨iv, rfl, hy⟩ := hds.inv1
    rw [Rep] at hy
    subst hy
    obtain ⟨a, vs, rfl, f1, g1⟩ := fx
    split at h
    · rename_i j hj
      split at h
      · rename_i hs
        obtain ⟨b1, b2⟩ := strs_rep g1 hs
        obtain ⟨hlt, c1, c2⟩ := List.findIdx?_eq_some_iff_getElem.mp hj
        obtain ⟨z, hz, _⟩ := g1.get (List.getElem?_eq_getElem hlt)
        obtain ⟨d1, e1, e2⟩ := b2 y j z hz
        rw [List.getElem?_eq_getElem hlt] at e1
        cases e1
        refine mt_index pins s σ H _ _ v us Q I rx rv ⟨a, vs, _, j, z, rfl, rfl, .inl (.inl f1), rfl, b1, hz, by rw [e2]; exact c1, fun m z' hm hz' => ?_, out_v e h (by rw [Rep])⟩
        obtain ⟨d2, e3, e4⟩ := b2 y m z' hz'
        rw [List.getElem?_eq_getElem (Nat.lt_trans hm hlt)] at e3
        cases e3
        rw [e4]
        simpa using c2 m hm
      · exact h.elim
    · exact h.elim
  · exact h.elim
theorem c_mt {m : Str} {o y : Expr} {ys : List Expr} {apos : Pos} {fs : En → Sto → R (List D)} (hk : m ∈ mtNames) (hb : baseB o = true) (hl : (apos.endLine == pos.line) = true) (h20 : ys.length < 20) (hp : plainB (y :: ys) = true) (ho : PE X o (tE X W f)) (ha : PA X (y :: ys) (tL X W fs)) :
    PE X (.Call (.Attribute o m apos) (y :: ys) [] pos) (tE X W (fun s S => (f s S).bind fun x S1 => if rcvB m (flat S1 x) = true then ((fs s S1).bind fun ds S2 => mtD m x ds S2) else .bad)) := by
  by_cases h1 : m = "append"
  · subst h1
    exact mt_fin hb hl h20 hp ho ha F.plainAttrs_list PySem.F.slot_list_append PySem.F.type_list_append app_ok2 isLstD rc_list
  by_cases h2 : m = "pop"
  · subst h2
    exact mt_fin hb hl h20 hp ho ha F.plainAttrs_list PySem.F.slot_list_pop PySem.F.type_list_pop pop_ok2 isLstD rc_list
  by_cases h3 : m = "index"
  · subst h3
    exact mt_fin hb hl h20 hp ho ha F.plainAttrs_list PySem.F.slot_list_index PySem.F.type_list_index idx_ok2 isLstD rc_list
  simp only [mtNames, List.mem_cons, List.not_mem_nil, or_false] at hk
  exact absurd hk (by simp only [h1, h2, h3, or_self, not_false_eq_true])
end
end Fw

set_option Elab.async false
set_option linter.all false
set_option maxRecDepth 100000
set_option maxHeartbeats 4000000
namespace Fw
open PySem PySem.Spec PyProof.Rows L2
variable [Tb]
section
variable {X : Cx} {W : Wm} {t : Sta} {k : Nat} {N : List Str} {sc : Scope} {a b c : Expr} {f g h : En → Sto → R D} {pos : Pos}
/-! the error of an except suite -/
def rIsX (X : Cx) (t : Sta) (x : Xc) (a : Addr) : List V → Hp → VK → Prop := fun vs H Q => ∃ E S r c cv, vs = [.ref a, cv] ∧ Emb (Wo X) S r H ∧ Rep (Wo X) S.length r H c cv ∧ Out (Wo X) S.length r H (Gv X Q) E (match isiX t.I x.C c with
      | some b => .ok (.bl b) S
      | none => .bad)
theorem isx_ok {X : Cx} {a D0 : Addr} {oe : Obj} {pn : List (Addr × Obj)} {x : Xc} (hI : ∀ a b q, t.I a b = some q → ∀ u v, clsAt X.mg a u → clsAt X.mg b v → PySem.W.kitOne X.K u v = some q) (C : ExcC X.K D0) (hz : Zc (.ref D0) none oe) (hf : ∃ vs, oe.data = .fields vs) (hm : X.mg x.C = some (.ref D0)) :
    CallR (X.suite a ((a, oe) :: pn)) (.builtin "isinstance") (rIsX (X.suite a ((a, oe) :: pn)) t x a) := by
  intro pins s σ H vs us Q I rv ⟨E0, S, r, c, cv, e1, e, hc, h⟩
  subst e1
  obtain ⟨u1, u2, rfl, r1, r2⟩ := vals2 rv
  cases (show u1 = Value.ref a from r1)
  obtain ⟨hget, _⟩ := I.pin (a, oe) (List.mem_append.mpr (.inl List.mem_cons_self))
  obtain ⟨fs, hv⟩ := hf
  have J : PySem.W.InstAt s.heap a oe D0 none := by
    obtain ⟨oc, od, oda, osl⟩ := oe
    obtain ⟨z1, z2⟩ := hz
    dsimp only at z1 z2 hv
    subst z1 z2 hv
    exact ⟨hget, rfl, rfl, trivial⟩
  have KX := PySem.W.handS_kitx_exc (x := a) (ox := oe) C.hg C.hk C.hs C.hd C.ha C.hn C.ht C.hm
  have k1 : clsAt X.mg (.inr x.C) (.ref D0) := ⟨hm, D0, rfl⟩
  split at h
  · rename_i b hb
    have fin : Q (.bl b) H := out_v e h (by rw [Rep])
    have one : ∀ {y : Sum String Str}, clsD c = some y → t.I (.inr x.C) y = some b → wpAny (model X.prog X.w) (X.suite a ((a, oe) :: pn)).A (call (.builtin "isinstance") [.ref a, u2]) (EP (X.suite a ((a, oe) :: pn)) pins σ Q) (X.suite a ((a, oe) :: pn)).xe s := fun {y} e3 e4 => by
      obtain ⟨w, k3, k4⟩ := cls_of hc e3
      have ew := k4.eq r2
      subst ew
      exact PySem.W.kia_one KX I.kIn J (hI _ _ _ e4 _ _ k1 k3) (fun z => nomatch z) fun tk => ⟨.bl b, H, I.kept (t' := tk) fun _ _ z => z, rfl, fin⟩
    unfold isiX at hb
    cases c with
    | tup cs =>
      dsimp only at hb
      rw [Rep] at hc
      obtain ⟨p, ws, rfl, f, g1⟩ := hc
      cases (show u2 = Value.ref p from r2)
      obtain ⟨its, rw', ⟨o, q1, q2, n, q3⟩, _⟩ := I.tuple f.sq
      have ka := kit_any (Wx := Wo (X.suite a ((a, oe) :: pn))) rfl hI k1 g1 rw' hb
      obtain ⟨oc, od, dt, sl⟩ := o
      dsimp only at q2 q3
      subst q2 q3
      exact PySem.W.kia_tup KX I.kIn J q1 ka (fun z => nomatch z) fun tk => ⟨.bl b, H, I.kept (t' := tk) fun _ _ z => z, rfl, fin⟩
    | ty n =>
      obtain ⟨y2, e3, e4⟩ := Option.bind_eq_some_iff.mp hb
      exact one e3 e4
    | glo n =>
      obtain ⟨y2, e3, e4⟩ := Option.bind_eq_some_iff.mp hb
      exact one e3 e4
    | _ => cases hb
  · exact h.elim
theorem nm_of {x : Str} (hn : nmB x = true) : (x == ("__debug__" : Str)) = false ∧ (x == ("__classdict__" : Str)) = false ∧ x ≠ "__name__" := by
  unfold nmB at hn
  simpa only [Bool.and_eq_true, Bool.not_eq_true', decide_eq_false_iff_not] using hn
theorem pe_bad {e : Expr} {F : En → Sto → R D} (h : ∀ s S, F s S = .bad) : PE X e (tE X W F) := ⟨fun pins s σ H Q I ⟨S, r, en, emb, he, o⟩ => by
  rw [h] at o
  exact o.elim⟩
theorem c_isE {i : Nat} {y : Str} {p1 p2 : Pos} (G : Good t k N sc X W) (hg : glB sc "isinstance" = true) (hF : ("isinstance" : Str) ∈ t.nm.F) (hi : N[i]? = some y) (hv : visB sc y = true) (hn : nmB y = true) (hs : notStar b = true) (hb : PE X b (tE X W f)) :
    PE X (.Call (.Name "isinstance" p1) [.Name y p2, b] [] pos) (tE X W (fun s S => match t.hot with
    | some (some j, x) => if i = j ∧ x.ks = [] then ((f s S).bind fun c S1 => match isiX t.I x.C c with
      | some b => .ok (.bl b) S1
      | none => .bad) else .bad
    | _ => .bad)) := by
  cases hh : t.hot with
  | none => exact pe_bad fun _ _ => rfl
  | some z =>
    obtain ⟨j0, x⟩ := z
    cases j0 with
    | none => exact pe_bad fun _ _ => rfl
    | some j =>
      by_cases hc : i = j ∧ x.ks = []
      · obtain ⟨rfl, hx⟩ := hc
        obtain ⟨X0, a, D0, oe, dd, pn, eX, hz, hf, hC, hXf, hm, hI⟩ := G.hot i x hh
        subst eX
        obtain ⟨n1, n2, n3⟩ := nm_of hn
        have hg2 := gl_of G hg
        have hvar := pe_var (X := X0.suite a ((a, oe) :: pn)) (pos := p2) (i := i) (x := y) (by rw [G.hN]; exact hi) (by rw [G.hs]; exact vis_of hv) n1 n2
        by_cases hdd : dd = none
        · subst hdd
          have hcall := isx_ok (X := X0) (t := t) (x := x) (pn := pn) (a := a) (D0 := D0) (oe := oe) G.ok.isi hC hz hf hm
          refine peI (pe_callB hcall hg2 (G.ok.free _ hF) (by decide +kernel) (pa_cons hvar (pa_cons hb pa_nil (star_of hs)) rfl) (by decide) (by decide) rfl (by rw [star_of hs]; rfl)) fun σ H Q hq => ?_
          obtain ⟨S, r, e, emb, he, oo⟩ := hq
          dsimp only at oo
          rw [if_pos (And.intro rfl hx)] at oo
          obtain ⟨hs1, _⟩ := hI _ _ _ _ he.inv
          refine ⟨_, hs1, ?_⟩
          refine on_seq emb he oo fun c S1 r1 H1 st1 emb1 he1 o1 v hv => ?_
          exact ⟨_, S1, r1, c, v, rfl, emb1, hv, o1⟩
        · refine ⟨fun pins s σ H Q I ⟨S, r, e, emb, he, oo⟩ => ?_⟩
          obtain ⟨_, hx2⟩ := hI _ _ _ _ he.inv
          obtain ⟨c, q1, q2, q3⟩ := hx2
          rcases q3 with ⟨_, q3⟩ | ⟨_, _, _, _, _, _, _, q3⟩
          · exact absurd q3 hdd
          · exact absurd hx q3
      · exact pe_bad fun _ _ => if_neg hc
theorem look_rep {Wx : Wd} {n : Nat} {r : Rho} {H : Hp} (g : Str) : ∀ {ks : List Str} {ds : List D} {fs : List (Str × V)} {d : D}, fs.map Prod.fst = ks → RepL Wx n r H ds (fs.map Prod.snd) → lookD ks ds g = some d → ∃ v, fs.lookup g = some v ∧ Rep Wx n r H d v
  | ks, ds, [], d, hk, hr, h => by
    rw [List.map_nil] at hk
    subst hk
    simp [lookD] at h
  | ks, ds, p :: fs, d, hk, hr, h => by
    rw [List.map_cons] at hk
    subst hk
    cases ds with
    | nil => rw [RepL] at hr; cases hr
    | cons e ds =>
      rw [List.map_cons, RepL] at hr
      obtain ⟨v, q, e1, h1, h2⟩ := hr
      injection e1 with e1 e2
      subst e1 e2
      rw [lookD] at h
      obtain ⟨p1, p2⟩ := p
      rw [List.lookup_cons]
      by_cases c : (g == p1) = true
      · rw [if_pos c] at h
        cases h
        rw [c]
        exact ⟨p2, rfl, h1⟩
      · rw [if_neg c] at h
        have c2 : (g == p1) = false := by simpa using c
        rw [c2]
        exact look_rep g rfl h2 h
theorem c_fldE {i : Nat} {y g : Str} {p1 : Pos} (G : Good t k N sc X W) (hi : N[i]? = some y) (hv : visB sc y = true) (hn : nmB y = true) :
    PE X (.Attribute (.Name y p1) g pos) (tE X W (fun _ S => match t.hot with
    | some (some j, x) => if i = j ∧ (x.C, g) ∈ t.XF then (match lookD x.ks x.ds g with
      | some d => .ok d S
      | none => .bad) else .bad
    | _ => .bad)) := by
  cases hh : t.hot with
  | none => exact pe_bad fun _ _ => rfl
  | some z =>
    obtain ⟨j0, x⟩ := z
    cases j0 with
    | none => exact pe_bad fun _ _ => rfl
    | some j =>
      by_cases hc : i = j ∧ (x.C, g) ∈ t.XF
      · obtain ⟨rfl, hxf⟩ := hc
        obtain ⟨X0, a, D0, oe, dd, pn, eX, hz, hf, hC, hXf, hm, hI⟩ := G.hot i x hh
        subst eX
        obtain ⟨n1, n2, n3⟩ := nm_of hn
        have hvar := pe_var (X := X0.suite a ((a, oe) :: pn)) (pos := p1) (i := i) (x := y) (by rw [G.hN]; exact hi) (by rw [G.hs]; exact vis_of hv) n1 n2
        refine peI (pe_xf hXf (G.ok.xf _ _ _ hxf hm) hz hf hvar) fun σ H Q hq => ?_
        obtain ⟨S, r, e, emb, he, oo⟩ := hq
        dsimp only at oo
        rw [if_pos (And.intro rfl hxf)] at oo
        obtain ⟨hs1, hx2⟩ := hI _ _ _ _ he.inv
        refine ⟨_, hs1, rfl, rfl, ?_⟩
        split at oo
        · rename_i d hd
          obtain ⟨c, q1, q2, q3⟩ := hx2
          rcases q3 with ⟨q3, _⟩ | ⟨d1, fs, q3, q4, q5, q6, q7, q8⟩
          · rw [q3] at hd
            simp [lookD] at hd
          · obtain ⟨v, l1, l2⟩ := look_rep g q6 q7 hd
            exact ⟨d1, fs, v, q3, q4, l1, out_v emb oo l2⟩
        · exact oo.elim
      · exact pe_bad fun _ _ => if_neg hc
/-! a closure is called -/
theorem c_act {i : Nat} {y : Str} {p1 : Pos} (G : Good t k N sc X W) (hi : N[i]? = some y) (hv : visB sc y = true) (hn : nmB y = true) : PE X (.Call (.Name y p1) [] [] pos) (tE X W (fun _ S => match t.thk with
    | some (j, th) => if i = j then t.cold (th S) else .bad
    | none => .bad)) := by
  cases hh : t.thk with
  | none => exact pe_bad fun _ _ => rfl
  | some z =>
    obtain ⟨j, th⟩ := z
    by_cases hc : i = j
    · subst hc
      cases ht : t.hot with
      | none =>
        obtain ⟨f, c', q, e0, σ0, ⟨hex, j, rj, T⟩, hI⟩ := G.thk i th ht hh
        obtain ⟨g1, g2, g3⟩ := G.cold ht
        obtain ⟨n1, n2, n3⟩ := nm_of hn
        refine ⟨fun pins s σ H Q I hx => ?_⟩
        obtain ⟨S, r, e, emb, he, oo⟩ := hx
        have oo : Out (Wo X) S.length r H (Gv X Q) (GE X W σ) (if i = i then t.cold (th S) else R.bad) := oo
        rw [if_pos rfl] at oo
        unfold Sta.cold at oo
        rw [ht] at oo
        obtain ⟨z1, z2, z3⟩ := hI _ _ _ _ he.inv
        refine wpAny_Call_Name_kw (thn ((pe_var (pos := p1) (i := i) (by rw [G.hN]; exact hi) (by rw [G.hs]; exact vis_of hv) n1 n2).run pins s σ H (fun v H1 => v = .ref f ∧ H1 = H) I ⟨.ref f, z1, rfl, rfl⟩) fun u s1 ⟨v, H1, I1, r1, q1⟩ => ?_)
        obtain ⟨ev, eH⟩ := q1
        subst ev eH
        obtain rfl : u = Value.ref f := r1
        have un : Un (frs X.outer) [] X.H_0 H1 X.s_0.heap s1.heap := by
          have b := I1.base
          rw [hex] at b
          exact b
        refine PySem.W.callWith_F0 (T.fn _ _ un) ?_
        refine wpAny_call (codeAny_mono (T.run X.A X.stack s1 H1 S r Q (fun cls dd H' => W.w cls dd σ H') rj G.gd I1.env0 un emb z2 z3 oo) fun qq s' hq => ?_)
        cases qq with
        | error e => exact g3 e s' (XE.of_call I1 (fun cls d H' w => w) hq)
        | ok fl =>
          cases fl with
          | ret u => exact I1.after hq
          | next => exact False.elim hq
          | brk => exact False.elim hq
          | cont => exact False.elim hq
      | some w =>
        refine pe_bad fun _ S => ?_
        show (if i = i then t.cold (th S) else R.bad) = R.bad
        rw [if_pos rfl]
        unfold Sta.cold
        rw [ht]
        rfl
    · exact pe_bad fun _ _ => if_neg hc
end
end Fw

set_option Elab.async false
set_option linter.all false
set_option maxRecDepth 100000
set_option maxHeartbeats 4000000
namespace Fw
open PySem PySem.Spec PyProof.Rows L2
variable [Tb]
/-! a place becomes a value -/
theorem fz_less {n m : Nat} {r : Rho} {a : Addr} (h : m ≤ n) (f : Fz n r a) : Fz m r a := fun l hl => f l (Nat.lt_of_lt_of_le hl h)
section
variable {W : Wd} {n m : Nat} {r : Rho} {H : Hp}
mutual
theorem Rep.less (hm : m ≤ n) : ∀ (d : D) (v : V), d.closed m = true → Rep W n r H d v → Rep W m r H d v
  | .non, _, _, h => by unfold Rep at *; exact h
  | .bl _, _, _, h => by unfold Rep at *; exact h
  | .int _, _, _, h => by unfold Rep at *; exact h
  | .str _, _, _, h => by unfold Rep at *; exact h
  | .ty _, _, _, h => by unfold Rep at *; exact h
  | .glo _, _, _, h => by unfold Rep at *; exact h
  | .scr ns, _, _, h => by
    unfold Rep at *
    obtain ⟨a, e, f⟩ := h
    refine ⟨a, e, ?_⟩
    rcases f with ⟨f1, f2⟩ | f
    · exact .inl ⟨f1, fz_less hm f2⟩
    · exact .inr f
  | .ref l, _, c, h => by
    unfold Rep at *
    unfold D.closed at c
    exact ⟨of_decide_eq_true c, h.2⟩
  | .tup ds, _, c, h => by
    unfold Rep at *
    unfold D.closed at c
    obtain ⟨a, vs, e, f, q⟩ := h
    refine ⟨a, vs, e, ?_, RepL.less hm ds vs c q⟩
    rcases f with ⟨f1, f2⟩ | f
    · exact .inl ⟨f1, fz_less hm f2⟩
    · exact .inr f
  | .lst ds, _, c, h => by
    unfold Rep at *
    unfold D.closed at c
    obtain ⟨a, vs, e, f, q⟩ := h
    exact ⟨a, vs, e, ⟨f.1, fz_less hm f.2⟩, RepL.less hm ds vs c q⟩
  | .dct ks ds, _, c, h => by
    unfold Rep at *
    unfold D.closed at c
    obtain ⟨a, kvs, e, f1, f2, k, q⟩ := h
    exact ⟨a, kvs, e, f1, fz_less hm f2, k, RepL.less hm ds _ c q⟩
  | .obj C ks ds, _, c, h => by
    unfold Rep at *
    unfold D.closed at c
    obtain ⟨a, c1, dx, fs, e, m1, f1, f2, k, q⟩ := h
    exact ⟨a, c1, dx, fs, e, m1, f1, fz_less hm f2, k, RepL.less hm ds _ c q⟩
theorem RepL.less (hm : m ≤ n) : ∀ (ds : List D) (vs : List V), closedL m ds = true → RepL W n r H ds vs → RepL W m r H ds vs
  | [], _, _, h => by unfold RepL at *; exact h
  | d :: ds, _, c, h => by
    unfold RepL at *
    unfold closedL at c
    rw [Bool.and_eq_true] at c
    obtain ⟨v, q, e, h1, h2⟩ := h
    exact ⟨v, q, e, Rep.less hm d v c.1 h1, RepL.less hm ds q c.2 h2⟩
end
theorem ORep.less (hm : m ≤ n) {a : Addr} : ∀ {o : O}, o.closed m = true → ORep W n r H a o → ORep W m r H a o
  | .lst _, c, ⟨vs, h, q⟩ => ⟨vs, h, RepL.less hm _ _ c q⟩
  | .dct _ _, c, ⟨kvs, h, e, q⟩ => ⟨kvs, h, e, RepL.less hm _ _ c q⟩
  | .ins _ _ _, c, ⟨c1, dx, fs, m, h, e, q⟩ => ⟨c1, dx, fs, m, h, e, RepL.less hm _ _ c q⟩
theorem emb_take {S : Sto} (e : Emb W S r H) (hm : m ≤ S.length) (c : (S.take m).all (O.closed m) = true) : Emb W (S.take m) r H := by
  have hl : (S.take m).length = m := by rw [List.length_take]; omega
  refine ⟨fun l l' h1 h2 q => e.inj l l' (by rw [hl] at h1; omega) (by rw [hl] at h2; omega) q, fun l o q => ?_, e.tabs⟩
  rw [hl]
  have q2 : S[l]? = some o := by
    rw [List.getElem?_take] at q
    split at q
    · exact q
    · cases q
  exact (e.at_ l o q2).less hm (List.all_eq_true.mp c o (List.mem_of_getElem? q))
theorem stp_less {n' : Nat} {r' : Rho} {H' : Hp} (s : Stp n r H n' r' H') (h1 : n ≤ m) (h2 : m ≤ n') : Stp n r H m r' H' :=
  ⟨h1, s.eq, fun a o h f t => ⟨(s.fz a o h f t).1, fz_less h2 (s.fz a o h f t).2⟩⟩
theorem thaw_ok {S S' : Sto} {d : D} (e : Emb W S r H) (h : thaw n S = .ok d S') : S'.length = n ∧ n ≤ S.length ∧ Emb W S' r H ∧ Rep W n r H d (.ref (r n)) := by
  unfold thaw at h
  split at h
  · rename_i hl
    have hn : n ≤ S.length := by omega
    have fz : Fz n r (r n) := fun l hl2 q => by
      have z := e.inj n l (by omega) (by omega) q
      omega
    have lt : ∀ {c : List O → Bool}, (S.take n).length = n := fun {_} => by rw [List.length_take]; omega
    split at h
    · rename_i ds hq
      split at h
      · rename_i hc
        rw [Bool.and_eq_true] at hc
        cases h
        refine ⟨by rw [List.length_take]; omega, hn, emb_take e hn hc.2, ?_⟩
        obtain ⟨vs, z1, z2⟩ := e.at_ n _ hq
        rw [Rep]
        exact ⟨r n, vs, rfl, ⟨z1, fz⟩, RepL.less hn _ _ hc.1 z2⟩
      · cases h
    · rename_i ks ds hq
      split at h
      · rename_i hc
        rw [Bool.and_eq_true] at hc
        cases h
        refine ⟨by rw [List.length_take]; omega, hn, emb_take e hn hc.2, ?_⟩
        obtain ⟨kvs, z1, z2, z3⟩ := e.at_ n _ hq
        rw [Rep]
        exact ⟨r n, kvs, rfl, z1, fz, z2, RepL.less hn _ _ hc.1 z3⟩
      · cases h
    · cases h
  · cases h
theorem thaw_noexc {S S' : Sto} {x : Xc} (h : thaw n S = .exc x S') : False := by
  unfold thaw at h
  split at h
  · split at h
    · split at h <;> cases h
    · split at h <;> cases h
    · cases h
  · cases h
/-- the end of a display or a comprehension, whose object stands at place n -/
theorem out_thaw {X : Cx} {S0 S : Sto} {r0 : Rho} {H0 : Hp} {mu : Bool} {Q : VK} {E : Xc → Sto → Rho → Hp → Prop} (st : Stp S0.length r0 H0 S.length r H) (e : Emb (Wo X) S r H) (hn : S0.length = n) (hlt : n < S.length)
    (o : Out (Wo X) S0.length r0 H0 (Gv X Q) E (if mu then .ok (.ref n) S else thaw n S)) : Q (.ref (r n)) H := by
  cases mu with
  | true => exact o r H st e _ (by rw [Rep]; exact ⟨hlt, rfl⟩)
  | false =>
    have o : Out (Wo X) S0.length r0 H0 (Gv X Q) E (thaw n S) := o
    cases h : thaw n S with
    | ok d S' =>
      rw [h] at o
      obtain ⟨h1, h2, h3, h4⟩ := thaw_ok e h
      refine o r H ?_ h3 _ (by rw [h1]; exact h4)
      rw [h1]
      exact stp_less st (Nat.le_of_eq hn) h2
    | exc x S' => exact (thaw_noexc h).elim
    | bad => rw [h] at o; exact o.elim
end
/-! dict displays -/
section
variable {X : Cx} {W : Wm} {t : Sta} {k : Nat} {N : List Str} {sc : Scope} {a b c : Expr} {f g h : En → Sto → R D} {pos : Pos}
structure PDs (X : Cx) (W : Wm) (pos : Pos) (ks : List Str) (keys : List (Option Expr)) (vals : List Expr) (fs : En → Sto → R (List D)) (trs : List (TE × TE)) : Prop where
  pps : PPs X pos keys vals trs
  give : ∀ σ H Q, tA X W fs (fun ds S r H => ∀ vs, RepL (Wo X) S.length r H ds vs → Q ((ks.map V.str).zip vs) H) σ H → tPairs trs σ H Q
  some : keys.all (·.isSome) = true
  len : keys.length = vals.length
  kl : keys.length = ks.length
theorem d_nil : PDs X W pos [] [] [] (fun _ S => .ok [] S) [] := ⟨pps_nil, fun σ H Q ⟨S, r, e, emb, he, oo⟩ => out_same emb oo [] RepL.nil, rfl, rfl, rfl⟩
theorem d_cons {x : Str} {j : Nat} {p : Pos} {ks : List Str} {keys : List (Option Expr)} {vals : List Expr} {fs : En → Sto → R (List D)} {trs : List (TE × TE)} (ha : PE X a (tE X W f)) (hr : PDs X W pos ks keys vals fs trs) :
    PDs X W pos (x :: ks) (.some (.Constant (.str x) j p) :: keys) (a :: vals) (fun s S => (f s S).bind fun d S1 => (fs s S1).bind fun ds S2 => .ok (d :: ds) S2) ((tC (.str x), tE X W f) :: trs) := by
  refine ⟨pps_cons pe_str ha hr.pps, fun σ H Q hx => ?_, ?_, ?_, ?_⟩
  · obtain ⟨S, r, e, emb, he, oo⟩ := hx
    show tE X W f σ H fun y H2 => tPairs trs σ H2 fun ps H3 => Q ((V.str x, y) :: ps) H3
    refine on_seq emb he oo fun d S1 r1 H1 st1 emb1 he1 o1 v hv => hr.give _ _ _ ?_
    refine on_seq emb1 he1 o1 fun ds S2 r2 H2 st2 emb2 he2 o2 vs hvs => ?_
    exact out_same emb2 o2 _ (RepL.cons (Rep.stp st2 _ _ hv) hvs)
  · rw [List.all_cons, hr.some]
    rfl
  · rw [List.length_cons, List.length_cons, hr.len]
  · rw [List.length_cons, List.length_cons, hr.kl]
theorem merge_new : ∀ (more kvs : List (Key × V)), ((kvs ++ more).map Prod.fst).Nodup → mergeK kvs more = kvs ++ more
  | [], kvs, _ => by rw [List.append_nil]; rfl
  | p :: more, kvs, h => by
    have e : putK kvs p.1 p.2 = kvs ++ [p] := by
      unfold putK
      rw [if_neg]
      intro z
      obtain ⟨q, h1, h2⟩ := List.any_eq_true.mp z
      have h2 := of_decide_eq_true h2
      rw [List.map_append, List.nodup_append] at h
      exact h.2.2 q.1 (List.mem_map.mpr ⟨q, h1, rfl⟩) p.1 (by simp) h2
    show mergeK (putK kvs p.1 p.2) more = _
    rw [e, merge_new more (kvs ++ [p]) (by rw [List.append_assoc]; exact h), List.append_assoc]
    rfl
theorem zip_map1 : ∀ {ks : List Str} {vs : List V}, vs.length = ks.length → ((ks.map (Sum.inr : Str → Key)).zip vs).map Prod.fst = ks.map Sum.inr
  | [], [], _ => rfl
  | k :: ks, v :: vs, h => by
    rw [List.map_cons, List.zip_cons_cons, List.map_cons, zip_map1 (by simpa using h)]
  | [], v :: vs, h => by simp at h
  | k :: ks, [], h => by simp at h
theorem zip_map2 : ∀ {ks : List Str} {vs : List V}, vs.length = ks.length → ((ks.map (Sum.inr : Str → Key)).zip vs).map Prod.snd = vs
  | [], [], _ => rfl
  | k :: ks, v :: vs, h => by
    rw [List.map_cons, List.zip_cons_cons, List.map_cons, zip_map2 (by simpa using h)]
  | [], v :: vs, h => by simp at h
  | k :: ks, [], h => by simp at h
theorem zip_map3 : ∀ {ks : List Str} {vs : List V}, (ks.map V.str).zip vs = ((ks.map (Sum.inr : Str → Key)).zip vs).map fun kv => (kV kv.1, kv.2)
  | [], vs => by simp
  | k :: ks, [] => by simp
  | k :: ks, v :: vs => by
    rw [List.map_cons, List.map_cons, List.zip_cons_cons, List.zip_cons_cons, List.map_cons, zip_map3]
    rfl
theorem nodup_inr : ∀ {ks : List Str}, ks.Nodup → (ks.map (Sum.inr : Str → Key)).Nodup
  | [], _ => List.nodup_nil
  | k :: ks, h => by
    rw [List.nodup_cons] at h
    rw [List.map_cons, List.nodup_cons]
    refine ⟨fun z => ?_, nodup_inr h.2⟩
    obtain ⟨x, h1, h2⟩ := List.mem_map.mp z
    cases h2
    exact h.1 h1
def dctF (mu : Bool) (ks : List Str) (fs : En → Sto → R (List D)) : En → Sto → R D := fun s S => (fs s (S ++ [.dct [] []])).bind fun ds S1 => match S1[S.length]? with
    | some (.dct [] []) => (if mu then .ok (.ref S.length) (S1.set S.length (.dct (ks.map Sum.inr) ds)) else thaw S.length (S1.set S.length (.dct (ks.map Sum.inr) ds)))
    | _ => .bad
theorem c_dct {ks : List Str} {mu : Bool} {keys : List (Option Expr)} {vals : List Expr} {fs : En → Sto → R (List D)} {trs : List (TE × TE)} (hd : PDs X W pos ks keys vals fs trs) (h0 : keys ≠ []) (h15 : ks.length ≤ 15) (hn : ks.Nodup) (hlen : ∀ s S ds S', fs s S = .ok ds S' → ds.length = ks.length) :
    PE X (.Dict keys vals pos) (tE X W (dctF mu ks fs)) := by
  refine peI (pe_disp hd.pps hd.some hd.len h0 (by rw [hd.kl]; exact h15)) fun σ H Q hx => ?_
  obtain ⟨S, r, e, emb, he, oo⟩ := hx
  intro p hp
  have emb0 : Emb (Wo X) (S ++ [.dct [] []]) (rput r S.length p) (upd H p (.dK [])) := emb_put emb hp ⟨[], upd_same, rfl, by rw [List.map_nil]; exact RepL.nil⟩
  have hl0 : (S ++ [O.dct [] []]).length = S.length + 1 := by simp
  have st0 : Stp S.length r H (S ++ [O.dct [] []]).length (rput r S.length p) (upd H p (.dK [])) := by rw [hl0]; exact stp_put hp
  have he0 := he.stp st0
  refine hd.give _ _ _ ⟨_, _, e, emb0, he0, ?_⟩
  unfold dctF at oo
  cases hq : fs e (S ++ [.dct [] []]) with
  | bad => rw [hq] at oo; exact oo.elim
  | exc x S1 =>
    rw [hq] at oo
    exact fun r1 H1 st1 em1 => oo r1 H1 (st0.trans st1) em1
  | ok ds S1 =>
    rw [hq] at oo
    have oo : Out (Wo X) S.length r H (Gv X Q) (GE X W σ) (match S1[S.length]? with
      | some (.dct [] []) => (if mu then .ok (.ref S.length) (S1.set S.length (.dct (ks.map Sum.inr) ds)) else thaw S.length (S1.set S.length (.dct (ks.map Sum.inr) ds)))
      | _ => .bad) := oo
    intro r1 H1 st1 em1 vs hvs
    have hr1 : r1 S.length = p := (st1.eq S.length (by rw [hl0]; omega)).trans rput_new
    split at oo
    · rename_i hq1
      obtain ⟨kvs, z1, z2, _⟩ := em1.at_ _ _ hq1
      have z2 : kvs = [] := by simpa using z2
      subst z2
      rw [hr1] at z1
      have hlv : vs.length = ks.length := by rw [hvs.length]; exact hlen _ _ _ _ hq
      refine ⟨z1, (ks.map Sum.inr).zip vs, zip_map3, ?_, ?_⟩
      · rw [List.length_zip, List.length_map]
        omega
      · rw [merge_new _ _ (by rw [List.nil_append, zip_map1 hlv]; exact nodup_inr hn), List.nil_append]
        have hlt : S.length < S1.length := (List.getElem?_eq_some_iff.mp hq1).1
        have stS := stp_set (W := Wo X) (S := S1) (r := r1) (H := H1) (l := S.length) (u := .dK ((ks.map Sum.inr).zip vs)) hlt
        have em2 := emb_set (u := .dK ((ks.map Sum.inr).zip vs)) (o := .dct (ks.map Sum.inr) ds) em1 hlt ⟨_, upd_same, zip_map1 hlv, by rw [zip_map2 hlv]; exact RepL.stp stS _ _ hvs⟩
        have hz : (S1.set S.length (.dct (ks.map Sum.inr) ds)).length = S1.length := List.length_set
        have fin := out_thaw (X := X) (Q := Q) (S0 := S) (n := S.length) (mu := mu) (by rw [hz]; exact (st0.trans st1).trans stS) em2 rfl (by rw [hz]; exact hlt) oo
        rw [hr1] at fin
        exact fin
    · exact oo.elim
theorem c_dct0 {mu : Bool} : PE X (.Dict [] [] pos) (tE X W (dctF mu [] (fun _ S => .ok [] S))) := by
  refine peI pe_dnewK fun σ H Q hx => ?_
  obtain ⟨S, r, e, emb, he, oo⟩ := hx
  intro p hp
  have emb0 : Emb (Wo X) (S ++ [.dct [] []]) (rput r S.length p) (upd H p (.dK [])) := emb_put emb hp ⟨[], upd_same, rfl, by rw [List.map_nil]; exact RepL.nil⟩
  have hl0 : (S ++ [O.dct [] []]).length = S.length + 1 := by simp
  have st0 : Stp S.length r H (S ++ [O.dct [] []]).length (rput r S.length p) (upd H p (.dK [])) := by rw [hl0]; exact stp_put hp
  have hq1 : (S ++ [O.dct [] []])[S.length]? = some (.dct [] []) := by simp
  have hset : (S ++ [O.dct [] []]).set S.length (.dct ([].map Sum.inr) []) = S ++ [.dct [] []] := by simp
  have oo : Out (Wo X) S.length r H (Gv X Q) (GE X W σ) (match (S ++ [O.dct [] []])[S.length]? with
      | some (.dct [] []) => (if mu then .ok (.ref S.length) ((S ++ [O.dct [] []]).set S.length (.dct ([].map Sum.inr) [])) else thaw S.length ((S ++ [O.dct [] []]).set S.length (.dct ([].map Sum.inr) [])))
      | _ => .bad) := oo
  rw [hq1] at oo
  dsimp only at oo
  rw [hset] at oo
  have fin := out_thaw (X := X) (Q := Q) (S0 := S) (n := S.length) (mu := mu) st0 emb0 rfl (by rw [hl0]; omega) oo
  rw [rput_new] at fin
  exact fin
end
end Fw

set_option Elab.async false
set_option linter.all false
set_option maxRecDepth 100000
set_option maxHeartbeats 4000000
namespace Fw
open PySem PySem.Spec PyProof.Rows L2
variable [Tb]
/-! what is walked -/
def WalkOk (X : Cx) (J : It) (ds : List D) (w : Option Nat) (n0 : Nat) (r0 : Rho) (H0 : Hp) : Prop :=
  ∀ (S : Sto) (r : Rho) (H : Hp), Stp n0 r0 H0 S.length r H → Emb (Wo X) S r H → okW S ds w →
    (∀ i d, ds[i]? = some d → J.go i H ∧ ∀ x H', J.yld i H x H' → Stp S.length r H S.length r H' ∧ Emb (Wo X) S r H' ∧ Rep (Wo X) S.length r H' d x) ∧ (∀ i, ds.length ≤ i → J.stop i H)
theorem walk_list {X : Cx} {a : Addr} {ds : List D} {w : Option Nat} {n0 : Nat} {r0 : Rho} {H0 : Hp} (h : ∀ (S : Sto) (r : Rho) (H : Hp), Stp n0 r0 H0 S.length r H → Emb (Wo X) S r H → okW S ds w → ∃ vs, SqL X.K H a vs ∧ RepL (Wo X) S.length r H ds vs) : WalkOk X (Itl X.K a) ds w n0 r0 H0 := by
  intro S r H st em ok
  obtain ⟨vs, h1, h2⟩ := h S r H st em ok
  refine ⟨fun i d hd => ?_, fun i hi => ⟨vs, h1, by rw [h2.length]; exact hi⟩⟩
  obtain ⟨v, e1, e2⟩ := h2.get hd
  refine ⟨⟨vs, v, h1, e1⟩, fun x H' y => ?_⟩
  obtain ⟨rfl, y⟩ := y
  have z := y vs h1
  rw [e1] at z
  cases z
  exact ⟨Stp.refl _ _ _, em, e2⟩
theorem walk_tup {X : Cx} {a : Addr} {ds : List D} {w : Option Nat} {n0 : Nat} {r0 : Rho} {H0 : Hp} (h : ∀ (S : Sto) (r : Rho) (H : Hp), Stp n0 r0 H0 S.length r H → Emb (Wo X) S r H → okW S ds w → ∃ vs, SqT X.K H a vs ∧ RepL (Wo X) S.length r H ds vs) : WalkOk X (Itt X.K a) ds w n0 r0 H0 := by
  intro S r H st em ok
  obtain ⟨vs, h1, h2⟩ := h S r H st em ok
  refine ⟨fun i d hd => ?_, fun i hi => ⟨vs, h1, by rw [h2.length]; exact hi⟩⟩
  obtain ⟨v, e1, e2⟩ := h2.get hd
  refine ⟨⟨vs, v, h1, e1⟩, fun x H' y => ?_⟩
  obtain ⟨rfl, y⟩ := y
  have z := y vs h1
  rw [e1] at z
  cases z
  exact ⟨Stp.refl _ _ _, em, e2⟩
def tI (X : Cx) (W : Wm) (f : En → Sto → R (List D × Option Nat)) : TI := fun σ H Rr => tA X W f (fun q S r H => ∀ J, WalkOk X J q.1 q.2 S.length r H → Rr J H) σ H
section
variable {X : Cx} {W : Wm} {t : Sta} {k : Nat} {N : List Str} {sc : Scope} {a b c tg : Expr} {f g h : En → Sto → R D} {pos : Pos}
theorem i_ex (ha : PE X a (tE X W f)) : PI X tg a (tI X W (fun s S => (f s S).bind fun d S1 => itD S1 d)) := by
  refine ⟨fun pins s σ H Rr I hx => ?_⟩
  obtain ⟨S, r, e, emb, he, oo⟩ := hx
  refine thn (ha.run pins s σ H (fun v H1 => ∃ d S1 r1, Emb (Wo X) S1 r1 H1 ∧ Rep (Wo X) S1.length r1 H1 d v ∧ Out (Wo X) S1.length r1 H1 (fun q S r H => ∀ J, WalkOk X J q.1 q.2 S.length r H → Rr J H) (GE X W σ) (itD S1 d)) I
    ⟨S, r, e, emb, he, oo.bind.imp (fun d S1 r1 H1 st em o v hv => ⟨d, S1, r1, em, hv, o⟩) fun _ _ _ _ _ _ q => q⟩) fun u s1 ⟨v, H1, I1, rv, d, S1, r1, em, hv, o⟩ => ?_
  have lst : ∀ {p : Addr} {xs : List V}, v = .ref p → SqL X.K H1 p xs → Rr (Itl X.K p) H1 → wpAny (model X.prog X.w) X.A (pyIter u) (PIE X pins σ tg Rr) X.xe s1 := fun {p xs} ev hq q => by
    subst ev
    cases rv
    obtain ⟨its, _, pl, _⟩ := I1.list hq
    exact wpAny_pyIter_list pl.isList (pi_one (tk := s1.toks) I1 _ (turn_list p _) ⟨_, Heap.get?_push_size _ rfl, rfl, rfl⟩ q)
  have tup : ∀ {p : Addr} {xs : List V}, v = .ref p → SqT X.K H1 p xs → Rr (Itt X.K p) H1 → wpAny (model X.prog X.w) X.A (pyIter u) (PIE X pins σ tg Rr) X.xe s1 := fun {p xs} ev hq q => by
    subst ev
    cases rv
    obtain ⟨its, _, pl, _⟩ := I1.tuple hq
    exact wpAny_pyIter_tuple (show s1.heap.IsTuple p its.toArray from pl) (pi_one (tk := s1.toks) I1 _ (turn_tuple p _) ⟨_, Heap.get?_push_size _ rfl, rfl, rfl⟩ q)
  unfold itD at o
  split at o
  · rename_i ds
    rw [Rep] at hv
    obtain ⟨p, vs, ev, f1, g1⟩ := hv
    refine lst ev (.inl (.inl f1.1)) (out_same em o _ (walk_list fun S r H st em ok => ?_))
    exact ⟨vs, .inl (.inl (st.fz p _ f1.1 f1.2 fun ps z => by cases z).1), RepL.stp st _ _ g1⟩
  · rename_i ds
    rw [Rep] at hv
    obtain ⟨p, vs, ev, f1, g1⟩ := hv
    refine tup ev f1.sq (out_same em o _ (walk_tup fun S r H st em ok => ⟨vs, ?_, RepL.stp st _ _ g1⟩))
    rcases f1 with ⟨f1, f2⟩ | f1
    · exact .inl (st.rd f1 f2 fun ps z => by cases z).1
    · exact .inr f1
  · rename_i ns
    rw [Rep] at hv
    obtain ⟨p, ev, f1⟩ := hv
    refine lst ev f1.sq (out_same em o _ (walk_list fun S r H st em ok => ⟨ns.map V.int, ?_, ints_rep ns⟩))
    rcases f1 with ⟨f1, f2⟩ | f1
    · exact .inl (st.rd f1 f2 fun ps z => by cases z).1
    · exact .inr f1
  · rename_i x
    rw [Rep] at hv
    subst hv
    obtain ⟨tk, rfl⟩ := rv
    have q : Rr (Its x) H1 := out_same em o _ fun S r H st em ok => by
      refine ⟨fun i d hd => ?_, fun i hi => by simpa [Its] using hi⟩
      rw [List.getElem?_map, Option.map_eq_some_iff] at hd
      obtain ⟨c, h1, h2⟩ := hd
      have h1 : x.cps[i]? = some c := by simpa using h1
      refine ⟨(Array.getElem?_eq_some_iff.mp h1).1, fun y H' z => ?_⟩
      obtain ⟨rfl, c', h3, rfl⟩ := z
      rw [h1] at h3
      cases h3
      exact ⟨Stp.refl _ _ _, em, by rw [← h2, Rep]⟩
    cases hw : x.cps.all (· < 128)
    · exact wpAny_pyIter_wide hw (pi_one (tk := s1.toks) I1 _ (turn_str _ x tk "str_iterator" (.inr rfl)) ⟨_, Heap.get?_push_size _ rfl, rfl, rfl⟩ q)
    · exact wpAny_pyIter_ascii hw (pi_one (tk := s1.toks) I1 _ (turn_str _ x tk "str_ascii_iterator" (.inl rfl)) ⟨_, Heap.get?_push_size _ rfl, rfl, rfl⟩ q)
  · rename_i l
    rw [Rep] at hv
    obtain ⟨hl, ev⟩ := hv
    split at o
    · rename_i ds hq
      obtain ⟨vs, z1, z2⟩ := em.at_ l _ hq
      refine lst ev (.inl (.inl z1)) (out_same em o _ (walk_list fun S r H st em ok => ?_))
      obtain ⟨ws, y1, y2⟩ := em.at_ l _ (show S[l]? = some (.lst ds) from ok)
      rw [st.eq l hl] at y1
      exact ⟨ws, .inl (.inl y1), y2⟩
    · exact o.elim
  · exact o.elim
theorem walk_rng {X : Cx} {lo : Int} {n : Nat} {n0 : Nat} {r0 : Rho} {H0 : Hp} : WalkOk X (Itr lo n) (rngL lo n) none n0 r0 H0 := by
  intro S r H st em ok
  have hl : (rngL lo n).length = n := by simp [rngL]
  refine ⟨fun i d hd => ?_, fun i hi => by rw [hl] at hi; exact hi⟩
  have hi : i < n := by
    have := (List.getElem?_eq_some_iff.mp hd).1
    rw [hl] at this
    exact this
  refine ⟨hi, fun x H' y => ?_⟩
  obtain ⟨rfl, rfl⟩ := y
  have e : d = .int (lo + i) := by
    unfold rngL at hd
    rw [List.getElem?_map, List.getElem?_range hi] at hd
    exact (Option.some.inj hd).symm
  subst e
  exact ⟨Stp.refl _ _ _, em, by rw [Rep]⟩
theorem i_rng {p : Pos} (G : Good t k N sc X W) (hg : glB sc "range" = true) (hF : ("range" : Str) ∈ t.nm.F) (hs : notStar a = true) (ha : PE X a (tE X W f)) : PI X tg (.Call (.Name "range" p) [a] [] pos) (tI X W (fun s S => (f s S).bind fun d S1 => match d with
    | .int j => if small62 j = true then .ok (rngL 0 j.toNat, none) S1 else .bad
    | _ => .bad)) := by
  refine ⟨fun pins s σ H Rr I hx => (pi_range1 (tg := tg) (p := p) (pos := pos) (gl_of G hg) (G.ok.free _ hF) (c_cons hs ha c_nil) (star_of hs)).run pins s σ H Rr I ?_⟩
  obtain ⟨S, r, e, emb, he, oo⟩ := hx
  show tL X W _ σ H _
  refine ⟨S, r, e, emb, he, ?_⟩
  dsimp only at oo ⊢
  cases hq : f e S with
  | bad => rw [hq] at oo; exact oo.elim
  | exc x S1 => rw [hq] at oo; exact oo
  | ok d S1 =>
    rw [hq] at oo
    intro r1 H1 st1 em1 vs hvs
    obtain ⟨v, rfl, h1⟩ := hvs.inv1
    cases d with
    | int j =>
      have oo : Out (Wo X) S.length r H (fun q S r H => ∀ J, WalkOk X J q.1 q.2 S.length r H → Rr J H) (GE X W σ) (if small62 j = true then .ok (rngL 0 j.toNat, none) S1 else .bad) := oo
      split at oo
      · rename_i hj
        unfold small62 at hj
        simp only [Bool.and_eq_true, decide_eq_true_eq] at hj
        rw [Rep] at h1
        subst h1
        exact ⟨j, rfl, hj.1, hj.2, oo r1 H1 st1 em1 _ walk_rng⟩
      · exact oo.elim
    | _ => exact oo.elim
theorem i_rng2 {p : Pos} (G : Good t k N sc X W) (hg : glB sc "range" = true) (hF : ("range" : Str) ∈ t.nm.F) (hs : notStar a = true) (hs2 : notStar b = true) (ha : PE X a (tE X W f)) (hb : PE X b (tE X W g)) : PI X tg (.Call (.Name "range" p) [a, b] [] pos) (tI X W (fun s S => (f s S).bind fun d S1 => (g s S1).bind fun c S2 => match d, c with
    | .int i, .int j => if (small62 i && small62 j) = true then .ok (rngL i (j - i).toNat, none) S2 else .bad
    | _, _ => .bad)) := by
  refine ⟨fun pins s σ H Rr I hx => (pi_range2 (tg := tg) (p := p) (pos := pos) (gl_of G hg) (G.ok.free _ hF) (c_cons hs ha (c_cons hs2 hb c_nil)) (by rw [star_of hs, star_of hs2]; rfl) (star_of hs2)).run pins s σ H Rr I ?_⟩
  obtain ⟨S, r, e, emb, he, oo⟩ := hx
  show tL X W _ σ H _
  refine ⟨S, r, e, emb, he, ?_⟩
  dsimp only at oo ⊢
  cases hq : f e S with
  | bad => rw [hq] at oo; exact oo.elim
  | exc x S1 => rw [hq] at oo; exact oo
  | ok d S1 =>
    rw [hq] at oo
    have oo : Out (Wo X) S.length r H (fun q S r H => ∀ J, WalkOk X J q.1 q.2 S.length r H → Rr J H) (GE X W σ) ((g e S1).bind fun c S2 => match d, c with
      | .int i, .int j => if (small62 i && small62 j) = true then .ok (rngL i (j - i).toNat, none) S2 else .bad
      | _, _ => .bad) := oo
    show Out (Wo X) S.length r H _ _ (((g e S1).bind fun d S2 => R.ok [d] S2).bind fun ds S2 => .ok (d :: ds) S2)
    cases hq2 : g e S1 with
    | bad => rw [hq2] at oo; exact oo.elim
    | exc x S2 => rw [hq2] at oo; exact oo
    | ok c S2 =>
      rw [hq2] at oo
      intro r1 H1 st1 em1 vs hvs
      obtain ⟨v, u, rfl, h1, h2⟩ := hvs.inv2
      have oo : Out (Wo X) S.length r H (fun q S r H => ∀ J, WalkOk X J q.1 q.2 S.length r H → Rr J H) (GE X W σ) (match d, c with
        | .int i, .int j => if (small62 i && small62 j) = true then .ok (rngL i (j - i).toNat, none) S2 else .bad
        | _, _ => .bad) := oo
      split at oo
      · split at oo
        · rename_i i j hj
          unfold small62 at hj
          simp only [Bool.and_eq_true, decide_eq_true_eq] at hj
          rw [Rep] at h1 h2
          subst h1 h2
          exact ⟨_, _, rfl, ⟨hj.1.1, hj.1.2, hj.2.1, hj.2.2⟩, oo r1 H1 st1 em1 _ walk_rng⟩
        · exact oo.elim
      · exact oo.elim
end
end Fw

set_option Elab.async false
set_option linter.all false
set_option maxRecDepth 100000
set_option maxHeartbeats 4000000
namespace Fw
open PySem PySem.Spec PyProof.Rows L2
variable [Tb]
/-! targets -/
def tGt (X : Cx) (tg : Tg) : TG := fun v σ H Q => ∃ n r e d e', RepE (Wo X) n r H e σ ∧ Rep (Wo X) n r H d v ∧ tgD tg d e = some e' ∧
  ∀ σ', RepE (Wo X) n r H e' σ' → (∀ j, j ∉ slT tg → σ'[j]? = σ[j]?) → σ'.length = σ.length → Q σ' H
def tGts (X : Cx) (ts : List Tg) : TGs := fun vs σ H Q => ∃ n r e ds e', RepE (Wo X) n r H e σ ∧ RepL (Wo X) n r H ds vs ∧ tgL ts ds e = some e' ∧
  ∀ σ', RepE (Wo X) n r H e' σ' → (∀ j, j ∉ slTs ts → σ'[j]? = σ[j]?) → σ'.length = σ.length → Q σ' H
theorem pgI {X : Cx} {e : Expr} {t t' : TG} (h : PG X e t) (g : ∀ v σ H Q, t' v σ H Q → t v σ H Q) : PG X e t' := ⟨fun pins s σ H v u Q I r q => h.run pins s σ H v u Q I r (g v σ H Q q)⟩
theorem pgsI {X : Cx} {e : List Expr} {t t' : TGs} (h : PGs X e t) (g : ∀ v σ H Q, t' v σ H Q → t v σ H Q) : PGs X e t' := ⟨fun pins s σ H v u Q I r q => h.run pins s σ H v u Q I r (g v σ H Q q)⟩
section
variable {X : Cx} {N : List Str} {sc : Scope} {cl : Bool}
theorem asg_each {es : List Expr} {e : Expr} {env : Env} (h : notStar e = true) : assignEach (e :: es) env = (false, assign e env) :: assignEach es env := by
  cases e <;> first | rfl | cases h
mutual
theorem g_tg (hN : X.N = N) (hs : X.env.scope = sc) (nd : N.Nodup) (hc : X.calm = true) (hcl : cl = true → ∀ x, X.fn x = true) : ∀ (tg : Tg) (ex : Expr), ckT cl N sc tg ex = true → PG X ex (tGt X tg)
  | .nm i, ex, h => by
    unfold ckT at h
    cases ex with
    | Name x p =>
      simp only [Bool.and_eq_true, Bool.or_eq_true, decide_eq_true_eq] at h
      obtain ⟨h1, h2⟩ := h
      have hx : Loc X.env.scope x := by
        rw [hs]
        rcases h2 with h2 | ⟨_, h2⟩
        · exact .inl h2
        · exact .inr h2
      have hf : X.fn x = true ∨ X.env.scope.names.lookup x = some .local := by
        rcases h2 with h2 | ⟨h2, _⟩
        · exact .inr (by rw [hs]; exact h2)
        · exact .inl (hcl h2 x)
      refine pgI (pg_name (i := i) (by rw [hN]; exact nd) (by rw [hN]; exact h1) hx hf) fun v σ H Q ⟨n, r, e, d, e', a1, a2, a3, a4⟩ => ?_
      rw [tgD] at a3
      cases a3
      refine a4 _ (a1.set i a2) (fun j hj => ?_) (by simp)
      rw [slT] at hj
      rw [List.getElem?_set_ne (by simpa using fun z => hj (by simp [z]))]
    | _ => cases h
  | .tp ts, ex, h => by
    unfold ckT at h
    cases ex with
    | Tuple es k p =>
      have key := g_tgs hN hs nd hc hcl ts es h
      refine pgI (pg_tup hc key.1 rfl key.2) fun v σ H Q ⟨n, r, e, d, e', a1, a2, a3, a4⟩ => ?_
      cases d with
      | tup ds =>
        rw [tgD] at a3
        rw [Rep] at a2
        obtain ⟨a, vs, rfl, f1, g1⟩ := a2
        have hl : ∀ {ts : List Tg} {es : List Expr} {ds : List D} {e e' : En}, ckTs cl N sc ts es = true → tgL ts ds e = some e' → ds.length = (assignEach es X.env).length := by
          intro ts
          induction ts with
          | nil =>
            intro es ds e e' k1 k2
            unfold ckTs at k1
            cases es with
            | nil => cases ds with
              | nil => rfl
              | cons => simp [tgL] at k2
            | cons => cases k1
          | cons t ts ih =>
            intro es ds e e' k1 k2
            unfold ckTs at k1
            cases es with
            | nil => cases k1
            | cons x es =>
              simp only [Bool.and_eq_true] at k1
              cases ds with
              | nil => simp [tgL] at k2
              | cons d ds =>
                rw [tgL, Option.bind_eq_some_iff] at k2
                obtain ⟨s1, _, k3⟩ := k2
                rw [asg_each k1.1, List.length_cons, List.length_cons, ih k1.2.2 k3]
        refine ⟨a, vs, rfl, f1.sq, by rw [g1.length]; exact hl h a3, n, r, e, ds, e', a1, g1, a3, fun σ' b1 b2 b3 => a4 σ' b1 (fun j hj => b2 j ?_) b3⟩
        rw [slT] at hj
        exact hj
      | _ => simp [tgD] at a3
    | _ => cases h
theorem g_tgs (hN : X.N = N) (hs : X.env.scope = sc) (nd : N.Nodup) (hc : X.calm = true) (hcl : cl = true → ∀ x, X.fn x = true) : ∀ (ts : List Tg) (es : List Expr), ckTs cl N sc ts es = true → PGs X es (tGts X ts) ∧ (assignEach es X.env).findIdx? (·.1) = none
  | [], es, h => by
    unfold ckTs at h
    cases es with
    | nil =>
      refine ⟨pgsI pgs_nil fun vs σ H Q ⟨n, r, e, ds, e', a1, a2, a3, a4⟩ => ?_, rfl⟩
      cases ds with
      | nil =>
        rw [tgL] at a3
        cases a3
        rw [RepL] at a2
        exact ⟨a2, a4 σ a1 (fun _ _ => rfl) rfl⟩
      | cons => simp [tgL] at a3
    | cons => cases h
  | t :: ts, es, h => by
    unfold ckTs at h
    cases es with
    | nil => cases h
    | cons x es =>
      simp only [Bool.and_eq_true] at h
      obtain ⟨h1, h2, h3⟩ := h
      obtain ⟨k1, k2⟩ := g_tgs hN hs nd hc hcl ts es h3
      refine ⟨pgsI (pgs_cons (g_tg hN hs nd hc hcl t x h2) k1 (by rw [asg_each h1]; rfl)) fun vs σ H Q ⟨n, r, e, ds, e', a1, a2, a3, a4⟩ => ?_, ?_⟩
      · cases ds with
        | nil => simp [tgL] at a3
        | cons d ds =>
          rw [tgL, Option.bind_eq_some_iff] at a3
          obtain ⟨e1, b1, b2⟩ := a3
          rw [RepL] at a2
          obtain ⟨v, q, rfl, c1, c2⟩ := a2
          refine ⟨v, q, rfl, n, r, e, d, e1, a1, c1, b1, fun σ1 d1 d2 d3 => ⟨n, r, e1, ds, e', d1, c2, b2, fun σ2 f1 f2 f3 => a4 σ2 f1 (fun j hj => ?_) (f3.trans d3)⟩⟩
          rw [slTs, List.mem_append, not_or] at hj
          exact (f2 j hj.2).trans (d2 j hj.1)
      · rw [asg_each h1, List.findIdx?_cons, k2]
        rfl
end
end
end Fw

set_option Elab.async false
set_option linter.all false
set_option maxRecDepth 100000
set_option maxHeartbeats 4000000
namespace Fw
open PySem PySem.Spec PyProof.Rows L2
variable [Tb]
/-! a block's own slots -/
theorem wipe_get (σ : L2.St) (j : Nat) : ∀ vs : List Nat, (wipe σ vs)[j]? = if j ∈ vs then (if j < σ.length then some none else none) else σ[j]?
  | [] => by simp [wipe]
  | v :: vs => by
    unfold wipe
    by_cases h : v = j
    · subst h
      by_cases hl : v < σ.length
      · rw [List.getElem?_set_self (by rw [wipe_length]; exact hl)]
        simp [hl]
      · rw [List.getElem?_eq_none (by rw [List.length_set, wipe_length]; omega)]
        simp [hl]
    · rw [List.getElem?_set_ne h, wipe_get σ j vs]
      have e : (j ∈ v :: vs) = (j ∈ vs) := by
        simp only [List.mem_cons]
        exact propext ⟨fun z => z.resolve_left fun q => h q.symm, .inr⟩
      simp only [e]
theorem wipeD_get (e : En) (j : Nat) : ∀ vs : List Nat, (wipeD e vs)[j]? = if j ∈ vs then (if j < e.length then some none else none) else e[j]?
  | [] => by simp [wipeD]
  | v :: vs => by
    have hl0 : ∀ vs : List Nat, (wipeD e vs).length = e.length := by
      intro vs
      induction vs with
      | nil => rfl
      | cons v vs ih => unfold wipeD; rw [List.length_set, ih]
    unfold wipeD
    by_cases h : v = j
    · subst h
      by_cases hl : v < e.length
      · rw [List.getElem?_set_self (by rw [hl0]; exact hl)]
        simp [hl]
      · rw [List.getElem?_eq_none (by rw [List.length_set, hl0]; omega)]
        simp [hl]
    · rw [List.getElem?_set_ne h, wipeD_get e j vs]
      have e : (j ∈ v :: vs) = (j ∈ vs) := by
        simp only [List.mem_cons]
        exact propext ⟨fun z => z.resolve_left fun q => h q.symm, .inr⟩
      simp only [e]
theorem wipeD_len (e : En) : ∀ vs : List Nat, (wipeD e vs).length = e.length
  | [] => rfl
  | v :: vs => by unfold wipeD; rw [List.length_set, wipeD_len e vs]
theorem RepE.wipe {Wx : Wd} {n : Nat} {r : Rho} {H : Hp} {e : En} {σ : L2.St} (h : RepE Wx n r H e σ) (vs : List Nat) : RepE Wx n r H (wipeD e vs) (L2.wipe σ vs) := by
  refine ⟨by rw [wipeD_len, wipe_length]; exact h.1, fun i d q => ?_⟩
  rw [wipeD_get] at q
  split at q
  · split at q <;> cases q
  · rename_i hi
    rw [wipe_get, if_neg hi]
    exact h.2 i d q
theorem wipe_same {σ σ' : L2.St} {vs sl : List Nat} (hs : ∀ i ∈ sl, i ∈ vs) (h : ∀ j, j ∉ sl → σ'[j]? = (L2.wipe σ vs)[j]?) (hl : σ'.length = (L2.wipe σ vs).length) : L2.wipe σ' vs = L2.wipe σ vs := by
  rw [wipe_length] at hl
  apply List.ext_getElem?
  intro j
  rw [wipe_get, wipe_get, hl]
  split
  · rfl
  · rename_i hj
    rw [h j fun z => hj (hs j z), wipe_get, if_neg hj]
def tTc (X : Cx) (W : Wm) (f : En → Sto → R Bool) : TT := fun σ H Q => tA X W f (fun b S r H => Q b H) σ H
def Wm.no : Wm := Wm.of fun _ _ _ _ => False
def stF (tg : Tg) (vs : List Nat) (fc : En → Sto → R Bool) (fe : En → Sto → R D) (s : En) : D → Sto → R (Option D) := fun d S2 => match tgD tg d (wipeD s vs) with
    | none => .bad
    | some s2 => noX ((fc s2 S2).bind fun b S3 => if b = true then (fe s2 S3).bind fun y S4 => .ok (some y) S4 else .ok none S3)
def lcF (m : Bool) (tg : Tg) (vs : List Nat) (fi : En → Sto → R (List D × Option Nat)) (fc : En → Sto → R Bool) (fe : En → Sto → R D) : En → Sto → R D := fun s S =>
  (fi s S).bind fun ds S1 => (lcGo S1.length ds.1 ds.2 (stF tg vs fc fe s) ds.1 (S1 ++ [.lst []])).bind fun _ S5 => if m then .ok (.ref S1.length) S5 else thaw S1.length S5
section
variable {X : Cx} {W : Wm} {t : Sta} {k : Nat} {N : List Str} {sc : Scope} {elt tgt iter : Expr} {ifs : List Expr} {scope : Scope} {own : List (Str × Nat)} {pos : Pos} {fi : En → Sto → R (List D × Option Nat)} {fc : En → Sto → R Bool} {fe : En → Sto → R D} {tg : Tg} {m : Bool}
theorem con_fold {env : Env} (h : conSet iter = true) : ∀ x, foldedSetIterable iter env x = pure x := by
  intro x
  cases iter <;> first | rfl | cases h
theorem lc_imp (hsl : slotsIn tg own = true) {σ : L2.St} {H : Hp} {Q : VK} (hx : tE X W (lcF m tg (own.map (·.2)) fi fc fe) σ H Q) :
    tLc (tI X W fi) (tGt X tg) (tTc X Wm.no fc) (tE X Wm.no fe) (own.map (·.2)) σ H Q := by
  obtain ⟨S, r, e, emb, he, oo⟩ := hx
  refine ⟨S, r, e, emb, he, oo.bind.imp (fun q S1 r1 H1 st1 em1 o1 => ?_) fun _ _ _ _ _ _ z => z⟩
  obtain ⟨ds, w⟩ := q
  intro J hJ p hp
  dsimp only at o1 hJ
  have he1 := he.stp st1
  have hl0 : (S1 ++ [O.lst []]).length = S1.length + 1 := by simp
  have st0 : Stp S1.length r1 H1 (S1 ++ [O.lst []]).length (rput r1 S1.length p) (upd H1 p (.lst [])) := by rw [hl0]; exact stp_put hp
  have em0 : Emb (Wo X) (S1 ++ [.lst []]) (rput r1 S1.length p) (upd H1 p (.lst [])) := emb_put em1 hp ⟨[], upd_same, RepL.nil⟩
  generalize hst : stF tg (own.map (·.2)) fc fe e = st at o1
  have hstep : ∀ d S2, st d S2 = match tgD tg d (wipeD e (own.map (·.2))) with
    | none => .bad
    | some s2 => noX ((fc s2 S2).bind fun b S3 => if b = true then (fe s2 S3).bind fun y S4 => .ok (some y) S4 else .ok none S3) := fun d S2 => by rw [← hst]; rfl
  clear hst
  let kend : Unit → Sto → R D := fun _ S5 => if m then .ok (.ref S1.length) S5 else thaw S1.length S5
  let Inv0 : Nat → Hp → Prop := fun i H => ∃ S r, Stp S1.length r1 H1 S.length r H ∧ Emb (Wo X) S r H ∧ S1.length < S.length ∧ r S1.length = p ∧ Out (Wo X) S1.length r1 H1 (Gv X Q) (GE X W σ) ((lcGo S1.length ds w st (ds.drop i) S).bind kend)
  refine ⟨fun i mm H => mm = ds.length - i ∧ i ≤ ds.length ∧ Inv0 i H, ⟨ds.length, by simp, Nat.zero_le _, S1 ++ [.lst []], _, st0, em0, by rw [hl0]; omega, rput_new, by rw [List.drop_zero]; exact o1⟩, ?_⟩
  rintro i mm H ⟨rfl, hi, S2, r2, st2, em2, hlt, hp2, o2⟩
  by_cases hlt2 : i < ds.length
  · refine .inr ?_
    have hd : ds.drop i = ds[i] :: ds.drop (i + 1) := List.drop_eq_getElem_cons hlt2
    rw [hd] at o2
    unfold lcGo at o2
    by_cases hok : okB S2 ds w = true
    · rw [if_pos hok] at o2
      obtain ⟨go, yl⟩ := (hJ S2 r2 H st2 em2 (okB_ok hok)).1 i ds[i] (by rw [List.getElem?_eq_getElem hlt2])
      refine ⟨go, fun H' => Inv0 (i + 1) H', fun H' q => ⟨ds.length - (i + 1), by omega, rfl, hlt2, q⟩, fun x H' y => ?_⟩
      obtain ⟨sy, ey, ry⟩ := yl x H' y
      have sty : Stp S1.length r1 H1 S2.length r2 H' := st2.trans sy
      cases htg : tgD tg ds[i] (wipeD e (own.map (·.2))) with
      | none =>
        rw [hstep, htg] at o2
        exact o2.elim
      | some s2 =>
        have hw := ((he1.rep.stp sty).wipe (own.map (·.2)))
        refine ⟨S2.length, r2, _, _, s2, hw, ry, htg, fun σ' b1 b2 b3 => ⟨wipe_same (fun j hj => ?_) b2 b3, S2, r2, s2, ey, ⟨b1, trivial⟩, ?_⟩⟩
        · unfold slotsIn at hsl
          exact of_decide_eq_true (List.all_eq_true.mp hsl j hj)
        · have o3 := o2
          rw [hstep, htg] at o3
          dsimp only at o3
          cases hfc : fc s2 S2 with
          | bad => rw [hfc] at o3; exact o3.elim
          | exc z Sz => rw [hfc] at o3; exact o3.elim
          | ok b S3 =>
            rw [hfc] at o3
            intro r3 H3 st3 em3
            have sty3 := sty.trans st3
            have hr3 : r3 S1.length = p := (st3.eq _ hlt).trans hp2
            have hlt3 : S1.length < S3.length := Nat.lt_of_lt_of_le hlt st3.le
            cases b with
            | false =>
              refine iteF ?_
              exact ⟨S3, r3, sty3, em3, hlt3, hr3, o3⟩
            | true =>
              refine iteT ⟨S3, r3, s2, em3, ⟨b1.stp st3, trivial⟩, ?_⟩
              have o4 : Out (Wo X) S1.length r1 H1 (Gv X Q) (GE X W σ) (((noX ((fe s2 S3).bind fun y S4 => R.ok (some y) S4)).bind fun o S1' => match o with
                | none => lcGo S1.length ds w st (ds.drop (i + 1)) S1'
                | some y => (match S1'[S1.length]? with
                  | some (.lst acc) => if acc.length < sizeLine then lcGo S1.length ds w st (ds.drop (i + 1)) (S1'.set S1.length (.lst (acc ++ [y]))) else .bad
                  | _ => .bad)).bind kend) := o3
              cases hfe : fe s2 S3 with
              | bad => rw [hfe] at o4; exact o4.elim
              | exc z Sz => rw [hfe] at o4; exact o4.elim
              | ok y S4 =>
                rw [hfe] at o4
                intro r4 H4 st4 em4 v hv
                have o5 : Out (Wo X) S1.length r1 H1 (Gv X Q) (GE X W σ) ((match S4[S1.length]? with
                  | some (.lst acc) => if acc.length < sizeLine then lcGo S1.length ds w st (ds.drop (i + 1)) (S4.set S1.length (.lst (acc ++ [y]))) else .bad
                  | _ => .bad).bind kend) := o4
                have hlt4 : S1.length < S4.length := Nat.lt_of_lt_of_le hlt3 st4.le
                have hr4 : r4 S1.length = p := (st4.eq _ hlt3).trans hr3
                cases hq : S4[S1.length]? with
                | none => rw [hq] at o5; exact o5.elim
                | some ob =>
                  rw [hq] at o5
                  cases ob with
                  | lst acc =>
                    obtain ⟨vs, z1, z2⟩ := em4.at_ _ _ hq
                    rw [hr4] at z1
                    dsimp only at o5
                    by_cases hz : acc.length < sizeLine
                    · rw [if_pos hz] at o5
                      refine ⟨vs, z1, by rw [z2.length]; exact hz, S4.set S1.length (.lst (acc ++ [y])), r4, ?_, ?_, by rw [List.length_set]; exact hlt4, hr4, o5⟩
                      · rw [List.length_set, ← hr4]
                        exact (sty3.trans st4).trans (stp_set (W := Wo X) hlt4)
                      · have stS := stp_set (W := Wo X) (S := S4) (r := r4) (H := H4) (l := S1.length) (u := .lst (vs ++ [v])) hlt4
                        have em5 := emb_set (u := .lst (vs ++ [v])) (o := .lst (acc ++ [y])) em4 hlt4 ⟨_, upd_same, RepL.append (RepL.stp stS _ _ z2) (RepL.one (Rep.stp stS _ _ hv))⟩
                        rw [hr4] at em5
                        exact em5
                    · rw [if_neg hz] at o5
                      exact o5.elim
                  | dct _ _ => exact o5.elim
                  | ins _ _ _ => exact o5.elim
    · rw [if_neg hok] at o2
      exact o2.elim
  · refine .inl ?_
    have hi2 : i = ds.length := by omega
    subst hi2
    rw [List.drop_length] at o2
    unfold lcGo at o2
    by_cases hok : okB S2 ds w = true
    · rw [if_pos hok] at o2
      refine ⟨(hJ S2 r2 H st2 em2 (okB_ok hok)).2 _ (Nat.le_refl _), ?_⟩
      have fin := out_thaw (X := X) (Q := Q) (S0 := S1) (n := S1.length) (mu := m) st2 em2 rfl hlt o2
      rw [hp2] at fin
      exact fin
    · rw [if_neg hok] at o2
      exact o2.elim
end
end Fw

set_option Elab.async false
set_option linter.all false
set_option maxRecDepth 100000
set_option maxHeartbeats 4000000
namespace Fw
open PySem PySem.Spec PyProof.Rows L2
variable [Tb]
theorem deeper_guards {A : Around} {env : Env} (h : A.guards = some []) : (A.deeper env).guards = some [] := by
  first | exact h | simpa [Around.deeper] using h
theorem SOk.inner {P : Program} {w : World} {K : PySem.W.Frag} {mg : Str → Option Value} {base : Heap} {t : Sta} {k : Nat} (h : SOk P w K mg base t k) : SOk P w K mg base t.inner k :=
  ⟨h.call, h.con, h.free, h.ins, h.xf, h.exm, h.cn, h.rx, h.exc, h.lamf, h.isi⟩
section
variable {X : Cx} {W : Wm} {t : Sta} {k : Nat} {N : List Str} {sc : Scope} {elt tgt iter : Expr} {ifs : List Expr} {scope : Scope} {own : List (Str × Nat)} {pos : Pos} {fi : En → Sto → R (List D × Option Nat)} {fc : En → Sto → R Bool} {fe : En → Sto → R D} {tg : Tg} {m : Bool}
theorem blk_good (G : Good t k N sc X W) (hh : t.hot = none) {s : Shared} {H : Hp} {C : Addr} {cl : List (Str × Addr)} {fp : List Addr} : Good t.blk k N (inner sc scope) (X.blk s H scope (compEnvC scope cl C X.env) fp) Wm.no := by
  obtain ⟨c1, c2, c3⟩ := G.cold hh
  refine ⟨G.hN, ?_, G.nd, G.un, G.gd, G.ok.inner, fun _ => ⟨c1, c2, LamX.takes0⟩, fun i x z => (nomatch z), fun _ z => (nomatch z), fun i th _ z => (nomatch z)⟩
  rw [← G.hs]
  rfl
theorem c_lc (G : Good t k N sc X W) (hh : t.hot = none) (hb : blkC N sc scope own = true) (htg : ckT false N (inner sc scope) tg tgt = true) (hsl : slotsIn tg own = true) (hcs : conSet iter = true) (hi : PI X tgt iter (tI X W fi))
    (hc : ∀ Xb, Good t.blk k N (inner sc scope) Xb Wm.no → Wo Xb = Wo X → PTs Xb ifs (tTc Xb Wm.no fc)) (he : ∀ Xb, Good t.blk k N (inner sc scope) Xb Wm.no → Wo Xb = Wo X → PE Xb elt (tE Xb Wm.no fe)) :
    PE X (.ListComp elt [⟨tgt, iter, ifs, 0⟩] scope pos) (tE X W (lcF m tg (own.map (·.2)) fi fc fe)) := by
  have ok := blkOk_by hb
  rw [← G.hN, ← G.hs] at ok
  refine peI (pe_lc (G.cold hh).1 (by rw [G.hN]; exact G.nd) hi ok (g := tGt X tg) (tt := tTc X Wm.no fc) (te := tE X Wm.no fe) (fun s H C cl fp => ?_) (fun s H C cl fp => ?_) (fun s H C cl fp => ?_) (con_fold hcs)) fun σ H Q hx => lc_imp hsl hx
  · have gb := blk_good (scope := scope) (s := s) (H := H) (C := C) (cl := cl) (fp := fp) G hh
    exact g_tg (X := X.blk s H scope (compEnvC scope cl C X.env) fp) (cl := false) gb.hN gb.hs gb.nd (gb.cold rfl).1 (fun z => nomatch z) tg tgt htg
  · have gb := blk_good (scope := scope) (s := s) (H := H) (C := C) (cl := cl) (fp := fp) G hh
    exact hc _ gb rfl
  · have gb := blk_good (scope := scope) (s := s) (H := H) (C := C) (cl := cl) (fp := fp) G hh
    exact he _ gb rfl
/-! a closure is handed to a def -/
theorem emb_ext {Wx : Wd} {S : Sto} {r : Rho} {H H' : Hp} (e : Emb Wx S r H) (x : LamX.ExtN H H') (T : LamX.Tabs Wx.T H') : Emb Wx S r H' ∧ Stp S.length r H S.length r H' := by
  have st : Stp S.length r H S.length r H' := ⟨Nat.le_refl _, fun _ _ => rfl, fun a o h f n => ⟨x a o h n, f⟩⟩
  refine ⟨⟨e.inj, fun l o q => ?_, T⟩, st⟩
  have z := e.at_ l o q
  obtain ⟨u, t1, t2⟩ := orep_tame z
  exact z.stp st fun u' hu' => x _ _ hu' fun ps q => by
    rw [t1] at hu'
    cases hu'
    exact t2.1 ps q
abbrev Wm.ex (E : XK) : Wm := Wm.of fun cls d _ H => E cls d H
theorem c_lam {x : Str} {p lpos : Pos} {params : Arguments} {body : Expr} {fb : En → Sto → R D} (G : Good t k N sc X W) (hh : t.hot = none) (hlam : t.lam = true) (hg : glB sc x = true) (hn : nmB x = true) (hx : x ∈ t.nm.LT) (ha : noArgs params = true) (hL : LamX.lamSB sc scope = true)
    (hb : ∀ Xl E, Good t.inner k N scope Xl (Wm.ex E) → Wo Xl = Wo X → PE Xl body (tE Xl (Wm.ex E) fb)) :
    PE X (.Call (.Name x p) [.Lambda params body scope lpos] [] pos) (tE X W (fun s S => t.L x (fun S1 => fb s S1) S)) := by
  obtain ⟨n1, n2, n3⟩ := nm_of hn
  obtain ⟨fa, m1, m2, lp⟩ := G.ok.lamf x hx
  obtain ⟨g1, g2, g3⟩ := G.cold hh
  obtain ⟨rm, c, P, TB, hcode, hmT, hu⟩ := G.lam hh hlam
  have L := LamX.lamS_by hL
  rw [← G.hs] at L
  refine ⟨fun pins s σ H Q I hx => ?_⟩
  obtain ⟨S, r, e, emb, he, oo⟩ := hx
  have hdef : defaultsOf params X.env = ([], []) := by
    unfold noArgs at ha
    split at ha
    · rfl
    · cases ha
  refine wpAny_Call_Name_kw (ld_glob I (gl_of G hg) m1 ?_ n1)
  refine PySem.W.callWith_K (h₀ := X.base) I.ok.mod.kin m2 ?_ (by rfl) (by rfl)
  refine Calls.spliced_cons (LamX.lam_make2 I TB hcode hmT hu emb.tabs hdef (L.has I.ok) fun f c' pm' ctv H1 s1 I1 eN T1 hf hfn hfr hco => ?_)
  refine Calls.spliced_nil ⟨I1.kIn, ?_⟩
  obtain ⟨em1, st1⟩ := emb_ext emb eN T1
  have he1 := he.stp st1
  have o1 : Out (Wo X) S.length r H1 (Gv X Q) (GE X W σ) (t.L x (fun S1 => fb e S1) S) := by
    have oo : Out (Wo X) S.length r H (Gv X Q) (GE X W σ) (t.L x (fun S1 => fb e S1) S) := oo
    revert oo
    generalize t.L x (fun S1 => fb e S1) S = q
    intro oo
    cases q with
    | ok d S2 => exact fun r2 H2 st2 em2 => oo r2 H2 (st1.trans st2) em2
    | exc d S2 => exact fun r2 H2 st2 em2 => oo r2 H2 (st1.trans st2) em2
    | bad => exact oo
  have fzc : Fz S.length r c' := fun l hl z => by
    obtain ⟨u, t1, t2⟩ := orep_tame (em1.at_ l _ (List.getElem?_eq_getElem hl))
    rw [← z, hco] at t1
    cases t1
    exact t2.2 _ rfl
  have rc := lp X.A X.stack s1 H1 f c' (X.env.qual ++ "<lambda>") e σ (fun S1 => fb e S1) Q (fun cls dd H' => W.w cls dd σ H') S r rm G.gd I1.env0 em1 he1.rep hco fzc
    ⟨fun h' H' un => ⟨_, _, _, _, un.keep f _ hf hfn hfr (fun z => nomatch (show f ∈ ([] : List Addr) from z))⟩, fun A' outer' s2 H2 S2 r2 Q' E' hr hgd e0 un em2 he2 hco2 o2 => ?_⟩ o1
  · refine wpAny_call (codeAny_mono rc fun q s' hq => ?_)
    cases q with
    | error e => exact g3 e s' (XE.of_call I1 (fun cls d H' w => w) hq)
    | ok fl =>
      cases fl with
      | ret u => exact I1.after hq
      | next => exact False.elim hq
      | brk => exact False.elim hq
      | cont => exact False.elim hq
  · have of1 := un.keep f _ hf hfn hfr (fun z => nomatch (show f ∈ ([] : List Addr) from z))
    obtain ⟨⟨oc, vs, tk, hoc, hdc, hvc⟩, _, _⟩ := e0.hok c' _ hco2
    have lim : s2.heap.NoLimit := e0.mod.nolimit.keeps fun b o q => (e0.bs b o q).1
    refine PySem.W.kla_callFunE hr.depth of1 rfl L.co L.gen rfl ⟨c', oc, vs, tk, rfl, hoc, hdc, hvc⟩ ?_
    have hbind : bindArgs (PySem.W.kla_fn "<lambda>" (X.env.qual ++ "<lambda>") params body scope (cloFrom X.env.cells scope.names []) pm' (.ref c') ctv) ⟨[], []⟩ = pure [] := by
      unfold noArgs at ha
      split at ha
      · rfl
      · cases ha
    rw [hbind]
    refine wpAny_pure (wpAny_newFunctionEnv (fun y hy => (L.own y hy).2) (fun y hy => absurd hy (by simp)) (fun h₁ hns hsb => ⟨lim.fresh _ hsb, ?_⟩) L.kind)
    have kp : ∀ b o, s2.heap.get? b = some o → h₁.get? b = some o := fun b o q => hsb.extBut b o (Nat.ne_of_lt (Heap.lt_size q)) (Heap.get?_push_of_some _ q)
    have J := LamX.lam_start2 (A := A') (outer := outer') (E := E') (f := f) (c' := c') (tk := s2.toks + ([] : List (Str × Value)).length) I1 L e0 hr.hd un hns kp
    have gl : Good t.inner k N scope (LamX.lamCx X A' outer' s2 H2 E' scope f c') (Wm.ex E') := by
      have rk : Room k (A'.deeper (LamX.lamEnv X scope s2.heap.objs.size f c')) := hr.deeper _
      refine ⟨G.hN, rfl, G.nd, rk.un, deeper_guards hgd, G.ok.inner, fun _ => ⟨rfl, rk, takes_of rfl rfl rfl rfl⟩, fun i x z => (nomatch z), fun _ z => (nomatch z), fun i th _ z => (nomatch z)⟩
    refine PySem.W.kla_codeExpr (wpAny_mono ((hb _ _ gl rfl).run [] _ _ H2 Q' J ⟨S2, r2, e, em2, ⟨he2, trivial⟩, o2⟩) (fun v s' hq => ?_) fun e s' hq => hq)
    obtain ⟨w', H', J', rv, q⟩ := hq
    exact ⟨w', H', J'.os, J'.bare, J'.base, J'.hok, rv, q⟩
end
end Fw

set_option Elab.async false
set_option linter.all false
set_option maxRecDepth 100000
set_option maxHeartbeats 4000000
namespace Fw
open PySem PySem.Spec PyProof.Rows L2
variable [Tb]
def plainE : Expr → Bool
  | .UnaryOp .Not _ _ => false
  | .BoolOp _ _ _ => false
  | .IfExp _ _ _ _ => false
  | .Compare _ _ _ _ => false
  | _ => true
theorem plainT_of {e : Expr} (h : plainE e = true) : plainT e := by
  intro env whole
  cases e with
  | UnaryOp o x p => cases o <;> first | rfl | cases h
  | BoolOp => cases h
  | IfExp => cases h
  | Compare => cases h
  | _ => rfl
section
variable {X : Cx} {W : Wm} {t : Sta} {k : Nat} {N : List Str} {sc : Scope} {a b c : Expr} {f g h : En → Sto → R D} {pos : Pos}
abbrev Two (X : Cx) (W : Wm) (e : Expr) (f : En → Sto → R D) : Prop := PE X e (tE X W f) ∧ PTw X e (tT X W f)
theorem two_plain (hp : plainE a = true) (ha : PE X a (tE X W f)) : Two X W a f := by
  refine ⟨ha, PTw.of (c_test (plainT_of hp) ha) fun o es p z => ?_⟩
  rw [z] at hp
  cases hp
theorem c_andT (ha : PT X a (tT X W f)) {rest : List Expr} (hb : PW X (.BoolOp .And (b :: rest) pos) (tT X W g)) : PW X (.BoolOp .And (a :: b :: rest) pos) (tT X W (andF f g)) := pwI (pw_and ha hb) fun σ H Q q => and_t q
theorem c_orT (ha : PT X a (tT X W f)) {rest : List Expr} (hb : PW X (.BoolOp .Or (b :: rest) pos) (tT X W g)) : PW X (.BoolOp .Or (a :: b :: rest) pos) (tT X W (orF f g)) := pwI (pw_or ha hb) fun σ H Q q => or_t q
theorem pt_iteD (hc : PT X c (tT X W h)) (ha : PT X a (tT X W f)) (hb : PT X b (tT X W g)) : PT X (.IfExp c a b pos) (tT X W (fun s S => (h s S).bind fun x S1 => match x with
    | .bl true => f s S1
    | .bl false => g s S1
    | _ => .bad)) := by
  refine ⟨fun pins s σ H Q I hx => ?_⟩
  obtain ⟨S, r, e, emb, he, oo⟩ := hx
  show wpAny _ _ (do if ← isTrue c X.env (eval c X.env) then isTrue a X.env (eval a X.env) else isTrue b X.env (eval b X.env)) _ _ _
  have key : tT X W h σ H (fun d H1 => if d = true then tT X W f σ H1 Q else tT X W g σ H1 Q) := by
    refine on_seq emb he oo fun x S1 r1 H1 st1 emb1 he1 o1 => ?_
    split at o1
    · exact ⟨true, rfl, iteT ⟨S1, r1, e, emb1, he1, o1⟩⟩
    · exact ⟨false, rfl, iteF ⟨S1, r1, e, emb1, he1, o1⟩⟩
    · exact o1.elim
  refine wpAny_bind (thn (hc.run pins s σ H _ I key) fun d s1 ⟨H1, I1, q1⟩ => ?_)
  cases d with
  | true => exact ha.run pins s1 σ H1 Q I1 q1
  | false => exact hb.run pins s1 σ H1 Q I1 q1
end
end Fw

set_option Elab.async false
set_option linter.all false
set_option maxRecDepth 100000
set_option maxHeartbeats 8000000
namespace Fw
open PySem PySem.Spec PyProof.Rows L2
variable [Tb]
def Es.len : Es → Nat
  | .nil => 0
  | .cons _ r => r.len + 1
theorem evL_len {t : Sta} : ∀ (es : Es) {s : En} {S S' : Sto} {ds : List D}, evL t es s S = .ok ds S' → ds.length = es.len
  | .nil, s, S, S', ds, h => by
    unfold evL at h
    cases h
    rfl
  | .cons e r, s, S, S', ds, h => by
    unfold evL at h
    cases h1 : evE t e s S with
    | bad => rw [h1] at h; cases h
    | exc x S1 => rw [h1] at h; cases h
    | ok d S1 =>
      rw [h1] at h
      have h : ((evL t r s S1).bind fun ds S2 => .ok (d :: ds) S2) = R.ok ds S' := h
      cases h2 : evL t r s S1 with
      | bad => rw [h2] at h; cases h
      | exc x S2 => rw [h2] at h; cases h
      | ok qs S2 =>
        rw [h2] at h
        cases h
        rw [List.length_cons, evL_len r h2]
        rfl
theorem ckL_len {t : Nms} {N : List Str} {sc : Scope} : ∀ (es : Es) {xs : List Expr}, ckL t N sc es xs = true → xs.length = es.len
  | .nil, xs, h => by
    unfold ckL at h
    cases xs with
    | nil => rfl
    | cons => cases h
  | .cons e r, xs, h => by
    unfold ckL at h
    cases xs with
    | nil => cases h
    | cons y ys =>
      simp only [Bool.and_eq_true] at h
      rw [List.length_cons, ckL_len r h.2.2]
      rfl
theorem ckL_plain {t : Nms} {N : List Str} {sc : Scope} : ∀ (es : Es) {xs : List Expr}, ckL t N sc es xs = true → plainB xs = true
  | .nil, xs, h => by
    unfold ckL at h
    cases xs with
    | nil => rfl
    | cons => cases h
  | .cons e r, xs, h => by
    unfold ckL at h
    cases xs with
    | nil => cases h
    | cons y ys =>
      simp only [Bool.and_eq_true] at h
      unfold plainB
      rw [List.all_cons, Bool.and_eq_true]
      exact ⟨h.1, ckL_plain r h.2.2⟩
theorem kw_len {ks : List Str} {kws : List Keyword} (h : kwOk ks kws = true) : (kws.map (·.value)).length = ks.length := by
  unfold kwOk at h
  have h := congrArg List.length (of_decide_eq_true h)
  simpa using h
def P1 (a : Ex) : Prop := ∀ {t : Sta} {k : Nat} {N : List Str} {sc : Scope} {X : Cx} {W : Wm} (G : Good t k N sc X W) (e : Expr), ckE t.nm N sc a e = true → Two X W e (evE t a)
def P2a (es : Es) : Prop := ∀ {t : Sta} {k : Nat} {N : List Str} {sc : Scope} {X : Cx} {W : Wm} (G : Good t k N sc X W) (xs : List Expr), ckL t.nm N sc es xs = true → PA X xs (tL X W (evL t es)) ∧ ∀ kws : List Keyword, kws.map (·.value) = xs → PK X kws (tL X W (evL t es))
def P2b (es : Es) : Prop := ∀ {t : Sta} {k : Nat} {N : List Str} {sc : Scope} {X : Cx} {W : Wm} (G : Good t k N sc X W) (pos : Pos) (ks : List Str) (keys : List (Option Expr)) (vals : List Expr), ckD t.nm N sc ks es keys vals = true → ∃ trs, PDs X W pos ks keys vals (evL t es) trs ∧ es.len = ks.length
def P2 (es : Es) : Prop := P2a es ∧ P2b es
def P3a (o : Op) : Prop := ∀ {t : Sta} {k : Nat} {N : List Str} {sc : Scope} {X : Cx} {W : Wm} (G : Good t k N sc X W) (x : Option Expr), ckO t.nm N sc o x = true → PO X x (tO X W (evO t o))
def P3b (o : Op) : Prop := ∀ {t : Sta} {k : Nat} {N : List Str} {sc : Scope} {X : Cx} {W : Wm} (G : Good t k N sc X W) (xs : List Expr), ckIf t.nm N sc o xs = true → PTs X xs (tTc X W (evC t o))
def P3 (o : Op) : Prop := P3a o ∧ P3b o
def P4 (i : It1) : Prop := ∀ {t : Sta} {k : Nat} {N : List Str} {sc : Scope} {X : Cx} {W : Wm} (G : Good t k N sc X W) (tg x : Expr), ckI t.nm N sc i x = true → PI X tg x (tI X W (evI t i))
theorem tE_congr {X : Cx} {W : Wm} {F F' : En → Sto → R D} (h : ∀ s S, F s S = F' s S) : F = F' := funext fun s => funext fun S => h s S
theorem two_congr {X : Cx} {W : Wm} {e : Expr} {F F' : En → Sto → R D} (h : ∀ s S, F s S = F' s S) (q : Two X W e F') : Two X W e F := by
  rw [show F = F' from funext fun s => funext fun S => h s S]
  exact q

theorem sndE_var {i} : P1 (.var i : Ex) := by
  intro t k N sc X W G e h
  unfold ckE at h
  split at h
  · simp only [Bool.and_eq_true, decide_eq_true_eq] at h
    refine two_congr ?_ (two_plain rfl (c_var G h.1 h.2.1 h.2.2))
    intro s S; first | (rw [evE]; done) | (rw [evE]; rfl)
  · cases h

theorem sndE_glo {y} : P1 (.glo y : Ex) := by
  intro t k N sc X W G e h
  unfold ckE at h
  split at h
  · simp only [Bool.and_eq_true, decide_eq_true_eq] at h
    obtain ⟨rfl, h1, h2⟩ := h
    refine two_congr ?_ (two_plain rfl (c_glo G h1 h2))
    intro s S; first | (rw [evE]; done) | (rw [evE]; rfl)
  · cases h

theorem sndE_con {c} : P1 (.con c : Ex) := by
  intro t k N sc X W G e h
  unfold ckE at h
  split at h
  · simp only [Bool.and_eq_true, decide_eq_true_eq] at h
    obtain ⟨rfl, h1⟩ := h
    refine two_congr ?_ (two_plain rfl c_con)
    intro s S; first | (rw [evE]; done) | (rw [evE]; rfl)
  · cases h

theorem sndE_bin {o} {a} {b} (ih_a : P1 a) (ih_b : P1 b) : P1 (.bin o a b : Ex) := by
  intro t k N sc X W G e h
  unfold ckE at h
  split at h
  · simp only [Bool.and_eq_true, decide_eq_true_eq] at h
    obtain ⟨rfl, h1, h2⟩ := h
    refine two_congr ?_ (two_plain rfl (c_bin G (ih_a G _ h1).1 (ih_b G _ h2).1))
    intro s S; first | (rw [evE]; done) | (rw [evE]; rfl)
  · cases h

theorem sndE_neg {a} (ih_a : P1 a) : P1 (.neg a : Ex) := by
  intro t k N sc X W G e h
  unfold ckE at h
  split at h
  · simp only [Bool.and_eq_true, decide_eq_true_eq] at h
    obtain ⟨rfl, h1⟩ := h
    refine two_congr ?_ (two_plain rfl (c_neg (ih_a G _ h1).1))
    intro s S; first | (rw [evE]; done) | (rw [evE]; rfl)
  · cases h

theorem sndE_cmp {o} {a} {b} (ih_a : P1 a) (ih_b : P1 b) : P1 (.cmp o a b : Ex) := by
  intro t k N sc X W G e h
  unfold ckE at h
  split at h
  · simp only [Bool.and_eq_true, decide_eq_true_eq] at h
    obtain ⟨rfl, h0, h1, h2⟩ := h
    refine two_congr ?_ (c_cmp G (ih_a G _ h1).1 (ih_b G _ h2).1 h0)
    intro s S; first | (rw [evE]; done) | (rw [evE]; rfl)
  · cases h

theorem sndE_cmp2 {o} {q} {a} {b} {c} (ih_a : P1 a) (ih_b : P1 b) (ih_c : P1 c) : P1 (.cmp2 o q a b c : Ex) := by
  intro t k N sc X W G e h
  unfold ckE at h
  split at h
  · simp only [Bool.and_eq_true, decide_eq_true_eq] at h
    obtain ⟨rfl, rfl, h0, h1, h2, h3⟩ := h
    refine two_congr ?_ (c_cmp2 G (ih_a G _ h1).1 (ih_b G _ h2).1 (ih_c G _ h3).1 h0)
    intro s S; first | (rw [evE]; done) | (rw [evE]; rfl)
  · cases h

theorem sndE_and {a} {b} (ih_a : P1 a) (ih_b : P1 b) : P1 (.and a b : Ex) := by
  intro t k N sc X W G e h
  unfold ckE at h
  split at h
  · simp only [Bool.and_eq_true, decide_eq_true_eq] at h
    obtain ⟨rfl, h1, h2⟩ := h
    obtain ⟨a1, a2⟩ := ih_a G _ h1
    obtain ⟨b1, b2⟩ := ih_b G _ h2
    refine two_congr ?_ (⟨peI (pe_and a1 (pe_one b1)) fun σ H Q q => and_v q, c_andT a2.pt (pw_and1 b2.pt)⟩)
    intro s S; first | (rw [evE]; done) | (rw [evE]; rfl)
  · simp only [Bool.and_eq_true, decide_eq_true_eq] at h
    obtain ⟨rfl, h1, h2⟩ := h
    obtain ⟨a1, a2⟩ := ih_a G _ h1
    obtain ⟨b1, b2⟩ := ih_b G _ h2
    refine two_congr ?_ (⟨peI (pe_and a1 b1) fun σ H Q q => and_v q, c_andT a2.pt b2⟩)
    intro s S; first | (rw [evE]; done) | (rw [evE]; rfl)
  · cases h

theorem sndE_or {a} {b} (ih_a : P1 a) (ih_b : P1 b) : P1 (.or a b : Ex) := by
  intro t k N sc X W G e h
  unfold ckE at h
  split at h
  · simp only [Bool.and_eq_true, decide_eq_true_eq] at h
    obtain ⟨rfl, h1, h2⟩ := h
    obtain ⟨a1, a2⟩ := ih_a G _ h1
    obtain ⟨b1, b2⟩ := ih_b G _ h2
    refine two_congr ?_ (⟨peI (pe_or a1 (pe_one b1)) fun σ H Q q => or_v q, c_orT a2.pt (pw_or1 b2.pt)⟩)
    intro s S; first | (rw [evE]; done) | (rw [evE]; rfl)
  · simp only [Bool.and_eq_true, decide_eq_true_eq] at h
    obtain ⟨rfl, h1, h2⟩ := h
    obtain ⟨a1, a2⟩ := ih_a G _ h1
    obtain ⟨b1, b2⟩ := ih_b G _ h2
    refine two_congr ?_ (⟨peI (pe_or a1 b1) fun σ H Q q => or_v q, c_orT a2.pt b2⟩)
    intro s S; first | (rw [evE]; done) | (rw [evE]; rfl)
  · cases h

theorem sndE_not {a} (ih_a : P1 a) : P1 (.not a : Ex) := by
  intro t k N sc X W G e h
  unfold ckE at h
  split at h
  · simp only [Bool.and_eq_true, decide_eq_true_eq] at h
    obtain ⟨rfl, h1⟩ := h
    obtain ⟨a1, a2⟩ := ih_a G _ h1
    refine two_congr ?_ (c_not a1 a2.pt)
    intro s S; first | (rw [evE]; done) | (rw [evE]; rfl)
  · cases h

theorem sndE_ite {c} {a} {b} (ih_c : P1 c) (ih_a : P1 a) (ih_b : P1 b) : P1 (.ite c a b : Ex) := by
  intro t k N sc X W G e h
  unfold ckE at h
  split at h
  · simp only [Bool.and_eq_true, decide_eq_true_eq] at h
    obtain ⟨h1, h2, h3⟩ := h
    obtain ⟨c1, c2⟩ := ih_c G _ h1
    obtain ⟨a1, a2⟩ := ih_a G _ h2
    obtain ⟨b1, b2⟩ := ih_b G _ h3
    refine two_congr ?_ (⟨c_ite c2.pt a1 b1, pt_iteD c2.pt a2.pt b2.pt⟩)
    intro s S; first | (rw [evE]; done) | (rw [evE]; rfl)
  · cases h

theorem sndE_tup {es} (ih_es : P2 es) : P1 (.tup es : Ex) := by
  intro t k N sc X W G e h
  unfold ckE at h
  split at h
  · exact two_plain rfl (c_tup (ih_es.1 G _ h).1)
  · cases h

theorem sndE_lst {m} {es} (ih_es : P2 es) : P1 (.lst m es : Ex) := by
  intro t k N sc X W G e h
  unfold ckE at h
  split at h
  · exact two_plain rfl (c_lst (ih_es.1 G _ h).1)
  · cases h

theorem sndE_dct {m} {ks} {es} (ih_es : P2 es) : P1 (.dct m ks es : Ex) := by
  intro t k N sc X W G e h
  unfold ckE at h
  split at h
  · simp only [Bool.and_eq_true, decide_eq_true_eq] at h
    obtain ⟨h15, hnd, h1⟩ := h
    refine two_plain rfl ?_
    rename_i keys vals pos
    cases es with
    | nil =>
      unfold ckD at h1
      simp only [Bool.and_eq_true, List.isEmpty_iff] at h1
      obtain ⟨rfl, rfl, rfl⟩ := h1
      exact c_dct0
    | cons x r =>
      obtain ⟨trs, hd, hl⟩ := ih_es.2 G pos ks keys vals h1
      refine c_dct hd ?_ h15 hnd fun s S ds S' q => by rw [evL_len _ q, hl]
      intro z
      have := hd.kl
      rw [z, ← hl] at this
      cases this
  · cases h

theorem sndE_idx {a} {b} (ih_a : P1 a) (ih_b : P1 b) : P1 (.idx a b : Ex) := by
  intro t k N sc X W G e h
  unfold ckE at h
  split at h
  · simp only [Bool.and_eq_true, decide_eq_true_eq] at h
    obtain ⟨h0, h1, h2⟩ := h
    refine two_congr ?_ (two_plain rfl (c_idx G h0 (ih_a G _ h1).1 (ih_b G _ h2).1))
    intro s S; first | (rw [evE]; done) | (rw [evE]; rfl)
  · cases h

theorem sndE_sl {a} {lo} {hi} (ih_a : P1 a) (ih_lo : P3 lo) (ih_hi : P3 hi) : P1 (.sl a lo hi : Ex) := by
  intro t k N sc X W G e h
  unfold ckE at h
  split at h
  · simp only [Bool.and_eq_true, decide_eq_true_eq] at h
    obtain ⟨h0, h1, h2⟩ := h
    refine two_congr ?_ (two_plain rfl (c_sl (ih_a G _ h0).1 (ih_lo.1 G _ h1) (ih_hi.1 G _ h2)))
    intro s S; first | (rw [evE]; done) | (rw [evE]; rfl)
  · cases h

theorem sndE_call {f} {es} {ks} {kes} (ih_es : P2 es) (ih_kes : P2 kes) : P1 (.call f es ks kes : Ex) := by
  intro t k N sc X W G e h
  unfold ckE at h
  split at h
  · simp only [Bool.and_eq_true, decide_eq_true_eq] at h
    obtain ⟨rfl, h1, h2, h3, h4, h5, h6⟩ := h
    refine two_congr ?_ (two_plain rfl (c_call G h1 h2 h3 (ckL_plain _ h4) h5 (ih_es.1 G _ h4).1 ((ih_kes.1 G _ h6).2 _ rfl) fun s S ds S' q => ?q))
    · intro s S; first | (rw [evE]; done) | (rw [evE]; rfl)
    rw [evL_len _ q, ← ckL_len _ h6, kw_len h5]
  · cases h

theorem sndE_bi {f} {es} (ih_es : P2 es) : P1 (.bi f es : Ex) := by
  intro t k N sc X W G e h
  unfold ckE at h
  split at h
  · simp only [Bool.and_eq_true, decide_eq_true_eq] at h
    obtain ⟨rfl, h1, h2, h3, h4, h5⟩ := h
    refine two_congr ?_ (two_plain rfl (c_bi G h3 h1 h4 h2 (ckL_plain _ h5) (ih_es.1 G _ h5).1))
    intro s S; first | (rw [evE]; done) | (rw [evE]; rfl)
  · cases h

theorem sndE_mt {a} {m} {es} (ih_a : P1 a) (ih_es : P2 es) : P1 (.mt a m es : Ex) := by
  intro t k N sc X W G e h
  unfold ckE at h
  split at h
  · simp only [Bool.and_eq_true, decide_eq_true_eq] at h
    obtain ⟨rfl, h1, h2, h3, h4, h5, h6⟩ := h
    refine two_congr ?_ (two_plain rfl (c_mt h1 h2 h3 h4 (ckL_plain _ h6) (ih_a G _ h5).1 (ih_es.1 G _ h6).1))
    intro s S; first | (rw [evE]; done) | (rw [evE]; rfl)
  · cases h

theorem sndE_lam {f} {a} (ih_a : P1 a) : P1 (.lam f a : Ex) := by
  intro t k N sc X W G e h
  unfold ckE at h
  split at h
  · simp only [Bool.and_eq_true, decide_eq_true_eq] at h
    obtain ⟨rfl, h1, h2, h3, h4, h5, h6⟩ := h
    refine two_plain rfl ?_
    cases hh : t.hot with
    | some z => exact pe_bad (fun s S => by rw [evE]; unfold Sta.cold; rw [hh]; rfl)
    | none =>
      cases hl : t.lam with
      | false => exact pe_bad (fun s S => by rw [evE]; unfold Sta.cold; rw [hh, hl]; rfl)
      | true =>
        refine peI (c_lam (fb := evE t.inner a) G hh hl h1 h2 h3 h4 h5 fun Xl E Gl _ => (ih_a Gl _ h6).1) fun σ H Q q => ?_
        rename_i y p1 params body scope p2 p3
        have e1 : evE t (.lam y a) = fun s S => t.L y (fun S1 => evE t.inner a s S1) S := by
          funext s S
          rw [evE]
          unfold Sta.cold
          rw [hh, hl]
          rfl
        rw [e1] at q
        exact q
  · cases h

theorem sndE_isE {i} {c} (ih_c : P1 c) : P1 (.isE i c : Ex) := by
  intro t k N sc X W G e h
  unfold ckE at h
  split at h
  · simp only [Bool.and_eq_true, decide_eq_true_eq] at h
    obtain ⟨rfl, h1, h2, h3, h4, h5, h6, h7⟩ := h
    refine two_congr ?_ (two_plain rfl (c_isE G h1 h2 h3 h4 h5 h6 (ih_c G _ h7).1))
    intro s S; first | (rw [evE]; done) | (rw [evE]; rfl)
  · cases h

theorem sndE_fldE {i} {f} : P1 (.fldE i f : Ex) := by
  intro t k N sc X W G e h
  unfold ckE at h
  split at h
  · simp only [Bool.and_eq_true, decide_eq_true_eq] at h
    obtain ⟨rfl, h1, h2, h3⟩ := h
    refine two_congr ?_ (two_plain rfl (c_fldE G h1 h2 h3))
    intro s S; first | (rw [evE]; done) | (rw [evE]; rfl)
  · cases h

theorem sndE_act {i} : P1 (.act i : Ex) := by
  intro t k N sc X W G e h
  unfold ckE at h
  split at h
  · simp only [Bool.and_eq_true, decide_eq_true_eq] at h
    obtain ⟨h1, h2, h3⟩ := h
    refine two_congr ?_ (two_plain rfl (c_act G h1 h2 h3))
    intro s S; first | (rw [evE]; done) | (rw [evE]; rfl)
  · cases h

theorem sndE_lc {m} {own} {tg} {it} {c} {a} (ih_it : P4 it) (ih_c : P3 c) (ih_a : P1 a) : P1 (.lc m own tg it c a : Ex) := by
  intro t k N sc X W G e h
  unfold ckE at h
  split at h
  · simp only [Bool.and_eq_true, decide_eq_true_eq] at h
    obtain ⟨h1, h2, h3, h4, h5, h6, h7⟩ := h
    refine two_plain rfl ?_
    cases hh : t.hot with
    | some z => exact pe_bad (fun s S => by rw [evE]; unfold Sta.cold; rw [hh]; rfl)
    | none =>
      refine peI (c_lc (m := m) (fc := evC t.blk c) (fe := evE t.blk a) (fi := evI t it) G hh h1 h2 h3 h5 (ih_it G _ _ h4) (fun Xb Gb _ => ih_c.2 Gb _ h6) fun Xb Gb _ => (ih_a Gb _ h7).1) fun σ H Q q => ?_
      have e1 : evE t (.lc m own tg it c a) = lcF m tg (own.map (·.2)) (evI t it) (evC t.blk c) (evE t.blk a) := by
        funext s S
        rw [evE]
        unfold Sta.cold
        rw [hh]
        rfl
      rw [e1] at q
      exact q
  · cases h

theorem sndL_nil : P2a (.nil : Es) := by
  intro t k N sc X W G xs h
  unfold ckL at h
  cases xs with
  | nil =>
    refine ⟨c_nil, fun kws z => ?_⟩
    cases kws with
    | nil => exact c_nilK
    | cons => cases z
  | cons => cases h

theorem sndL_cons {a} {r} (ih_a : P1 a) (ih_r : P2 r) : P2a (.cons a r : Es) := by
  intro t k N sc X W G xs h
  unfold ckL at h
  cases xs with
  | nil => cases h
  | cons y ys =>
    simp only [Bool.and_eq_true] at h
    obtain ⟨h1, h2, h3⟩ := h
    have ha := (ih_a G _ h2).1
    obtain ⟨r1, r2⟩ := ih_r.1 G _ h3
    refine ⟨c_cons h1 ha r1, fun kws z => ?_⟩
    cases kws with
    | nil => cases z
    | cons kw kws =>
      rw [List.map_cons] at z
      injection z with z1 z2
      obtain ⟨nm, v, p⟩ := kw
      have z1 : v = y := z1
      subst z1
      exact c_consK ha (r2 kws z2)

theorem sndO_no : P3a (.no : Op) := by
  intro t k N sc X W G x h
  unfold ckO at h
  cases x with
  | none => exact c_no
  | some => cases h

theorem sndO_yes {e} (ih_e : P1 e) : P3a (.yes e : Op) := by
  intro t k N sc X W G x h
  unfold ckO at h
  cases x with
  | none => cases h
  | some y => exact c_yes (ih_e G _ h).1

theorem sndC_no : P3b (.no : Op) := by
  intro t k N sc X W G xs h
  unfold ckIf at h
  cases xs with
  | nil => exact ⟨fun pins s σ H Q I ⟨S, r, e, emb, he, oo⟩ => pts_nil.run pins s σ H Q I (out_same emb oo)⟩
  | cons => cases h

theorem sndC_yes {e} (ih_e : P1 e) : P3b (.yes e : Op) := by
  intro t k N sc X W G xs h
  unfold ckIf at h
  split at h
  · have ht := (ih_e G _ h).2.pt
    refine ⟨fun pins s σ H Q I hx => (pts_one ht).run pins s σ H Q I ?_⟩
    obtain ⟨S, r, en, emb, he, oo⟩ := hx
    refine on_seq emb he oo fun x S1 r1 H1 st1 emb1 he1 o1 => ?_
    split at o1
    · exact ⟨_, rfl, out_same emb1 o1⟩
    · exact o1.elim
  · cases h

theorem sndI_ex {e} (ih_e : P1 e) : P4 (.ex e : It1) := by
  intro t k N sc X W G tg x h
  unfold ckI at h
  exact i_ex (ih_e G _ h).1

theorem sndI_rng {a} (ih_a : P1 a) : P4 (.rng a : It1) := by
  intro t k N sc X W G tg x h
  unfold ckI at h
  split at h
  · simp only [Bool.and_eq_true, decide_eq_true_eq] at h
    obtain ⟨rfl, h1, h2, h3, h4⟩ := h
    exact i_rng G h1 h2 h3 (ih_a G _ h4).1
  · cases h

theorem sndI_rng2 {a} {b} (ih_a : P1 a) (ih_b : P1 b) : P4 (.rng2 a b : It1) := by
  intro t k N sc X W G tg x h
  unfold ckI at h
  split at h
  · simp only [Bool.and_eq_true, decide_eq_true_eq] at h
    obtain ⟨rfl, h1, h2, h3, h4, h5, h6⟩ := h
    exact i_rng2 G h1 h2 h3 h4 (ih_a G _ h5).1 (ih_b G _ h6).1
  · cases h

theorem sndD_nil : P2b (.nil : Es) := by
  intro t k N sc X W G pos ks keys vals h
  unfold ckD at h
  simp only [Bool.and_eq_true, List.isEmpty_iff] at h
  obtain ⟨rfl, rfl, rfl⟩ := h
  exact ⟨[], d_nil, rfl⟩

theorem sndD_cons {e} {r} (ih_e : P1 e) (ih_r : P2 r) : P2b (.cons e r : Es) := by
  intro t k N sc X W G pos ks keys vals h
  unfold ckD at h
  split at h
  · simp only [Bool.and_eq_true, decide_eq_true_eq] at h
    obtain ⟨rfl, h1, h2⟩ := h
    obtain ⟨trs, hd, hl⟩ := ih_r.2 G pos _ _ _ h2
    exact ⟨_, d_cons (ih_e G _ h1).1 hd, by rw [Es.len, hl, List.length_cons]⟩
  · cases h
theorem sndE_all : ∀ a : Ex, P1 a := @Ex.rec P1 P2 P3 P4
  (fun _ => sndE_var) (fun _ => sndE_glo) (fun _ => sndE_con) (fun _ _ _ a b => sndE_bin a b) (fun _ a => sndE_neg a) (fun _ _ _ a b => sndE_cmp a b) (fun _ _ _ _ _ a b c => sndE_cmp2 a b c) (fun _ _ a b => sndE_and a b) (fun _ _ a b => sndE_or a b) (fun _ a => sndE_not a)
  (fun _ _ _ c a b => sndE_ite c a b) (fun _ e => sndE_tup e) (fun _ _ e => sndE_lst e) (fun _ _ _ e => sndE_dct e) (fun _ _ a b => sndE_idx a b) (fun _ _ _ a b c => sndE_sl a b c) (fun _ _ _ _ a b => sndE_call a b) (fun _ _ a => sndE_bi a) (fun _ _ _ a b => sndE_mt a b)
  (fun _ _ _ _ _ _ i c a => sndE_lc i c a) (fun _ _ a => sndE_lam a) (fun _ _ a => sndE_isE a) (fun _ _ => sndE_fldE) (fun _ => sndE_act)
  ⟨sndL_nil, sndD_nil⟩ (fun _ _ a r => ⟨sndL_cons a r, sndD_cons a r⟩) ⟨sndO_no, sndC_no⟩ (fun _ a => ⟨sndO_yes a, sndC_yes a⟩) (fun _ a => sndI_ex a) (fun _ a => sndI_rng a) (fun _ _ a b => sndI_rng2 a b)
theorem sndI_all : ∀ i : It1, P4 i
  | .ex e => sndI_ex (sndE_all e)
  | .rng a => sndI_rng (sndE_all a)
  | .rng2 a b => sndI_rng2 (sndE_all a) (sndE_all b)
theorem sndL_all2 : ∀ es : Es, P2 es
  | .nil => ⟨sndL_nil, sndD_nil⟩
  | .cons a r => ⟨sndL_cons (sndE_all a) (sndL_all2 r), sndD_cons (sndE_all a) (sndL_all2 r)⟩
end Fw

set_option Elab.async false
set_option linter.all false
set_option maxRecDepth 100000
set_option maxHeartbeats 4000000
namespace Fw
open PySem PySem.Spec PyProof.Rows L2
variable [Tb]
/-! rows of a def -/
mutual
inductive Sm where
  | set (i : Nat) (e : Ex)
  | par (is : List Nat) (es : Es)
  | asg (tg : Tg) (e : Ex)
  | sub (o i e : Ex)
  | cond (c : Ex) (a b : Ss)
  | loop (tg : Tg) (it : It1) (b : Ss)
  | ret (e : Ex)
  | retN
  | expr (e : Ex)
  | raise (C : Str) (m : Str)
  | tryN (b : Ss) (x : Str) (h : Ss)
  | tryA (b : Ss) (x : Str) (i : Nat) (h : Ss)
inductive Ss where
  | nil
  | cons (a : Sm) (r : Ss)
end
/-- how a row ends -/
inductive Fl where
  | next (s : En)
  | ret (d : D)
  | brk (s : En)
  | cont (s : En)
  | exc (x : Xc) (s : En)
def R.bindS {α : Type} (r : R α) (s : En) (k : α → Sto → R Fl) : R Fl := match r with
  | .ok a S => k a S
  | .exc x S => .ok (.exc x s) S
  | .bad => .bad
def repD : List Key → List D → Key → D → List D
  | k :: ks, d :: ds, q, v => (if k = q then v else d) :: repD ks ds q v
  | _, _, _, _ => []
def putD (ks : List Key) (ds : List D) (q : Key) (v : D) : List Key × List D := if (ks.any fun k => decide (k = q)) = true then (ks, repD ks ds q v) else (ks ++ [q], ds ++ [v])
def setD (o i v : D) (S : Sto) : Option Sto := match o with
  | .ref l => (match S[l]? with
    | some (.dct ks ds) => (keyD i).bind fun q => if ks.length < 1000 ∧ ks.length = ds.length then some (S.set l (.dct (putD ks ds q v).1 (putD ks ds q v).2)) else none
    | some (.lst ds) => (match i with
      | .int k => (ixN ds.length k).map fun j => S.set l (.lst (ds.set j v))
      | _ => none)
    | _ => none)
  | _ => none
def setAll : List Nat → List D → En → Option En
  | [], [], s => some s
  | i :: is, d :: ds, s => setAll is ds (s.set i (some d))
  | _, _, _ => none
def forGo (all : List D) (w : Option Nat) (b : D → En → Sto → R Fl) : List D → En → Sto → R Fl
  | [], s, S => if okB S all w = true then .ok (.next s) S else .bad
  | d :: r, s, S => if okB S all w = true then (match b d s S with
    | .ok (.next s1) S1 => forGo all w b r s1 S1
    | .ok (.cont s1) S1 => forGo all w b r s1 S1
    | .ok (.brk s1) S1 => .ok (.next s1) S1
    | .ok f S1 => .ok f S1
    | _ => .bad) else .bad
def Sta.suite (t : Sta) (i : Option Nat) (x : Xc) : Sta := { t with lam := false, thk := none, hot := some (i, x) }
/-- no error leaves a suite -/
def noXs : R Fl → R Fl
  | .ok (.exc _ _) _ => .bad
  | r => r
def unslot (i : Nat) : R Fl → R Fl
  | .ok (.next s) S => .ok (.next (s.set i none)) S
  | .ok (.brk s) S => .ok (.brk (s.set i none)) S
  | .ok (.cont s) S => .ok (.cont (s.set i none)) S
  | r => r
mutual
def evS : Sm → Sta → En → Sto → R Fl
  | .set i e, t, s, S => (evE t e s S).bindS s fun d S1 => .ok (.next (s.set i (some d))) S1
  | .par is es, t, s, S => t.cold ((evL t es s S).bindS s fun ds S1 => match setAll is ds s with
    | some s1 => .ok (.next s1) S1
    | none => .bad)
  | .asg tg e, t, s, S => t.cold ((evE t e s S).bindS s fun d S1 => match tgD tg d s with
    | some s1 => .ok (.next s1) S1
    | none => .bad)
  | .sub o i e, t, s, S => (evE t e s S).bindS s fun v S1 => (evE t o s S1).bindS s fun x S2 => (evE t i s S2).bindS s fun y S3 => match setD x y v S3 with
    | some S4 => .ok (.next s) S4
    | none => .bad
  | .cond c a b, t, s, S => (evE t c s S).bindS s fun x S1 => match x with
    | .bl true => evSs a t s S1
    | .bl false => evSs b t s S1
    | _ => .bad
  | .loop tg it b, t, s, S => t.cold ((evI t it s S).bindS s fun q S1 => forGo q.1 q.2 (fun d s S => match tgD tg d s with
    | some s1 => evSs b t s1 S
    | none => .bad) q.1 s S1)
  | .ret e, t, s, S => (evE t e s S).bindS s fun d S1 => .ok (.ret d) S1
  | .retN, _, _, S => .ok (.ret .non) S
  | .expr e, t, s, S => (evE t e s S).bindS s fun _ S1 => .ok (.next s) S1
  | .raise C _, t, s, S => t.cold (if C ∈ t.RX then .ok (.exc ⟨C, [], []⟩ s) S else .bad)
  | .tryN b x h, t, s, S => t.cold (match evSs b t s S with
    | .ok (.exc e s1) S1 => (match t.EI e.C x with
      | some true => if e.C ∈ t.EC then noXs (evSs h (t.suite none e) s1 S1) else .bad
      | some false => .ok (.exc e s1) S1
      | none => .bad)
    | r => r)
  | .tryA b x i h, t, s, S => t.cold (match evSs b t s S with
    | .ok (.exc e s1) S1 => (match t.EI e.C x with
      | some true => if e.C ∈ t.EC ∧ i < s1.length then unslot i (noXs (evSs h (t.suite (some i) e) (s1.set i none) S1)) else .bad
      | some false => .ok (.exc e s1) S1
      | none => .bad)
    | r => r)
def evSs : Ss → Sta → En → Sto → R Fl
  | .nil, _, s, S => .ok (.next s) S
  | .cons a r, t, s, S => match evS a t s S with
    | .ok (.next s1) S1 => evSs r t s1 S1
    | q => q
end
/-! does a text stand for a row? -/
def isComp : Expr → Bool
  | .ListComp _ _ _ _ => true
  | .SetComp _ _ _ _ => true
  | .DictComp _ _ _ _ _ => true
  | _ => false
def swNames (sc : Scope) (ts : List Expr) : List Str := ts.filterMap fun
    | .Name id pos => if sc.names.lookup id == some .local && pos.line == (ts.head?.map (·.pos.line)).getD 0 then some id else none
    | _ => none
/-- how a, b = x, y stores: at once (none), or name by name -/
def swS (sc : Scope) (ts vs : List Expr) : Option (Option (List Str)) :=
  if !(ts.length == 2 || ts.length == 3) || vs.length != ts.length then some none
  else if (vs.any fun | .Starred .. => true | _ => false) then some none
  else if (swNames sc ts).length != ts.length || (swNames sc ts).eraseDups.length != (swNames sc ts).length then some none
  else if vs.all (foldedForSure 8) then some none
  else if vs.all (constantsAlone 8) then none
  else some (some (swNames sc ts))
def nmsB (N : List Str) (sc : Scope) : List Nat → List Expr → Bool
  | [], [] => true
  | i :: is, .Name x _ :: es => decide (N[i]? = some x) && (decide (sc.names.lookup x = some .local) && nmsB N sc is es)
  | _, _ => false
def nmOf : Expr → Str
  | .Name x _ => x
  | _ => ""
def locS (sc : Scope) (x : Str) : Bool := decide (sc.names.lookup x = some .local) || decide (sc.names.lookup x = some .cell)
mutual
def ckS (t : Nms) (N : List Str) (sc : Scope) : Sm → List Nat → Stmt → Bool
  | .set i e, fx, st => match st with
    | .Assign [.Name x _] v _ => decide (N[i]? = some x) && (locS sc x && (decide (i ∉ fx) && ckE t N sc e v))
    | _ => false
  | .par is es, fx, st => match st with
    | .Assign [.Tuple ts _ _] (.Tuple vs _ _) _ => nmsB N sc is ts && (decide is.Nodup && ((is.all fun i => decide (i ∉ fx)) && ((decide (is.length = 2) || decide (is.length = 3)) && (decide (swS sc ts vs = some (some (ts.map nmOf))) && ckL t N sc es vs))))
    | _ => false
  | .asg tg e, fx, st => match st with
    | .Assign [.Tuple ts k p] v _ => (match v with
      | .Tuple vs _ _ => decide (swS sc ts vs = some none)
      | v => !isComp v) && (ckT true N sc tg (.Tuple ts k p) && (((slT tg).all fun i => decide (i ∉ fx)) && ckE t N sc e v))
    | _ => false
  | .sub o i e, fx, st => match st with
    | .Assign [.Subscript eo ei _] v _ => notSl ei && (ckE t N sc o eo && (ckE t N sc i ei && ckE t N sc e v))
    | _ => false
  | .cond c a b, fx, st => match st with
    | .If ec xs ys _ => ckE t N sc c ec && (ckSs t N sc a fx xs && ckSs t N sc b fx ys)
    | _ => false
  | .loop tg it b, fx, st => match st with
    | .For et ei xs [] _ => ckT true N sc tg et && (((slT tg).all fun i => decide (i ∉ fx)) && (conSet ei && (ckI t N sc it ei && ckSs t N sc b fx xs)))
    | _ => false
  | .ret e, fx, st => match st with
    | .Return (some v) _ => ckE t N sc e v
    | _ => false
  | .retN, _, st => match st with
    | .Return none _ => true
    | _ => false
  | .expr e, fx, st => match st with
    | .Expr v _ => !isComp v && ckE t N sc e v
    | _ => false
  | .raise C m, fx, st => match st with
    | .Raise (some (.Call (.Name x _) [.Constant (.str m') _ _] [] _)) none _ => decide (x = C) && (decide (m' = m) && (glB sc x && nmB x))
    | _ => false
  | .tryN b x h, fx, st => match st with
    | .Try xs [.ExceptHandler (some (.Name y _)) none (b0 :: ys) _] [] [] _ => decide (y = x) && (glB sc y && (nmB y && (decide (x ∈ t.CN) && (ckSs t N sc b fx xs && ckSs t N sc h fx (b0 :: ys)))))
    | _ => false
  | .tryA b x i h, fx, st => match st with
    | .Try xs [.ExceptHandler (some (.Name y _)) (some n) (b0 :: ys) _] [] [] _ => decide (y = x) && (glB sc y && (nmB y && (decide (x ∈ t.CN) && (decide (N[i]? = some n) && (decide (sc.names.lookup n = some .local) && (decide (i ∉ fx) && (ckSs t N sc b fx xs && ckSs t N sc h (i :: fx) (b0 :: ys))))))))
    | _ => false
def ckSs (t : Nms) (N : List Str) (sc : Scope) : Ss → List Nat → List Stmt → Bool
  | .nil, _, xs => xs.isEmpty
  | .cons a r, fx, xs => match xs with
    | y :: ys => ckS t N sc a fx y && ckSs t N sc r fx ys
    | [] => false
end
end Fw

set_option Elab.async false
set_option linter.all false
set_option maxRecDepth 100000
set_option maxHeartbeats 4000000
namespace Fw
open PySem PySem.Spec PyProof.Rows L2
variable [Tb]
/-- what a row's end is to reach -/
def GF (X : Cx) (W : Wm) (De : Ends) : Fl → Sto → Rho → Hp → Prop
  | .next e, S, r, H => ∀ σ, EnvR (Wo X) W S.length r H e σ → De.nx σ H
  | .brk e, S, r, H => ∀ σ, EnvR (Wo X) W S.length r H e σ → De.bk σ H
  | .cont e, S, r, H => ∀ σ, EnvR (Wo X) W S.length r H e σ → De.ct σ H
  | .ret d, S, r, H => ∀ v, Rep (Wo X) S.length r H d v → De.rt v H
  | .exc x e, S, r, H => ∀ σ cls dd, EnvR (Wo X) W S.length r H e σ → XRep (Wo X) S.length r H x cls dd → W.w cls dd σ H
def tS (X : Cx) (W : Wm) (f : En → Sto → R Fl) : TS := fun De σ H => ∃ S r e, Emb (Wo X) S r H ∧ EnvR (Wo X) W S.length r H e σ ∧ Out (Wo X) S.length r H (GF X W De) Xn (f e S)
structure GoodS (t : Sta) (k : Nat) (N : List Str) (sc : Scope) (X : Cx) (W : Wm) (fx : List Nat) : Prop where
  g : Good t k N sc X W
  fnT : ∀ x, X.fn x = true
  st : X.stack = X.env :: X.outer
  fr : X.env.frame = some X.env.locals
  kd : sc.kind = .function
  po : t.hot = none → PassesOwn (model X.prog X.w) X.A X.env X.xe
  fxs : ∀ i ∈ W.fix, i ∈ fx
/-- one part of a row, then the rest -/
theorem on_stm {α : Type} {X : Cx} {W : Wm} {f : En → Sto → R α} {k : α → Sto → R Fl} {G' : α → Sto → Rho → Hp → Prop} {De : Ends} {σ : L2.St} {S : Sto} {r : Rho} {H : Hp} {e : En}
    (emb : Emb (Wo X) S r H) (he : EnvR (Wo X) W S.length r H e σ) (o : Out (Wo X) S.length r H (GF X W De) Xn ((f e S).bindS e k))
    (hk : ∀ a S1 r1 H1, Stp S.length r H S1.length r1 H1 → Emb (Wo X) S1 r1 H1 → EnvR (Wo X) W S1.length r1 H1 e σ → Out (Wo X) S1.length r1 H1 (GF X W De) Xn (k a S1) → G' a S1 r1 H1) : tA X W f G' σ H := by
  refine ⟨S, r, e, emb, he, ?_⟩
  cases hq : f e S with
  | bad => rw [hq] at o; exact o.elim
  | exc x S1 =>
    rw [hq] at o
    exact fun r1 H1 st em cls dd hx => o r1 H1 st em σ cls dd (he.stp st) hx
  | ok a S1 =>
    rw [hq] at o
    intro r1 H1 st em
    refine hk a S1 r1 H1 st em (he.stp st) ?_
    have o : Out (Wo X) S.length r H (GF X W De) Xn (k a S1) := o
    revert o
    generalize k a S1 = y
    intro o
    cases y with
    | ok b S2 => exact fun r2 H2 s2 e2 => o r2 H2 (st.trans s2) e2
    | exc x S2 => exact fun r2 H2 s2 e2 => o r2 H2 (st.trans s2) e2
    | bad => exact o
theorem psI {X : Cx} {e : Stmt} {t t' : TS} (h : PS X e t) (g : ∀ De σ H, t' De σ H → t De σ H) : PS X e t' := ⟨fun pins s σ H De I q => h.run pins s σ H De I (g De σ H q)⟩
theorem pssI {X : Cx} {e : List Stmt} {t t' : TS} (h : PSs X e t) (g : ∀ De σ H, t' De σ H → t De σ H) : PSs X e t' := ⟨fun pins s σ H De I q => h.run pins s σ H De I (g De σ H q)⟩
section
variable {X : Cx} {W : Wm} {t : Sta} {k : Nat} {N : List Str} {sc : Scope} {fx : List Nat} {a b c : Expr} {f g h : En → Sto → R D} {pos : Pos} {De : Ends}
theorem EnvR.set (G : GoodS t k N sc X W fx) {n : Nat} {r : Rho} {H : Hp} {e : En} {σ : L2.St} {d : D} {v : V} (h : EnvR (Wo X) W n r H e σ) {i : Nat} (hi : i ∉ fx) (hv : Rep (Wo X) n r H d v) : EnvR (Wo X) W n r H (e.set i (some d)) (σ.set i (some v)) :=
  ⟨h.rep.set i hv, W.keep _ _ _ _ _ (fun j hj => List.getElem?_set_ne (fun z => hi (by rw [z]; exact G.fxs j hj))) h.inv⟩
theorem EnvR.off (G : GoodS t k N sc X W fx) {n : Nat} {r : Rho} {H : Hp} {e e' : En} {σ σ' : L2.St} (h : EnvR (Wo X) W n r H e σ) (h' : RepE (Wo X) n r H e' σ') {sl : List Nat} (hs : ∀ j, j ∉ sl → σ'[j]? = σ[j]?) (hf : ∀ i ∈ sl, i ∉ fx) : EnvR (Wo X) W n r H e' σ' :=
  ⟨h', W.keep _ _ _ _ _ (fun j hj => hs j fun z => hf j z (G.fxs j hj)) h.inv⟩
theorem loc_of (G : GoodS t k N sc X W fx) {x : Str} (h : locS sc x = true) : Loc X.env.scope x := by
  rw [G.g.hs]
  unfold locS at h
  unfold L2.Loc
  simpa using h
theorem blk_fn (G : GoodS t k N sc X W fx) : X.env.blockKind = .function := by
  unfold Env.blockKind
  rw [G.g.hs, G.kd]
  rfl
/-- x = e -/
theorem set_imp (G : GoodS t k N sc X W fx) {i : Nat} (hi : i ∉ fx) {σ : L2.St} {H : Hp} (hx : tS X W (fun s S => (f s S).bindS s fun d S1 => .ok (.next (s.set i (some d))) S1) De σ H) : tAsg (tE X W f) (gName i) De σ H := by
  obtain ⟨S, r, e, emb, he, oo⟩ := hx
  refine on_stm (f := f) emb he oo fun d S1 r1 H1 st1 emb1 he1 o1 v hv => ?_
  exact out_same emb1 o1 _ (he1.set G hi hv)
theorem sw_no {v : Expr} {tg : Option Expr} {l : Nat} {env : Env} (h : isComp v = false) : swapsWith v tg l env = pure false := by
  cases v <;> first | rfl | cases h
theorem sw_sub {v o i : Expr} {p : Pos} {l : Nat} {env : Env} : swapsWith v (some (.Subscript o i p)) l env = pure false := by
  cases v <;> rfl
theorem sw_tup {v : Expr} {ts : List Expr} {kk : Nat} {p : Pos} {l : Nat} {env : Env} : swapsWith v (some (.Tuple ts kk p)) l env = pure false := by
  cases v <;> rfl
/-- a, b = e -/
theorem asg_imp (G : GoodS t k N sc X W fx) {tg : Tg} (hf : ∀ i ∈ slT tg, i ∉ fx) {σ : L2.St} {H : Hp} (hx : tS X W (fun s S => (f s S).bindS s fun d S1 => match tgD tg d s with
    | some s1 => .ok (.next s1) S1
    | none => .bad) De σ H) : tAsg (tE X W f) (tGt X tg) De σ H := by
  obtain ⟨S, r, e, emb, he, oo⟩ := hx
  refine on_stm (f := f) emb he oo fun d S1 r1 H1 st1 emb1 he1 o1 v hv => ?_
  split at o1
  · rename_i s1 hs1
    exact ⟨S1.length, r1, e, d, s1, he1.rep, hv, hs1, fun σ' b1 b2 b3 => out_same emb1 o1 _ (he1.off G b1 b2 hf)⟩
  · exact o1.elim
/-- e; -/
theorem drop_imp {σ : L2.St} {H : Hp} (hx : tS X W (fun s S => (f s S).bindS s fun _ S1 => .ok (.next s) S1) De σ H) : tDrop (tE X W f) De σ H := by
  obtain ⟨S, r, e, emb, he, oo⟩ := hx
  refine on_stm (f := f) emb he oo fun d S1 r1 H1 st1 emb1 he1 o1 v hv => ?_
  exact out_same emb1 o1 _ he1
theorem ret_imp {σ : L2.St} {H : Hp} (hx : tS X W (fun s S => (f s S).bindS s fun d S1 => .ok (.ret d) S1) De σ H) : tRet (tE X W f) De σ H := by
  obtain ⟨S, r, e, emb, he, oo⟩ := hx
  refine on_stm (f := f) emb he oo fun d S1 r1 H1 st1 emb1 he1 o1 v hv => ?_
  exact out_same emb1 o1 _ hv
theorem retN_imp {σ : L2.St} {H : Hp} (hx : tS X W (fun _ S => .ok (.ret .non) S) De σ H) : tRetN De σ H := by
  obtain ⟨S, r, e, emb, he, oo⟩ := hx
  exact out_same emb oo _ (by rw [Rep])
theorem cond_imp {fa fb : En → Sto → R Fl} {σ : L2.St} {H : Hp} (hx : tS X W (fun s S => (f s S).bindS s fun x S1 => match x with
    | .bl true => fa s S1
    | .bl false => fb s S1
    | _ => .bad) De σ H) : tIfS (tT X W f) (tS X W fa) (tS X W fb) De σ H := by
  obtain ⟨S, r, e, emb, he, oo⟩ := hx
  refine on_stm (f := f) emb he oo fun x S1 r1 H1 st1 emb1 he1 o1 => ?_
  split at o1
  · exact ⟨true, rfl, iteT ⟨S1, r1, e, emb1, he1, o1⟩⟩
  · exact ⟨false, rfl, iteF ⟨S1, r1, e, emb1, he1, o1⟩⟩
  · exact o1.elim
theorem nil_imp {σ : L2.St} {H : Hp} (hx : tS X W (fun s S => .ok (.next s) S) De σ H) : tNext De σ H := by
  obtain ⟨S, r, e, emb, he, oo⟩ := hx
  exact out_same emb oo _ he
theorem seq_imp {fa fb : En → Sto → R Fl} {σ : L2.St} {H : Hp} (hx : tS X W (fun s S => match fa s S with
    | .ok (.next s1) S1 => fb s1 S1
    | q => q) De σ H) : tSeq (tS X W fa) (tS X W fb) De σ H := by
  obtain ⟨S, r, e, emb, he, oo⟩ := hx
  refine ⟨S, r, e, emb, he, ?_⟩
  dsimp only at oo
  cases hq : fa e S with
  | bad => rw [hq] at oo; exact oo
  | exc x S1 => rw [hq] at oo; exact oo
  | ok fl S1 =>
    rw [hq] at oo
    cases fl with
    | next s1 =>
      intro r1 H1 st em σ' he'
      refine ⟨S1, r1, s1, em, he', ?_⟩
      have o : Out (Wo X) S.length r H (GF X W De) Xn (fb s1 S1) := oo
      revert o
      generalize fb s1 S1 = y
      intro o
      cases y with
      | ok b S2 => exact fun r2 H2 s2 e2 => o r2 H2 (st.trans s2) e2
      | exc x S2 => exact fun r2 H2 s2 e2 => o r2 H2 (st.trans s2) e2
      | bad => exact o
    | ret d => exact oo
    | brk s => exact oo
    | cont s => exact oo
    | exc x s => exact oo
/-! o[i] = v -/
def tSetD (X : Cx) : TSet := fun o i v H Q => ∃ S r dob di dv, Emb (Wo X) S r H ∧ Rep (Wo X) S.length r H dob o ∧ Rep (Wo X) S.length r H di i ∧ Rep (Wo X) S.length r H dv v ∧
  match setD dob di dv S with
  | some S' => ∀ r' H', Stp S.length r H S'.length r' H' → Emb (Wo X) S' r' H' → Q H'
  | none => False
theorem ixN_len {n : Nat} {k : Int} {j : Nat} (h : ixN n k = some j) : j < n := (ixN_seq h).2.2.2 |> fun h4 => by
  have := (ixN_seq h).2.1
  omega
theorem put_rep {Wx : Wd} {n : Nat} {r : Rho} {H : Hp} {q : Key} {dv : D} {v : V} (hv : Rep Wx n r H dv v) : ∀ {ks : List Key} {ds : List D} {kvs : List (Key × V)}, kvs.map Prod.fst = ks → RepL Wx n r H ds (kvs.map Prod.snd) →
    RepL Wx n r H (repD ks ds q dv) ((kvs.map fun kv => if kv.1 = q then (kv.1, v) else kv).map Prod.snd) ∧ (kvs.map fun kv => if kv.1 = q then (kv.1, v) else kv).map Prod.fst = ks
  | ks, ds, [], hk, hr => by
    rw [List.map_nil] at hk
    subst hk
    cases ds with
    | nil => exact ⟨by unfold repD; exact RepL.nil, rfl⟩
    | cons => rw [List.map_nil, RepL] at hr; obtain ⟨_, _, z, _⟩ := hr; cases z
  | ks, ds, p :: kvs, hk, hr => by
    rw [List.map_cons] at hk
    subst hk
    cases ds with
    | nil => rw [RepL] at hr; cases hr
    | cons d ds =>
      rw [List.map_cons, RepL] at hr
      obtain ⟨w, q', e, h1, h2⟩ := hr
      injection e with e1 e2
      subst e1 e2
      obtain ⟨i1, i2⟩ := put_rep hv (kvs := kvs) rfl h2
      constructor
      · rw [List.map_cons, List.map_cons]
        unfold repD
        refine RepL.cons ?_ i1
        by_cases c : p.1 = q
        · rw [if_pos c, if_pos c]; exact hv
        · rw [if_neg c, if_neg c]; exact h1
      · rw [List.map_cons, List.map_cons, i2]
        by_cases c : p.1 = q
        · rw [if_pos c]
        · rw [if_neg c]
theorem put_ok {Wx : Wd} {n : Nat} {r : Rho} {H : Hp} {q : Key} {dv : D} {v : V} (hv : Rep Wx n r H dv v) {ks : List Key} {ds : List D} {kvs : List (Key × V)} (hk : kvs.map Prod.fst = ks) (hr : RepL Wx n r H ds (kvs.map Prod.snd)) :
    (putK kvs q v).map Prod.fst = (putD ks ds q dv).1 ∧ RepL Wx n r H (putD ks ds q dv).2 ((putK kvs q v).map Prod.snd) := by
  have ha : (kvs.any fun kv => decide (kv.1 = q)) = (ks.any fun k => decide (k = q)) := by
    rw [← hk, List.any_map]
    rfl
  unfold putK putD
  rw [ha]
  split
  · exact ⟨(put_rep hv hk hr).2, (put_rep hv hk hr).1⟩
  · refine ⟨by rw [List.map_append, hk]; rfl, ?_⟩
    rw [List.map_append]
    exact RepL.append hr (RepL.one hv)
theorem setD_ok (hu : X.A.units + 1 < cLine) : PSet X (tSetD X) := by
  intro pins s σ H o i v ov iv u Q I ro ri rv ⟨S, r, dob, di, dv, emb, ho, hi, hv, h⟩
  unfold setD at h
  split at h
  · rename_i S' hS
    split at hS
    · rename_i l
      rw [Rep] at ho
      obtain ⟨hl, rfl⟩ := ho
      split at hS
      · rename_i ks ds hq
        obtain ⟨q, e1, e2⟩ := Option.bind_eq_some_iff.mp hS
        obtain ⟨kvs, z1, z2, z3⟩ := emb.at_ l _ hq
        have ek := key_ok e1 hi.toF
        subst ek
        split at e2
        · rename_i hz
          cases e2
          have st := stp_set (W := Wo X) (S := S) (r := r) (H := H) (l := l) (u := .dK (putK kvs q v)) hl
          obtain ⟨p1, p2⟩ := put_ok (Rep.stp st _ _ hv) (q := q) z2 (RepL.stp st _ _ z3)
          refine set_dict hu pins s σ H _ _ v ov iv u Q I ro ri rv ⟨r l, _, rfl, ?_, h r _ ?_ (emb_set emb hl ⟨_, upd_same, p1, p2⟩)⟩
          · refine .inl ⟨kvs, q, z1, rfl, ?_, rfl⟩
            have := congrArg List.length z2
            rw [List.length_map] at this
            rw [sizeLine_eq]
            omega
          · rw [List.length_set]
            exact st
        · cases e2
      · rename_i ds hq
        split at hS
        · rename_i kk
          obtain ⟨j, e1, e2⟩ := Option.map_eq_some_iff.mp hS
          subst e2
          rw [Rep] at hi
          subst hi
          obtain ⟨vs, z1, z2⟩ := emb.at_ l _ hq
          have st := stp_set (W := Wo X) (S := S) (r := r) (H := H) (l := l) (u := .lst (vs.set j v)) hl
          refine set_list pins s σ H _ _ v ov iv u Q I ro ri rv ⟨r l, vs, kk, j, rfl, rfl, z1, by rw [z2.length]; exact e1, h r _ ?_ (emb_set emb hl ⟨_, upd_same, RepL.set j (RepL.stp st _ _ z2) (Rep.stp st _ _ hv)⟩)⟩
          rw [List.length_set]
          exact st
        · cases hS
      · cases hS
    · cases hS
  · exact h.elim
theorem sub_imp {σ : L2.St} {H : Hp} (hx : tS X W (fun s S => (f s S).bindS s fun v S1 => (g s S1).bindS s fun x S2 => (h s S2).bindS s fun y S3 => match setD x y v S3 with
    | some S4 => .ok (.next s) S4
    | none => .bad) De σ H) : tAsg (tE X W f) (gSub (tE X W g) (tE X W h) (tSetD X)) De σ H := by
  obtain ⟨S, r, e, emb, he, oo⟩ := hx
  refine on_stm (f := f) emb he oo fun v S1 r1 H1 st1 emb1 he1 o1 vv hv => ?_
  refine on_stm (f := g) emb1 he1 o1 fun x S2 r2 H2 st2 emb2 he2 o2 xv hx => ?_
  refine on_stm (f := h) emb2 he2 o2 fun y S3 r3 H3 st3 emb3 he3 o3 yv hy => ?_
  refine ⟨S3, r3, x, y, v, emb3, Rep.stp st3 _ _ hx, hy, Rep.stp (st2.trans st3) _ _ hv, ?_⟩
  split at o3
  · rename_i S4 h4
    exact fun r' H' st em => o3 r' H' st em σ (he3.stp st)
  · exact o3.elim
end
end Fw

set_option Elab.async false
set_option linter.all false
set_option maxRecDepth 100000
set_option maxHeartbeats 4000000
namespace Fw
open PySem PySem.Spec PyProof.Rows L2
variable [Tb]
theorem sw_of {sc : Scope} {env : Env} {ts vs : List Expr} {r : Option (List Str)} {k1 k2 : Nat} {p1 p2 : Pos} (hk : env.blockKind = .function) (hs : env.scope = sc) (h : swS sc ts vs = some r) : swappedStores [.Tuple ts k1 p1] (.Tuple vs k2 p2) env = pure r := by
  unfold swappedStores
  dsimp only
  generalize hn : List.filterMap _ ts = names
  have hn' : swNames sc ts = names := by
    rw [← hn]
    unfold swNames Env.kindOf
    rw [hs]
    rfl
  unfold swS at h
  rw [hn'] at h
  have hb : (env.blockKind != ScopeKind.function) = false := by rw [hk]; rfl
  rw [hb, Bool.or_false]
  by_cases c1 : (!(ts.length == 2 || ts.length == 3) || vs.length != ts.length) = true
  · rw [if_pos c1] at h ⊢
    cases h
    rfl
  · rw [if_neg c1] at h ⊢
    split at h
    · rename_i c2
      refine (if_pos c2).trans ?_
      cases h
      rfl
    · rename_i c2
      refine (if_neg c2).trans ?_
      by_cases c3 : (names.length != ts.length || names.eraseDups.length != names.length) = true
      · rw [if_pos c3] at h ⊢
        cases h
        rfl
      · rw [if_neg c3] at h ⊢
        by_cases c4 : vs.all (foldedForSure 8) = true
        · rw [if_pos c4] at h ⊢
          cases h
          rfl
        · rw [if_neg c4] at h ⊢
          by_cases c5 : vs.all (constantsAlone 8) = true
          · rw [if_pos c5] at h
            cases h
          · rw [if_neg c5] at h ⊢
            cases h
            rfl
section
variable {X : Cx} {W : Wm} {t : Sta} {k : Nat} {N : List Str} {sc : Scope} {fx : List Nat} {a b c : Expr} {f g h : En → Sto → R D} {pos : Pos} {De : Ends}
theorem par2_imp (G : GoodS t k N sc X W fx) {i j : Nat} (hi : i ∉ fx) (hj : j ∉ fx) {fs : En → Sto → R (List D)} {σ : L2.St} {H : Hp} (hx : tS X W (fun s S => (fs s S).bindS s fun ds S1 => match setAll [i, j] ds s with
    | some s1 => .ok (.next s1) S1
    | none => .bad) De σ H) : tPar i j (tL X W fs) De σ H := by
  obtain ⟨S, r, e, emb, he, oo⟩ := hx
  refine on_stm (f := fs) emb he oo fun ds S1 r1 H1 st1 emb1 he1 o1 vs hvs => ?_
  cases ds with
  | nil => exact o1.elim
  | cons d ds =>
    cases ds with
    | nil => exact o1.elim
    | cons d2 ds =>
      cases ds with
      | cons => exact o1.elim
      | nil =>
        obtain ⟨v, u, rfl, h1, h2⟩ := hvs.inv2
        exact ⟨v, u, rfl, out_same emb1 o1 _ ((he1.set G hi h1).set G hj h2)⟩
theorem RepL.inv3 {Wx : Wd} {n : Nat} {r : Rho} {H : Hp} {d c b : D} {vs : List V} (h : RepL Wx n r H [d, c, b] vs) : ∃ v u w, vs = [v, u, w] ∧ Rep Wx n r H d v ∧ Rep Wx n r H c u ∧ Rep Wx n r H b w := by
  rw [RepL] at h
  obtain ⟨v, q, e, h1, h2⟩ := h
  obtain ⟨u, w, e2, h3, h4⟩ := h2.inv2
  subst e2
  exact ⟨v, u, w, e, h1, h3, h4⟩
theorem par3_imp (G : GoodS t k N sc X W fx) {i j l : Nat} (hi : i ∉ fx) (hj : j ∉ fx) (hl : l ∉ fx) {fs : En → Sto → R (List D)} {σ : L2.St} {H : Hp} (hx : tS X W (fun s S => (fs s S).bindS s fun ds S1 => match setAll [i, j, l] ds s with
    | some s1 => .ok (.next s1) S1
    | none => .bad) De σ H) : tPar3 i j l (tL X W fs) De σ H := by
  obtain ⟨S, r, e, emb, he, oo⟩ := hx
  refine on_stm (f := fs) emb he oo fun ds S1 r1 H1 st1 emb1 he1 o1 vs hvs => ?_
  cases ds with
  | nil => exact o1.elim
  | cons d ds =>
    cases ds with
    | nil => exact o1.elim
    | cons d2 ds =>
      cases ds with
      | nil => exact o1.elim
      | cons d3 ds =>
        cases ds with
        | cons => exact o1.elim
        | nil =>
          obtain ⟨v, u, w, rfl, h1, h2, h3⟩ := hvs.inv3
          exact ⟨v, u, w, rfl, out_same emb1 o1 _ (((he1.set G hi h1).set G hj h2).set G hl h3)⟩
/-! loops -/
theorem loop_imp (G : GoodS t k N sc X W fx) {tg : Tg} (hf : ∀ i ∈ slT tg, i ∉ fx) {fi : En → Sto → R (List D × Option Nat)} {fb : En → Sto → R Fl} {σ : L2.St} {H : Hp} (hx : tS X W (fun s S => (fi s S).bindS s fun q S1 => forGo q.1 q.2 (fun d s S => match tgD tg d s with
    | some s1 => fb s1 S
    | none => .bad) q.1 s S1) De σ H) : tFor (tI X W fi) (tGt X tg) (tS X W fb) De σ H := by
  obtain ⟨S, r, e, emb, he, oo⟩ := hx
  refine on_stm (f := fi) emb he oo fun q S1 r1 H1 st1 em1 he1 o1 => ?_
  obtain ⟨ds, w⟩ := q
  intro J hJ
  dsimp only at o1 hJ
  let bd : D → En → Sto → R Fl := fun d s S => match tgD tg d s with
    | some s1 => fb s1 S
    | none => .bad
  let Inv0 : Nat → L2.St → Hp → Prop := fun i σ H => ∃ S r e, Stp S1.length r1 H1 S.length r H ∧ Emb (Wo X) S r H ∧ EnvR (Wo X) W S.length r H e σ ∧ Out (Wo X) S1.length r1 H1 (GF X W De) Xn (forGo ds w bd (ds.drop i) e S)
  refine ⟨fun i mm σ H => mm = ds.length - i ∧ i ≤ ds.length ∧ Inv0 i σ H, ⟨ds.length, by simp, Nat.zero_le _, S1, r1, e, Stp.refl _ _ _, em1, he1, by rw [List.drop_zero]; exact o1⟩, ?_⟩
  rintro i mm σ H ⟨rfl, hi, S2, r2, e2, st2, em2, he2, o2⟩
  by_cases hlt : i < ds.length
  · refine .inr ?_
    have hd : ds.drop i = ds[i] :: ds.drop (i + 1) := List.drop_eq_getElem_cons hlt
    rw [hd] at o2
    unfold forGo at o2
    by_cases hok : okB S2 ds w = true
    · rw [if_pos hok] at o2
      obtain ⟨go, yl⟩ := (hJ S2 r2 H st2 em2 (okB_ok hok)).1 i ds[i] (by rw [List.getElem?_eq_getElem hlt])
      refine ⟨go, fun σ' H' => Inv0 (i + 1) σ' H', fun σ' H' q => ⟨ds.length - (i + 1), by omega, rfl, hlt, q⟩, fun x H' y => ?_⟩
      obtain ⟨sy, ey, ry⟩ := yl x H' y
      have sty : Stp S1.length r1 H1 S2.length r2 H' := st2.trans sy
      have hey := he2.stp sy
      have hbd : bd ds[i] e2 S2 = match tgD tg ds[i] e2 with
        | some s1 => fb s1 S2
        | none => .bad := rfl
      cases htg : tgD tg ds[i] e2 with
      | none =>
        rw [htg] at hbd
        rw [hbd] at o2
        exact o2.elim
      | some s2 =>
        rw [htg] at hbd
        rw [hbd] at o2
        dsimp only at o2
        refine ⟨S2.length, r2, _, _, s2, hey.rep, ry, htg, fun σ' b1 b2 b3 => ⟨S2, r2, s2, ey, hey.off G b1 b2 hf, ?_⟩⟩
        cases hq : fb s2 S2 with
        | bad => rw [hq] at o2; exact o2.elim
        | exc x S3 => rw [hq] at o2; exact o2.elim
        | ok fl S3 =>
          rw [hq] at o2
          cases fl with
          | next s3 => exact fun r3 H3 st3 em3 σ3 he3 => ⟨S3, r3, s3, sty.trans st3, em3, he3, o2⟩
          | cont s3 => exact fun r3 H3 st3 em3 σ3 he3 => ⟨S3, r3, s3, sty.trans st3, em3, he3, o2⟩
          | brk s3 => exact fun r3 H3 st3 em3 σ3 he3 => o2 r3 H3 (sty.trans st3) em3 σ3 he3
          | ret d => exact fun r3 H3 st3 em3 => o2 r3 H3 (sty.trans st3) em3
          | exc x s3 => exact fun r3 H3 st3 em3 => o2 r3 H3 (sty.trans st3) em3
    · rw [if_neg hok] at o2
      exact o2.elim
  · refine .inl ?_
    have hi2 : i = ds.length := by omega
    subst hi2
    rw [List.drop_length] at o2
    unfold forGo at o2
    by_cases hok : okB S2 ds w = true
    · rw [if_pos hok] at o2
      exact ⟨(hJ S2 r2 H st2 em2 (okB_ok hok)).2 _ (Nat.le_refl _), o2 r2 H st2 em2 σ he2⟩
    · rw [if_neg hok] at o2
      exact o2.elim
end
end Fw

set_option Elab.async false
set_option linter.all false
set_option maxRecDepth 100000
set_option maxHeartbeats 4000000
namespace Fw
open PySem PySem.Spec PyProof.Rows L2
variable [Tb]
section
variable {X : Cx} {W : Wm} {t : Sta} {k : Nat} {N : List Str} {sc : Scope} {fx : List Nat} {a b c : Expr} {f g h : En → Sto → R D} {pos : Pos} {De : Ends}
theorem c_raise (G : GoodS t k N sc X W fx) {C m : Str} {j : Nat} {p p2 p3 pos : Pos} (hg : glB sc C = true) (hn : nmB C = true) : PS X (.Raise (some (.Call (.Name C p) [.Constant (.str m) j p2] [] p3)) none pos) (tS X W (fun s S => t.cold (if C ∈ t.RX then .ok (.exc ⟨C, [], []⟩ s) S else .bad))) := by
  cases hh : t.hot with
  | some z =>
    refine ⟨fun pins s σ H De I ⟨S, r, e, emb, he, oo⟩ => ?_⟩
    have oo : Out (Wo X) S.length r H (GF X W De) Xn (t.cold (if C ∈ t.RX then .ok (.exc ⟨C, [], []⟩ e) S else .bad)) := oo
    unfold Sta.cold at oo
    rw [hh] at oo
    exact oo.elim
  | none =>
    by_cases hC : C ∈ t.RX
    · obtain ⟨c1, c2, c3⟩ := G.g.cold hh
      obtain ⟨cc, m1, m2, m3, m4, B, newId, initId, bmB, F, q⟩ := G.g.ok.rx C hC
      obtain ⟨n1, n2, n3⟩ := nm_of hn
      refine psI (ps_raise c1 c3 (pmk_own F q m1 m2 (raises_own m3 m4) (gl_of G.g hg) n1)) fun De σ H hx => ?_
      obtain ⟨S, r, e, emb, he, oo⟩ := hx
      have oo : Out (Wo X) S.length r H (GF X W De) Xn (t.cold (if C ∈ t.RX then .ok (.exc ⟨C, [], []⟩ e) S else .bad)) := oo
      unfold Sta.cold at oo
      rw [hh, if_pos hC] at oo
      exact out_same emb oo σ _ _ he ⟨cc, m1, rfl, .inl ⟨rfl, rfl⟩⟩
    · refine ⟨fun pins s σ H De I ⟨S, r, e, emb, he, oo⟩ => ?_⟩
      have oo : Out (Wo X) S.length r H (GF X W De) Xn (t.cold (if C ∈ t.RX then .ok (.exc ⟨C, [], []⟩ e) S else .bad)) := oo
      unfold Sta.cold at oo
      rw [hh, if_neg hC] at oo
      exact oo.elim
def Wm.w' (W : Wm) (w : WX) : Wm := { W with w := w }
theorem tr_good (G : GoodS t k N sc X W fx) (hh : t.hot = none) {w : WX} {pn : List (Addr × Obj)} {xe : Value → Shared → Prop} (tk : Takes (X.tr pn xe) w) (po : PassesOwn (model X.prog X.w) X.A X.env xe) : GoodS t k N sc (X.tr pn xe) (W.w' w) fx := by
  obtain ⟨g, f1, f2, f3, f4, f5, f6⟩ := G
  refine ⟨⟨g.hN, g.hs, g.nd, g.un, g.gd, g.ok, fun z => ⟨(g.cold z).1, (g.cold z).2.1, tk⟩, fun i x z => ?_, g.lam, g.thk⟩, f1, f2, f3, f4, fun _ => po, f6⟩
  rw [hh] at z
  cases z
/-- the frame of a suite -/
def Wm.su (W : Wm) (wd : Wd) (i : Option Nat) (x : Xc) (a : Addr) (cls : Value) (dd : Option Addr) : Wm :=
  ⟨fun _ _ _ _ => False, fun σ n r H => W.I σ n r H ∧ ∀ j, i = some j → σ[j]? = some (some (.ref a)) ∧ XRep wd n r H x cls dd,
    fun σ n r H n' r' H' st h => ⟨W.mono _ _ _ _ _ _ _ st h.1, fun j e => ⟨(h.2 j e).1, (h.2 j e).2.stp st⟩⟩, i.toList ++ W.fix,
    fun σ σ' n r H e h => ⟨W.keep _ _ _ _ _ (fun j hj => e j (List.mem_append_right _ hj)) h.1, fun j ej => ⟨by rw [e j (List.mem_append_left _ (by rw [ej]; simp))]; exact (h.2 j ej).1, (h.2 j ej).2⟩⟩⟩
theorem mark_guards {A : Around} {v : Option Value} (h : A.guards = some []) : (A.mark v).guards = some [] := by
  first | exact h | simpa [Around.mark] using h
theorem mark_un {A : Around} {v : Option Value} {k : Nat} (h : RU k A) : RU k (A.mark v) := by
  unfold RU at *
  first | exact h | simpa [Around.mark] using h
theorem SOk.suite {P : Program} {w : World} {K : PySem.W.Frag} {mg : Str → Option Value} {base : Heap} {i : Option Nat} {x : Xc} (h : SOk P w K mg base t k) : SOk P w K mg base (t.suite i x) k :=
  ⟨h.call, h.con, h.free, h.ins, h.xf, h.exm, h.cn, h.rx, h.exc, h.lamf, h.isi⟩
theorem suite_good (G : GoodS t k N sc X W fx) {i : Option Nat} {x : Xc} {a cc : Addr} {oe : Obj} {dd : Option Addr} {pn : List (Addr × Obj)} (hz : Zc (.ref cc) dd oe) (hf : ∃ vs, oe.data = .fields vs) (hE : x.C ∈ t.EC) (hm : X.mg x.C = some (.ref cc)) :
    GoodS (t.suite i x) k N sc (X.suite a ((a, oe) :: pn)) (W.su (Wo X) i x a (.ref cc) dd) (i.toList ++ fx) := by
  obtain ⟨g, f1, f2, f3, f4, f5, f6⟩ := G
  obtain ⟨e1, e2⟩ := g.ok.exc _ _ hm hE
  refine ⟨⟨g.hN, g.hs, g.nd, mark_un g.un, mark_guards g.gd, g.ok.suite, fun z => (nomatch z), fun j y z => ?_, fun z => (nomatch z), fun _ _ z => (nomatch z)⟩, f1, f2, f3, f4, fun z => (nomatch z), fun j hj => ?_⟩
  · have z : some (i, x) = some (some j, y) := z
    cases z
    exact ⟨X, a, cc, oe, dd, pn, rfl, hz, hf, e1, e2, hm, fun σ n r H h => h.2 j rfl⟩
  · have hj : j ∈ i.toList ++ W.fix := hj
    rcases List.mem_append.mp hj with q | q
    · exact List.mem_append_left _ q
    · exact List.mem_append_right _ (f6 j q)
/-- the suite's reading, for any error that the clause takes -/
def tSu (X : Cx) (W : Wm) (t : Sta) (i : Option Nat) (hb : Ss) (a : Addr) (cls : Value) (dd : Option Addr) : TS := fun De σ H => ∃ x cc, cls = .ref cc ∧ X.mg x.C = some (.ref cc) ∧ x.C ∈ t.EC ∧ tS X (W.su (Wo X) i x a cls dd) (evSs hb (t.suite i x)) De σ H
theorem c_tryN (G : GoodS t k N sc X W fx) {y : Str} {np p1 p2 : Pos} {bs hs : Ss} {xs ys : List Stmt} {b0 : Stmt} (hg : glB sc y = true) (hn : nmB y = true) (hC : y ∈ t.nm.CN)
    (ib : ∀ X' W', GoodS t k N sc X' W' fx → PSs X' xs (tS X' W' (evSs bs t))) (ih : ∀ t' X' W', GoodS t' k N sc X' W' fx → t'.nm = t.nm → PSs X' (b0 :: ys) (tS X' W' (evSs hs t'))) :
    PS X (.Try xs [.ExceptHandler (some (.Name y np)) none (b0 :: ys) p1] [] [] p2) (tS X W (fun s S => t.cold (match evSs bs t s S with
    | .ok (.exc e s1) S1 => (match t.EI e.C y with
      | some true => if e.C ∈ t.EC then noXs (evSs hs (t.suite none e) s1 S1) else .bad
      | some false => .ok (.exc e s1) S1
      | none => .bad)
    | r => r))) := by
  cases hh : t.hot with
  | some z =>
    refine ⟨fun pins s σ H De I ⟨S, r, e, emb, he, oo⟩ => ?_⟩
    unfold Sta.cold at oo
    rw [hh] at oo
    exact oo.elim
  | none =>
    obtain ⟨c1, c2, c3⟩ := G.g.cold hh
    obtain ⟨n1, n2, n3⟩ := nm_of hn
    obtain ⟨yc, my⟩ := G.g.ok.cn y hC
    refine psI (ps_try_only (c := .ref yc) (tb := fun w => tS X (W.w' w) (evSs bs t)) (ts := fun a cls dd => tSu X W t none hs a cls dd) G.st G.fr ⟨gl_of G.g hg, n1, .inl my⟩ c3
      (fun w pn xe tk po => ib _ _ (tr_good G hh tk po)) (fun a oe cls dd pn hz hf => ⟨fun pins s σ H De I ⟨x, cc, e1, e2, e3, hx⟩ => ?_⟩)) fun De σ H hx => ?_
    · subst e1
      exact (ih _ _ _ (suite_good (i := none) (pn := pn) G hz hf e3 e2) rfl).run pins s σ H De I hx
    · obtain ⟨S, r, e, emb, he, oo⟩ := hx
      refine ⟨S, r, e, emb, ⟨he.rep, he.inv⟩, ?_⟩
      unfold Sta.cold at oo
      rw [hh] at oo
      dsimp only [Option.isNone] at oo
      rw [if_pos rfl] at oo
      cases hq : evSs bs t e S with
      | bad => rw [hq] at oo; exact oo.elim
      | exc x S1 => rw [hq] at oo; exact oo
      | ok fl S1 =>
        rw [hq] at oo
        cases fl with
        | next s1 => exact fun r1 H1 st em σ' he' => oo r1 H1 st em σ' ⟨he'.rep, he'.inv⟩
        | brk s1 => exact fun r1 H1 st em σ' he' => oo r1 H1 st em σ' ⟨he'.rep, he'.inv⟩
        | cont s1 => exact fun r1 H1 st em σ' he' => oo r1 H1 st em σ' ⟨he'.rep, he'.inv⟩
        | ret d => exact oo
        | exc x s1 =>
          have oo : Out (Wo X) S.length r H (GF X W De) Xn (match t.EI x.C y with
            | some true => if x.C ∈ t.EC then noXs (evSs hs (t.suite none x) s1 S1) else .bad
            | some false => .ok (.exc x s1) S1
            | none => .bad) := oo
          intro r1 H1 st em σ' cls dd he' hx
          obtain ⟨cc, m1, m2, m3⟩ := id hx
          cases hei : t.EI x.C y with
          | none => rw [hei] at oo; exact oo.elim
          | some bb =>
            rw [hei] at oo
            refine ⟨bb, by rw [m2]; exact G.g.ok.exm _ _ _ hei _ _ m1 my, fun hb a ha => ?_, fun hb => ?_⟩
            · subst hb
              dsimp only at oo
              by_cases hE : x.C ∈ t.EC
              · rw [if_pos hE] at oo
                refine ⟨x, cc, m2, m1, hE, S1, r1, s1, em, ⟨he'.rep, ⟨he'.inv, fun j e => nomatch e⟩⟩, ?_⟩
                cases hq2 : evSs hs (t.suite none x) s1 S1 with
                | bad => rw [hq2] at oo; exact oo.elim
                | exc x2 S2 => rw [hq2] at oo; exact fun r2 H2 st2 em2 => oo r2 H2 (st.trans st2) em2
                | ok fl2 S2 =>
                  rw [hq2] at oo
                  cases fl2 with
                  | next s2 => exact fun r2 H2 st2 em2 σ2 he2 => oo r2 H2 (st.trans st2) em2 σ2 ⟨he2.rep, he2.inv.1⟩
                  | brk s2 => exact fun r2 H2 st2 em2 σ2 he2 => oo r2 H2 (st.trans st2) em2 σ2 ⟨he2.rep, he2.inv.1⟩
                  | cont s2 => exact fun r2 H2 st2 em2 σ2 he2 => oo r2 H2 (st.trans st2) em2 σ2 ⟨he2.rep, he2.inv.1⟩
                  | ret d => exact fun r2 H2 st2 em2 => oo r2 H2 (st.trans st2) em2
                  | exc x2 s2 => exact oo.elim
              · rw [if_neg hE] at oo
                exact oo.elim
            · subst hb
              exact oo r1 H1 st em σ' cls dd ⟨he'.rep, he'.inv⟩ hx
theorem RepE.un {Wx : Wd} {n : Nat} {r : Rho} {H : Hp} {e : En} {σ : L2.St} (h : RepE Wx n r H e σ) (i : Nat) : RepE Wx n r H (e.set i none) (σ.set i none) := by
  refine ⟨by simpa using h.1, fun j d q => ?_⟩
  by_cases hj : i = j
  · subst hj
    by_cases hl : i < e.length
    · rw [List.getElem?_set_self hl] at q
      cases q
    · rw [List.getElem?_eq_none (by simpa using hl)] at q
      cases q
  · rw [List.getElem?_set_ne hj] at q ⊢
    exact h.2 j d q
theorem RepE.off {Wx : Wd} {n : Nat} {r : Rho} {H : Hp} {e : En} {σ : L2.St} (h : RepE Wx n r H e σ) (i : Nat) {v : Option V} : RepE Wx n r H (e.set i none) (σ.set i v) := by
  refine ⟨by simpa using h.1, fun j d q => ?_⟩
  by_cases hj : i = j
  · subst hj
    by_cases hl : i < e.length
    · rw [List.getElem?_set_self hl] at q
      cases q
    · rw [List.getElem?_eq_none (by simpa using hl)] at q
      cases q
  · rw [List.getElem?_set_ne hj] at q ⊢
    exact h.2 j d q
theorem c_tryA (G : GoodS t k N sc X W fx) {y n : Str} {i : Nat} {np p1 p2 : Pos} {bs hs : Ss} {xs ys : List Stmt} {b0 : Stmt} (hg : glB sc y = true) (hn : nmB y = true) (hC : y ∈ t.nm.CN) (hi : N[i]? = some n) (hl : sc.names.lookup n = some .local) (hfx : i ∉ fx)
    (ib : ∀ X' W', GoodS t k N sc X' W' fx → PSs X' xs (tS X' W' (evSs bs t))) (ih : ∀ t' X' W', GoodS t' k N sc X' W' (i :: fx) → t'.nm = t.nm → PSs X' (b0 :: ys) (tS X' W' (evSs hs t'))) :
    PS X (.Try xs [.ExceptHandler (some (.Name y np)) (some n) (b0 :: ys) p1] [] [] p2) (tS X W (fun s S => t.cold (match evSs bs t s S with
    | .ok (.exc e s1) S1 => (match t.EI e.C y with
      | some true => if e.C ∈ t.EC ∧ i < s1.length then unslot i (noXs (evSs hs (t.suite (some i) e) (s1.set i none) S1)) else .bad
      | some false => .ok (.exc e s1) S1
      | none => .bad)
    | r => r))) := by
  cases hh : t.hot with
  | some z =>
    refine ⟨fun pins s σ H De I ⟨S, r, e, emb, he, oo⟩ => ?_⟩
    unfold Sta.cold at oo
    rw [hh] at oo
    exact oo.elim
  | none =>
    obtain ⟨c1, c2, c3⟩ := G.g.cold hh
    obtain ⟨n1, n2, n3⟩ := nm_of hn
    obtain ⟨yc, my⟩ := G.g.ok.cn y hC
    refine psI (ps_try_as (i := i) (n := n) (c := .ref yc) (tb := fun w => tS X (W.w' w) (evSs bs t)) (ts := fun a cls dd => tSu X W t (some i) hs a cls dd) G.st G.fr (by rw [G.g.hN]; exact G.g.nd) (by rw [G.g.hN]; exact hi) (by unfold Env.kindOf; rw [G.g.hs]; exact hl) ⟨gl_of G.g hg, n1, .inl my⟩ c3
      (fun w pn xe tk po => ib _ _ (tr_good G hh tk po)) (fun a oe cls dd pn hz hf => ⟨fun pins s σ H De I ⟨x, cc, e1, e2, e3, hx⟩ => ?_⟩)) fun De σ H hx => ?_
    · subst e1
      exact (ih _ _ _ (suite_good (i := some i) (pn := pn) G hz hf e3 e2) rfl).run pins s σ H De I hx
    · obtain ⟨S, r, e, emb, he, oo⟩ := hx
      refine ⟨S, r, e, emb, ⟨he.rep, he.inv⟩, ?_⟩
      unfold Sta.cold at oo
      rw [hh] at oo
      dsimp only [Option.isNone] at oo
      rw [if_pos rfl] at oo
      cases hq : evSs bs t e S with
      | bad => rw [hq] at oo; exact oo.elim
      | exc x S1 => rw [hq] at oo; exact oo
      | ok fl S1 =>
        rw [hq] at oo
        cases fl with
        | next s1 => exact fun r1 H1 st em σ' he' => oo r1 H1 st em σ' ⟨he'.rep, he'.inv⟩
        | brk s1 => exact fun r1 H1 st em σ' he' => oo r1 H1 st em σ' ⟨he'.rep, he'.inv⟩
        | cont s1 => exact fun r1 H1 st em σ' he' => oo r1 H1 st em σ' ⟨he'.rep, he'.inv⟩
        | ret d => exact oo
        | exc x s1 =>
          have oo : Out (Wo X) S.length r H (GF X W De) Xn (match t.EI x.C y with
            | some true => if x.C ∈ t.EC ∧ i < s1.length then unslot i (noXs (evSs hs (t.suite (some i) x) (s1.set i none) S1)) else .bad
            | some false => .ok (.exc x s1) S1
            | none => .bad) := oo
          intro r1 H1 st em σ' cls dd he' hx
          obtain ⟨cc, m1, m2, m3⟩ := id hx
          cases hei : t.EI x.C y with
          | none => rw [hei] at oo; exact oo.elim
          | some bb =>
            rw [hei] at oo
            refine ⟨bb, by rw [m2]; exact G.g.ok.exm _ _ _ hei _ _ m1 my, fun hb a ha => ?_, fun hb => ?_⟩
            · subst hb
              dsimp only at oo
              by_cases hE : x.C ∈ t.EC ∧ i < s1.length
              · rw [if_pos hE] at oo
                refine ⟨x, cc, m2, m1, hE.1, S1, r1, s1.set i none, em, ⟨he'.rep.off i, ⟨W.keep _ _ _ _ _ (fun j hj => List.getElem?_set_ne (fun z => hfx (by rw [z]; exact G.fxs j hj))) he'.inv, fun j e => by
                  cases e
                  exact ⟨List.getElem?_set_self (by rw [← he'.rep.1]; exact hE.2), hx⟩⟩⟩, ?_⟩
                cases hq2 : evSs hs (t.suite (some i) x) (s1.set i none) S1 with
                | bad => rw [hq2] at oo; exact oo.elim
                | exc x2 S2 => rw [hq2] at oo; exact fun r2 H2 st2 em2 => oo r2 H2 (st.trans st2) em2
                | ok fl2 S2 =>
                  rw [hq2] at oo
                  cases fl2 with
                  | next s2 => exact fun r2 H2 st2 em2 σ2 he2 => oo r2 H2 (st.trans st2) em2 _ ⟨he2.rep.un i, W.keep _ _ _ _ _ (fun j hj => List.getElem?_set_ne (fun z => hfx (by rw [z]; exact G.fxs j hj))) he2.inv.1⟩
                  | brk s2 => exact fun r2 H2 st2 em2 σ2 he2 => oo r2 H2 (st.trans st2) em2 _ ⟨he2.rep.un i, W.keep _ _ _ _ _ (fun j hj => List.getElem?_set_ne (fun z => hfx (by rw [z]; exact G.fxs j hj))) he2.inv.1⟩
                  | cont s2 => exact fun r2 H2 st2 em2 σ2 he2 => oo r2 H2 (st.trans st2) em2 _ ⟨he2.rep.un i, W.keep _ _ _ _ _ (fun j hj => List.getElem?_set_ne (fun z => hfx (by rw [z]; exact G.fxs j hj))) he2.inv.1⟩
                  | ret d => exact fun r2 H2 st2 em2 => oo r2 H2 (st.trans st2) em2
                  | exc x2 s2 => exact oo.elim
              · rw [if_neg hE] at oo
                exact oo.elim
            · subst hb
              exact oo r1 H1 st em σ' cls dd ⟨he'.rep, he'.inv⟩ hx
end
end Fw

set_option Elab.async false
set_option linter.all false
set_option maxRecDepth 100000
set_option maxHeartbeats 4000000
namespace Fw
open PySem PySem.Spec PyProof.Rows L2
variable [Tb]
section
variable {X : Cx} {W : Wm} {t : Sta} {k : Nat} {N : List Str} {sc : Scope} {fx : List Nat} {a b c : Expr} {f g h : En → Sto → R D} {pos : Pos} {De : Ends}
theorem c_setLc {scope : Scope} {own : List (Str × Nat)} {tg : Tg} {tgt iter elt : Expr} {ifs : List Expr} {fi : En → Sto → R (List D × Option Nat)} {fc : En → Sto → R Bool} {fe : En → Sto → R D} {m : Bool} {i : Nat} {y : Str} {py lp sp : Pos}
    (G : GoodS t k N sc X W fx) (hh : t.hot = none) (hi0 : N[i]? = some y) (hyl : sc.names.lookup y = some .local) (hfx : i ∉ fx) (hl : (py.line == lp.line) = true) (hno : (scope.names.any fun (n, k) => n == y && (k == .local || k == .cell)) = false)
    (hb : blkC N sc scope own = true) (htg : ckT false N (inner sc scope) tg tgt = true) (hsl : slotsIn tg own = true) (hcs : conSet iter = true) (hi : PI X tgt iter (tI X W fi))
    (hc : ∀ Xb, Good t.blk k N (inner sc scope) Xb Wm.no → Wo Xb = Wo X → PTs Xb ifs (tTc Xb Wm.no fc)) (he : ∀ Xb, Good t.blk k N (inner sc scope) Xb Wm.no → Wo Xb = Wo X → PE Xb elt (tE Xb Wm.no fe)) :
    PS X (.Assign [.Name y py] (.ListComp elt [⟨tgt, iter, ifs, 0⟩] scope lp) sp) (tS X W (fun s S => (lcF m tg (own.map (·.2)) fi fc fe s S).bindS s fun d S1 => .ok (.next (s.set i (some d))) S1)) := by
  have ok := blkOk_by hb
  rw [← G.g.hN, ← G.g.hs] at ok
  have hk : X.env.scope.kind = .function := by rw [G.g.hs]; exact G.kd
  have hyl2 : X.env.scope.names.lookup y = some .local := by rw [G.g.hs]; exact hyl
  refine psI (ps_setLc (i := i) (G.g.cold hh).1 (by rw [G.g.hN]; exact G.g.nd) (by rw [G.g.hN]; exact hi0) hyl2 (sw_true hk hyl2 hl hno) hi ok (g := tGt X tg) (tt := tTc X Wm.no fc) (te := tE X Wm.no fe) (fun s H C cl fp => ?_) (fun s H C cl fp => ?_) (fun s H C cl fp => ?_) (con_fold hcs)) fun De σ H hx => ?_
  · have gb := blk_good (scope := scope) (s := s) (H := H) (C := C) (cl := cl) (fp := fp) G.g hh
    exact g_tg (X := X.blk s H scope (compEnvC scope cl C X.env) fp) (cl := false) gb.hN gb.hs gb.nd (gb.cold rfl).1 (fun z => nomatch z) tg tgt htg
  · have gb := blk_good (scope := scope) (s := s) (H := H) (C := C) (cl := cl) (fp := fp) G.g hh
    exact hc _ gb rfl
  · have gb := blk_good (scope := scope) (s := s) (H := H) (C := C) (cl := cl) (fp := fp) G.g hh
    exact he _ gb rfl
  · have z := set_imp (f := lcF m tg (own.map (·.2)) fi fc fe) G hfx hx
    exact lc_imp (Q := fun x H1 => gName i x σ H1 De.nx) hsl z
theorem sw_lc {elt : Expr} {gs : List Comprehension} {scope : Scope} {lp py : Pos} {y : Str} {l : Nat} {env : Env} (hk : env.blockKind = .function) (h : ¬ (env.kindOf y = some .local ∧ (py.line == lp.line) = true ∧ (scope.names.any fun (n, k) => n == y && (k == .local || k == .cell)) = false)) :
    swapsWith (.ListComp elt gs scope lp) (some (.Name y py)) l env = pure false := by
  unfold swapsWith
  simp only [hk, Expr.pos]
  by_cases h1 : env.kindOf y = some .local
  · by_cases h2 : (py.line == lp.line) = true
    · have h3 : ¬ (scope.names.any fun (n, k) => n == y && (k == .local || k == .cell)) = false := fun z => h ⟨h1, h2, z⟩
      have h3 : (scope.names.any fun (n, k) => n == y && (k == .local || k == .cell)) = true := eq_true_of_ne_false h3
      rw [h3]
      simp
    · have h2 : (py.line == lp.line) = false := by simpa using h2
      rw [h2]
      simp
  · have h1 : (env.kindOf y == some .local) = false := by simpa using h1
    rw [h1]
    simp
def Q1 (a : Sm) : Prop := ∀ {t : Sta} {k : Nat} {N : List Str} {sc : Scope} {X : Cx} {W : Wm} {fx : List Nat} (G : GoodS t k N sc X W fx) (st : Stmt), ckS t.nm N sc a fx st = true → PS X st (tS X W (evS a t))
def Q2 (b : Ss) : Prop := ∀ {t : Sta} {k : Nat} {N : List Str} {sc : Scope} {X : Cx} {W : Wm} {fx : List Nat} (G : GoodS t k N sc X W fx) (xs : List Stmt), ckSs t.nm N sc b fx xs = true → PSs X xs (tS X W (evSs b t))
theorem ps_congr {F F' : En → Sto → R Fl} {e : Stmt} (h : ∀ s S, F s S = F' s S) (q : PS X e (tS X W F')) : PS X e (tS X W F) := by
  rw [show F = F' from funext fun s => funext fun S => h s S]
  exact q
theorem pss_congr {F F' : En → Sto → R Fl} {e : List Stmt} (h : ∀ s S, F s S = F' s S) (q : PSs X e (tS X W F')) : PSs X e (tS X W F) := by
  rw [show F = F' from funext fun s => funext fun S => h s S]
  exact q
theorem cold_ps {F : En → Sto → R Fl} {e : Stmt} (h : t.hot = none → PS X e (tS X W F)) : PS X e (tS X W (fun s S => t.cold (F s S))) := by
  cases hh : t.hot with
  | some z =>
    refine ⟨fun pins s σ H De I ⟨S, r, e, emb, he, oo⟩ => ?_⟩
    unfold Sta.cold at oo
    rw [hh] at oo
    exact oo.elim
  | none =>
    refine psI (h hh) fun De σ H hx => ?_
    unfold Sta.cold at hx
    rw [hh] at hx
    exact hx
end
theorem qs_set {i : Nat} {a : Ex} : Q1 (.set i a) := by
  intro t k N sc X W fx G st h
  unfold ckS at h
  split at h
  · rename_i x px v p
    simp only [Bool.and_eq_true, decide_eq_true_eq] at h
    obtain ⟨h1, h2, h3, h4⟩ := h
    refine ps_congr (fun s S => by rw [evS]) ?_
    have plain : swapsWith v (some (.Name x px)) p.line X.env = pure false → PS X (.Assign [.Name x px] v p) (tS X W (fun s S => (evE t a s S).bindS s fun d S1 => .ok (.next (s.set i (some d))) S1)) := fun hs =>
      psI (ps_set (i := i) (by rw [G.g.hN]; exact G.g.nd) (by rw [G.g.hN]; exact h1) (loc_of G h2) (sndE_all a G.g v h4).1 hs (.inl (G.fnT x))) fun De σ H hx => set_imp G h3 hx
    by_cases hc : isComp v = false
    · exact plain (sw_no hc)
    · cases a with
      | lc m own tg it c e =>
        unfold ckE at h4
        split at h4
        · rename_i elt tgt iter ifs scope lp
          simp only [Bool.and_eq_true, decide_eq_true_eq] at h4
          have h4' := h4
          obtain ⟨k1, k2, k3, k4, k5, k6, k7⟩ := h4
          by_cases hsw : X.env.kindOf x = some .local ∧ (px.line == lp.line) = true ∧ (scope.names.any fun (n, k) => n == x && (k == .local || k == .cell)) = false
          · obtain ⟨s1, s2, s3⟩ := hsw
            have s1 : sc.names.lookup x = some .local := by
              unfold Env.kindOf at s1
              rw [G.g.hs] at s1
              exact s1
            cases hh : t.hot with
            | some z =>
              refine ⟨fun pins s σ H De I ⟨S, r, en, emb, he, oo⟩ => ?_⟩
              have e1 : evE t (.lc m own tg it c e) en S = .bad := by
                rw [evE]
                unfold Sta.cold
                rw [hh]
                rfl
              have oo : Out (Wo X) S.length r H (GF X W De) Xn ((evE t (.lc m own tg it c e) en S).bindS en fun d S1 => .ok (.next (en.set i (some d))) S1) := oo
              rw [e1] at oo
              exact oo.elim
            | none =>
              refine ps_congr (fun s S => ?_) (c_setLc (m := m) (fc := evC t.blk c) (fe := evE t.blk e) (fi := evI t it) G hh h1 s1 h3 s2 s3 k1 k2 k3 k5 (sndI_all it G.g _ _ k4) (fun Xb Gb _ => ?_) fun Xb Gb _ => (sndE_all e Gb _ k7).1)
              · have e1 : evE t (.lc m own tg it c e) s S = lcF m tg (own.map (·.2)) (evI t it) (evC t.blk c) (evE t.blk e) s S := by
                  rw [evE]
                  unfold Sta.cold
                  rw [hh]
                  rfl
                rw [e1]
              · cases c with
                | no => exact sndC_no Gb _ k6
                | yes c => exact sndC_yes (sndE_all c) Gb _ k6
          · exact plain (sw_lc (blk_fn G) hsw)
        · cases h4
      | _ =>
        exfalso
        unfold ckE at h4
        cases v <;> first | exact hc rfl | cases h4 | (split at h4 <;> first | cases h4 | contradiction)
  · cases h
end Fw

set_option Elab.async false
set_option linter.all false
set_option maxRecDepth 100000
set_option maxHeartbeats 4000000
namespace Fw
open PySem PySem.Spec PyProof.Rows L2
variable [Tb]
theorem snd_no : P3 .no := ⟨sndO_no, sndC_no⟩
theorem swap_none {ts : List Expr} {k1 : Nat} {p1 : Pos} {v : Expr} {env : Env} (h : ∀ vs k2 p2, v ≠ .Tuple vs k2 p2) : swappedStores [.Tuple ts k1 p1] v env = pure none := by
  cases v <;> first | rfl | exact absurd rfl (h _ _ _)
theorem swap_sub {o i : Expr} {p1 : Pos} {v : Expr} {env : Env} : swappedStores [.Subscript o i p1] v env = pure none := by
  cases v <;> rfl
theorem sws_tup {v : Expr} {ts : List Expr} {kk : Nat} {p : Pos} {l : Nat} {env : Env} : swapsWithSole [.Tuple ts kk p] v l env = pure false := by
  cases v <;> rfl
theorem sws_sub {v o i : Expr} {p : Pos} {l : Nat} {env : Env} : swapsWithSole [.Subscript o i p] v l env = pure false := by
  cases v <;> rfl
theorem qs_asg {tg : Tg} {a : Ex} : Q1 (.asg tg a) := by
  intro t k N sc X W fx G st h
  unfold ckS at h
  split at h
  · rename_i ts kk p v p2
    simp only [Bool.and_eq_true, decide_eq_true_eq] at h
    obtain ⟨h1, h2, h3, h4⟩ := h
    refine ps_congr (fun s S => by rw [evS]) ?_
    refine cold_ps fun hh => ?_
    have hg := g_tg (X := X) (cl := true) G.g.hN G.g.hs G.g.nd (G.g.cold hh).1 (fun _ => G.fnT) tg _ h2
    have hw : swappedStores [.Tuple ts kk p] v X.env = pure none := by
      cases v with
      | Tuple vs k2 p3 => exact sw_of (blk_fn G) G.g.hs (of_decide_eq_true h1)
      | _ => exact swap_none fun _ _ _ z => nomatch z
    refine psI (ps_asg (sndE_all a G.g v h4).1 hg sws_tup hw) fun De σ H hx => asg_imp G (fun i hi => ?_) hx
    exact of_decide_eq_true (List.all_eq_true.mp h3 i hi)
  · cases h
theorem qs_sub {o i a : Ex} : Q1 (.sub o i a) := by
  intro t k N sc X W fx G st h
  unfold ckS at h
  split at h
  · rename_i eo ei p v p2
    simp only [Bool.and_eq_true, decide_eq_true_eq] at h
    obtain ⟨h1, h2, h3, h4⟩ := h
    refine ps_congr (fun s S => by rw [evS]) ?_
    have hu : X.A.units + 1 < cLine := by have := G.g.un; unfold RU at this; omega
    have hset := setD_ok (X := X) hu
    have hpg := pg_sub (pos := p) (sndE_all o G.g eo h2).1 (sndE_all i G.g ei h3).1 hset (by
      intro v
      cases ei <;> first | rfl | cases h1)
    exact psI (ps_asg (sndE_all a G.g v h4).1 hpg sws_sub swap_sub) fun De σ H hx => sub_imp hx
  · cases h
theorem nms_len {N : List Str} {sc : Scope} : ∀ {is : List Nat} {ts : List Expr}, nmsB N sc is ts = true → ts.length = is.length
  | [], [], _ => rfl
  | i :: is, e :: es, h => by
    unfold nmsB at h
    split at h
    · rename_i z1 z2; cases z1
    · rename_i i' is' x p es' z1 z2
      cases z1
      cases z2
      simp only [Bool.and_eq_true] at h
      rw [List.length_cons, List.length_cons, nms_len h.2.2]
    · cases h
  | [], e :: es, h => by
    unfold nmsB at h
    cases h
  | i :: is, [], h => by
    unfold nmsB at h
    cases h
theorem nms_cons {N : List Str} {sc : Scope} {i : Nat} {is : List Nat} {e : Expr} {es : List Expr} (h : nmsB N sc (i :: is) (e :: es) = true) : ∃ x p, e = .Name x p ∧ N[i]? = some x ∧ sc.names.lookup x = some .local ∧ nmsB N sc is es = true := by
  unfold nmsB at h
  split at h
  · rename_i z1 z2; cases z1
  · rename_i i' is' x p es' z1 z2
    cases z1
    cases z2
    simp only [Bool.and_eq_true, decide_eq_true_eq] at h
    exact ⟨x, p, rfl, h.1, h.2.1, h.2.2⟩
  · cases h
theorem qs_par {is : List Nat} {es : Es} : Q1 (.par is es) := by
  intro t k N sc X W fx G st h
  unfold ckS at h
  split at h
  · rename_i ts kk p vs k2 p2 p3
    simp only [Bool.and_eq_true, Bool.or_eq_true, decide_eq_true_eq] at h
    obtain ⟨h1, h2, h3, h4, h5, h6⟩ := h
    refine ps_congr (fun s S => by rw [evS]) ?_
    refine cold_ps fun hh => ?_
    have hfx : ∀ i ∈ is, i ∉ fx := fun i hi => of_decide_eq_true (List.all_eq_true.mp h3 i hi)
    have hlv : vs.length = ts.length := by
      unfold swS at h5
      split at h5
      · cases h5
      · rename_i c
        simp only [Bool.or_eq_true, Bool.not_eq_true', not_or, bne_iff_ne, ne_eq, Decidable.not_not] at c
        exact c.2
    have hln := nms_len h1
    have ha := (sndL_all2 es).1 G.g vs h6
    have hN := G.g.hN
    rcases h4 with h4 | h4
    · cases is with
      | nil => cases h4
      | cons i is => cases is with
        | nil => cases h4
        | cons j is => cases is with
          | cons => simp at h4
          | nil => cases ts with
            | nil => cases hln
            | cons e1 ts => cases ts with
              | nil => simp at hln
              | cons e2 ts => cases ts with
                | cons => simp at hln
                | nil => cases vs with
                  | nil => cases hlv
                  | cons v1 vs => cases vs with
                    | nil => simp at hlv
                    | cons v2 vs => cases vs with
                      | cons => simp at hlv
                      | nil =>
                        obtain ⟨x, px, rfl, a1, a2, a3⟩ := nms_cons h1
                        obtain ⟨y, py, rfl, b1, b2, _⟩ := nms_cons a3
                        have hne : i ≠ j := fun z => by subst z; simp at h2
                        refine psI (ps_par (i := i) (j := j) (x := x) (y := y) (G.g.cold hh).1 (by rw [hN]; exact G.g.nd) (by rw [hN]; exact a1) (by rw [hN]; exact b1) hne (by rw [G.g.hs]; exact a2) (by rw [G.g.hs]; exact b2) ha.1 (sw_of (blk_fn G) G.g.hs h5) sws_tup) fun De σ H hx => par2_imp G (hfx i (by simp)) (hfx j (by simp)) hx
    · cases is with
      | nil => cases h4
      | cons i is => cases is with
        | nil => simp at h4
        | cons j is => cases is with
          | nil => simp at h4
          | cons l is => cases is with
            | cons => simp at h4
            | nil => cases ts with
              | nil => cases hln
              | cons e1 ts => cases ts with
                | nil => simp at hln
                | cons e2 ts => cases ts with
                  | nil => simp at hln
                  | cons e3 ts => cases ts with
                    | cons => simp at hln
                    | nil => cases vs with
                      | nil => cases hlv
                      | cons v1 vs => cases vs with
                        | nil => simp at hlv
                        | cons v2 vs => cases vs with
                          | nil => simp at hlv
                          | cons v3 vs => cases vs with
                            | cons => simp at hlv
                            | nil =>
                              obtain ⟨x, px, rfl, a1, a2, a3⟩ := nms_cons h1
                              obtain ⟨y, py, rfl, b1, b2, b3⟩ := nms_cons a3
                              obtain ⟨z, pz, rfl, d1, d2, _⟩ := nms_cons b3
                              simp only [List.nodup_cons, List.mem_cons, List.not_mem_nil, or_false, not_or] at h2
                              refine psI (ps_par3 (i := i) (j := j) (l := l) (x := x) (y := y) (z := z) (G.g.cold hh).1 (by rw [hN]; exact G.g.nd) (by rw [hN]; exact a1) (by rw [hN]; exact b1) (by rw [hN]; exact d1) h2.1.1 h2.1.2 h2.2.1 (by rw [G.g.hs]; exact a2) (by rw [G.g.hs]; exact b2) (by rw [G.g.hs]; exact d2) ha.1 (sw_of (blk_fn G) G.g.hs h5) sws_tup) fun De σ H hx => par3_imp G (hfx i (by simp)) (hfx j (by simp)) (hfx l (by simp)) hx
  · cases h
theorem qs_cond {c : Ex} {a b : Ss} (ia : Q2 a) (ib : Q2 b) : Q1 (.cond c a b) := by
  intro t k N sc X W fx G st h
  unfold ckS at h
  split at h
  · simp only [Bool.and_eq_true, decide_eq_true_eq] at h
    obtain ⟨h1, h2, h3⟩ := h
    refine ps_congr (fun s S => by rw [evS]) ?_
    exact psI (ps_if (sndE_all c G.g _ h1).2.pt (ia G _ h2) (ib G _ h3)) fun De σ H hx => cond_imp hx
  · cases h
theorem qs_loop {tg : Tg} {it : It1} {b : Ss} (ib : Q2 b) : Q1 (.loop tg it b) := by
  intro t k N sc X W fx G st h
  unfold ckS at h
  split at h
  · simp only [Bool.and_eq_true, decide_eq_true_eq] at h
    obtain ⟨h1, h2, h3, h4, h5⟩ := h
    refine ps_congr (fun s S => by rw [evS]) ?_
    refine cold_ps fun hh => ?_
    have hg := g_tg (X := X) (cl := true) G.g.hN G.g.hs G.g.nd (G.g.cold hh).1 (fun _ => G.fnT) tg _ h1
    refine psI (ps_for (G.po hh) (G.g.cold hh).1 (sndI_all it G.g _ _ h4) hg (ib G _ h5) (con_fold h3)) fun De σ H hx => loop_imp G (fun i hi => ?_) hx
    exact of_decide_eq_true (List.all_eq_true.mp h2 i hi)
  · cases h
theorem qs_ret {a : Ex} : Q1 (.ret a) := by
  intro t k N sc X W fx G st h
  unfold ckS at h
  split at h
  · refine ps_congr (fun s S => by rw [evS]) ?_
    exact psI (ps_ret (sndE_all a G.g _ h).1) fun De σ H hx => ret_imp hx
  · cases h
theorem qs_retN : Q1 .retN := by
  intro t k N sc X W fx G st h
  unfold ckS at h
  split at h
  · refine ps_congr (fun s S => by rw [evS]) ?_
    exact psI ps_retN fun De σ H hx => retN_imp hx
  · cases h
theorem qs_expr {a : Ex} : Q1 (.expr a) := by
  intro t k N sc X W fx G st h
  unfold ckS at h
  split at h
  · simp only [Bool.and_eq_true, Bool.not_eq_true'] at h
    refine ps_congr (fun s S => by rw [evS]) ?_
    exact psI (ps_expr (sndE_all a G.g _ h.2).1 (sw_no h.1)) fun De σ H hx => drop_imp hx
  · cases h
theorem qs_raise {C m : Str} : Q1 (.raise C m) := by
  intro t k N sc X W fx G st h
  unfold ckS at h
  split at h
  · simp only [Bool.and_eq_true, decide_eq_true_eq] at h
    obtain ⟨rfl, rfl, h1, h2⟩ := h
    exact ps_congr (fun s S => by rw [evS]) (c_raise G h1 h2)
  · cases h
theorem qs_tryN {b h0 : Ss} {x : Str} (ib : Q2 b) (ih : Q2 h0) : Q1 (.tryN b x h0) := by
  intro t k N sc X W fx G st h
  unfold ckS at h
  split at h
  · simp only [Bool.and_eq_true, decide_eq_true_eq] at h
    obtain ⟨rfl, h1, h2, h3, h4, h5⟩ := h
    refine ps_congr (fun s S => by rw [evS]) ?_
    exact c_tryN G h1 h2 h3 (fun X' W' G' => ib G' _ h4) fun t' X' W' G' e => ih G' _ (by rw [e]; exact h5)
  · cases h
theorem qs_tryA {b h0 : Ss} {x : Str} {i : Nat} (ib : Q2 b) (ih : Q2 h0) : Q1 (.tryA b x i h0) := by
  intro t k N sc X W fx G st h
  unfold ckS at h
  split at h
  · simp only [Bool.and_eq_true, decide_eq_true_eq] at h
    obtain ⟨rfl, h1, h2, h3, h4, h5, h6, h7, h8⟩ := h
    refine ps_congr (fun s S => by rw [evS]) ?_
    exact c_tryA G h1 h2 h3 h4 h5 h6 (fun X' W' G' => ib G' _ h7) fun t' X' W' G' e => ih G' _ (by rw [e]; exact h8)
  · cases h
theorem qs_nil : Q2 .nil := by
  intro t k N sc X W fx G xs h
  unfold ckSs at h
  cases xs with
  | nil =>
    refine pss_congr (fun s S => by rw [evSs]) ?_
    exact pssI pss_nil fun De σ H hx => nil_imp hx
  | cons => cases h
theorem qs_cons {a : Sm} {r : Ss} (ia : Q1 a) (ir : Q2 r) : Q2 (.cons a r) := by
  intro t k N sc X W fx G xs h
  unfold ckSs at h
  cases xs with
  | nil => cases h
  | cons y ys =>
    simp only [Bool.and_eq_true] at h
    refine pss_congr (F' := fun s S => match evS a t s S with
      | .ok (.next s1) S1 => evSs r t s1 S1
      | q => q) (fun s S => by first | (rw [evSs]; done) | (rw [evSs]; rfl)) ?_
    exact pssI (pss_cons (ia G _ h.1) (ir G _ h.2)) fun De σ H hx => seq_imp hx
theorem sndS : ∀ b : Ss, Q2 b := @Ss.rec Q1 Q2 (fun _ _ => qs_set) (fun _ _ => qs_par) (fun _ _ => qs_asg) (fun _ _ _ => qs_sub) (fun _ _ _ a b => qs_cond a b) (fun _ _ _ b => qs_loop b) (fun _ => qs_ret) qs_retN (fun _ => qs_expr) (fun _ _ => qs_raise)
  (fun _ _ _ a b => qs_tryN a b) (fun _ _ _ _ a b => qs_tryA a b) qs_nil (fun _ _ a r => qs_cons a r)
end Fw

set_option Elab.async false
set_option linter.all false
set_option maxRecDepth 100000
set_option maxHeartbeats 4000000
namespace Fw
open PySem PySem.Spec PyProof.Rows L2
variable [Tb]
/-! a def as data -/
structure Df where
  ps : List Str
  N : List Str
  body : Ss
  /-- the shapes of its calls: how many by place, which by name -/
  shapes : List (Nat × List Str)
  lam : Bool
  /-- slots that no row writes -/
  fx : List Nat
def bindG {α : Type} : List Str → List α → List (Str × α) → Option (List α)
  | [], [], _ => some []
  | [], _ :: _, _ => none
  | p :: ps, u :: us, kw => (bindG ps us kw).map (u :: ·)
  | p :: ps, [], kw => (kw.lookup p).bind fun u => (bindG ps [] kw).map (u :: ·)
def startD (N : List Str) (ds : List D) : En := ds.map some ++ List.replicate (N.length - ds.length) none
def fin : R Fl → R D
  | .ok (.ret d) S => .ok d S
  | .ok (.next _) S => .ok .non S
  | .ok (.exc x _) S => .exc x S
  | _ => .bad
/-- what a result is, once the callee's own places are forgotten -/
def top (n : Nat) (S : Sto) : D → D
  | .ref l => if l < n then .ref l else (match S[l]? with
    | some (.lst ds) => .lst ds
    | some (.dct ks ds) => .dct ks ds
    | some (.ins C ks ds) => .obj C ks ds
    | none => .ref l)
  | d => d
def gcF (n : Nat) : R D → R D
  | .ok d S => if ((top n S d).closed n && (S.take n).all (O.closed n)) = true then .ok (top n S d) (S.take n) else .ok d S
  | .exc x S => if (closedL n x.ds && (S.take n).all (O.closed n)) = true then .exc x (S.take n) else .exc x S
  | .bad => .bad
theorem top_ok {Wx : Wd} {S : Sto} {r : Rho} {H : Hp} {n : Nat} {d : D} {v : V} (e : Emb Wx S r H) (hn : n ≤ S.length) (hd : Rep Wx S.length r H d v) (hc : (top n S d).closed n = true) : Rep Wx n r H (top n S d) v := by
  have base : Rep Wx S.length r H (top n S d) v → Rep Wx n r H (top n S d) v := fun h => Rep.less hn _ _ hc h
  cases d with
  | ref l =>
    rw [Rep] at hd
    obtain ⟨hl, rfl⟩ := hd
    have et : top n S (.ref l) = if l < n then .ref l else (match S[l]? with
      | some (.lst ds) => .lst ds
      | some (.dct ks ds) => .dct ks ds
      | some (.ins C ks ds) => .obj C ks ds
      | none => .ref l) := rfl
    clear base
    rw [et] at hc ⊢
    by_cases hln : l < n
    · rw [if_pos hln]
      rw [Rep]
      exact ⟨hln, rfl⟩
    · rw [if_neg hln] at hc ⊢
      have fz : Fz n r (r l) := fun l' hl' q => by
        have z := e.inj l l' hl (by omega) q
        omega
      cases hq : S[l]? with
      | none =>
        rw [List.getElem?_eq_none_iff] at hq
        omega
      | some o =>
        rw [hq] at hc
        have z := e.at_ l _ hq
        cases o with
        | lst ds =>
          obtain ⟨vs, z1, z2⟩ := z
          dsimp only at hc ⊢
          unfold D.closed at hc
          rw [Rep]
          exact ⟨r l, vs, rfl, ⟨z1, fz⟩, RepL.less hn _ _ hc z2⟩
        | dct ks ds =>
          obtain ⟨kvs, z1, z2, z3⟩ := z
          dsimp only at hc ⊢
          unfold D.closed at hc
          rw [Rep]
          exact ⟨r l, kvs, rfl, z1, fz, z2, RepL.less hn _ _ hc z3⟩
        | ins C ks ds =>
          obtain ⟨c, dx, fs, m, z1, z2, z3⟩ := z
          dsimp only at hc ⊢
          unfold D.closed at hc
          rw [Rep]
          exact ⟨r l, c, dx, fs, rfl, m, z1, fz, z2, RepL.less hn _ _ hc z3⟩
  | _ => exact base hd
theorem XRep.less {Wx : Wd} {n m : Nat} {r : Rho} {H : Hp} {x : Xc} {cls : Value} {dd : Option Addr} (hm : m ≤ n) (hc : closedL m x.ds = true) (h : XRep Wx n r H x cls dd) : XRep Wx m r H x cls dd := by
  obtain ⟨c, h1, h2, h3⟩ := h
  refine ⟨c, h1, h2, ?_⟩
  rcases h3 with h3 | ⟨d, fs, e, h4, h5, h6, h7, h8⟩
  · exact .inl h3
  · exact .inr ⟨d, fs, e, h4, fz_less hm h5, h6, RepL.less hm _ _ hc h7, h8⟩
theorem out_gc {Wx : Wd} {S : Sto} {r : Rho} {H : Hp} {Q : VK} {E : XK} {q : R D} (o : Out Wx S.length r H (fun d S' r' H' => ∀ v, Rep Wx S'.length r' H' d v → Q v H') (fun x S' r' H' => ∀ cls dd, XRep Wx S'.length r' H' x cls dd → E cls dd H') (gcF S.length q)) :
    Out Wx S.length r H (fun d S' r' H' => ∀ v, Rep Wx S'.length r' H' d v → Q v H') (fun x S' r' H' => ∀ cls dd, XRep Wx S'.length r' H' x cls dd → E cls dd H') q := by
  cases q with
  | bad => exact o
  | ok d S1 =>
    simp only [gcF] at o
    split at o
    · rename_i hc
      rw [Bool.and_eq_true] at hc
      intro r1 H1 st em v hv
      have hl : (S1.take S.length).length = S.length := by rw [List.length_take]; have := st.le; omega
      refine o r1 H1 ?_ (emb_take em st.le hc.2) v ?_
      · rw [hl]; exact stp_less st (Nat.le_refl _) st.le
      · rw [hl]; exact top_ok em st.le hv hc.1
    · exact o
  | exc x S1 =>
    simp only [gcF] at o
    split at o
    · rename_i hc
      rw [Bool.and_eq_true] at hc
      intro r1 H1 st em cls dd hx
      have hl : (S1.take S.length).length = S.length := by rw [List.length_take]; have := st.le; omega
      refine o r1 H1 ?_ (emb_take em st.le hc.2) cls dd ?_
      · rw [hl]; exact stp_less st (Nat.le_refl _) st.le
      · rw [hl]; exact hx.less st.le hc.1
    · exact o
/-! binding -/
theorem lookup_rel {Wx : Wd} {n : Nat} {r : Rho} {H : Hp} {p : Str} {d : D} : ∀ {ks : List Str} {es : List D} {zs : List V} {ws : List Value}, RepL Wx n r H es zs → Vals zs ws → (ks.zip es).lookup p = some d → ∃ v u, (ks.zip ws).lookup p = some u ∧ Rep Wx n r H d v ∧ L2.RelV v u
  | [], _, _, _, _, _, h => by simp at h
  | k :: ks, [], _, _, h1, _, h => by simp at h
  | k :: ks, e :: es, _, _, h1, h2, h => by
    rw [RepL] at h1
    obtain ⟨v, q, rfl, a1, a2⟩ := h1
    cases h2 with
    | cons b1 b2 =>
      rw [List.zip_cons_cons, List.lookup_cons] at h ⊢
      cases hk : p == k with
      | true =>
        rw [hk] at h
        cases h
        exact ⟨_, _, rfl, a1, b1⟩
      | false =>
        rw [hk] at h
        exact lookup_rel a2 b2 h
theorem bind_rel {Wx : Wd} {n : Nat} {r : Rho} {H : Hp} {ks : List Str} {es : List D} {zs : List V} {ws : List Value} (h1 : RepL Wx n r H es zs) (h2 : Vals zs ws) : ∀ {ps : List Str} {ds ds' : List D} {vs : List V} {us : List Value}, RepL Wx n r H ds vs → Vals vs us → bindG ps ds (ks.zip es) = some ds' →
    ∃ vs' us', bindG ps us (ks.zip ws) = some us' ∧ RepL Wx n r H ds' vs' ∧ Vals vs' us' ∧ ds'.length = ps.length
  | [], [], ds', vs, us, a, b, h => by
    unfold bindG at h
    cases h
    rw [RepL] at a
    subst a
    cases b
    exact ⟨[], [], rfl, RepL.nil, .nil, rfl⟩
  | [], d :: ds, ds', vs, us, a, b, h => by
    unfold bindG at h
    cases h
  | p :: ps, d :: ds, ds', vs, us, a, b, h => by
    unfold bindG at h
    rw [Option.map_eq_some_iff] at h
    obtain ⟨qs, e1, rfl⟩ := h
    rw [RepL] at a
    obtain ⟨v, q, rfl, a1, a2⟩ := a
    cases b with
    | cons b1 b2 =>
      obtain ⟨vs', us', c1, c2, c3, c4⟩ := bind_rel h1 h2 a2 b2 e1
      refine ⟨_, _, ?_, RepL.cons a1 c2, .cons b1 c3, by rw [List.length_cons, List.length_cons, c4]⟩
      unfold bindG
      rw [c1]
      rfl
  | p :: ps, [], ds', vs, us, a, b, h => by
    unfold bindG at h
    obtain ⟨d, e1, e2⟩ := Option.bind_eq_some_iff.mp h
    rw [Option.map_eq_some_iff] at e2
    obtain ⟨qs, e3, rfl⟩ := e2
    obtain ⟨v, u, g1, g2, g3⟩ := lookup_rel h1 h2 e1
    obtain ⟨vs', us', c1, c2, c3, c4⟩ := bind_rel h1 h2 a b e3
    rw [RepL] at a
    subst a
    cases b
    refine ⟨_, _, ?_, RepL.cons g2 c2, .cons g3 c3, by rw [List.length_cons, List.length_cons, c4]⟩
    unfold bindG
    rw [g1, Option.bind_some, c1]
    rfl
theorem start_rep {Wx : Wd} {n : Nat} {r : Rho} {H : Hp} {N : List Str} {ds : List D} {vs : List V} (h : RepL Wx n r H ds vs) : RepE Wx n r H (startD N ds) (L2.start N vs) := by
  have hl := h.length
  refine ⟨by unfold startD L2.start; simp [hl], fun i d q => ?_⟩
  unfold startD at q
  unfold L2.start
  by_cases hi : i < ds.length
  · rw [List.getElem?_append_left (by simpa using hi), List.getElem?_map, Option.map_eq_some_iff] at q
    obtain ⟨d', e1, e2⟩ := q
    cases e2
    obtain ⟨v, g1, g2⟩ := h.get e1
    refine ⟨v, ?_, g2⟩
    rw [List.getElem?_append_left (by rw [List.length_map, hl]; exact hi), List.getElem?_map, g1]
    rfl
  · rw [List.getElem?_append_right (by simpa using hi)] at q
    have := List.mem_of_getElem? q
    rw [List.mem_replicate] at this
    cases this.2
end Fw

set_option Elab.async false
set_option linter.all false
set_option maxRecDepth 100000
set_option maxHeartbeats 4000000
namespace Fw
open PySem PySem.Spec PyProof.Rows L2
variable [Tb]
/-- the facts of a def -/
structure DefOk (K : PySem.W.Frag) (mg : Str → Option Value) (base : Heap) (nm : Nms) (d : Df) (f : Str) : Prop where
  ex : ∃ (fa : Addr) (name qual : Str) (params : Arguments) (body : List Stmt) (scope : Scope) (dV kV doc pm cdv ct oc : Value) (an od : Option Addr) (osl : Array (Option Value)),
    mg f = some (.ref fa) ∧ PySem.W.keepIn K (.ref fa) = true ∧ K.lookup fa = some ⟨oc, od, .func (PySem.W.fnOf name qual params body scope dV kV doc pm an cdv ct), osl⟩ ∧ PySem.W.codeIn K cdv qual = true ∧ FnScope d.N d.ps scope ∧
    ckSs nm d.N scope d.body d.fx body = true ∧
    (∀ n ks, (n, ks) ∈ d.shapes → ∀ us ws us', us.length = n → ws.length = ks.length → bindG d.ps us (ks.zip ws) = some us' → bindArgs (PySem.W.fnOf name qual params body scope dV kV doc pm an cdv ct) ⟨us, ks.zip ws⟩ = pure (d.ps.zip us')) ∧
    (d.lam = true → ∃ c P, LamX.TabB base mg c P ∧ cdv = .ref c ∧ ∀ L : Addr, (P, (envOfC qual scope L fa cdv).qual ++ "<lambda>") ∈ Tb.T ∧ ∀ p ∈ (Tb.T : List (Addr × Str)), p.1 = P → p.2 = (envOfC qual scope L fa cdv).qual ++ "<lambda>")
def runDf (t : Sta) (d : Df) (ds : List D) (kws : List (Str × D)) (S : Sto) : R D :=
  if (ds.length, kws.map (·.1)) ∈ d.shapes then (match bindG d.ps ds kws with
    | some ds' => gcF S.length (fin (evSs d.body t (startD d.N ds') S))
    | none => .bad) else .bad
section
variable {P : Program} {w : World} {K : PySem.W.Frag} {mg : Str → Option Value} {base : Heap} {t : Sta} {k j : Nat}
theorem zip_fst : ∀ {ks : List Str} {es : List D}, ks.length = es.length → (ks.zip es).map (·.1) = ks
  | [], [], _ => rfl
  | k :: ks, e :: es, h => by rw [List.zip_cons_cons, List.map_cons, zip_fst (by simpa using h)]
  | [], e :: es, h => by simp at h
  | k :: ks, [], h => by simp at h
theorem def_callP {d : Df} {f : Str} (hd : DefOk K mg base t.nm d f) (sok : SOk P w K mg base t k) (hh : t.hot = none) (hk : t.thk = none) (hl : t.lam = d.lam) (hj : k ≤ j) (hjl : d.lam = true → k + 2 ≤ j) :
    ∃ fa, mg f = some (.ref fa) ∧ PySem.W.keepIn K (.ref fa) = true ∧ CallP P w K mg base (j + 1) fa (runDf t d) := by
  obtain ⟨fa, name, qual, params, body, scope, dV, kV, doc, pm, cdv, ct, oc, an, od, osl, m1, m2, lk, hcd, FS, hck, hB, hlam⟩ := hd.ex
  refine ⟨fa, m1, m2, fun A outer s H us ws ks vs zs Q E S r ds es hr hgd e0 rv rz emb h1 h2 hlen o => ?_⟩
  unfold runDf at o
  rw [zip_fst hlen] at o
  split at o
  · rename_i hsh
    split at o
    · rename_i ds' hb
      obtain ⟨vs', us', b1, b2, b3, b4⟩ := bind_rel h2 rz h1 rv hb
      have o := out_gc o
      have hvl : vs'.length = d.ps.length := by rw [b2.length, b4]
      have hbind := hB _ _ hsh us ws us' (by rw [← rv.length, h1.length]) (by rw [← rz.length, h2.length, hlen]) b1
      refine LamX.run_ofS (N := d.N) (ps := d.ps) (us := us') (vs := vs') lk hcd FS hr e0 (.of_eq hbind) b3 hvl fun hr' => ?_
      have rk : Room k (A.deeper (envOfC qual scope s.heap.objs.size fa cdv)) := hr'.mono hj
      have gs : GoodS t k d.N scope (cxOf (L2.CX P w) P w K mg base d.N qual scope fa cdv A outer s H E) (Wm.ex E) d.fx := by
        refine ⟨⟨rfl, rfl, FS.nd, rk.un, deeper_guards hgd, sok, fun _ => ⟨rfl, rk, takes_of rfl rfl rfl rfl⟩, fun i x z => ?_, fun _ hlm => ?_, fun i th _ z => ?_⟩, fun _ => rfl, rfl, rfl, FS.kind, fun _ => passes_of rfl, fun i hi => nomatch hi⟩
        · rw [hh] at z; cases z
        · rw [hl] at hlm
          obtain ⟨c, P', a1, a2, a3⟩ := hlam hlm
          exact ⟨hr'.mono (hjl hlm), c, P', a1, a2, a3 _⟩
        · rw [hk] at z; cases z
      refine ⟨_, sndS d.body gs body hck, S, r, startD d.N ds', emb, ⟨start_rep b2, trivial⟩, ?_⟩
      revert o
      generalize evSs d.body t (startD d.N ds') S = q
      intro o
      cases q with
      | bad => exact o.elim
      | exc x S1 => exact o.elim
      | ok fl S1 =>
        cases fl with
        | next s1 => exact fun r1 H1 st em σ he => o r1 H1 st em V.non (by rw [Rep])
        | ret dd => exact o
        | brk s1 => exact o.elim
        | cont s1 => exact o.elim
        | exc x s1 => exact fun r1 H1 st em σ cls dd he hx => o r1 H1 st em cls dd hx
    · exact o.elim
  · exact o.elim
/-- the frame of a def whose one argument is a closure -/
def Wm.lam (E : XK) (wd : Wd) (f c' : Addr) (q : Str) (e : En) (σ0 : L2.St) : Wm :=
  ⟨fun cls d _ H => E cls d H, fun σ n r H => (σ[0]? = some (some (.ref f)) ∧ RepE wd n r H e σ0 ∧ H c' = some (LamX.CodeO c' q)) ∧ Fz n r c',
    fun σ n r H n' r' H' st h => by
      have z := st.fz c' _ h.1.2.2 h.2 (fun ps q => by unfold LamX.CodeO at q; cases q)
      exact ⟨⟨h.1.1, h.1.2.1.stp st, z.1⟩, z.2⟩, [0],
    fun σ σ' n r H e h => ⟨⟨by rw [e 0 (by simp)]; exact h.1.1, h.1.2⟩, h.2⟩⟩
def runLam (t : Sta) (d : Df) (th : Sto → R D) (S : Sto) : R D := gcF S.length (fin (evSs d.body { t with thk := some (0, th), lam := false } (List.replicate d.N.length none) S))
theorem def_lamP {d : Df} {f : Str} (hd : DefOk K mg base t.nm d f) (sok : SOk P w K mg base t k) (hh : t.hot = none) (hps : d.ps.length = 1) (hN : 0 < d.N.length) (hsh : (1, []) ∈ d.shapes) (hj : k ≤ j + 1) (hfx : d.fx = [0]) :
    ∃ fa, mg f = some (.ref fa) ∧ PySem.W.keepIn K (.ref fa) = true ∧ LamP P w K mg base j fa (runLam t d) := by
  obtain ⟨fa, name, qual, params, body, scope, dV, kV, doc, pm, cdv, ct, oc, an, od, osl, m1, m2, lk, hcd, FS, hck, hB, hlam⟩ := hd.ex
  rw [hfx] at hck
  refine ⟨fa, m1, m2, fun A outer s H f' c' q e σ th Q E S r hr hgd e0 emb he hco hfz T o => ?_⟩
  unfold runLam at o
  have o := out_gc o
  obtain ⟨p, hp⟩ : ∃ p, d.ps = [p] := by
    match h : d.ps, hps with
    | [p], _ => exact ⟨p, rfl⟩
  have hbind := hB _ _ hsh [.ref f'] [] [.ref f'] rfl rfl (by rw [hp]; rfl)
  refine LamX.run_ofS (N := d.N) (ps := d.ps) (us := [.ref f']) (vs := [V.ref f']) lk hcd FS hr e0 (.of_eq hbind) (.cons rfl .nil) (by rw [hps]; rfl) fun hr' => ?_
  have rk : Room k (A.deeper (envOfC qual scope s.heap.objs.size fa cdv)) := hr'.mono hj
  have hs0 : (L2.start d.N [V.ref f'])[0]? = some (some (V.ref f')) := rfl
  have gs : GoodS { t with thk := some (0, th), lam := false } k d.N scope (cxOf (L2.CX P w) P w K mg base d.N qual scope fa cdv A outer s H E) (Wm.lam E ⟨K, mg, Tb.T⟩ f' c' q e σ) [0] := by
    refine ⟨⟨rfl, rfl, FS.nd, rk.un, deeper_guards hgd, ⟨sok.call, sok.con, sok.free, sok.ins, sok.xf, sok.exm, sok.cn, sok.rx, sok.exc, sok.lamf, sok.isi⟩, fun _ => ⟨rfl, rk, takes_of rfl rfl rfl rfl⟩, fun i x z => ?_, fun _ z => (nomatch z), fun i th' _ z => ?_⟩, fun _ => rfl, rfl, rfl, FS.kind, fun _ => passes_of rfl, fun i hi => hi⟩
    · have z : t.hot = some (some i, x) := z
      rw [hh] at z
      cases z
    · have z : some (0, th) = some (i, th') := z
      cases z
      exact ⟨f', c', q, e, σ, ⟨rfl, j + 1, hr', T⟩, fun σ n r H h => h.1⟩
  refine ⟨_, sndS d.body gs body hck, S, r, List.replicate d.N.length none, emb, ⟨⟨?_, fun i dd z => ?_⟩, ⟨hs0, he, hco⟩, hfz⟩, ?_⟩
  · unfold L2.start
    simp
    omega
  · have := List.mem_of_getElem? z
    rw [List.mem_replicate] at this
    cases this.2
  · revert o
    generalize evSs d.body { t with thk := some (0, th), lam := false } (List.replicate d.N.length none) S = q
    intro o
    cases q with
    | bad => exact o.elim
    | exc x S1 => exact o.elim
    | ok fl S1 =>
      cases fl with
      | next s1 => exact fun r1 H1 st em σ he => o r1 H1 st em V.non (by rw [Rep])
      | ret dd => exact o
      | brk s1 => exact o.elim
      | cont s1 => exact o.elim
      | exc x s1 => exact fun r1 H1 st em σ cls dd he hx => o r1 H1 st em cls dd hx
end
end Fw

set_option Elab.async false
set_option linter.all false
set_option maxRecDepth 100000
set_option maxHeartbeats 4000000
namespace Fw
open PySem PySem.Spec PyProof.Rows L2
variable [Tb]
/-- one level more of calls -/
def stepSta (b : Sta) (tb : Str → Option Df) (x : Sta) (z : Option Sta) : Sta := { b with
  C := fun f ds kws S => match tb f with
    | some d => if d.lam = true then (match z with
      | some z => runDf { z with lam := true } d ds kws S
      | none => .bad) else runDf x d ds kws S
    | none => .bad
  L := fun f th S => match tb f with
    | some d => if d.fx = [0] then runLam x d th S else .bad
    | none => .bad }
def zeroSta (b : Sta) : Sta := { b with C := fun _ _ _ _ => .bad, L := fun _ _ _ => .bad }
def mk3 (b : Sta) (tb : Str → Option Df) : Nat → Sta × Option Sta × Option Sta
  | 0 => (zeroSta b, none, none)
  | k + 1 => (stepSta b tb (mk3 b tb k).1 (mk3 b tb k).2.2, some (mk3 b tb k).1, (mk3 b tb k).2.1)
/-- what holds of the text whatever its calls do -/
structure Stat (P : Program) (w : World) (K : PySem.W.Frag) (mg : Str → Option Value) (base : Heap) (t : Sta) : Prop where
  con : ∀ x d, t.G x = some d → ∃ u v, (mg x = some u ∨ (mg x = none ∧ bootBuiltins x = some u)) ∧ RelV v u ∧ ∀ n r H, Rep ⟨K, mg, Tb.T⟩ n r H d v
  free : ∀ x, x ∈ t.nm.F → mg x = none
  ins : ∀ C c, C ∈ t.IC → mg C = some (.ref c) → InsC K c
  xf : ∀ C c g, (C, g) ∈ t.XF → mg C = some (.ref c) → PySem.W.findIn K (.ref c) g = some none
  exm : ∀ C x b, t.EI C x = some b → ∀ c d, mg C = some (.ref c) → mg x = some (.ref d) → PySem.W.exmOne K (.ref c) (.ref d) = some b
  cn : ∀ x, x ∈ t.nm.CN → ∃ c, mg x = some (.ref c)
  rx : ∀ C, C ∈ t.RX → ∃ c, mg C = some (.ref c) ∧ PySem.W.keepIn K (.ref c) = true ∧ PySem.W.subIn K (.ref c) (.type "BaseException") = some true ∧ PySem.W.typeIn K (.ref c) = some (.type "type") ∧
    ∃ (B newId initId : String) (bmB : List Value), ExcBaseFacts B newId initId bmB ∧ PySem.W.excIn K c bmB newId = true
  exc : ∀ C c, mg C = some (.ref c) → C ∈ t.EC → ExcC K c ∧ XfC K c
  isi : ∀ a b r, t.I a b = some r → ∀ u v, clsAt mg a u → clsAt mg b v → PySem.W.kitOne K u v = some r
section
variable {P : Program} {w : World} {K : PySem.W.Frag} {mg : Str → Option Value} {base : Heap} {b : Sta} {tb : Str → Option Df}
def Lev (P : Program) (w : World) (K : PySem.W.Frag) (mg : Str → Option Value) (base : Heap) (b : Sta) (t : Sta) (k : Nat) : Prop := SOk P w K mg base t k ∧ t.hot = none ∧ t.thk = none ∧ t.lam = false ∧ t.nm = b.nm
theorem lev_ok (st : Stat P w K mg base b) (h1 : b.hot = none) (h2 : b.thk = none) (h3 : b.lam = false) (hT : ∀ f, f ∈ b.nm.T → ∃ d, tb f = some d ∧ DefOk K mg base b.nm d f)
    (hL : ∀ f, f ∈ b.nm.LT → ∃ d, tb f = some d ∧ DefOk K mg base b.nm d f ∧ d.ps.length = 1 ∧ 0 < d.N.length ∧ (1, []) ∈ d.shapes ∧ d.fx = [0]) :
    ∀ k, Lev P w K mg base b (mk3 b tb k).1 k ∧ (∀ y, (mk3 b tb k).2.1 = some y → 1 ≤ k ∧ Lev P w K mg base b y (k - 1)) ∧ ∀ z, (mk3 b tb k).2.2 = some z → 2 ≤ k ∧ Lev P w K mg base b z (k - 2)
  | 0 => by
    refine ⟨⟨⟨fun f hf => ?_, st.con, st.free, st.ins, st.xf, st.exm, st.cn, st.rx, st.exc, fun f hf => ?_, st.isi⟩, h1, h2, h3, rfl⟩, (fun y q => by cases (show none = some y from q)), (fun z q => by cases (show none = some z from q))⟩
    · obtain ⟨d, _, hd⟩ := hT f hf
      obtain ⟨fa, name, qual, params, body, scope, dV, kV, doc, pm, cdv, ct, oc, an, od, osl, m1, m2, _⟩ := hd.ex
      exact ⟨fa, m1, m2, fun A outer s H us ws ks vs zs Q E S r ds es _ _ _ _ _ _ _ _ _ o => o.elim⟩
    · obtain ⟨d, _, hd, _⟩ := hL f hf
      obtain ⟨fa, name, qual, params, body, scope, dV, kV, doc, pm, cdv, ct, oc, an, od, osl, m1, m2, _⟩ := hd.ex
      exact ⟨fa, m1, m2, fun A outer s H f c' q e σ th Q E S r _ _ _ _ _ _ _ _ o => o.elim⟩
  | k + 1 => by
    obtain ⟨⟨x1, x2, x3, x4, x5⟩, y0, z0⟩ := lev_ok st h1 h2 h3 hT hL k
    refine ⟨⟨⟨fun f hf => ?_, st.con, st.free, st.ins, st.xf, st.exm, st.cn, st.rx, st.exc, fun f hf => ?_, st.isi⟩, h1, h2, h3, rfl⟩, fun y q => ?_, fun z q => ?_⟩
    · obtain ⟨d, hd0, hd⟩ := hT f hf
      have eC : (mk3 b tb (k + 1)).1.C f = fun ds kws S => if d.lam = true then (match (mk3 b tb k).2.2 with
          | some z => runDf { z with lam := true } d ds kws S
          | none => .bad) else runDf (mk3 b tb k).1 d ds kws S := by
        funext ds kws S
        show (match tb f with
          | some d => if d.lam = true then (match (mk3 b tb k).2.2 with
            | some z => runDf { z with lam := true } d ds kws S
            | none => .bad) else runDf (mk3 b tb k).1 d ds kws S
          | none => .bad) = _
        rw [hd0]
      show ∃ fa, mg f = some (.ref fa) ∧ PySem.W.keepIn K (.ref fa) = true ∧ CallP P w K mg base (k + 1) fa ((mk3 b tb (k + 1)).1.C f)
      rw [eC]
      by_cases hl : d.lam = true
      · cases hz : (mk3 b tb k).2.2 with
        | none =>
          obtain ⟨fa, name, qual, params, body, scope, dV, kV, doc, pm, cdv, ct, oc, an, od, osl, m1, m2, _⟩ := hd.ex
          refine ⟨fa, m1, m2, fun A outer s H us ws ks vs zs Q E S r ds es _ _ _ _ _ _ _ _ _ o => ?_⟩
          dsimp only at o
          rw [if_pos hl] at o
          exact o.elim
        | some z =>
          obtain ⟨z1, z2, z3, z4, z5, z6⟩ := z0 z hz
          have e : (fun ds kws S => if d.lam = true then (match some z with
            | some z => runDf { z with lam := true } d ds kws S
            | none => R.bad) else runDf (mk3 b tb k).1 d ds kws S) = runDf { z with lam := true } d := by
            funext ds kws S
            rw [if_pos hl]
          rw [e]
          exact def_callP (t := { z with lam := true }) (k := k - 2) (j := k) (by show DefOk K mg base z.nm d f; rw [z6]; exact hd) ⟨z2.call, z2.con, z2.free, z2.ins, z2.xf, z2.exm, z2.cn, z2.rx, z2.exc, z2.lamf, z2.isi⟩ z3 z4 hl.symm (by omega) (fun _ => by omega)
      · have e : (fun ds kws S => if d.lam = true then (match (mk3 b tb k).2.2 with
            | some z => runDf { z with lam := true } d ds kws S
            | none => R.bad) else runDf (mk3 b tb k).1 d ds kws S) = runDf (mk3 b tb k).1 d := by
          funext ds kws S
          rw [if_neg hl]
        rw [e]
        have hl2 : d.lam = false := by simpa using hl
        exact def_callP (k := k) (j := k) (by rw [x5]; exact hd) x1 x2 x3 (by rw [x4, hl2]) (Nat.le_refl _) (fun z => absurd z hl)
    · obtain ⟨d, hd0, hd, a1, a2, a3, a4⟩ := hL f hf
      have eL : (mk3 b tb (k + 1)).1.L f = runLam (mk3 b tb k).1 d := by
        funext th S
        show (match tb f with
          | some d => if d.fx = [0] then runLam (mk3 b tb k).1 d th S else .bad
          | none => .bad) = _
        rw [hd0]
        dsimp only
        rw [if_pos a4]
      show ∃ fa, mg f = some (.ref fa) ∧ PySem.W.keepIn K (.ref fa) = true ∧ LamP P w K mg base (k + 1) fa ((mk3 b tb (k + 1)).1.L f)
      rw [eL]
      exact def_lamP (k := k) (j := k + 1) (by rw [x5]; exact hd) x1 x2 a1 a2 a3 (by omega) a4
    · have e : (mk3 b tb k).1 = y := Option.some.inj q
      rw [← e]
      exact ⟨by omega, x1, x2, x3, x4, x5⟩
    · obtain ⟨y1, y2⟩ := y0 z q
      refine ⟨by omega, ?_⟩
      have : k + 1 - 2 = k - 1 := by omega
      rw [this]
      exact y2
end
end Fw

set_option Elab.async false
set_option linter.all false
set_option maxRecDepth 100000
set_option maxHeartbeats 4000000
namespace Fw
open PySem PySem.Spec PyProof.Rows L2
/-- what stands at the call's entry: dict-like and code objects are seen by the base, the script and the tables are not -/
structure Seen (s : Shared) (H : Hp) (a : Addr) (L : List Addr) : Prop where
  out : ∀ b, b ≠ a → b ∉ L → H b = none
  scr : ∃ vs : List Value, s.heap.get? a = some { cls := .type "list", data := .seq vs.toArray }
  tab : ∀ b, b ∈ L → s.heap.get? b = some { cls := .none, data := .fields #[] }
section
variable {s : Shared} {H : Hp} {a : Addr} {L : List Addr}
theorem Seen.hid (q : Seen s H a L) {b : Addr} {o : Obj} (e : s.heap.get? b = some o) (n1 : ∀ vs n, o.data ≠ .seq vs n) (n2 : o.data ≠ .fields #[]) : (hidT s.heap H).get? b = some o := by
  refine hidT_get e (q.out b (fun z => ?_) fun z => ?_)
  · obtain ⟨vs, hv⟩ := q.scr
    subst z
    rw [hv] at e
    have e2 := Option.some.inj e
    rw [← e2] at n1
    exact n1 _ _ rfl
  · rw [q.tab b z] at e
    have e2 := Option.some.inj e
    rw [← e2] at n2
    exact n2 rfl
theorem Seen.ns (q : Seen s H a L) {b : Addr} {m : Str → Option Value} (h : s.heap.Ns b m) : (hidT s.heap H).Ns b m := by
  obtain ⟨o, es, ep, e, hd, rest⟩ := h
  refine ⟨o, es, ep, q.hid e (fun vs n z => ?_) (fun z => ?_), hd, rest⟩
  · rw [hd] at z
    cases z
  · rw [hd] at z
    cases z
theorem Seen.code (q : Seen s H a L) {c P : Addr} (h : PySem.W.CodeHd s.heap c P) : PySem.W.CodeHd (hidT s.heap H) c P := by
  obtain ⟨o, fields, f1, t1, f2, t2, f3, f4, t4, hget, hcls, hdat, h11, rest⟩ := h
  refine ⟨o, fields, f1, t1, f2, t2, f3, f4, t4, q.hid hget (fun us n z => ?_) (fun z => ?_), hcls, hdat, h11, rest⟩
  · rw [hdat] at z
    cases z
  · rw [hdat] at z
    cases z
    simp at h11
end
section
variable [Tb] {P : Program} {w : World} {K : PySem.W.Frag} {mg mb : Str → Option Value} {k : Nat} {fa a : Addr} {cs : List (Addr × Addr)} {s : Shared} {H : Hp} {ns : List Int} {C : List D → List (Str × D) → Sto → R D} {S' : Sto}
theorem end_core (q : Seen s H a (cs.map (·.2))) (KI : K.In s.heap) (hK : ∀ b o, K.lookup b = some o → H b = none) (g : s.heap.Ns mainGlobals mg) (gb : s.heap.Ns builtinsNs mb) (gbb : ∀ x : Str, x ≠ "__name__" → mb x = bootBuiltins x) (lim : s.heap.NoLimit) (gen : s.gens = #[])
    (hH : ∀ b, b ∈ cs.map (·.2) → H b = some (.tbl #[])) (hfr : ∀ o, H a = some o → ∃ ob xs, o = .frz ob (.lst xs)) (hok : HOk P w H s.heap) (hS : FS K 0 (fun _ => 0) H a (ns.map V.int)) (codes : ∀ p ∈ cs, PySem.W.CodeHd s.heap p.1 p.2)
    (bmod : ∃ (bm : Addr) (ob : Obj), mg "__builtins__" = some (.ref bm) ∧ bm ≠ builtinsNs ∧ s.heap.get? bm = some ob ∧ ob.cls = .type "module" ∧ ob.dict = some builtinsNs ∧ ob.data = .plain)
    (F : ∀ base : Heap, K.In base → base.Ns mainGlobals mg → (∀ p ∈ cs, LamX.TabB base mg p.1 p.2) → CallP P w K mg base k fa C) (hr : Room k callerA) (hT : ∀ p ∈ (Tb.T : List (Addr × Str)), p.1 ∈ cs.map (·.2)) (hC : C [.scr ns] [] [] = .ok (.bl true) S') :
    codeAny (model P w) callerA (.call (.ref fa) ⟨[.ref a], []⟩) (fun r s2 => r = .ok (.ret (.bool true)) ∧ OldK s.heap s2.heap ∧ s2.os = s.os ∧ AllBare s2.gens) s := by
  have notab : ∀ {b : Addr} {m : Str → Option Value}, s.heap.Ns b m → ∀ {c : Addr}, c ∈ cs.map (·.2) → b ≠ c := fun {b m} hn c hc z => by
    obtain ⟨o, es, ep, e, hd, _⟩ := hn
    rw [z, q.tab c hc] at e
    cases e
    cases hd
  have KB : K.In (hidT s.heap H) := fun b o e => hidT_get (KI b o e) (hK b o e)
  have TB : ∀ p ∈ cs, LamX.TabB (hidT s.heap H) mg p.1 p.2 := fun p hp => by
    have hm : p.2 ∈ cs.map (·.2) := List.mem_map.mpr ⟨p, hp, rfl⟩
    refine ⟨q.code (codes p hp), ?_, notab g hm⟩
    obtain ⟨bm, ob, c1, c2, c3, c4, c5, c6⟩ := bmod
    refine ⟨bm, ob, c1, c2, fun z => ?_, fun z => ?_, q.hid c3 (fun us n y => ?_) (fun y => ?_), c4, c5, c6⟩
    · obtain ⟨o, es, ep, e, hd, _⟩ := g
      rw [z, e] at c3
      cases c3
      rw [hd] at c6
      cases c6
    · rw [z, q.tab _ hm] at c3
      cases c3
      cases c6
    · rw [c6] at y
      cases y
    · rw [c6] at y
      cases y
  obtain ⟨mc, l1, l2⟩ := lim
  have env : Env0 P w K mg (hidT s.heap H) callerA [] s H :=
    { frames := rfl
      mod := { kin := KB, glob := q.ns g, blt := ⟨mb, q.ns gb, gbb⟩, nolimit := ⟨mc, q.ns l1, l2⟩ }
      bs := fun b o e => of_hidT e
      bsz := Nat.le_of_eq (hidT_size s.heap H)
      funs := trivial
      frf := fun b hb => by simp [frs] at hb
      hok := hok
      bare := .of_eq gen }
  have tabs : LamX.Tabs (Tb.T : List (Addr × Str)) H := fun p hp => .nil (hH p.1 (hT p hp))
  have emb : Emb ⟨K, mg, Tb.T⟩ [] (fun _ => 0) H := ⟨fun l l' z => absurd z (Nat.not_lt_zero _), fun l o z => by simp at z, tabs⟩
  have rep : RepL ⟨K, mg, Tb.T⟩ 0 (fun _ => 0) H [.scr ns] [.ref a] := RepL.one (by rw [Rep]; exact ⟨a, rfl, hS⟩)
  have run := F _ KB (q.ns g) TB callerA [] s H [.ref a] [] [] [.ref a] [] (fun v _ => v = .bl true) (fun _ _ _ => False) [] (fun _ => 0) [.scr ns] [] hr rfl env (.cons rfl .nil) .nil emb rep RepL.nil rfl (by
    show Out _ _ _ _ _ _ (C [.scr ns] [] [])
    rw [hC]
    intro r' H' st em v hv
    rw [Rep] at hv
    exact hv)
  refine codeAny_mono run fun res s2 hq => ?_
  cases res with
  | error e =>
    obtain ⟨_, _, _, _, _, _, _, _, _, _, _, _, z⟩ := hq
    exact z.elim
  | ok fl =>
    cases fl with
    | next => exact False.elim hq
    | brk => exact False.elim hq
    | cont => exact False.elim hq
    | ret u =>
      obtain ⟨v, H2, z1, z2, un, hok2, rv, z3⟩ := hq
      have z3 : v = .bl true := z3
      subst z3
      have hu : u = Value.bool true := rv
      have same : ∀ b o, b ∉ cs.map (·.2) → s.heap.get? b = some o → s2.heap.get? b = some o := fun b o nb e => by
        cases hb : H b with
        | none => exact un.keep b o e hb (fun z => by simp [frs] at z) (fun z => nomatch z)
        | some u =>
          by_cases hba : b = a
          · subst hba
            obtain ⟨ob, xs, rfl⟩ := hfr u hb
            have k1 := (hok b _ hb).1
            have k2 := (hok2 b _ (un.frzs b ob _ hb)).1
            rw [e] at k1
            cases k1
            exact k2
          · rw [q.out b hba nb] at hb
            cases hb
      have grow : ∀ b, b ∈ cs.map (·.2) → ∃ more : Array Value, s2.heap.get? b = some { cls := .none, data := .fields more } := fun b hb => by
        obtain ⟨more, z⟩ := un.tbls b #[] (hH b hb)
        exact ⟨_, hok2 b _ z⟩
      refine ⟨by rw [hu], ⟨fun b o e => ?_, fun b o e => ?_⟩, z1, z2⟩
      · by_cases hb : b ∈ cs.map (·.2)
        · obtain ⟨more, hm⟩ := grow b hb
          obtain ⟨p, hp, ep⟩ := List.mem_map.mp hb
          rw [q.tab b hb] at e
          have e := Option.some.inj e
          subst e
          subst ep
          refine .inr (.inl ⟨((codes p hp).tab (q.tab _ hb)).isCodeTable, rfl, #[], more, rfl, ?_⟩)
          rw [Array.empty_append]
          exact hm
        · exact .inl (same b o hb e)
      · by_cases hb : b ∈ cs.map (·.2)
        · obtain ⟨more, hm⟩ := grow b hb
          exact ⟨_, hm⟩
        · exact ⟨o, same b o hb e⟩
end
/-- what the head's facts give -/
structure LawFw (P : Program) (w : World) (k n : Nat) (mg : Str → Option Value) (fa : Addr) (h : Heap) : Prop where
  ex : ∃ (K : PySem.W.Frag) (cs : List (Addr × Addr)) (T : List (Addr × Str)) (C : List D → List (Str × D) → Sto → R D), K.In h ∧ (∀ p ∈ cs, h.get? p.2 = some { cls := .none, data := .fields #[] }) ∧ (∀ p ∈ cs, K.lookup p.2 = none) ∧ (∀ p ∈ cs, PySem.W.CodeHd h p.1 p.2) ∧ (∀ p ∈ T, p.1 ∈ cs.map (·.2)) ∧
    (∀ ns : List Int, ns.length ≤ n → (∀ z ∈ ns, Builtin.Int.intBits z ≤ 1048576) → ∃ S', C [.scr ns] [] [] = .ok (.bl true) S') ∧
    ∀ base : Heap, K.In base → base.Ns mainGlobals mg → (∀ p ∈ cs, LamX.TabB base mg p.1 p.2) → @CallP ⟨T⟩ P w K mg base k fa C
theorem ints_vals {vs : List Value} {ns : List Int} (h : IntsAre vs ns) : Vals (ns.map V.int) vs := by
  induction h with
  | nil => exact .nil
  | cons n t _ ih => exact .cons ⟨t, rfl⟩ ih
theorem walk_fw {l : PySem.W.OpenLaw} {n k : Nat} {q : Program} {loose : List Str} {XP : (Str → Option Value) → Heap → Prop} {YP : World → Heap → Prop} {d : DefRec}
    (hn : l.most = some n) (hn2 : n ≤ sizeLine) (hdf : d.params.defaults = []) (hr : Room k callerA)
    (F : ∀ (w : World) (mg : Str → Option Value) (fa : Addr) (h : Heap), YP w h → h.Ns mainGlobals mg → mg d.name = some (.ref fa) → LawFw l.prog w k n mg fa h) :
    PySem.W.WalkO q loose XP YP l.row.toRowW d [] (fun f vs => PySem.call f vs) := by
  refine Att.attach_callB hn hdf fun w s0 s mg mb fa o pm cd doc a vs ns G Y ho hd hcd hmg hobj hints hlen hbits hg => ?_
  obtain ⟨K, cs, T, C, KI, hT, nT, hC, hTT, hrun, hF⟩ := (F w mg fa _ Y G.T.g hmg).ex
  obtain ⟨S', hS'⟩ := hrun ns hlen hbits
  letI : Tb := ⟨T⟩
  have rv := ints_vals hints
  have hz : ns.length ≤ sizeLine := Nat.le_trans hlen hn2
  have hsz : vs.length = ns.length := by rw [← rv.length, List.length_map]
  have tabO : ∀ b, b ∈ cs.map (·.2) → s.heap.get? b = some { cls := .none, data := .fields #[] } := fun b hb => by
    obtain ⟨p, hp, rfl⟩ := List.mem_map.mp hb
    exact hT p hp
  have naT : a ∉ cs.map (·.2) := fun z => by
    have e := tabO a z
    rw [hobj] at e
    cases e
  cases hk : K.lookup a with
  | some ob =>
    have e := KI a ob hk
    rw [hobj] at e
    have e := Option.some.inj e
    subst e
    refine end_core (H := fun b => if b ∈ cs.map (·.2) then some (.tbl #[]) else none) (a := a) ⟨fun b _ hb => if_neg hb, ⟨vs, hobj⟩, tabO⟩ KI (fun b o e => if_neg fun hb => ?_) G.T.g G.T.b G.T.builtins G.T.nolimit hg (fun b hb => if_pos hb) (fun o e => ?_) (fun b o e => ?_) (.inr ⟨_, vs.toArray, _, hk, rfl, rfl, rfl, by rw [List.size_toArray, hsz]; exact hz, by simpa using rv⟩) hC G.T.bmain hF hr hTT hS'
    · obtain ⟨p, hp, ep⟩ := List.mem_map.mp hb
      rw [← ep, nT p hp] at e
      cases e
    · skip
      rw [if_neg naT] at e
      cases e
    · dsimp only at e
      by_cases hb : b ∈ cs.map (·.2)
      · rw [if_pos hb] at e
        cases e
        exact tabO b hb
      · rw [if_neg hb] at e
        cases e
  | none =>
    have ha : (fun b => if b = a then some (HO.frz { cls := .type "list", data := .seq vs.toArray } (.lst (ns.map V.int))) else if b ∈ cs.map (·.2) then some (HO.tbl #[]) else none) a = some (HO.frz { cls := .type "list", data := .seq vs.toArray } (.lst (ns.map V.int))) := if_pos rfl
    refine end_core (H := fun b => if b = a then some (.frz { cls := .type "list", data := .seq vs.toArray } (.lst (ns.map V.int))) else if b ∈ cs.map (·.2) then some (.tbl #[]) else none) (a := a) ⟨fun b h1 h2 => by rw [if_neg h1, if_neg h2], ⟨vs, hobj⟩, tabO⟩ KI (fun b o e => ?_) G.T.g G.T.b G.T.builtins G.T.nolimit hg (fun b hb => ?_) (fun o e => ?_) (fun b o e => ?_) (.inl ⟨.inr ⟨_, ha⟩, fun l z => absurd z (Nat.not_lt_zero _)⟩) hC G.T.bmain hF hr hTT hS'
    · have h1 : b ≠ a := fun z => by
        rw [z, hk] at e
        cases e
      have h2 : b ∉ cs.map (·.2) := fun hb => by
        obtain ⟨p, hp, ep⟩ := List.mem_map.mp hb
        rw [← ep, nT p hp] at e
        cases e
      skip
      rw [if_neg h1, if_neg h2]
    · skip
      rw [if_neg (fun z => naT (by rw [← z]; exact hb)), if_pos hb]
    · skip
      rw [if_pos rfl] at e
      cases e
      exact ⟨_, _, rfl⟩
    · dsimp only at e
      by_cases h1 : b = a
      · rw [if_pos h1] at e
        cases e
        rw [h1]
        exact ⟨hobj, by rw [List.length_map]; exact hz, vs, _, rv, hobj⟩
      · rw [if_neg h1] at e
        by_cases hb : b ∈ cs.map (·.2)
        · rw [if_pos hb] at e
          cases e
          exact tabO b hb
        · rw [if_neg hb] at e
          cases e
end Fw

set_option Elab.async false
set_option linter.all false
set_option maxRecDepth 100000
set_option maxHeartbeats 4000000
namespace Fw
open PySem PySem.Spec PyProof.Rows L2
/-- a module's constant -/
inductive Gk where
  | bty (n : String)
  | own
  | int (i : Int)
  | str (z : Str)
  | tupS (zs : List Str)
def Gk.d (x : Str) : Gk → D
  | .bty n => .ty n
  | .own => .glo x
  | .int i => .int i
  | .str z => .str z
  | .tupS zs => .tup (zs.map .str)
abbrev Cl := Sum String Str
/-- a law's text, as data -/
structure LawIn where
  l : List (Str × (Df × Stmt))
  nm : Nms
  G : List (Str × Gk)
  I : List ((Cl × Cl) × Bool)
  EI : List ((Str × Str) × Bool)
  RX : List Str
  EC : List Str
  XF : List (Str × Str)
def clV (K : PySem.W.Frag) : Cl → Value
  | .inl n => .type n
  | .inr C => .ref (He.ga K C)
def lookI : List ((Cl × Cl) × Bool) → Cl → Cl → Option Bool
  | [], _, _ => none
  | (p, r) :: l, a, b => if p.1 = a ∧ p.2 = b then some r else lookI l a b
namespace LawIn
variable (T : LawIn)
def sta : Sta where
  nm := T.nm
  G := fun x => (T.G.lookup x).map (Gk.d x)
  I := fun a b => lookI T.I a b
  C := fun _ _ _ _ => .bad
  IC := []
  EI := fun C x => T.EI.lookup (C, x)
  RX := T.RX
  EC := T.EC
  XF := T.XF
  L := fun _ _ _ => .bad
  lam := false
  hot := none
  thk := none
def tb (f : Str) : Option Df := (T.l.lookup f).map (·.1)
def fn : List He.DefD := T.l.map fun p => ⟨(p.1, none), p.1, p.1, defArgs p.2.2, defBody p.2.2, defScope p.2.2, [], []⟩
def tf : List (Str × Option Str) := (T.l.filter fun p => p.2.1.lam).map fun p => (p.1, none)
def gFa (p : Str × Gk) : List He.Fa := match p.2 with
  | .bty _ => [.free p.1]
  | .own => [.glo p.1]
  | .int i => [.int p.1 i]
  | .str z => [.str p.1 z]
  | .tupS _ => [.glo p.1]
def clFa : Cl → List He.Fa
  | .inl _ => []
  | .inr C => [.glo C]
def fa : List He.Fa := (T.l.map fun p => .glo p.1) ++ T.nm.F.map .free ++ T.nm.CN.map .glo ++ T.G.flatMap gFa ++ T.I.flatMap (fun e => clFa e.1.1 ++ clFa e.1.2) ++ T.RX.flatMap (fun C => [.glo C, .exc C]) ++ T.EC.map .glo ++ T.XF.map (fun p => .glo p.1) ++
  T.EI.flatMap fun e => [.glo e.1.1, .glo e.1.2, .exm e.1.1 e.1.2 e.2]
def tupK (K : PySem.W.Frag) (x : Str) (zs : List Str) : Bool := match K.lookup (He.ga K x) with
  | some ⟨.type c, _, .seq its _, _⟩ => decide (c = "tuple") && (decide (its.size ≤ sizeLine) && He.relAll (zs.map V.str) its.toList)
  | _ => false
def excB (K : PySem.W.Frag) (c : Addr) : Bool := decide (PySem.W.findIn K (.ref c) "__getattribute__" = some (some (.builtin "BaseException.__getattribute__"))) && (decide (PySem.W.findIn K (.ref c) "__getattr__" = some none) && (decide (PySem.W.subIn K (.ref c) (.type "BaseException") = some true) &&
  (PySem.W.hasDictIn K c && (decide (PySem.W.findIn K (.ref c) "__class__" = some (some (.builtin "object.__class__"))) && (decide (PySem.W.specialIn K (.builtin "object.__class__") "__get__" = some (some (.builtin "getset_descriptor.__get__"))) &&
  (decide (PySem.W.takesIn K (.builtin "object.__class__") = some true) && decide (PySem.W.mroIn K c (.type "object") = some true)))))))
def ex (K : PySem.W.Frag) : Bool := (T.G.all fun p => match p.2 with
    | .tupS zs => tupK K p.1 zs
    | _ => true) && ((T.I.all fun e => decide (PySem.W.kitOne K (clV K e.1.1) (clV K e.1.2) = some e.2)) && ((T.EC.all fun C => excB K (He.ga K C)) && ((T.XF.all fun p => decide (PySem.W.findIn K (.ref (He.ga K p.1)) p.2 = some none)) &&
    (decide (T.tf.map fun p => (He.cT K p).2).Nodup && (T.tf.all fun p => !decide ((He.cT K p).2 = mainGlobals))))))
def tabs (K : PySem.W.Frag) : List (Addr × Str) := T.tf.map fun p => ((He.cT K p).2, (envOfC p.1 (defScope (.Pass ⟨0, 0, 0, 0⟩)) 0 0 .none).qual ++ "<lambda>")
/-- what is seen of the text alone -/
def still : Bool := (T.l.all fun p => C8.scC p.2.1.N p.2.1.ps (defScope p.2.2) && ckSs T.nm p.2.1.N (defScope p.2.2) p.2.1.body p.2.1.fx (defBody p.2.2)) && ((T.nm.T.all fun f => (T.tb f).isSome) &&
  ((T.nm.LT.all fun f => match T.tb f with
    | some d => decide (d.ps.length = 1) && (decide (0 < d.N.length) && (decide ((1, ([] : List Str)) ∈ d.shapes) && decide (d.fx = [0])))
    | none => false) && (T.G.all fun p => match p.2 with
    | .bty n => decide (bootBuiltins p.1 = some (.type n))
    | _ => true)))
end LawIn
end Fw

set_option Elab.async false
set_option linter.all false
set_option maxRecDepth 100000
set_option maxHeartbeats 4000000
namespace Fw
open PySem PySem.Spec PyProof.Rows L2
namespace LawIn
variable {T : LawIn}
def BindOk (p : Str × (Df × Stmt)) : Prop := ∀ (kV doc pm cdv ct : Value) (an : Option Addr) (n : Nat) (ks : List Str), (n, ks) ∈ p.2.1.shapes → ∀ (us ws us' : List Value), us.length = n → ws.length = ks.length → bindG p.2.1.ps us (ks.zip ws) = some us' →
  bindArgs (PySem.W.fnOf p.1 p.1 (defArgs p.2.2) (defBody p.2.2) (defScope p.2.2) .none kV doc pm an cdv ct) ⟨us, ks.zip ws⟩ = pure (p.2.1.ps.zip us')
theorem lookup_mem' {α : Type} {x : Str} {v : α} : ∀ {l : List (Str × α)}, l.lookup x = some v → (x, v) ∈ l
  | [], h => by cases h
  | (k, u) :: r, h => by
    rw [List.lookup_cons] at h
    cases hk : x == k with
    | true =>
      rw [hk] at h
      cases h
      rw [beq_iff_eq.mp hk]
      exact List.mem_cons_self
    | false =>
      rw [hk] at h
      exact List.mem_cons_of_mem _ (lookup_mem' h)
theorem lookup_memP {α β γ : Type} [BEq α] [BEq β] [LawfulBEq α] [LawfulBEq β] {x : α × β} {v : γ} : ∀ {l : List ((α × β) × γ)}, l.lookup x = some v → (x, v) ∈ l
  | [], h => by cases h
  | (k, u) :: r, h => by
    rw [List.lookup_cons] at h
    cases hk : x == k with
    | true =>
      rw [hk] at h
      cases h
      rw [eq_of_beq hk]
      exact List.mem_cons_self
    | false =>
      rw [hk] at h
      exact List.mem_cons_of_mem _ (lookup_memP h)
theorem lookI_mem {a b : Cl} {r : Bool} : ∀ {l : List ((Cl × Cl) × Bool)}, lookI l a b = some r → ((a, b), r) ∈ l
  | [], h => by cases h
  | (p, q) :: l, h => by
    unfold lookI at h
    split at h
    · rename_i c
      cases h
      obtain ⟨c1, c2⟩ := c
      obtain ⟨p1, p2⟩ := p
      cases c1
      cases c2
      exact List.mem_cons_self
    · exact List.mem_cons_of_mem _ (lookI_mem h)
section
variable {P : Program} {w : World} {K : PySem.W.Frag} {mg : Str → Option Value} {h : Heap}
theorem strs_vals {Wx : Wd} {n : Nat} {r : Rho} {H : Hp} : ∀ zs : List Str, RepL Wx n r H (zs.map D.str) (zs.map V.str)
  | [] => RepL.nil
  | z :: zs => RepL.cons (by rw [Rep]) (strs_vals zs)
theorem tupK_ok {x : Str} {zs : List Str} (e : tupK K x zs = true) : KTup K (He.ga K x) (zs.map V.str) := by
  unfold tupK at e
  split at e
  · rename_i c dd its n sl hk
    simp only [Bool.and_eq_true, decide_eq_true_eq] at e
    obtain ⟨rfl, e2, e3⟩ := e
    exact ⟨_, its, n, hk, rfl, rfl, e2, He.relAll_ok e3⟩
  · cases e
theorem excB_ok {c : Addr} (e : excB K c = true) : ExcC K c ∧ XfC K c := by
  unfold excB at e
  simp only [Bool.and_eq_true, decide_eq_true_eq] at e
  obtain ⟨a1, a2, a3, a4, a5, a6, a7, a8⟩ := e
  exact ⟨⟨a1, a2, a3, a4, a5, a6, a7, a8⟩, ⟨a1, a2, a3, a4⟩⟩
theorem clsAt_eq {x : Cl} {u : Value} (X : K.In h) (G : h.Ns mainGlobals mg) (f : ∀ f ∈ clFa x, f.ok K = true) (e : clsAt mg x u) : u = clV K x := by
  cases x with
  | inl n => exact e
  | inr C =>
    obtain ⟨e1, a, e2⟩ := e
    have z := He.glo_ok X G (f (.glo C) (by simp [clFa]))
    rw [z] at e1
    exact (Option.some.inj e1).symm
theorem stat_ok [tbi : Tb] (hs : T.still = true) (X : K.In h) (G : h.Ns mainGlobals mg) (c : He.SaysX T.fa T.fn [] T.tf T.ex w h K) {base : Heap} : Stat P w K mg base T.sta := by
  have fact : ∀ f, f ∈ T.fa → f.ok K = true := fun f hf => c.t.d.facts hf
  have hex := c.more
  unfold ex at hex
  simp only [Bool.and_eq_true, List.all_eq_true, decide_eq_true_eq] at hex
  obtain ⟨x1, x2, x3, x4, x5, x6⟩ := hex
  unfold still at hs
  simp only [Bool.and_eq_true, List.all_eq_true] at hs
  obtain ⟨s1, s2, s3, s4⟩ := hs
  have glo : ∀ x, He.Fa.glo x ∈ T.fa → mg x = some (.ref (He.ga K x)) := fun x hx => He.glo_ok X G (fact _ hx)
  refine ⟨fun x d hd => ?_, fun x hx => ?_, fun C cc hC => (nomatch hC), fun C cc g hg hm => ?_, fun C x b hb cc dd h1 h2 => ?_, fun x hx => ?_, fun C hC => ?_, fun C cc hm hC => ?_, fun a b r hr u v hu hv => ?_⟩
  · obtain ⟨g, e1, e2⟩ := Option.map_eq_some_iff.mp hd
    have hm := lookup_mem' e1
    have hin : ∀ f ∈ gFa (x, g), f.ok K = true := fun f hf => fact f (by
      unfold fa
      simp only [List.mem_append, List.mem_flatMap]
      exact .inl (.inl (.inl (.inl (.inl (.inr ⟨_, hm, hf⟩))))))
    subst e2
    cases g with
    | bty n =>
      have hv := s4 _ hm
      exact ⟨.type n, .ty n, .inr ⟨He.free_ok X G (hin (.free x) (by simp [gFa])), of_decide_eq_true hv⟩, rfl, fun n r H => by unfold Gk.d; rw [Rep]⟩
    | own =>
      have z := He.glo_ok X G (hin (.glo x) (by simp [gFa]))
      exact ⟨_, .ref (He.ga K x), .inl z, rfl, fun n r H => by unfold Gk.d; rw [Rep]; exact ⟨_, rfl, z⟩⟩
    | int i =>
      obtain ⟨tk, z⟩ := He.int_ok X G (hin (.int x i) (by simp [gFa]))
      exact ⟨_, .int i, .inl z, ⟨tk, rfl⟩, fun n r H => by unfold Gk.d; rw [Rep]⟩
    | str i =>
      obtain ⟨tk, z⟩ := He.str_ok X G (hin (.str x i) (by simp [gFa]))
      exact ⟨_, .str i, .inl z, ⟨tk, rfl⟩, fun n r H => by unfold Gk.d; rw [Rep]⟩
    | tupS zs =>
      have z := He.glo_ok X G (hin (.glo x) (by simp [gFa]))
      have kt := tupK_ok (x1 _ hm)
      exact ⟨_, .ref (He.ga K x), .inl z, rfl, fun n r H => by unfold Gk.d; rw [Rep]; exact ⟨_, _, rfl, .inr kt, strs_vals zs⟩⟩
  · refine He.free_ok X G (fact _ ?_)
    unfold fa
    simp only [List.mem_append, List.mem_map]
    exact .inl (.inl (.inl (.inl (.inl (.inl (.inl (.inr ⟨x, hx, rfl⟩)))))))
  · have hg : (C, g) ∈ T.XF := hg
    have z := glo C (by
      unfold fa
      simp only [List.mem_append, List.mem_map]
      exact .inl (.inr ⟨(C, g), hg, rfl⟩))
    rw [z] at hm
    cases hm
    exact x4 _ hg
  · have hb2 := lookup_memP (show T.EI.lookup (C, x) = some b from hb)
    have inn : ∀ f, f ∈ ([.glo C, .glo x, .exm C x b] : List He.Fa) → f.ok K = true := fun f hf => fact f (by
      unfold fa
      simp only [List.mem_append, List.mem_flatMap]
      exact .inr ⟨_, hb2, hf⟩)
    have z1 := He.glo_ok X G (inn (.glo C) (by simp))
    have z2 := He.glo_ok X G (inn (.glo x) (by simp))
    rw [z1] at h1
    rw [z2] at h2
    cases h1
    cases h2
    exact He.exm_ok (inn (.exm C x b) (by simp))
  · exact ⟨_, glo x (by
      unfold fa
      simp only [List.mem_append, List.mem_map]
      exact .inl (.inl (.inl (.inl (.inl (.inl (.inr ⟨x, hx, rfl⟩)))))))⟩
  · have hC : C ∈ T.RX := hC
    have inn : ∀ f, f ∈ ([.glo C, .exc C] : List He.Fa) → f.ok K = true := fun f hf => fact f (by
      unfold fa
      simp only [List.mem_append, List.mem_flatMap]
      exact .inl (.inl (.inl (.inr ⟨_, hC, hf⟩))))
    obtain ⟨e1, e2, e3, e4⟩ := He.exc_ok (inn (.exc C) (by simp))
    exact ⟨_, He.glo_ok X G (inn (.glo C) (by simp)), e2, e3, e4, _, _, _, _, PySem.F.excBase_ValueError, e1⟩
  · have hC : C ∈ T.EC := hC
    have z := glo C (by
      unfold fa
      simp only [List.mem_append, List.mem_map]
      exact .inl (.inl (.inr ⟨C, hC, rfl⟩)))
    rw [z] at hm
    cases hm
    exact excB_ok (x3 _ hC)
  · have hr2 := lookI_mem (show lookI T.I a b = some r from hr)
    have inn : ∀ f, f ∈ clFa a ++ clFa b → f.ok K = true := fun f hf => fact f (by
      unfold fa
      simp only [List.mem_append, List.mem_flatMap]
      exact .inl (.inl (.inl (.inl (.inr ⟨_, hr2, List.mem_append.mp hf⟩)))))
    rw [clsAt_eq X G (fun f hf => inn f (List.mem_append_left _ hf)) hu, clsAt_eq X G (fun f hf => inn f (List.mem_append_right _ hf)) hv]
    exact x2 _ hr2
end
end LawIn
end Fw

set_option Elab.async false
set_option linter.all false
set_option maxRecDepth 100000
set_option maxHeartbeats 4000000
namespace Fw
open PySem PySem.Spec PyProof.Rows L2
namespace LawIn
variable {T : LawIn}
theorem inj_nodup {α β : Type} {g : α → β} : ∀ {l : List α}, (l.map g).Nodup → ∀ x y, x ∈ l → y ∈ l → g x = g y → x = y
  | [], _, x, y, hx, _, _ => by cases hx
  | a :: l, h, x, y, hx, hy, e => by
    rw [List.map_cons, List.nodup_cons] at h
    rcases List.mem_cons.mp hx with hx | hx
    · rcases List.mem_cons.mp hy with hy | hy
      · rw [hx, hy]
      · rw [hx] at e
        exact absurd (List.mem_map.mpr ⟨y, hy, e.symm⟩) h.1
    · rcases List.mem_cons.mp hy with hy | hy
      · rw [hy] at e
        exact absurd (List.mem_map.mpr ⟨x, hx, e⟩) h.1
      · exact inj_nodup h.2 x y hx hy e
section
variable {P : Program} {w : World} {K : PySem.W.Frag} {mg : Str → Option Value} {h : Heap}
theorem def_ok (hs : T.still = true) (hB : ∀ p ∈ T.l, BindOk p) (X : K.In h) (G : h.Ns mainGlobals mg) (c : He.SaysX T.fa T.fn [] T.tf T.ex w h K) {base : Heap} (hT : ∀ p ∈ T.tf.map (He.cT K), LamX.TabB base mg p.1 p.2) {p : Str × (Df × Stmt)} (hp : p ∈ T.l) :
    @DefOk ⟨T.tabs K⟩ K mg base T.nm p.2.1 p.1 := by
  obtain ⟨f, d, st⟩ := p
  have fact : ∀ f, f ∈ T.fa → f.ok K = true := fun f hf => c.t.d.facts hf
  have hex := c.more
  unfold ex at hex
  simp only [Bool.and_eq_true, List.all_eq_true, decide_eq_true_eq] at hex
  obtain ⟨x1, x2, x3, x4, x5, x6⟩ := hex
  unfold still at hs
  simp only [Bool.and_eq_true, List.all_eq_true] at hs
  obtain ⟨s1, s2, s3, s4⟩ := hs
  have m1 := He.glo_ok X G (fact (.glo f) (by
    unfold fa
    simp only [List.mem_append, List.mem_map]
    exact .inl (.inl (.inl (.inl (.inl (.inl (.inl (.inl ⟨_, hp, rfl⟩)))))))))
  obtain ⟨fd, F⟩ := c.t.d.defs (d := ⟨(f, none), f, f, defArgs st, defBody st, defScope st, [], []⟩) (List.mem_map.mpr ⟨_, hp, rfl⟩)
  obtain ⟨oc, od, dV, kV, doc, pm, an, cdv, ct, osl, rfl, lk, hcd, hD, _⟩ := F.ex
  obtain rfl : dV = .none := by
    rcases hD with ⟨_, z⟩ | ⟨z, _⟩
    · exact z
    · exact absurd rfl z
  refine @DefOk.mk ⟨T.tabs K⟩ _ _ _ _ _ _ ⟨He.ga K f, f, f, defArgs st, defBody st, defScope st, .none, kV, doc, pm, cdv, ct, oc, an, od, osl, m1, F.kp, lk, hcd, C8.fnScope_by (s1 _ hp).1, (s1 _ hp).2, fun n ks hn us ws us' h1 h2 h3 => hB _ hp kV doc pm cdv ct an n ks hn us ws us' h1 h2 h3, fun hl => ?_⟩
  obtain ⟨cc, hc⟩ := He.codeIn_ref hcd
  have htf : (f, (none : Option Str)) ∈ T.tf := List.mem_map.mpr ⟨(f, d, st), List.mem_filter.mpr ⟨hp, hl⟩, rfl⟩
  have e1 : He.codeOf K (f, none) = cc := He.codeOf_eq (p := (f, none)) lk hc
  have tb := hT _ (List.mem_map.mpr ⟨_, htf, rfl⟩)
  refine ⟨(He.cT K (f, none)).1, (He.cT K (f, none)).2, tb, ?_, fun L => ⟨?_, fun q hq e => ?_⟩⟩
  · rw [hc]
    show Value.ref cc = Value.ref (He.codeOf K (f, none))
    rw [e1]
  · exact List.mem_map.mpr ⟨_, htf, rfl⟩
  · obtain ⟨p', hp', rfl⟩ := List.mem_map.mp hq
    have z := inj_nodup x5 p' (f, none) hp' htf e
    rw [z]
    rfl
theorem law_ok {n k : Nat} {fa : Addr} (hs : T.still = true) (hB : ∀ p ∈ T.l, BindOk p) (X : K.In h) (G : h.Ns mainGlobals mg) (c : He.SaysX T.fa T.fn [] T.tf T.ex w h K) (hfa : mg ("law" : Str) = some (.ref fa)) (hl : ("law" : Str) ∈ T.nm.T)
    (run : ∀ ns : List Int, ns.length ≤ n → (∀ z ∈ ns, Builtin.Int.intBits z ≤ 1048576) → ∃ S', (mk3 T.sta T.tb k).1.C "law" [.scr ns] [] [] = .ok (.bl true) S') : LawFw P w k n mg fa h := by
  refine ⟨K, T.tf.map (He.cT K), T.tabs K, (mk3 T.sta T.tb k).1.C "law", X, fun p hp => ?_, fun p hp => ?_, fun p hp => ?_, fun p hp => ?_, run, fun base KB GB TB => ?_⟩
  · obtain ⟨q, hq, rfl⟩ := List.mem_map.mp hp
    exact c.empty q hq
  · obtain ⟨q, hq, rfl⟩ := List.mem_map.mp hp
    exact c.out q hq
  · obtain ⟨q, hq, rfl⟩ := List.mem_map.mp hp
    exact PySem.W.codeHd_of_K X (c.hd q hq)
  · obtain ⟨q, hq, rfl⟩ := List.mem_map.mp hp
    exact List.mem_map.mpr ⟨_, List.mem_map.mpr ⟨q, hq, rfl⟩, rfl⟩
  · letI : Tb := ⟨T.tabs K⟩
    have hs0 := hs
    unfold still at hs0
    simp only [Bool.and_eq_true, List.all_eq_true] at hs0
    obtain ⟨s1, s2, s3, s4⟩ := hs0
    have dfs : ∀ f d, T.tb f = some d → DefOk K mg base T.nm d f := fun f d e => by
      obtain ⟨q, e1, e2⟩ := Option.map_eq_some_iff.mp e
      have hm := lookup_mem' e1
      subst e2
      exact def_ok hs hB X G c TB hm
    have A1 : ∀ f, f ∈ T.sta.nm.T → ∃ d, T.tb f = some d ∧ DefOk K mg base T.sta.nm d f := fun f hf => by
      have z := s2 f hf
      obtain ⟨d, hd⟩ := Option.isSome_iff_exists.mp z
      exact ⟨d, hd, dfs f d hd⟩
    have A2 : ∀ f, f ∈ T.sta.nm.LT → ∃ d, T.tb f = some d ∧ DefOk K mg base T.sta.nm d f ∧ d.ps.length = 1 ∧ 0 < d.N.length ∧ (1, []) ∈ d.shapes ∧ d.fx = [0] := fun f hf => by
      have z := s3 f hf
      cases hd : T.tb f with
      | none => rw [hd] at z; cases z
      | some d =>
        rw [hd] at z
        simp only [Bool.and_eq_true, decide_eq_true_eq] at z
        exact ⟨d, rfl, dfs f d hd, z.1, z.2.1, z.2.2.1, z.2.2.2⟩
    obtain ⟨⟨sok, _, _, _, _⟩, _, _⟩ := lev_ok (P := P) (w := w) (K := K) (mg := mg) (base := base) (b := T.sta) (tb := T.tb) (stat_ok hs X G c) rfl rfl rfl A1 A2 k
    obtain ⟨fa', m1, m2, cp⟩ := sok.call "law" (by
      have e : ∀ k, (mk3 T.sta T.tb k).1.nm = T.nm := fun k => by cases k <;> rfl
      rw [e]
      exact hl)
    rw [hfa] at m1
    cases m1
    exact cp
end
end LawIn
end Fw

set_option Elab.async false
set_option linter.all false
set_option maxRecDepth 100000
set_option maxHeartbeats 4000000
namespace Fw
open PySem PySem.Spec PyProof.Rows L2
/-! the reader, run by rules -/
def sel {α : Type} (b : Bool) (x y : α) : α := match b with
  | true => x
  | false => y
def thenS (r : R Fl) (k : En → Sto → R Fl) : R Fl := match r with
  | .ok (.next s1) S1 => k s1 S1
  | q => q
section
variable {t : Sta} {s : En} {S S1 S2 S3 S4 : Sto} {a b c e : Ex} {x y z d : D} {r : R D} {q : R Fl} {es kes : Es} {ds qs : List D} {i j : Nat} {f m : Str} {o p : CmpOp} {bb : Bool}
theorem r_t {α : Type} {x y r : α} (h : x = r) : sel true x y = r := h
theorem r_f {α : Type} {x y r : α} (h : y = r) : sel false x y = r := h
theorem r_var (h : s[i]? = some (some d)) : evE t (.var i) s S = .ok d S := by rw [evE, h]
theorem r_con {k : Const} (h : conD k = some d) : evE t (.con k) s S = .ok d S := by rw [evE, h]
theorem r_glo (h : t.G f = some d) : evE t (.glo f) s S = .ok d S := by rw [evE, h]
theorem r_bin {k : Operator} (h1 : evE t a s S = .ok x S1) (h2 : evE t b s S1 = .ok y S2) (h3 : binD k x y S2 = r) : evE t (.bin k a b) s S = r := by rw [evE, h1]; show (evE t b s S1).bind _ = r; rw [h2]; exact h3
theorem r_neg {k : Int} (h1 : evE t a s S = .ok (.int k) S1) : evE t (.neg a) s S = .ok (.int (-k)) S1 := by rw [evE, h1]; rfl
theorem r_cmp (h1 : evE t a s S = .ok x S1) (h2 : evE t b s S1 = .ok y S2) (h3 : cmpD o x y S2 = r) : evE t (.cmp o a b) s S = r := by rw [evE, h1]; show (evE t b s S1).bind _ = r; rw [h2]; exact h3
theorem r_cmp2 (h1 : evE t a s S = .ok x S1) (h2 : evE t b s S1 = .ok y S2) (h3 : cmpD o x y S2 = .ok (.bl bb) S3) (h4 : sel bb ((evE t c s S3).bind fun z S4 => cmpD p y z S4) (.ok (.bl false) S3) = r) : evE t (.cmp2 o p a b c) s S = r := by
  rw [evE, h1]
  show (evE t b s S1).bind _ = r
  rw [h2]
  show (cmpD o x y S2).bind _ = r
  rw [h3]
  cases bb <;> exact h4
theorem r_and (h1 : evE t a s S = .ok (.bl bb) S1) (h2 : sel bb (evE t b s S1) (.ok (.bl false) S1) = r) : evE t (.and a b) s S = r := by rw [evE, h1]; cases bb <;> exact h2
theorem r_or (h1 : evE t a s S = .ok (.bl bb) S1) (h2 : sel bb (.ok (.bl true) S1) (evE t b s S1) = r) : evE t (.or a b) s S = r := by rw [evE, h1]; cases bb <;> exact h2
theorem r_not (h1 : evE t a s S = .ok (.bl bb) S1) : evE t (.not a) s S = .ok (.bl (!bb)) S1 := by rw [evE, h1]; rfl
theorem r_ite (h1 : evE t c s S = .ok (.bl bb) S1) (h2 : sel bb (evE t a s S1) (evE t b s S1) = r) : evE t (.ite c a b) s S = r := by rw [evE, h1]; cases bb <;> exact h2
theorem r_nil : evL t .nil s S = .ok [] S := by rw [evL]
theorem r_cons (h1 : evE t a s S = .ok d S1) (h2 : evL t es s S1 = .ok ds S2) : evL t (.cons a es) s S = .ok (d :: ds) S2 := by rw [evL, h1]; show (evL t es s S1).bind _ = _; rw [h2]; rfl
theorem r_tup (h1 : evL t es s S = .ok ds S1) (h2 : decide (ds.length ≤ sizeLine) = true) : evE t (.tup es) s S = .ok (.tup ds) S1 := by rw [evE, h1]; exact if_pos (of_decide_eq_true h2)
theorem r_lst (h1 : evL t es s S = .ok ds S1) (h2 : decide (ds.length ≤ sizeLine) = true) : evE t (.lst false es) s S = .ok (.lst ds) S1 := by rw [evE, h1]; exact (if_pos (of_decide_eq_true h2)).trans rfl
theorem r_lstM (h1 : evL t es s S = .ok ds S1) (h2 : decide (ds.length ≤ sizeLine) = true) : evE t (.lst true es) s S = .ok (.ref S1.length) (S1 ++ [.lst ds]) := by rw [evE, h1]; exact (if_pos (of_decide_eq_true h2)).trans rfl
theorem r_idx (h1 : evE t a s S = .ok x S1) (h2 : evE t b s S1 = .ok y S2) (h3 : idxD x y S2 = r) : evE t (.idx a b) s S = r := by rw [evE, h1]; show (evE t b s S1).bind _ = r; rw [h2]; exact h3
theorem r_no : evO t .no s S = .ok none S := by rw [evO]
theorem r_yes {k : Int} (h1 : evE t a s S = .ok (.int k) S1) : evO t (.yes a) s S = .ok (some k) S1 := by rw [evO, h1]; rfl
theorem r_sl {lo hi : Op} {l h : Option Int} (h1 : evE t a s S = .ok x S1) (h2 : evO t lo s S1 = .ok l S2) (h3 : evO t hi s S2 = .ok h S3) (h4 : slD x l h S3 = r) : evE t (.sl a lo hi) s S = r := by
  rw [evE, h1]
  show (evO t lo s S1).bind _ = r
  rw [h2]
  show (evO t hi s S2).bind _ = r
  rw [h3]
  exact h4
theorem r_call {ks : List Str} (hh : t.hot = none) (h1 : evL t es s S = .ok ds S1) (h2 : evL t kes s S1 = .ok qs S2) (h3 : t.C f ds (ks.zip qs) S2 = r) : evE t (.call f es ks kes) s S = r := by
  rw [evE, h1]
  show (evL t kes s S1).bind _ = r
  rw [h2]
  show t.cold _ = r
  unfold Sta.cold
  rw [hh]
  exact h3
theorem r_bi (h1 : evL t es s S = .ok ds S1) (h2 : biD t f ds S1 = r) : evE t (.bi f es) s S = r := by rw [evE, h1]; exact h2
theorem r_mt (h1 : evE t a s S = .ok x S1) (h2 : rcvB m (flat S1 x) = true) (h3 : evL t es s S1 = .ok ds S2) (h4 : mtD m x ds S2 = r) : evE t (.mt a m es) s S = r := by
  rw [evE, h1]
  show (if rcvB m (flat S1 x) = true then (evL t es s S1).bind _ else .bad) = r
  rw [if_pos h2, h3]
  exact h4
theorem r_lam (hh : t.hot = none) (hl : t.lam = true) (h1 : t.L f (fun S1 => evE t.inner a s S1) S = r) : evE t (.lam f a) s S = r := by
  rw [evE]
  unfold Sta.cold
  rw [hh, hl]
  exact h1
/-! rows -/
theorem r_seq {a : Sm} {r : Ss} (h1 : evS a t s S = q) {q' : R Fl} (h2 : thenS q (fun s1 S1 => evSs r t s1 S1) = q') : evSs (.cons a r) t s S = q' := by rw [evSs, h1]; exact h2
theorem r_nx {s1 : En} {k : En → Sto → R Fl} (h : k s1 S1 = q) : thenS (.ok (.next s1) S1) k = q := h
theorem r_rt {k : En → Sto → R Fl} : thenS (.ok (.ret d) S1) k = .ok (.ret d) S1 := rfl
theorem r_ex {x : Xc} {s1 : En} {k : En → Sto → R Fl} : thenS (.ok (.exc x s1) S1) k = .ok (.exc x s1) S1 := rfl
theorem r_end : evSs .nil t s S = .ok (.next s) S := by rw [evSs]
theorem r_set (h : evE t a s S = .ok d S1) : evS (.set i a) t s S = .ok (.next (s.set i (some d))) S1 := by rw [evS, h]; rfl
theorem r_par {is : List Nat} {s1 : En} (hh : t.hot = none) (h : evL t es s S = .ok ds S1) (h2 : setAll is ds s = some s1) : evS (.par is es) t s S = .ok (.next s1) S1 := by
  rw [evS]
  unfold Sta.cold
  rw [hh, h]
  show (match setAll is ds s with
    | some s1 => R.ok (Fl.next s1) S1
    | none => .bad) = _
  rw [h2]
theorem r_asg {tg : Tg} {s1 : En} (hh : t.hot = none) (h : evE t a s S = .ok d S1) (h2 : tgD tg d s = some s1) : evS (.asg tg a) t s S = .ok (.next s1) S1 := by
  rw [evS]
  unfold Sta.cold
  rw [hh, h]
  show (match tgD tg d s with
    | some s1 => R.ok (Fl.next s1) S1
    | none => .bad) = _
  rw [h2]
theorem r_sub (h1 : evE t e s S = .ok x S1) (h2 : evE t a s S1 = .ok y S2) (h3 : evE t b s S2 = .ok z S3) (h4 : setD y z x S3 = some S4) : evS (.sub a b e) t s S = .ok (.next s) S4 := by
  rw [evS, h1]
  show (evE t a s S1).bindS _ _ = _
  rw [h2]
  show (evE t b s S2).bindS _ _ = _
  rw [h3]
  show (match setD y z x S3 with
    | some S4 => R.ok (Fl.next s) S4
    | none => .bad) = _
  rw [h4]
theorem r_if {xs ys : Ss} (h1 : evE t c s S = .ok (.bl bb) S1) (h2 : sel bb (evSs xs t s S1) (evSs ys t s S1) = q) : evS (.cond c xs ys) t s S = q := by rw [evS, h1]; cases bb <;> exact h2
theorem r_ret (h : evE t a s S = .ok d S1) : evS (.ret a) t s S = .ok (.ret d) S1 := by rw [evS, h]; rfl
theorem r_expr (h : evE t a s S = .ok d S1) : evS (.expr a) t s S = .ok (.next s) S1 := by rw [evS, h]; rfl
theorem r_exprX {x : Xc} (h : evE t a s S = .exc x S1) : evS (.expr a) t s S = .ok (.exc x s) S1 := by rw [evS, h]; rfl
theorem r_callX {ks : List Str} {x : Xc} (hh : t.hot = none) (h1 : evL t es s S = .ok ds S1) (h2 : evL t kes s S1 = .ok qs S2) (h3 : t.C f ds (ks.zip qs) S2 = .exc x S3) : evE t (.call f es ks kes) s S = .exc x S3 := r_call hh h1 h2 h3
theorem r_raise {C w : Str} (hh : t.hot = none) (h : C ∈ t.RX) : evS (.raise C w) t s S = .ok (.exc ⟨C, [], []⟩ s) S := by
  rw [evS]
  unfold Sta.cold
  rw [hh, if_pos h]
  rfl
/-! a def -/
def Cl0 (S : Sto) : Prop := S.all (O.closed S.length) = true
theorem r_df {df : Df} {kws : List (Str × D)} {ds' : List D} {S' : Sto} (hs : decide ((ds.length, kws.map (·.1)) ∈ df.shapes) = true) (hb : bindG df.ps ds kws = some ds') (h : evSs df.body t (startD df.N ds') S = q) (hf : gcF S.length (fin q) = r) : runDf t df ds kws S = r := by
  unfold runDf
  rw [if_pos (of_decide_eq_true hs), hb]
  show gcF S.length (fin (evSs df.body t (startD df.N ds') S)) = r
  rw [h]
  exact hf
theorem gc_same (hS : Cl0 S) (hd : d.closed S.length = true) (ht : top S.length S d = d) : gcF S.length (.ok d S) = .ok d S := by
  have h : (if ((top S.length S d).closed S.length && (S.take S.length).all (O.closed S.length)) = true then R.ok (top S.length S d) (S.take S.length) else R.ok d S) = .ok d S := by
    rw [List.take_length, ht]
    split <;> rfl
  exact h
theorem gc_more (hS : Cl0 S) {E : Sto} (hd : (top S.length (S ++ E) d).closed S.length = true) : gcF S.length (.ok d (S ++ E)) = .ok (top S.length (S ++ E) d) S := by
  have h : (if ((top S.length (S ++ E) d).closed S.length && ((S ++ E).take S.length).all (O.closed S.length)) = true then R.ok (top S.length (S ++ E) d) ((S ++ E).take S.length) else R.ok d (S ++ E)) = .ok (top S.length (S ++ E) d) S := by
    rw [List.take_left, hd, hS]
    rfl
  exact h
theorem gc_exc (hS : Cl0 S) {x : Xc} (hd : closedL S.length x.ds = true) : gcF S.length (.exc x S) = .exc x S := by
  have h : (if (closedL S.length x.ds && (S.take S.length).all (O.closed S.length)) = true then R.exc x (S.take S.length) else R.exc x S : R D) = .exc x S := by
    rw [List.take_length]
    split <;> rfl
  exact h
/-! a comprehension over data that stays, no test, its turns pure -/
theorem lc_go {n : Nat} {all : List D} {st : D → Sto → R (Option D)} {g : D → D} : ∀ (ds acc : List D), n = S.length → acc.length + ds.length ≤ sizeLine → (∀ d ∈ ds, ∀ acc, st d (S ++ [O.lst acc]) = .ok (some (g d)) (S ++ [O.lst acc])) →
    lcGo n all none st ds (S ++ [O.lst acc]) = .ok () (S ++ [O.lst (acc ++ ds.map g)])
  | [], acc, hn, hz, h => by
    rw [lcGo, List.map_nil, List.append_nil]
    exact if_pos rfl
  | d :: ds, acc, hn, hz, h => by
    have e1 : (S ++ [O.lst acc])[n]? = some (O.lst acc) := by rw [hn]; simp
    have hl : acc.length < sizeLine := by simp only [List.length_cons] at hz; omega
    have e2 : (S ++ [O.lst acc]).set n (O.lst (acc ++ [g d])) = S ++ [O.lst (acc ++ [g d])] := by rw [hn]; simp
    have step : lcGo n all none st (d :: ds) (S ++ [O.lst acc]) = lcGo n all none st ds ((S ++ [O.lst acc]).set n (O.lst (acc ++ [g d]))) := by
      rw [lcGo]
      refine (if_pos rfl).trans ?_
      rw [h d List.mem_cons_self acc]
      show (match (S ++ [O.lst acc])[n]? with
        | some (O.lst acc') => if acc'.length < sizeLine then lcGo n all none st ds ((S ++ [O.lst acc]).set n (O.lst (acc' ++ [g d]))) else .bad
        | _ => .bad) = _
      rw [e1]
      exact if_pos hl
    rw [step, e2, lc_go ds (acc ++ [g d]) hn (by simp only [List.length_cons, List.length_append, List.length_nil] at hz ⊢; omega) (fun d' hd' => h d' (List.mem_cons_of_mem _ hd')), List.map_cons, List.append_assoc]
    rfl
theorem thaw_lst {acc : List D} (hS : Cl0 S) (h : closedL S.length acc = true) : thaw S.length (S ++ [O.lst acc]) = .ok (.lst acc) S := by
  unfold thaw
  have e1 : (S ++ [O.lst acc])[S.length]? = some (O.lst acc) := by simp
  rw [if_pos (by simp), e1]
  dsimp only
  rw [List.take_left, h, hS]
  rfl
theorem r_lc {own : List (Str × Nat)} {tg : Tg} {it : It1} {g : D → D} (hh : t.hot = none) (hS : Cl0 S) (hi : evI t it s S = .ok (ds, none) S) (hz : ds.length ≤ sizeLine) (hc : closedL S.length (ds.map g) = true)
    (hb : ∀ d ∈ ds, ∀ acc, ∃ s2, tgD tg d (wipeD s (own.map (·.2))) = some s2 ∧ evE t.blk e s2 (S ++ [O.lst acc]) = .ok (g d) (S ++ [O.lst acc])) : evE t (.lc false own tg it .no e) s S = .ok (.lst (ds.map g)) S := by
  rw [evE]
  unfold Sta.cold
  rw [hh]
  show (evI t it s S).bind _ = _
  rw [hi]
  show (lcGo S.length ds none (stF tg (own.map (·.2)) (evC t.blk .no) (evE t.blk e) s) ds (S ++ [O.lst []])).bind _ = _
  rw [lc_go (g := g) ds [] rfl (by simpa using hz) (fun d hd acc => ?_)]
  · show thaw S.length (S ++ [O.lst ([] ++ ds.map g)]) = _
    rw [List.nil_append]
    exact thaw_lst hS hc
  · obtain ⟨s2, e1, e2⟩ := hb d hd acc
    unfold stF
    rw [e1]
    show noX ((evC t.blk .no s2 (S ++ [O.lst acc])).bind _) = _
    rw [evC]
    show noX ((evE t.blk e s2 (S ++ [O.lst acc])).bind fun y S4 => .ok (some y) S4) = _
    rw [e2]
    rfl
end
end Fw

set_option Elab.async false
set_option linter.all false
set_option maxRecDepth 100000
set_option maxHeartbeats 4000000
namespace K01
open PySem Fw
def dis_value : Df := ⟨["thing"], ["thing", "item"],
  (.cons (.cond (.bi "isinstance" (.cons (.var 0) (.cons (.glo "tuple") .nil)))
   (.cons (.ret (.bi "all" (.cons (.lc false [("item", 1)] (.nm 1) (.ex (.var 0)) .no (.call "is_value" (.cons (.var 1) .nil) [] .nil)) .nil)))
   .nil)
   .nil)
  (.cons (.ret (.or (.cmp .Is (.var 0) (.con .none)) (.bi "isinstance" (.cons (.var 0) (.cons (.tup (.cons (.glo "int") (.cons (.glo "str") .nil))) .nil)))))
  .nil)),
  [(0, ["thing"]), (1, [])], false, []⟩
def drank : Df := ⟨["value"], ["value", "item"],
  (.cons (.cond (.cmp .Is (.var 0) (.con .none))
   (.cons (.ret (.tup (.cons (.con (.int 0)) (.cons (.con (.int 0)) .nil))))
   .nil)
   .nil)
  (.cons (.cond (.bi "isinstance" (.cons (.var 0) (.cons (.glo "bool") .nil)))
   (.cons (.ret (.tup (.cons (.con (.int 1)) (.cons (.bi "int" (.cons (.var 0) .nil)) .nil))))
   .nil)
   .nil)
  (.cons (.cond (.bi "isinstance" (.cons (.var 0) (.cons (.glo "int") .nil)))
   (.cons (.ret (.tup (.cons (.con (.int 2)) (.cons (.var 0) .nil))))
   .nil)
   .nil)
  (.cons (.cond (.bi "isinstance" (.cons (.var 0) (.cons (.glo "str") .nil)))
   (.cons (.ret (.tup (.cons (.con (.int 3)) (.cons (.var 0) .nil))))
   .nil)
   .nil)
  (.cons (.ret (.tup (.cons (.con (.int 4)) (.cons (.bi "tuple" (.cons (.lc false [("item", 1)] (.nm 1) (.ex (.var 0)) .no (.call "rank" (.cons (.var 1) .nil) [] .nil)) .nil)) .nil))))
  .nil))))),
  [(1, [])], false, []⟩
def dis_same : Df := ⟨["one", "other"], ["one", "other"],
  (.cons (.ret (.cmp .Eq (.call "rank" (.cons (.var 0) .nil) [] .nil) (.call "rank" (.cons (.var 1) .nil) [] .nil)))
  .nil),
  [(2, [])], false, []⟩
def dneed_value : Df := ⟨["thing"], ["thing"],
  (.cons (.cond (.not (.call "is_value" (.cons (.var 0) .nil) [] .nil))
   (.cons (.raise "BadValue" "not a value")
   .nil)
   .nil)
  .nil),
  [(1, [])], false, []⟩
def dkind_of : Df := ⟨["value"], ["value"],
  (.cons (.expr (.call "need_value" (.cons (.var 0) .nil) [] .nil))
  (.cons (.ret (.idx (.glo "KINDS") (.idx (.call "rank" (.cons (.var 0) .nil) [] .nil) (.con (.int 0)))))
  .nil)),
  [(0, ["value"]), (1, [])], false, []⟩
def dsame : Df := ⟨["one", "other"], ["one", "other"],
  (.cons (.expr (.call "need_value" (.cons (.var 0) .nil) [] .nil))
  (.cons (.expr (.call "need_value" (.cons (.var 1) .nil) [] .nil))
  (.cons (.ret (.call "is_same" (.cons (.var 0) (.cons (.var 1) .nil)) [] .nil))
  .nil))),
  [(0, ["one", "other"]), (2, [])], false, []⟩
def dcompare : Df := ⟨["one", "other"], ["one", "other", "first", "second"],
  (.cons (.expr (.call "need_value" (.cons (.var 0) .nil) [] .nil))
  (.cons (.expr (.call "need_value" (.cons (.var 1) .nil) [] .nil))
  (.cons (.par [2, 3] (.cons (.call "rank" (.cons (.var 0) .nil) [] .nil) (.cons (.call "rank" (.cons (.var 1) .nil) [] .nil) .nil)))
  (.cons (.cond (.cmp .Eq (.var 2) (.var 3))
   (.cons (.ret (.con (.int 0)))
   .nil)
   .nil)
  (.cons (.ret (.ite (.cmp .Lt (.var 2) (.var 3)) (.neg (.con (.int 1))) (.con (.int 1))))
  .nil))))),
  [(0, ["one", "other"]), (2, [])], false, []⟩
def d_law_begun : Df := ⟨["script"], ["script", "wide", "cell"],
  (.cons (.set 1 (.lc true [("cell", 2)] (.nm 2) (.ex (.var 0)) (.yes (.cmp .GtE (.var 2) (.bin .Pow (.con (.int 10)) (.con (.int 18))))) (.bin .Sub (.var 2) (.bin .Pow (.con (.int 10)) (.con (.int 18))))))
  (.cons (.ret (.dct true ["great", "cells", "rest", "turn"] (.cons (.var 1) (.cons (.bi "list" (.cons (.var 0) .nil)) (.cons (.con (.int 0)) (.cons (.con (.int 0)) .nil))))))
  .nil)),
  [(1, [])], false, []⟩
def d_law_mixed : Df := ⟨["state"], ["state", "turn", "found", "prime", "blend", "cell"],
  (.cons (.set 1 (.bin .Add (.idx (.var 0) (.con (.str "turn"))) (.con (.int 1))))
  (.cons (.sub (.var 0) (.con (.str "turn")) (.var 1))
  (.cons (.set 2 (.con (.int 0)))
  (.cons (.loop (.nm 3) (.ex (.lst false (.cons (.con (.int 2147483629)) (.cons (.con (.int 2147483587)) (.cons (.con (.int 2147483579)) (.cons (.con (.int 2147483563)) (.cons (.con (.int 2147483549)) (.cons (.con (.int 2147483543)) .nil))))))))
   (.cons (.set 4 (.bin .Add (.bin .Mult (.con (.int 130363)) (.var 1)) (.bin .FloorDiv (.var 3) (.con (.int 13)))))
   (.cons (.loop (.nm 5) (.ex (.idx (.var 0) (.con (.str "cells"))))
    (.cons (.set 4 (.bin .Mod (.bi "int" (.cons (.bin .Add (.bin .Mult (.var 4) (.con (.int 48271))) (.var 5)) .nil)) (.var 3)))
    .nil))
   (.cons (.set 2 (.bin .Add (.bin .Mult (.var 2) (.con (.int 2147483647))) (.bin .Mod (.bi "int" (.cons (.bin .Pow (.var 4) (.con (.int 5))) .nil)) (.var 3))))
   .nil))))
  (.cons (.ret (.var 2))
  .nil))))),
  [(1, [])], false, []⟩
def d_law_take : Df := ⟨["state", "span"], ["state", "span", "found"],
  (.cons (.cond (.and (.cmp .Eq (.idx (.var 0) (.con (.str "rest"))) (.con (.int 0))) (.cmp .NotEq (.idx (.var 0) (.con (.str "great"))) (.lst false .nil)))
   (.cons (.sub (.var 0) (.con (.str "rest")) (.mt (.idx (.var 0) (.con (.str "great"))) "pop" (.cons (.con (.int 0)) .nil)))
   .nil)
   (.cons (.cond (.cmp .Eq (.idx (.var 0) (.con (.str "rest"))) (.con (.int 0)))
    (.cons (.sub (.var 0) (.con (.str "rest")) (.call "_law_mixed" (.cons (.var 0) .nil) [] .nil))
    .nil)
    .nil)
   .nil))
  (.cons (.set 2 (.bin .Mod (.bi "int" (.cons (.idx (.var 0) (.con (.str "rest"))) .nil)) (.var 1)))
  (.cons (.sub (.var 0) (.con (.str "rest")) (.bin .FloorDiv (.idx (.var 0) (.con (.str "rest"))) (.var 1)))
  (.cons (.ret (.var 2))
  .nil)))),
  [(2, [])], false, []⟩
def d_law_pick : Df := ⟨["state", "some"], ["state", "some"],
  (.cons (.ret (.idx (.var 1) (.call "_law_take" (.cons (.var 0) (.cons (.bi "len" (.cons (.var 1) .nil)) .nil)) [] .nil)))
  .nil),
  [(2, [])], false, []⟩
def d_law_value : Df := ⟨["state", "deep"], ["state", "deep", "way", "k"],
  (.cons (.set 2 (.call "_law_take" (.cons (.var 0) (.cons (.con (.int 8)) .nil)) [] .nil))
  (.cons (.cond (.cmp .Lt (.var 2) (.con (.int 2)))
   (.cons (.ret (.call "_law_pick" (.cons (.var 0) (.cons (.lst false (.cons (.con (.int 0)) (.cons (.con (.int 1)) (.cons (.con (.int 2)) (.cons (.con (.int 5)) (.cons (.neg (.con (.int 1))) (.cons (.con (.int 9)) (.cons (.con (.int 10)) (.cons (.bin .Pow (.con (.int 10)) (.con (.int 39))) .nil))))))))) .nil)) [] .nil))
   .nil)
   .nil)
  (.cons (.cond (.cmp .Lt (.var 2) (.con (.int 4)))
   (.cons (.ret (.call "_law_pick" (.cons (.var 0) (.cons (.lst false (.cons (.con (.str "")) (.cons (.con (.str "a")) (.cons (.con (.str "ab")) (.cons (.con (.str "b")) (.cons (.con (.str "abc")) (.cons (.con (.str "1")) (.cons (.con (.str "\"")) (.cons (.con (.str "\\")) (.cons (.con (.str "a b")) (.cons (.con (.str "none")) .nil))))))))))) .nil)) [] .nil))
   .nil)
   .nil)
  (.cons (.cond (.or (.cmp .Lt (.var 2) (.con (.int 6))) (.cmp .Eq (.var 1) (.con (.int 0))))
   (.cons (.ret (.call "_law_pick" (.cons (.var 0) (.cons (.lst false (.cons (.con .none) (.cons (.con (.bool true)) (.cons (.con (.bool false)) (.cons (.con (.int 1)) (.cons (.con (.int 0)) (.cons (.con (.str "")) .nil))))))) .nil)) [] .nil))
   .nil)
   .nil)
  (.cons (.ret (.bi "tuple" (.cons (.lc false [("k", 3)] (.nm 3) (.rng (.call "_law_take" (.cons (.var 0) (.cons (.con (.int 3)) .nil)) [] .nil)) .no (.call "_law_value" (.cons (.var 0) (.cons (.bin .Sub (.var 1) (.con (.int 1))) .nil)) [] .nil)) .nil)))
  .nil))))),
  [(2, [])], false, []⟩
def d_law_kind : Df := ⟨["matter"], ["matter"],
  (.cons (.cond (.cmp .Is (.var 0) (.con .none))
   (.cons (.ret (.con (.str "none")))
   .nil)
   .nil)
  (.cons (.cond (.bi "isinstance" (.cons (.var 0) (.cons (.glo "bool") .nil)))
   (.cons (.ret (.con (.str "bool")))
   .nil)
   .nil)
  (.cons (.cond (.bi "isinstance" (.cons (.var 0) (.cons (.glo "int") .nil)))
   (.cons (.ret (.con (.str "int")))
   .nil)
   .nil)
  (.cons (.ret (.ite (.bi "isinstance" (.cons (.var 0) (.cons (.glo "str") .nil))) (.con (.str "text")) (.con (.str "tuple"))))
  .nil)))),
  [(1, [])], false, []⟩
def d_law_rank : Df := ⟨["matter"], ["matter", "kind", "item"],
  (.cons (.set 1 (.mt (.lst false (.cons (.con (.str "none")) (.cons (.con (.str "bool")) (.cons (.con (.str "int")) (.cons (.con (.str "text")) (.cons (.con (.str "tuple")) .nil)))))) "index" (.cons (.call "_law_kind" (.cons (.var 0) .nil) [] .nil) .nil)))
  (.cons (.cond (.cmp .Eq (.var 1) (.con (.int 4)))
   (.cons (.ret (.lst false (.cons (.con (.int 4)) (.cons (.lc false [("item", 2)] (.nm 2) (.ex (.var 0)) .no (.call "_law_rank" (.cons (.var 2) .nil) [] .nil)) .nil))))
   .nil)
   .nil)
  (.cons (.ret (.lst false (.cons (.var 1) (.cons (.ite (.cmp .Is (.var 0) (.con .none)) (.con (.int 0)) (.var 0)) .nil))))
  .nil))),
  [(1, [])], false, []⟩
def d_law_near : Df := ⟨["state", "matter"], ["state", "matter", "way", "at"],
  (.cons (.cond (.and (.bi "isinstance" (.cons (.var 1) (.cons (.glo "tuple") .nil))) (.and (.cmp .NotEq (.var 1) (.tup .nil)) (.cmp .Gt (.call "_law_take" (.cons (.var 0) (.cons (.con (.int 3)) .nil)) [] .nil) (.con (.int 0)))))
   (.cons (.set 3 (.call "_law_take" (.cons (.var 0) (.cons (.bi "len" (.cons (.var 1) .nil)) .nil)) [] .nil))
   (.cons (.ret (.bin .Add (.bin .Add (.sl (.var 1) .no (.yes (.var 3))) (.tup (.cons (.call "_law_near" (.cons (.var 0) (.cons (.idx (.var 1) (.var 3)) .nil)) [] .nil) .nil))) (.sl (.var 1) (.yes (.bin .Add (.var 3) (.con (.int 1)))) .no)))
   .nil))
   .nil)
  (.cons (.set 2 (.call "_law_take" (.cons (.var 0) (.cons (.con (.int 4)) .nil)) [] .nil))
  (.cons (.cond (.and (.cmp .Eq (.var 2) (.con (.int 0))) (.bi "isinstance" (.cons (.var 1) (.cons (.glo "tuple") .nil))))
   (.cons (.ret (.ite (.cmp .Eq (.call "_law_take" (.cons (.var 0) (.cons (.con (.int 2)) .nil)) [] .nil) (.con (.int 0))) (.sl (.var 1) .no (.yes (.neg (.con (.int 1))))) (.bin .Add (.var 1) (.tup (.cons (.con .none) .nil)))))
   .nil)
   .nil)
  (.cons (.cond (.and (.cmp .Eq (.var 2) (.con (.int 1))) (.cmp .In (.call "_law_kind" (.cons (.var 1) .nil) [] .nil) (.tup (.cons (.con (.str "int")) (.cons (.con (.str "bool")) .nil)))))
   (.cons (.ret (.idx (.lst false (.cons (.bi "int" (.cons (.var 1) .nil)) (.cons (.bi "bool" (.cons (.var 1) .nil)) (.cons (.bin .Add (.bi "int" (.cons (.var 1) .nil)) (.con (.int 1))) .nil)))) (.call "_law_take" (.cons (.var 0) (.cons (.con (.int 3)) .nil)) [] .nil)))
   .nil)
   .nil)
  (.cons (.ret (.ite (.cmp .Eq (.var 2) (.con (.int 2))) (.call "_law_value" (.cons (.var 0) (.cons (.con (.int 1)) .nil)) [] .nil) (.var 1)))
  .nil))))),
  [(2, [])], false, []⟩
def d_law_refused : Df := ⟨["work"], ["work", "e"],
  (.cons (.tryA (.cons (.ret (.lst false (.cons (.act 0) .nil)))
   .nil) "BadValue" 1 (.cons (.ret (.ite (.and (.not (.isE 1 (.tup (.cons (.glo "BadCall") (.cons (.glo "BadPattern") .nil))))) (.isE 1 (.glo "ValueError"))) (.con (.str "value")) (.con (.str "other"))))
   .nil))
  .nil),
  [(1, [])], false, [0]⟩
def d_law_pair_right : Df := ⟨["unit", "second_one"], ["unit", "second_one", "due", "left", "right"],
  (.cons (.par [3, 4] (.cons (.call "_law_rank" (.cons (.var 0) .nil) [] .nil) (.cons (.call "_law_rank" (.cons (.var 1) .nil) [] .nil) .nil)))
  (.cons (.set 2 (.ite (.cmp .Eq (.var 3) (.var 4)) (.con (.int 0)) (.bin .Sub (.con (.int 1)) (.bin .Mult (.con (.int 2)) (.bi "int" (.cons (.cmp .Lt (.var 3) (.var 4)) .nil))))))
  (.cons (.cond (.cmp .NotEq (.bi "repr" (.cons (.lst false (.cons (.call "compare" (.cons (.var 0) (.cons (.var 1) .nil)) [] .nil) (.cons (.call "compare" .nil ["one", "other"] (.cons (.var 1) (.cons (.var 0) .nil))) .nil))) .nil)) (.bi "repr" (.cons (.lst false (.cons (.var 2) (.cons (.neg (.var 2)) .nil))) .nil)))
   (.cons (.ret (.con (.bool false)))
   .nil)
   .nil)
  (.cons (.ret (.cmp .Eq (.bi "repr" (.cons (.lst false (.cons (.call "same" (.cons (.var 0) (.cons (.var 1) .nil)) [] .nil) (.cons (.call "same" .nil ["one", "other"] (.cons (.var 0) (.cons (.var 1) .nil))) .nil))) .nil)) (.bi "repr" (.cons (.lst false (.cons (.cmp .Eq (.var 2) (.con (.int 0))) (.cons (.cmp .Eq (.var 2) (.con (.int 0))) .nil))) .nil))))
  .nil)))),
  [(2, [])], false, []⟩
def d_law_odd_right : Df := ⟨["odd", "matter"], ["odd", "matter", "heard"],
  (.cons (.set 2 (.lst true (.cons (.lam "_law_refused" (.call "kind_of" (.cons (.var 0) .nil) [] .nil)) .nil)))
  (.cons (.expr (.mt (.var 2) "append" (.cons (.lam "_law_refused" (.call "same" (.cons (.var 0) (.cons (.var 1) .nil)) [] .nil)) .nil)))
  (.cons (.expr (.mt (.var 2) "append" (.cons (.lam "_law_refused" (.call "same" (.cons (.var 1) (.cons (.var 0) .nil)) [] .nil)) .nil)))
  (.cons (.expr (.mt (.var 2) "append" (.cons (.lam "_law_refused" (.call "compare" (.cons (.var 0) (.cons (.var 1) .nil)) [] .nil)) .nil)))
  (.cons (.expr (.mt (.var 2) "append" (.cons (.lam "_law_refused" (.call "compare" (.cons (.var 1) (.cons (.var 0) .nil)) [] .nil)) .nil)))
  (.cons (.ret (.and (.cmp .Eq (.var 2) (.bin .Mult (.lst false (.cons (.con (.str "value")) .nil)) (.con (.int 5)))) (.cmp .Is (.call "is_value" (.cons (.var 0) .nil) [] .nil) (.con (.bool false)))))
  .nil)))))),
  [(2, [])], true, []⟩
def dlaw : Df := ⟨["script"], ["script", "state", "turn", "first", "lap", "matter", "pair", "odd", "second", "third"],
  (.cons (.set 1 (.call "_law_begun" (.cons (.var 0) .nil) [] .nil))
  (.cons (.loop (.nm 2) (.rng (.con (.int 6)))
   (.cons (.set 3 (.call "_law_value" (.cons (.var 1) (.cons (.con (.int 3)) .nil)) [] .nil))
   (.cons (.loop (.nm 4) (.rng (.call "_law_pick" (.cons (.var 1) (.cons (.lst false (.cons (.con (.int 0)) (.cons (.con (.int 0)) (.cons (.con (.int 0)) (.cons (.con (.int 6)) .nil))))) .nil)) [] .nil))
    (.cons (.set 3 (.tup (.cons (.var 3) .nil)))
    .nil))
   (.cons (.par [8, 9] (.cons (.call "_law_near" (.cons (.var 1) (.cons (.var 3) .nil)) [] .nil) (.cons (.call "_law_value" (.cons (.var 1) (.cons (.con (.int 2)) .nil)) [] .nil) .nil)))
   (.cons (.loop (.nm 5) (.ex (.lst false (.cons (.var 3) (.cons (.var 8) (.cons (.var 9) .nil)))))
    (.cons (.cond (.or (.cmp .NotEq (.call "kind_of" (.cons (.var 5) .nil) [] .nil) (.call "_law_kind" (.cons (.var 5) .nil) [] .nil)) (.cmp .NotEq (.call "kind_of" .nil ["value"] (.cons (.var 5) .nil)) (.call "_law_kind" (.cons (.var 5) .nil) [] .nil)))
     (.cons (.ret (.con (.bool false)))
     .nil)
     .nil)
    (.cons (.cond (.or (.cmp .IsNot (.call "is_value" (.cons (.var 5) .nil) [] .nil) (.con (.bool true))) (.cmp .IsNot (.call "is_value" .nil ["thing"] (.cons (.var 5) .nil)) (.con (.bool true))))
     (.cons (.ret (.con (.bool false)))
     .nil)
     .nil)
    .nil)))
   (.cons (.loop (.nm 6) (.ex (.lst false (.cons (.tup (.cons (.var 3) (.cons (.var 8) .nil))) (.cons (.tup (.cons (.var 8) (.cons (.var 9) .nil))) (.cons (.tup (.cons (.var 3) (.cons (.var 9) .nil))) (.cons (.tup (.cons (.var 3) (.cons (.var 3) .nil))) .nil))))))
    (.cons (.cond (.not (.call "_law_pair_right" (.cons (.idx (.var 6) (.con (.int 0))) (.cons (.idx (.var 6) (.con (.int 1))) .nil)) [] .nil))
     (.cons (.ret (.con (.bool false)))
     .nil)
     .nil)
    .nil))
   (.cons (.cond (.and (.cmp .LtE (.call "compare" (.cons (.var 3) (.cons (.var 8) .nil)) [] .nil) (.con (.int 0))) (.and (.cmp .LtE (.call "compare" (.cons (.var 8) (.cons (.var 9) .nil)) [] .nil) (.con (.int 0))) (.cmp .Gt (.call "compare" (.cons (.var 3) (.cons (.var 9) .nil)) [] .nil) (.con (.int 0)))))
    (.cons (.ret (.con (.bool false)))
    .nil)
    .nil)
   (.cons (.set 7 (.call "_law_pick" (.cons (.var 1) (.cons (.lst false (.cons (.lst false .nil) (.cons (.lst false (.cons (.var 3) .nil)) (.cons (.dct false [] .nil) (.cons (.dct false ["a"] (.cons (.var 3) .nil)) (.cons (.tup (.cons (.var 3) (.cons (.lst false .nil) .nil))) (.cons (.tup (.cons (.tup .nil) (.cons (.tup (.cons (.dct false [] .nil) .nil)) .nil))) (.cons (.lst false (.cons (.tup .nil) .nil)) .nil)))))))) .nil)) [] .nil))
   (.cons (.cond (.not (.call "_law_odd_right" (.cons (.var 7) (.cons (.var 3) .nil)) [] .nil))
    (.cons (.ret (.con (.bool false)))
    .nil)
    .nil)
   .nil)))))))))
  (.cons (.ret (.con (.bool true)))
  .nil))),
  [(1, [])], false, []⟩
def table : List (PySem.Str × Df) := [("is_value", dis_value), ("rank", drank), ("is_same", dis_same), ("need_value", dneed_value), ("kind_of", dkind_of), ("same", dsame), ("compare", dcompare), ("_law_begun", d_law_begun), ("_law_mixed", d_law_mixed), ("_law_take", d_law_take), ("_law_pick", d_law_pick), ("_law_value", d_law_value), ("_law_kind", d_law_kind), ("_law_rank", d_law_rank), ("_law_near", d_law_near), ("_law_refused", d_law_refused), ("_law_pair_right", d_law_pair_right), ("_law_odd_right", d_law_odd_right), ("law", dlaw)]
end K01
namespace K01
open PySem Fw
def bodyOf : Stmt → List Stmt
  | .FunctionDef (body := b) .. => b
  | _ => []
def scopeOf : Stmt → Scope
  | .FunctionDef (scope := s) .. => s
  | _ => ⟨.function, [], false, false, []⟩
def row (i : Nat) : Stmt := PySem.Challenge.pw_calltakers_k01_values_ordered.main.body.getD i (.Pass ⟨0, 0, 0, 0⟩)
def nm : Nms := ⟨table.map (·.1), ["len", "isinstance", "int", "bool", "list", "tuple", "repr", "all", "range"], ["_law_refused"], ["BadValue"]⟩
def ckD (i : Nat) (d : Df) : Bool := ckSs nm d.N (scopeOf (row i)) d.body d.fx (bodyOf (row i))
end K01
theorem ckis_value : K01.ckD 7 K01.dis_value = true := by decide +kernel
theorem ckrank : K01.ckD 8 K01.drank = true := by decide +kernel
theorem ckis_same : K01.ckD 9 K01.dis_same = true := by decide +kernel
theorem ckneed_value : K01.ckD 10 K01.dneed_value = true := by decide +kernel
theorem ckkind_of : K01.ckD 11 K01.dkind_of = true := by decide +kernel
theorem cksame : K01.ckD 12 K01.dsame = true := by decide +kernel
theorem ckcompare : K01.ckD 13 K01.dcompare = true := by decide +kernel
theorem ck_law_begun : K01.ckD 15 K01.d_law_begun = true := by decide +kernel
theorem ck_law_mixed : K01.ckD 16 K01.d_law_mixed = true := by decide +kernel
theorem ck_law_take : K01.ckD 17 K01.d_law_take = true := by decide +kernel
theorem ck_law_pick : K01.ckD 18 K01.d_law_pick = true := by decide +kernel
theorem ck_law_value : K01.ckD 19 K01.d_law_value = true := by decide +kernel
theorem ck_law_kind : K01.ckD 20 K01.d_law_kind = true := by decide +kernel
theorem ck_law_rank : K01.ckD 21 K01.d_law_rank = true := by decide +kernel
theorem ck_law_near : K01.ckD 22 K01.d_law_near = true := by decide +kernel
theorem ck_law_refused : K01.ckD 23 K01.d_law_refused = true := by decide +kernel
theorem ck_law_pair_right : K01.ckD 24 K01.d_law_pair_right = true := by decide +kernel
theorem ck_law_odd_right : K01.ckD 25 K01.d_law_odd_right = true := by decide +kernel
theorem cklaw : K01.ckD 26 K01.dlaw = true := by decide +kernel

set_option Elab.async false
set_option linter.all false
set_option maxRecDepth 100000
set_option maxHeartbeats 0
namespace K01
open PySem Fw
def T : LawIn where
  l := [("is_value", (dis_value, row 7)), ("rank", (drank, row 8)), ("is_same", (dis_same, row 9)), ("need_value", (dneed_value, row 10)), ("kind_of", (dkind_of, row 11)), ("same", (dsame, row 12)), ("compare", (dcompare, row 13)), ("_law_begun", (d_law_begun, row 15)), ("_law_mixed", (d_law_mixed, row 16)), ("_law_take", (d_law_take, row 17)), ("_law_pick", (d_law_pick, row 18)), ("_law_value", (d_law_value, row 19)), ("_law_kind", (d_law_kind, row 20)), ("_law_rank", (d_law_rank, row 21)), ("_law_near", (d_law_near, row 22)), ("_law_refused", (d_law_refused, row 23)), ("_law_pair_right", (d_law_pair_right, row 24)), ("_law_odd_right", (d_law_odd_right, row 25)), ("law", (dlaw, row 26))]
  nm := nm
  G := [("tuple", .bty "tuple"), ("int", .bty "int"), ("str", .bty "str"), ("bool", .bty "bool"), ("ValueError", .bty "ValueError"), ("BadCall", .own), ("BadPattern", .own), ("KINDS", .tupS ["none", "bool", "int", "text", "tuple"])]
  I := [((.inl "NoneType", .inl "tuple"), false), ((.inl "NoneType", .inl "int"), false), ((.inl "NoneType", .inl "str"), false), ((.inl "NoneType", .inl "bool"), false), ((.inl "bool", .inl "tuple"), false), ((.inl "bool", .inl "int"), true), ((.inl "bool", .inl "str"), false), ((.inl "bool", .inl "bool"), true), ((.inl "int", .inl "tuple"), false), ((.inl "int", .inl "int"), true), ((.inl "int", .inl "str"), false), ((.inl "int", .inl "bool"), false), ((.inl "str", .inl "tuple"), false), ((.inl "str", .inl "int"), false), ((.inl "str", .inl "str"), true), ((.inl "str", .inl "bool"), false), ((.inl "tuple", .inl "tuple"), true), ((.inl "tuple", .inl "int"), false), ((.inl "tuple", .inl "str"), false), ((.inl "tuple", .inl "bool"), false), ((.inl "list", .inl "tuple"), false), ((.inl "list", .inl "int"), false), ((.inl "list", .inl "str"), false), ((.inl "list", .inl "bool"), false), ((.inl "dict", .inl "tuple"), false), ((.inl "dict", .inl "int"), false), ((.inl "dict", .inl "str"), false), ((.inl "dict", .inl "bool"), false), ((.inr "BadValue", .inr "BadCall"), false), ((.inr "BadValue", .inr "BadPattern"), false), ((.inr "BadValue", .inl "ValueError"), true)]
  EI := [(("BadValue", "BadValue"), true)]
  RX := ["BadValue"]
  EC := ["BadValue"]
  XF := []
theorem still : T.still = true := by decide +kernel
abbrev Rw : PySem.W.OpenRow := PySem.W.OpenLaw.row PySem.Challenge.rw_calltakers_k01_values_ordered
abbrev hk : PySem.W.Hook := He.hookX 5 T.fa T.fn [] T.tf T.ex
def ob (s : PySem.W.SharedT) : He.AlX := He.obsX 5 T.fa T.fn [] T.tf T.ex (HandSHeadRun.getT s)
theorem ob_eq (s : PySem.W.SharedT) : ob s = hk.obs s.abs := He.obsX_eq (HandSHeadRun.getT_eq s)
theorem run (w : World) : HandSHeadRun.RunEq Rw (PySem.W.view Rw.prog [26]) hk ob 20000 ["__name__", "TakerError", "BadValue", "BadPattern", "BadCall", "KINDS", "is_value", "rank", "is_same", "need_value", "kind_of", "same", "compare", "_law_begun", "_law_mixed", "_law_take", "_law_pick", "_law_value", "_law_kind", "_law_rank", "_law_near", "_law_refused", "_law_pair_right", "_law_odd_right"] w := by
  intro os
  kernel_rfl
end K01

set_option Elab.async false
set_option linter.all false
set_option maxRecDepth 100000
set_option maxHeartbeats 0
namespace K01
open PySem Fw

theorem b_is_value_0 (kV doc pm cdv ct : Value) (an : Option Addr) (us ws us' : List Value) (h1 : us.length = 0) (h2 : ws.length = (["thing"] : List Str).length) (h3 : bindG dis_value.ps us ((["thing"] : List Str).zip ws) = some us') :
    bindArgs (PySem.W.fnOf "is_value" "is_value" (L2.defArgs (row 7)) (L2.defBody (row 7)) (L2.defScope (row 7)) .none kV doc pm an cdv ct) ⟨us, (["thing"] : List Str).zip ws⟩ = pure (dis_value.ps.zip us') := by
  match us, ws, h1, h2 with
  | [], [w0], _, _ =>
    have e := Option.some.inj (show some [w0] = some us' from h3)
    subst e
    rfl
theorem b_is_value_1 (kV doc pm cdv ct : Value) (an : Option Addr) (us ws us' : List Value) (h1 : us.length = 1) (h2 : ws.length = ([] : List Str).length) (h3 : bindG dis_value.ps us (([] : List Str).zip ws) = some us') :
    bindArgs (PySem.W.fnOf "is_value" "is_value" (L2.defArgs (row 7)) (L2.defBody (row 7)) (L2.defScope (row 7)) .none kV doc pm an cdv ct) ⟨us, ([] : List Str).zip ws⟩ = pure (dis_value.ps.zip us') := by
  match us, ws, h1, h2 with
  | [u0], [], _, _ =>
    have e := Option.some.inj (show some [u0] = some us' from h3)
    subst e
    rfl
theorem b_is_value : LawIn.BindOk ("is_value", (dis_value, row 7)) := by
  intro kV doc pm cdv ct an n ks hn us ws us' h1 h2 h3
  have hn : (n, ks) ∈ dis_value.shapes := hn
  simp only [dis_value, List.mem_cons, List.not_mem_nil, or_false] at hn
  rcases hn with hn | hn
  · cases hn
    exact b_is_value_0 kV doc pm cdv ct an us ws us' h1 h2 h3
  · cases hn
    exact b_is_value_1 kV doc pm cdv ct an us ws us' h1 h2 h3
theorem b_rank_0 (kV doc pm cdv ct : Value) (an : Option Addr) (us ws us' : List Value) (h1 : us.length = 1) (h2 : ws.length = ([] : List Str).length) (h3 : bindG drank.ps us (([] : List Str).zip ws) = some us') :
    bindArgs (PySem.W.fnOf "rank" "rank" (L2.defArgs (row 8)) (L2.defBody (row 8)) (L2.defScope (row 8)) .none kV doc pm an cdv ct) ⟨us, ([] : List Str).zip ws⟩ = pure (drank.ps.zip us') := by
  match us, ws, h1, h2 with
  | [u0], [], _, _ =>
    have e := Option.some.inj (show some [u0] = some us' from h3)
    subst e
    rfl
theorem b_rank : LawIn.BindOk ("rank", (drank, row 8)) := by
  intro kV doc pm cdv ct an n ks hn us ws us' h1 h2 h3
  have hn : (n, ks) ∈ drank.shapes := hn
  simp only [drank, List.mem_cons, List.not_mem_nil, or_false] at hn
  cases hn
  exact b_rank_0 kV doc pm cdv ct an us ws us' h1 h2 h3
theorem b_is_same_0 (kV doc pm cdv ct : Value) (an : Option Addr) (us ws us' : List Value) (h1 : us.length = 2) (h2 : ws.length = ([] : List Str).length) (h3 : bindG dis_same.ps us (([] : List Str).zip ws) = some us') :
    bindArgs (PySem.W.fnOf "is_same" "is_same" (L2.defArgs (row 9)) (L2.defBody (row 9)) (L2.defScope (row 9)) .none kV doc pm an cdv ct) ⟨us, ([] : List Str).zip ws⟩ = pure (dis_same.ps.zip us') := by
  match us, ws, h1, h2 with
  | [u0, u1], [], _, _ =>
    have e := Option.some.inj (show some [u0, u1] = some us' from h3)
    subst e
    rfl
theorem b_is_same : LawIn.BindOk ("is_same", (dis_same, row 9)) := by
  intro kV doc pm cdv ct an n ks hn us ws us' h1 h2 h3
  have hn : (n, ks) ∈ dis_same.shapes := hn
  simp only [dis_same, List.mem_cons, List.not_mem_nil, or_false] at hn
  cases hn
  exact b_is_same_0 kV doc pm cdv ct an us ws us' h1 h2 h3
theorem b_need_value_0 (kV doc pm cdv ct : Value) (an : Option Addr) (us ws us' : List Value) (h1 : us.length = 1) (h2 : ws.length = ([] : List Str).length) (h3 : bindG dneed_value.ps us (([] : List Str).zip ws) = some us') :
    bindArgs (PySem.W.fnOf "need_value" "need_value" (L2.defArgs (row 10)) (L2.defBody (row 10)) (L2.defScope (row 10)) .none kV doc pm an cdv ct) ⟨us, ([] : List Str).zip ws⟩ = pure (dneed_value.ps.zip us') := by
  match us, ws, h1, h2 with
  | [u0], [], _, _ =>
    have e := Option.some.inj (show some [u0] = some us' from h3)
    subst e
    rfl
theorem b_need_value : LawIn.BindOk ("need_value", (dneed_value, row 10)) := by
  intro kV doc pm cdv ct an n ks hn us ws us' h1 h2 h3
  have hn : (n, ks) ∈ dneed_value.shapes := hn
  simp only [dneed_value, List.mem_cons, List.not_mem_nil, or_false] at hn
  cases hn
  exact b_need_value_0 kV doc pm cdv ct an us ws us' h1 h2 h3
theorem b_kind_of_0 (kV doc pm cdv ct : Value) (an : Option Addr) (us ws us' : List Value) (h1 : us.length = 0) (h2 : ws.length = (["value"] : List Str).length) (h3 : bindG dkind_of.ps us ((["value"] : List Str).zip ws) = some us') :
    bindArgs (PySem.W.fnOf "kind_of" "kind_of" (L2.defArgs (row 11)) (L2.defBody (row 11)) (L2.defScope (row 11)) .none kV doc pm an cdv ct) ⟨us, (["value"] : List Str).zip ws⟩ = pure (dkind_of.ps.zip us') := by
  match us, ws, h1, h2 with
  | [], [w0], _, _ =>
    have e := Option.some.inj (show some [w0] = some us' from h3)
    subst e
    rfl
theorem b_kind_of_1 (kV doc pm cdv ct : Value) (an : Option Addr) (us ws us' : List Value) (h1 : us.length = 1) (h2 : ws.length = ([] : List Str).length) (h3 : bindG dkind_of.ps us (([] : List Str).zip ws) = some us') :
    bindArgs (PySem.W.fnOf "kind_of" "kind_of" (L2.defArgs (row 11)) (L2.defBody (row 11)) (L2.defScope (row 11)) .none kV doc pm an cdv ct) ⟨us, ([] : List Str).zip ws⟩ = pure (dkind_of.ps.zip us') := by
  match us, ws, h1, h2 with
  | [u0], [], _, _ =>
    have e := Option.some.inj (show some [u0] = some us' from h3)
    subst e
    rfl
theorem b_kind_of : LawIn.BindOk ("kind_of", (dkind_of, row 11)) := by
  intro kV doc pm cdv ct an n ks hn us ws us' h1 h2 h3
  have hn : (n, ks) ∈ dkind_of.shapes := hn
  simp only [dkind_of, List.mem_cons, List.not_mem_nil, or_false] at hn
  rcases hn with hn | hn
  · cases hn
    exact b_kind_of_0 kV doc pm cdv ct an us ws us' h1 h2 h3
  · cases hn
    exact b_kind_of_1 kV doc pm cdv ct an us ws us' h1 h2 h3
theorem b_same_0 (kV doc pm cdv ct : Value) (an : Option Addr) (us ws us' : List Value) (h1 : us.length = 0) (h2 : ws.length = (["one", "other"] : List Str).length) (h3 : bindG dsame.ps us ((["one", "other"] : List Str).zip ws) = some us') :
    bindArgs (PySem.W.fnOf "same" "same" (L2.defArgs (row 12)) (L2.defBody (row 12)) (L2.defScope (row 12)) .none kV doc pm an cdv ct) ⟨us, (["one", "other"] : List Str).zip ws⟩ = pure (dsame.ps.zip us') := by
  match us, ws, h1, h2 with
  | [], [w0, w1], _, _ =>
    have e := Option.some.inj (show some [w0, w1] = some us' from h3)
    subst e
    rfl
theorem b_same_1 (kV doc pm cdv ct : Value) (an : Option Addr) (us ws us' : List Value) (h1 : us.length = 2) (h2 : ws.length = ([] : List Str).length) (h3 : bindG dsame.ps us (([] : List Str).zip ws) = some us') :
    bindArgs (PySem.W.fnOf "same" "same" (L2.defArgs (row 12)) (L2.defBody (row 12)) (L2.defScope (row 12)) .none kV doc pm an cdv ct) ⟨us, ([] : List Str).zip ws⟩ = pure (dsame.ps.zip us') := by
  match us, ws, h1, h2 with
  | [u0, u1], [], _, _ =>
    have e := Option.some.inj (show some [u0, u1] = some us' from h3)
    subst e
    rfl
theorem b_same : LawIn.BindOk ("same", (dsame, row 12)) := by
  intro kV doc pm cdv ct an n ks hn us ws us' h1 h2 h3
  have hn : (n, ks) ∈ dsame.shapes := hn
  simp only [dsame, List.mem_cons, List.not_mem_nil, or_false] at hn
  rcases hn with hn | hn
  · cases hn
    exact b_same_0 kV doc pm cdv ct an us ws us' h1 h2 h3
  · cases hn
    exact b_same_1 kV doc pm cdv ct an us ws us' h1 h2 h3
theorem b_compare_0 (kV doc pm cdv ct : Value) (an : Option Addr) (us ws us' : List Value) (h1 : us.length = 0) (h2 : ws.length = (["one", "other"] : List Str).length) (h3 : bindG dcompare.ps us ((["one", "other"] : List Str).zip ws) = some us') :
    bindArgs (PySem.W.fnOf "compare" "compare" (L2.defArgs (row 13)) (L2.defBody (row 13)) (L2.defScope (row 13)) .none kV doc pm an cdv ct) ⟨us, (["one", "other"] : List Str).zip ws⟩ = pure (dcompare.ps.zip us') := by
  match us, ws, h1, h2 with
  | [], [w0, w1], _, _ =>
    have e := Option.some.inj (show some [w0, w1] = some us' from h3)
    subst e
    rfl
theorem b_compare_1 (kV doc pm cdv ct : Value) (an : Option Addr) (us ws us' : List Value) (h1 : us.length = 2) (h2 : ws.length = ([] : List Str).length) (h3 : bindG dcompare.ps us (([] : List Str).zip ws) = some us') :
    bindArgs (PySem.W.fnOf "compare" "compare" (L2.defArgs (row 13)) (L2.defBody (row 13)) (L2.defScope (row 13)) .none kV doc pm an cdv ct) ⟨us, ([] : List Str).zip ws⟩ = pure (dcompare.ps.zip us') := by
  match us, ws, h1, h2 with
  | [u0, u1], [], _, _ =>
    have e := Option.some.inj (show some [u0, u1] = some us' from h3)
    subst e
    rfl
theorem b_compare : LawIn.BindOk ("compare", (dcompare, row 13)) := by
  intro kV doc pm cdv ct an n ks hn us ws us' h1 h2 h3
  have hn : (n, ks) ∈ dcompare.shapes := hn
  simp only [dcompare, List.mem_cons, List.not_mem_nil, or_false] at hn
  rcases hn with hn | hn
  · cases hn
    exact b_compare_0 kV doc pm cdv ct an us ws us' h1 h2 h3
  · cases hn
    exact b_compare_1 kV doc pm cdv ct an us ws us' h1 h2 h3
theorem b__law_begun_0 (kV doc pm cdv ct : Value) (an : Option Addr) (us ws us' : List Value) (h1 : us.length = 1) (h2 : ws.length = ([] : List Str).length) (h3 : bindG d_law_begun.ps us (([] : List Str).zip ws) = some us') :
    bindArgs (PySem.W.fnOf "_law_begun" "_law_begun" (L2.defArgs (row 15)) (L2.defBody (row 15)) (L2.defScope (row 15)) .none kV doc pm an cdv ct) ⟨us, ([] : List Str).zip ws⟩ = pure (d_law_begun.ps.zip us') := by
  match us, ws, h1, h2 with
  | [u0], [], _, _ =>
    have e := Option.some.inj (show some [u0] = some us' from h3)
    subst e
    rfl
theorem b__law_begun : LawIn.BindOk ("_law_begun", (d_law_begun, row 15)) := by
  intro kV doc pm cdv ct an n ks hn us ws us' h1 h2 h3
  have hn : (n, ks) ∈ d_law_begun.shapes := hn
  simp only [d_law_begun, List.mem_cons, List.not_mem_nil, or_false] at hn
  cases hn
  exact b__law_begun_0 kV doc pm cdv ct an us ws us' h1 h2 h3
theorem b__law_mixed_0 (kV doc pm cdv ct : Value) (an : Option Addr) (us ws us' : List Value) (h1 : us.length = 1) (h2 : ws.length = ([] : List Str).length) (h3 : bindG d_law_mixed.ps us (([] : List Str).zip ws) = some us') :
    bindArgs (PySem.W.fnOf "_law_mixed" "_law_mixed" (L2.defArgs (row 16)) (L2.defBody (row 16)) (L2.defScope (row 16)) .none kV doc pm an cdv ct) ⟨us, ([] : List Str).zip ws⟩ = pure (d_law_mixed.ps.zip us') := by
  match us, ws, h1, h2 with
  | [u0], [], _, _ =>
    have e := Option.some.inj (show some [u0] = some us' from h3)
    subst e
    rfl
theorem b__law_mixed : LawIn.BindOk ("_law_mixed", (d_law_mixed, row 16)) := by
  intro kV doc pm cdv ct an n ks hn us ws us' h1 h2 h3
  have hn : (n, ks) ∈ d_law_mixed.shapes := hn
  simp only [d_law_mixed, List.mem_cons, List.not_mem_nil, or_false] at hn
  cases hn
  exact b__law_mixed_0 kV doc pm cdv ct an us ws us' h1 h2 h3
theorem b__law_take_0 (kV doc pm cdv ct : Value) (an : Option Addr) (us ws us' : List Value) (h1 : us.length = 2) (h2 : ws.length = ([] : List Str).length) (h3 : bindG d_law_take.ps us (([] : List Str).zip ws) = some us') :
    bindArgs (PySem.W.fnOf "_law_take" "_law_take" (L2.defArgs (row 17)) (L2.defBody (row 17)) (L2.defScope (row 17)) .none kV doc pm an cdv ct) ⟨us, ([] : List Str).zip ws⟩ = pure (d_law_take.ps.zip us') := by
  match us, ws, h1, h2 with
  | [u0, u1], [], _, _ =>
    have e := Option.some.inj (show some [u0, u1] = some us' from h3)
    subst e
    rfl
theorem b__law_take : LawIn.BindOk ("_law_take", (d_law_take, row 17)) := by
  intro kV doc pm cdv ct an n ks hn us ws us' h1 h2 h3
  have hn : (n, ks) ∈ d_law_take.shapes := hn
  simp only [d_law_take, List.mem_cons, List.not_mem_nil, or_false] at hn
  cases hn
  exact b__law_take_0 kV doc pm cdv ct an us ws us' h1 h2 h3
theorem b__law_pick_0 (kV doc pm cdv ct : Value) (an : Option Addr) (us ws us' : List Value) (h1 : us.length = 2) (h2 : ws.length = ([] : List Str).length) (h3 : bindG d_law_pick.ps us (([] : List Str).zip ws) = some us') :
    bindArgs (PySem.W.fnOf "_law_pick" "_law_pick" (L2.defArgs (row 18)) (L2.defBody (row 18)) (L2.defScope (row 18)) .none kV doc pm an cdv ct) ⟨us, ([] : List Str).zip ws⟩ = pure (d_law_pick.ps.zip us') := by
  match us, ws, h1, h2 with
  | [u0, u1], [], _, _ =>
    have e := Option.some.inj (show some [u0, u1] = some us' from h3)
    subst e
    rfl
theorem b__law_pick : LawIn.BindOk ("_law_pick", (d_law_pick, row 18)) := by
  intro kV doc pm cdv ct an n ks hn us ws us' h1 h2 h3
  have hn : (n, ks) ∈ d_law_pick.shapes := hn
  simp only [d_law_pick, List.mem_cons, List.not_mem_nil, or_false] at hn
  cases hn
  exact b__law_pick_0 kV doc pm cdv ct an us ws us' h1 h2 h3
theorem b__law_value_0 (kV doc pm cdv ct : Value) (an : Option Addr) (us ws us' : List Value) (h1 : us.length = 2) (h2 : ws.length = ([] : List Str).length) (h3 : bindG d_law_value.ps us (([] : List Str).zip ws) = some us') :
    bindArgs (PySem.W.fnOf "_law_value" "_law_value" (L2.defArgs (row 19)) (L2.defBody (row 19)) (L2.defScope (row 19)) .none kV doc pm an cdv ct) ⟨us, ([] : List Str).zip ws⟩ = pure (d_law_value.ps.zip us') := by
  match us, ws, h1, h2 with
  | [u0, u1], [], _, _ =>
    have e := Option.some.inj (show some [u0, u1] = some us' from h3)
    subst e
    rfl
theorem b__law_value : LawIn.BindOk ("_law_value", (d_law_value, row 19)) := by
  intro kV doc pm cdv ct an n ks hn us ws us' h1 h2 h3
  have hn : (n, ks) ∈ d_law_value.shapes := hn
  simp only [d_law_value, List.mem_cons, List.not_mem_nil, or_false] at hn
  cases hn
  exact b__law_value_0 kV doc pm cdv ct an us ws us' h1 h2 h3
theorem b__law_kind_0 (kV doc pm cdv ct : Value) (an : Option Addr) (us ws us' : List Value) (h1 : us.length = 1) (h2 : ws.length = ([] : List Str).length) (h3 : bindG d_law_kind.ps us (([] : List Str).zip ws) = some us') :
    bindArgs (PySem.W.fnOf "_law_kind" "_law_kind" (L2.defArgs (row 20)) (L2.defBody (row 20)) (L2.defScope (row 20)) .none kV doc pm an cdv ct) ⟨us, ([] : List Str).zip ws⟩ = pure (d_law_kind.ps.zip us') := by
  match us, ws, h1, h2 with
  | [u0], [], _, _ =>
    have e := Option.some.inj (show some [u0] = some us' from h3)
    subst e
    rfl
theorem b__law_kind : LawIn.BindOk ("_law_kind", (d_law_kind, row 20)) := by
  intro kV doc pm cdv ct an n ks hn us ws us' h1 h2 h3
  have hn : (n, ks) ∈ d_law_kind.shapes := hn
  simp only [d_law_kind, List.mem_cons, List.not_mem_nil, or_false] at hn
  cases hn
  exact b__law_kind_0 kV doc pm cdv ct an us ws us' h1 h2 h3
theorem b__law_rank_0 (kV doc pm cdv ct : Value) (an : Option Addr) (us ws us' : List Value) (h1 : us.length = 1) (h2 : ws.length = ([] : List Str).length) (h3 : bindG d_law_rank.ps us (([] : List Str).zip ws) = some us') :
    bindArgs (PySem.W.fnOf "_law_rank" "_law_rank" (L2.defArgs (row 21)) (L2.defBody (row 21)) (L2.defScope (row 21)) .none kV doc pm an cdv ct) ⟨us, ([] : List Str).zip ws⟩ = pure (d_law_rank.ps.zip us') := by
  match us, ws, h1, h2 with
  | [u0], [], _, _ =>
    have e := Option.some.inj (show some [u0] = some us' from h3)
    subst e
    rfl
theorem b__law_rank : LawIn.BindOk ("_law_rank", (d_law_rank, row 21)) := by
  intro kV doc pm cdv ct an n ks hn us ws us' h1 h2 h3
  have hn : (n, ks) ∈ d_law_rank.shapes := hn
  simp only [d_law_rank, List.mem_cons, List.not_mem_nil, or_false] at hn
  cases hn
  exact b__law_rank_0 kV doc pm cdv ct an us ws us' h1 h2 h3
theorem b__law_near_0 (kV doc pm cdv ct : Value) (an : Option Addr) (us ws us' : List Value) (h1 : us.length = 2) (h2 : ws.length = ([] : List Str).length) (h3 : bindG d_law_near.ps us (([] : List Str).zip ws) = some us') :
    bindArgs (PySem.W.fnOf "_law_near" "_law_near" (L2.defArgs (row 22)) (L2.defBody (row 22)) (L2.defScope (row 22)) .none kV doc pm an cdv ct) ⟨us, ([] : List Str).zip ws⟩ = pure (d_law_near.ps.zip us') := by
  match us, ws, h1, h2 with
  | [u0, u1], [], _, _ =>
    have e := Option.some.inj (show some [u0, u1] = some us' from h3)
    subst e
    rfl
theorem b__law_near : LawIn.BindOk ("_law_near", (d_law_near, row 22)) := by
  intro kV doc pm cdv ct an n ks hn us ws us' h1 h2 h3
  have hn : (n, ks) ∈ d_law_near.shapes := hn
  simp only [d_law_near, List.mem_cons, List.not_mem_nil, or_false] at hn
  cases hn
  exact b__law_near_0 kV doc pm cdv ct an us ws us' h1 h2 h3
theorem b__law_refused_0 (kV doc pm cdv ct : Value) (an : Option Addr) (us ws us' : List Value) (h1 : us.length = 1) (h2 : ws.length = ([] : List Str).length) (h3 : bindG d_law_refused.ps us (([] : List Str).zip ws) = some us') :
    bindArgs (PySem.W.fnOf "_law_refused" "_law_refused" (L2.defArgs (row 23)) (L2.defBody (row 23)) (L2.defScope (row 23)) .none kV doc pm an cdv ct) ⟨us, ([] : List Str).zip ws⟩ = pure (d_law_refused.ps.zip us') := by
  match us, ws, h1, h2 with
  | [u0], [], _, _ =>
    have e := Option.some.inj (show some [u0] = some us' from h3)
    subst e
    rfl
theorem b__law_refused : LawIn.BindOk ("_law_refused", (d_law_refused, row 23)) := by
  intro kV doc pm cdv ct an n ks hn us ws us' h1 h2 h3
  have hn : (n, ks) ∈ d_law_refused.shapes := hn
  simp only [d_law_refused, List.mem_cons, List.not_mem_nil, or_false] at hn
  cases hn
  exact b__law_refused_0 kV doc pm cdv ct an us ws us' h1 h2 h3
theorem b__law_pair_right_0 (kV doc pm cdv ct : Value) (an : Option Addr) (us ws us' : List Value) (h1 : us.length = 2) (h2 : ws.length = ([] : List Str).length) (h3 : bindG d_law_pair_right.ps us (([] : List Str).zip ws) = some us') :
    bindArgs (PySem.W.fnOf "_law_pair_right" "_law_pair_right" (L2.defArgs (row 24)) (L2.defBody (row 24)) (L2.defScope (row 24)) .none kV doc pm an cdv ct) ⟨us, ([] : List Str).zip ws⟩ = pure (d_law_pair_right.ps.zip us') := by
  match us, ws, h1, h2 with
  | [u0, u1], [], _, _ =>
    have e := Option.some.inj (show some [u0, u1] = some us' from h3)
    subst e
    rfl
theorem b__law_pair_right : LawIn.BindOk ("_law_pair_right", (d_law_pair_right, row 24)) := by
  intro kV doc pm cdv ct an n ks hn us ws us' h1 h2 h3
  have hn : (n, ks) ∈ d_law_pair_right.shapes := hn
  simp only [d_law_pair_right, List.mem_cons, List.not_mem_nil, or_false] at hn
  cases hn
  exact b__law_pair_right_0 kV doc pm cdv ct an us ws us' h1 h2 h3
theorem b__law_odd_right_0 (kV doc pm cdv ct : Value) (an : Option Addr) (us ws us' : List Value) (h1 : us.length = 2) (h2 : ws.length = ([] : List Str).length) (h3 : bindG d_law_odd_right.ps us (([] : List Str).zip ws) = some us') :
    bindArgs (PySem.W.fnOf "_law_odd_right" "_law_odd_right" (L2.defArgs (row 25)) (L2.defBody (row 25)) (L2.defScope (row 25)) .none kV doc pm an cdv ct) ⟨us, ([] : List Str).zip ws⟩ = pure (d_law_odd_right.ps.zip us') := by
  match us, ws, h1, h2 with
  | [u0, u1], [], _, _ =>
    have e := Option.some.inj (show some [u0, u1] = some us' from h3)
    subst e
    rfl
theorem b__law_odd_right : LawIn.BindOk ("_law_odd_right", (d_law_odd_right, row 25)) := by
  intro kV doc pm cdv ct an n ks hn us ws us' h1 h2 h3
  have hn : (n, ks) ∈ d_law_odd_right.shapes := hn
  simp only [d_law_odd_right, List.mem_cons, List.not_mem_nil, or_false] at hn
  cases hn
  exact b__law_odd_right_0 kV doc pm cdv ct an us ws us' h1 h2 h3
theorem b_law_0 (kV doc pm cdv ct : Value) (an : Option Addr) (us ws us' : List Value) (h1 : us.length = 1) (h2 : ws.length = ([] : List Str).length) (h3 : bindG dlaw.ps us (([] : List Str).zip ws) = some us') :
    bindArgs (PySem.W.fnOf "law" "law" (L2.defArgs (row 26)) (L2.defBody (row 26)) (L2.defScope (row 26)) .none kV doc pm an cdv ct) ⟨us, ([] : List Str).zip ws⟩ = pure (dlaw.ps.zip us') := by
  match us, ws, h1, h2 with
  | [u0], [], _, _ =>
    have e := Option.some.inj (show some [u0] = some us' from h3)
    subst e
    rfl
theorem b_law : LawIn.BindOk ("law", (dlaw, row 26)) := by
  intro kV doc pm cdv ct an n ks hn us ws us' h1 h2 h3
  have hn : (n, ks) ∈ dlaw.shapes := hn
  simp only [dlaw, List.mem_cons, List.not_mem_nil, or_false] at hn
  cases hn
  exact b_law_0 kV doc pm cdv ct an us ws us' h1 h2 h3
theorem binds : ∀ p ∈ T.l, LawIn.BindOk p := by
  intro p hp
  simp only [T, List.mem_cons, List.not_mem_nil, or_false] at hp
  rcases hp with rfl | rfl | rfl | rfl | rfl | rfl | rfl | rfl | rfl | rfl | rfl | rfl | rfl | rfl | rfl | rfl | rfl | rfl | rfl
  · exact b_is_value
  · exact b_rank
  · exact b_is_same
  · exact b_need_value
  · exact b_kind_of
  · exact b_same
  · exact b_compare
  · exact b__law_begun
  · exact b__law_mixed
  · exact b__law_take
  · exact b__law_pick
  · exact b__law_value
  · exact b__law_kind
  · exact b__law_rank
  · exact b__law_near
  · exact b__law_refused
  · exact b__law_pair_right
  · exact b__law_odd_right
  · exact b_law
end K01

set_option Elab.async false
set_option linter.all false
set_option maxRecDepth 100000
set_option maxHeartbeats 4000000
namespace K01
open PySem Fw
theorem tk_G (k : Nat) : (mk3 T.sta T.tb k).1.G = T.sta.G := by cases k <;> rfl
theorem tk_I (k : Nat) : (mk3 T.sta T.tb k).1.I = T.sta.I := by cases k <;> rfl
theorem tk_IC (k : Nat) : (mk3 T.sta T.tb k).1.IC = [] := by cases k <;> rfl
theorem tk_RX (k : Nat) : (mk3 T.sta T.tb k).1.RX = [("BadValue" : Str)] := by cases k <;> rfl
theorem tk_hot (k : Nat) : (mk3 T.sta T.tb k).1.hot = none := by cases k <;> rfl
theorem tk_blk (k : Nat) : (mk3 T.sta T.tb k).1.blk = (mk3 T.sta T.tb k).1 := by cases k <;> rfl
theorem tk_g (k : Nat) {x : Str} {d : D} (h : T.sta.G x = some d) : (mk3 T.sta T.tb k).1.G x = some d := by rw [tk_G]; exact h
theorem C_succ {k : Nat} {f : Str} {d : Df} (h : T.tb f = some d) (hl : d.lam = false) {ds : List D} {kws : List (Str × D)} {S : Sto} {r : R D} (q : runDf (mk3 T.sta T.tb k).1 d ds kws S = r) : (mk3 T.sta T.tb (k + 1)).1.C f ds kws S = r := by
  show (match T.tb f with
    | some d => if d.lam = true then (match (mk3 T.sta T.tb k).2.2 with
      | some z => runDf { z with lam := true } d ds kws S
      | none => .bad) else runDf (mk3 T.sta T.tb k).1 d ds kws S
    | none => .bad) = _
  rw [h]
  dsimp only
  rw [if_neg (by rw [hl]; exact Bool.false_ne_true)]
  exact q
theorem isi_of (k : Nat) {x c : D} {S : Sto} {b : Bool} (h : isiD [] T.sta.I x c S = some b) : biD (mk3 T.sta T.tb k).1 "isinstance" [x, c] S = .ok (.bl b) S := by
  refine (show biD (mk3 T.sta T.tb k).1 "isinstance" [x, c] S = biIsi (mk3 T.sta T.tb k).1 [x, c] S from (if_neg (by decide)).trans (if_pos rfl)).trans ?_
  unfold biIsi
  dsimp only
  rw [tk_IC, tk_I, h]
theorem all_of (k : Nat) {ds : List D} {S : Sto} {r : R D} (h : biAll ds S = r) : biD (mk3 T.sta T.tb k).1 "all" ds S = r := by
  refine (show biD (mk3 T.sta T.tb k).1 "all" ds S = (mk3 T.sta T.tb k).1.cold (biAll ds S) from (if_neg (by decide)).trans ((if_neg (by decide)).trans ((if_neg (by decide)).trans ((if_neg (by decide)).trans ((if_neg (by decide)).trans ((if_neg (by decide)).trans ((if_neg (by decide)).trans (if_pos rfl)))))))).trans ?_
  unfold Sta.cold
  rw [tk_hot]
  exact h
local macro_rules
  | `(tactic| trivial) => `(tactic| first
    | exact r_nil
    | apply r_cons
    | exact r_con rfl
    | exact r_var rfl
    | exact r_glo (tk_g _ rfl)
    | apply r_call (tk_hot _)
    | apply r_bi
    | exact isi_of _ rfl
    | apply r_cmp
    | apply r_bin
    | apply r_not
    | apply r_tup
    | apply r_lst
    | apply r_idx
    | apply r_ret
    | apply r_set
    | refine r_par (tk_hot _) ?_ rfl
    | assumption
    | exact rfl)
section
variable {k : Nat} {S : Sto}
/-! is_value -/
theorem iv_flat {d : D} {b : Bool} (h1 : isiD [] T.sta.I d (.ty "tuple") S = some false) (h2 : cmpD .Is d .non S = .ok (.bl b) S) (h3 : b = false → ∃ c, isiD [] T.sta.I d (.tup [.ty "int", .ty "str"]) S = some c) :
    ∃ c, evSs dis_value.body (mk3 T.sta T.tb k).1 [some d, none] S = .ok (.ret (.bl c)) S := by
  cases b with
  | true =>
    refine ⟨true, ?_⟩
    refine r_seq (r_if (r_bi (by repeat' trivial) (isi_of _ h1)) (r_f r_end)) (r_nx ?_)
    refine r_seq (r_ret (r_or (r_cmp (by repeat' trivial) (by repeat' trivial) h2) (r_t rfl))) r_rt
  | false =>
    obtain ⟨c, hc⟩ := h3 rfl
    refine ⟨c, ?_⟩
    refine r_seq (r_if (r_bi (by repeat' trivial) (isi_of _ h1)) (r_f r_end)) (r_nx ?_)
    refine r_seq (r_ret (r_or (r_cmp (by repeat' trivial) (by repeat' trivial) h2) (r_f (r_bi (by repeat' trivial) (isi_of _ hc))))) r_rt
theorem nv_t {d : D} (h : (mk3 T.sta T.tb k).1.C "is_value" [d] [] S = .ok (.bl true) S) : evSs dneed_value.body (mk3 T.sta T.tb k).1 [some d] S = .ok (.next [some d]) S :=
  r_seq (r_if (bb := false) (r_not (bb := true) (r_call (tk_hot _) (r_cons (r_var rfl) r_nil) r_nil h)) (r_f r_end)) (r_nx r_end)
theorem nv_f {d : D} (h : (mk3 T.sta T.tb k).1.C "is_value" [d] [] S = .ok (.bl false) S) : evSs dneed_value.body (mk3 T.sta T.tb k).1 [some d] S = .ok (.exc ⟨"BadValue", [], []⟩ [some d]) S :=
  r_seq (r_if (bb := true) (r_not (bb := false) (r_call (tk_hot _) (r_cons (r_var rfl) r_nil) r_nil h)) (r_t (r_seq (r_raise (tk_hot _) (by rw [tk_RX]; exact List.mem_singleton.mpr rfl)) r_ex))) r_ex
/-! data that the law uses: no place, no class -/
mutual
def vD : D → Bool
  | .non => true
  | .bl _ => true
  | .int _ => true
  | .str _ => true
  | .tup ds => vL ds
  | .lst ds => closedL 0 ds
  | .dct _ ds => closedL 0 ds
  | _ => false
def vL : List D → Bool
  | [] => true
  | d :: ds => vD d && vL ds
end
mutual
def isv : D → Bool
  | .tup ds => isvL ds
  | .lst _ => false
  | .dct _ _ => false
  | _ => true
def isvL : List D → Bool
  | [] => true
  | d :: ds => isv d && isvL ds
end
mutual
def dep : D → Nat
  | .tup ds => depL ds + 1
  | _ => 0
def depL : List D → Nat
  | [] => 0
  | d :: ds => max (dep d) (depL ds)
end
theorem dep_mem : ∀ {ds : List D} {d : D}, d ∈ ds → dep d ≤ depL ds
  | e :: ds, d, h => by
    rw [depL]
    rcases List.mem_cons.mp h with rfl | h
    · omega
    · have := dep_mem h
      omega
theorem vL_mem : ∀ {ds : List D} {d : D}, vL ds = true → d ∈ ds → vD d = true
  | e :: ds, d, h, hm => by
    rw [vL, Bool.and_eq_true] at h
    rcases List.mem_cons.mp hm with rfl | hm
    · exact h.1
    · exact vL_mem h.2 hm
theorem bls_map : ∀ ds : List D, blsD (ds.map fun d => D.bl (isv d)) = some (ds.map isv)
  | [] => rfl
  | d :: ds => by rw [List.map_cons, blsD, bls_map ds]; rfl
theorem isvL_all : ∀ ds : List D, isvL ds = (ds.map isv).all id
  | [] => rfl
  | d :: ds => by rw [isvL, isvL_all ds, List.map_cons, List.all_cons]; rfl
theorem bl_closed {n : Nat} : ∀ ds : List D, closedL n (ds.map fun d => D.bl (isv d)) = true
  | [] => rfl
  | d :: ds => by rw [List.map_cons, closedL, bl_closed ds]; rfl
theorem cl_snoc {S : Sto} {acc : List D} (h : Cl0 S) (ha : closedL S.length acc = true) : True := trivial
end
end K01

set_option Elab.async false
set_option linter.all false
set_option maxRecDepth 100000
set_option maxHeartbeats 4000000
namespace K01
open PySem Fw
theorem tk_cold {α : Type} (k : Nat) (r : R α) : (mk3 T.sta T.tb k).1.cold r = r := by unfold Sta.cold; rw [tk_hot]; rfl
theorem R_ok {α β : Type} (a : α) (S : Sto) (f : α → Sto → R β) : (R.ok a S).bind f = f a S := rfl
theorem bS_ok {α : Type} (a : α) (S : Sto) (s : En) (f : α → Sto → R Fl) : (R.ok a S).bindS s f = f a S := rfl
theorem eq_int (i j : Int) (S : Sto) : cmpD .Eq (.int i) (.int j) S = .ok (D.bl (decide (i = j))) S := by
  show (match cmp1 .Eq (.int i) (.int j) with
    | some b => R.ok (D.bl b) S
    | none => .bad) = _
  have : cmp1 .Eq (.int i) (.int j) = some (PyData.eqv (.int i) (.int j)) := rfl
  rw [this]
  dsimp only
  rw [PyData.eqv]
  rfl
theorem lt_int (i j : Int) (S : Sto) : cmpD .Lt (.int i) (.int j) S = .ok (D.bl (decide (i < j))) S := rfl
theorem gt_int (i j : Int) (S : Sto) : cmpD .Gt (.int i) (.int j) S = .ok (D.bl (decide (j < i))) S := rfl
theorem ge_int (i j : Int) (S : Sto) : cmpD .GtE (.int i) (.int j) S = .ok (D.bl (decide (j ≤ i))) S := rfl
theorem le_int (i j : Int) (S : Sto) : cmpD .LtE (.int i) (.int j) S = .ok (D.bl (decide (i ≤ j))) S := rfl
theorem ad_int (i j : Int) (S : Sto) : binD .Add (.int i) (.int j) S = .ok (.int (i + j)) S := rfl
theorem su_int (i j : Int) (S : Sto) : binD .Sub (.int i) (.int j) S = .ok (.int (i - j)) S := rfl
theorem mu_int {i j : Int} (S : Sto) (h : (smallF i || smallF j) = true) : binD .Mult (.int i) (.int j) S = .ok (.int (i * j)) S := if_pos h
theorem mo_int {i j : Int} (S : Sto) (h : 0 < j) : binD .Mod (.int i) (.int j) S = .ok (.int (i % j)) S := if_pos h
theorem fd_int {i j : Int} (S : Sto) (h : 0 < j) (h2 : j < 1073741824) : binD .FloorDiv (.int i) (.int j) S = .ok (.int (i / j)) S := if_pos ⟨h, h2⟩
theorem po_int {i j : Int} (S : Sto) (h : 0 ≤ j) (h2 : j ≤ 1000) (h3 : smallF i = true) : binD .Pow (.int i) (.int j) S = .ok (.int (i ^ j.toNat)) S := if_pos ⟨h, h2, h3⟩
theorem in_int (t : Sta) (i : Int) (S : Sto) : biD t "int" [.int i] S = .ok (.int i) S := rfl
theorem in_bl (t : Sta) (i : Bool) (S : Sto) : biD t "int" [.bl i] S = .ok (.int (PyProof.Rows.b2i i)) S := rfl
theorem sz0 : (([] : List D).length ≤ sizeLine) = True := eq_true (of_decide_eq_true rfl)
theorem sz1 (a0 : D) : ([a0].length ≤ sizeLine) = True := eq_true (of_decide_eq_true rfl)
theorem sz2 (a0 a1 : D) : ([a0, a1].length ≤ sizeLine) = True := eq_true (of_decide_eq_true rfl)
theorem sz3 (a0 a1 a2 : D) : ([a0, a1, a2].length ≤ sizeLine) = True := eq_true (of_decide_eq_true rfl)
theorem sz4 (a0 a1 a2 a3 : D) : ([a0, a1, a2, a3].length ≤ sizeLine) = True := eq_true (of_decide_eq_true rfl)
theorem sz5 (a0 a1 a2 a3 a4 : D) : ([a0, a1, a2, a3, a4].length ≤ sizeLine) = True := eq_true (of_decide_eq_true rfl)
theorem sz6 (a0 a1 a2 a3 a4 a5 : D) : ([a0, a1, a2, a3, a4, a5].length ≤ sizeLine) = True := eq_true (of_decide_eq_true rfl)
theorem sz7 (a0 a1 a2 a3 a4 a5 a6 : D) : ([a0, a1, a2, a3, a4, a5, a6].length ≤ sizeLine) = True := eq_true (of_decide_eq_true rfl)
theorem sz8 (a0 a1 a2 a3 a4 a5 a6 a7 : D) : ([a0, a1, a2, a3, a4, a5, a6, a7].length ≤ sizeLine) = True := eq_true (of_decide_eq_true rfl)
theorem sz9 (a0 a1 a2 a3 a4 a5 a6 a7 a8 : D) : ([a0, a1, a2, a3, a4, a5, a6, a7, a8].length ≤ sizeLine) = True := eq_true (of_decide_eq_true rfl)
theorem sz10 (a0 a1 a2 a3 a4 a5 a6 a7 a8 a9 : D) : ([a0, a1, a2, a3, a4, a5, a6, a7, a8, a9].length ≤ sizeLine) = True := eq_true (of_decide_eq_true rfl)
theorem for_inv {P : En → Sto → Prop} {all : List D} {b : D → En → Sto → R Fl} : ∀ {ds : List D} {s : En} {S : Sto}, (∀ d ∈ ds, ∀ s S, P s S → ∃ s1 S1, b d s S = .ok (.next s1) S1 ∧ P s1 S1) → P s S → ∃ s1 S1, forGo all none b ds s S = .ok (.next s1) S1 ∧ P s1 S1
  | [], s, S, h, p => ⟨s, S, if_pos rfl, p⟩
  | d :: ds, s, S, h, p => by
    obtain ⟨s1, S1, e1, p1⟩ := h d List.mem_cons_self s S p
    obtain ⟨s2, S2, e2, p2⟩ := for_inv (ds := ds) (fun d hd => h d (List.mem_cons_of_mem _ hd)) p1
    refine ⟨s2, S2, ?_, p2⟩
    rw [forGo]
    refine (if_pos rfl).trans ?_
    rw [e1]
    exact e2
theorem loop_inv {t : Sta} {tg : Tg} {it : It1} {bd : Ss} {s : En} {S S1 : Sto} {q : R Fl} {P : En → Sto → Prop} {ds : List D} (hq : evS (.loop tg it bd) t s S = q) (hh : ∀ r : R Fl, t.cold r = r) (hi : evI t it s S = .ok (ds, none) S1)
    (h : ∀ d ∈ ds, ∀ s S, P s S → ∃ s0, tgD tg d s = some s0 ∧ ∃ s1 S1, evSs bd t s0 S = .ok (.next s1) S1 ∧ P s1 S1) (p : P s S1) : ∃ s2 S2, q = .ok (.next s2) S2 ∧ P s2 S2 := by
  rw [evS, hh, hi] at hq
  obtain ⟨s2, S2, e, p2⟩ := for_inv (all := ds) (b := fun d s S => match tgD tg d s with
    | some s1 => evSs bd t s1 S
    | none => .bad) (ds := ds) (s := s) (S := S1) (P := P) (fun d hd s S hp => by
      obtain ⟨s0, e0, s1, S1, e1, p1⟩ := h d hd s S hp
      refine ⟨s1, S1, ?_, p1⟩
      show (match tgD tg d s with
        | some s1 => evSs bd t s1 S
        | none => .bad) = _
      rw [e0]
      exact e1) p
  exact ⟨s2, S2, hq.symm.trans e, p2⟩
theorem gc_eq {n : Nat} {d : D} {S : Sto} (h : S.length = n) (ht : top n S d = d) : gcF n (.ok d S) = .ok d S := by
  have h : (if ((top n S d).closed n && (S.take n).all (O.closed n)) = true then R.ok (top n S d) (S.take n) else R.ok d S) = .ok d S := by
    rw [← h, List.take_length, h, ht]
    split <;> rfl
  exact h
mutual
theorem cl_up {n : Nat} : ∀ d : D, d.closed 0 = true → d.closed n = true
  | .ref l, h => by simp [D.closed] at h
  | .tup ds, h => by rw [D.closed] at h ⊢; exact clL_up ds h
  | .lst ds, h => by rw [D.closed] at h ⊢; exact clL_up ds h
  | .dct _ ds, h => by rw [D.closed] at h ⊢; exact clL_up ds h
  | .obj _ _ ds, h => by rw [D.closed] at h ⊢; exact clL_up ds h
  | .non, _ => rfl | .bl _, _ => rfl | .int _, _ => rfl | .str _, _ => rfl | .ty _, _ => rfl | .glo _, _ => rfl | .scr _, _ => rfl
theorem clL_up {n : Nat} : ∀ ds : List D, closedL 0 ds = true → closedL n ds = true
  | [], _ => rfl
  | d :: ds, h => by
    rw [closedL, Bool.and_eq_true] at h ⊢
    exact ⟨cl_up d h.1, clL_up ds h.2⟩
end
theorem O_up {n : Nat} : ∀ o : O, o.closed 0 = true → o.closed n = true
  | .lst ds, h => clL_up ds h
  | .dct _ ds, h => clL_up ds h
  | .ins _ _ ds, h => clL_up ds h
def E0 (E : Sto) : Prop := E.all (O.closed 0) = true
structure Sg where
  g : List Int
  r : Int
  u : Int
def stO (cs : List Int) (s : Sg) (E : Sto) : Sto := .lst (s.g.map .int) :: .dct [.inr "great", .inr "cells", .inr "rest", .inr "turn"] [.ref 0, .lst (cs.map .int), .int s.r, .int s.u] :: E
section
variable (cs : List Int) (s : Sg) (E : Sto)
theorem ix_great : idxD (.ref 1) (.str "great") (stO cs s E) = .ok (.ref 0) (stO cs s E) := rfl
theorem ix_rest : idxD (.ref 1) (.str "rest") (stO cs s E) = .ok (.int s.r) (stO cs s E) := rfl
theorem ix_turn : idxD (.ref 1) (.str "turn") (stO cs s E) = .ok (.int s.u) (stO cs s E) := rfl
theorem ix_cells : idxD (.ref 1) (.str "cells") (stO cs s E) = .ok (.lst (cs.map .int)) (stO cs s E) := rfl
theorem it_lst (ds : List D) (S : Sto) : itD S (.lst ds) = .ok (ds, none) S := rfl
theorem it_tup (ds : List D) (S : Sto) : itD S (.tup ds) = .ok (ds, none) S := rfl
theorem se_rest (i : Int) : setD (.ref 1) (.str "rest") (.int i) (stO cs s E) = some (stO cs { s with r := i } E) := rfl
theorem se_turn (i : Int) : setD (.ref 1) (.str "turn") (.int i) (stO cs s E) = some (stO cs { s with u := i } E) := rfl
theorem po_great (g : List Int) (i r u : Int) : mtD "pop" (.ref 0) [.int 0] (stO cs ⟨i :: g, r, u⟩ E) = .ok (.int i) (stO cs ⟨g, r, u⟩ E) := rfl
theorem ints_py : ∀ g : List Int, toPyL (g.map .int) = some (g.map .int)
  | [] => rfl
  | i :: g => by rw [List.map_cons, toPyL, ints_py g]; rfl
theorem ne_great : cmpD .NotEq (.ref 0) (.lst []) (stO cs s E) = .ok (D.bl (decide (s.g ≠ []))) (stO cs s E) := by
  have : cmp1 .NotEq (.lst (s.g.map .int)) (.lst []) = some (decide (s.g ≠ [])) := by
    unfold cmp1 eqD
    rw [toPy, ints_py, toPy, toPyL]
    show (if min (PyData.depth (.list (s.g.map .int))) (PyData.depth (.list [])) ≤ 60 then some _ else none : Option Bool).map not = _
    rw [if_pos (Nat.le_trans (Nat.min_le_right _ _) (by decide))]
    cases s.g <;> rfl
  show (match cmp1 .NotEq (.lst (s.g.map .int)) (.lst []) with
    | some b => R.ok (D.bl b) (stO cs s E)
    | none => .bad) = _
  rw [this]
theorem rc_great : rcvB "pop" (flat (stO cs s E) (.ref 0)) = true := rfl
theorem le_st : (stO cs s E).length = E.length + 2 := rfl
theorem st_Cl (h : E0 E) : Cl0 (stO cs s E) := by
  have cl : ∀ (n : Nat) (g : List Int), closedL n (g.map D.int) = true := by
    intro n g
    induction g with
    | nil => rfl
    | cons i g h => exact h
  have he : E.all (O.closed (E.length + 2)) = true := by
    rw [List.all_eq_true]
    intro o ho
    exact O_up o (List.all_eq_true.mp h o ho)
  show (stO cs s E).all (O.closed (E.length + 2)) = true
  unfold stO
  simp [O.closed, closedL, D.closed, cl, he]
end
section
variable {k : Nat}
theorem small_of {i : Int} (h1 : -(2 ^ 64) < i) (h2 : i < 2 ^ 64) : smallF i = true := by unfold smallF; simp; omega
def mixI (cs : List Int) (s : Sg) (E : Sto) (e : En) (S : Sto) : Prop := S = stO cs s E ∧ ∃ f a b c, e = [some (.ref 1), some (.int s.u), some (.int f), a, b, c]
def mixJ (cs : List Int) (s : Sg) (E : Sto) (f p : Int) (e : En) (S : Sto) : Prop := S = stO cs s E ∧ ∃ b c, smallF b = true ∧ e = [some (.ref 1), some (.int s.u), some (.int f), some (.int p), some (.int b), c]
def primes : List D := [.int 2147483629, .int 2147483587, .int 2147483579, .int 2147483563, .int 2147483549, .int 2147483543]
theorem mixed_body (cs : List Int) (s : Sg) (E : Sto) (hu : 0 ≤ s.u) (hv : s.u < 2 ^ 40) :
    ∃ i, evSs d_law_mixed.body (mk3 T.sta T.tb k).1 [some (.ref 1), none, none, none, none, none] (stO cs s E) = .ok (.ret (.int i)) (stO cs { s with u := s.u + 1 } E) := by
  unfold d_law_mixed
  simp only [evSs, evS.eq_1, evS.eq_2, evS.eq_3, evS.eq_4, evS.eq_5, evS.eq_7, evS.eq_8, evS.eq_9, evS.eq_10, evE.eq_1, evE.eq_2, evE.eq_3, evE.eq_4, evE.eq_5, evE.eq_6, evE.eq_7, evE.eq_8, evE.eq_9, evE.eq_10, evE.eq_11, evE.eq_12, evE.eq_13, evE.eq_14, evE.eq_15, evE.eq_16, evE.eq_17, evE.eq_18, evE.eq_19, evE.eq_20, evE.eq_21, evE.eq_22, evE.eq_23, evL, evO, evC, R_ok, bS_ok, tk_cold, List.getElem?_cons_zero, List.getElem?_cons_succ, conD, List.set_cons_zero, List.set_cons_succ, Option.some.injEq, eq_int, ix_great, ix_rest, ix_turn, ix_cells, se_rest, se_turn, po_great, ne_great, ne_eq, reduceCtorEq, not_true_eq_false, not_false_eq_true, decide_true, decide_false, rc_great, le_st, it_lst, it_tup, ad_int, su_int, lt_int, gt_int, ge_int, le_int, in_int, in_bl, evI, ↓reduceIte, sz0, sz1, sz2, sz3, sz4, sz5, sz6, sz7, sz8, sz9, sz10, List.zip_nil_left, Bool.false_eq_true, Bool.not_true, Bool.not_false, ]
  generalize hq : evS (Sm.loop _ _ _) _ _ _ = q
  obtain ⟨s2, S2, rfl, rfl, f, a, b, c, rfl⟩ := loop_inv (P := mixI cs { s with u := s.u + 1 } E) (ds := primes) hq (tk_cold k) (by simp only [evSs, evS.eq_1, evS.eq_2, evS.eq_3, evS.eq_4, evS.eq_5, evS.eq_7, evS.eq_8, evS.eq_9, evS.eq_10, evE.eq_1, evE.eq_2, evE.eq_3, evE.eq_4, evE.eq_5, evE.eq_6, evE.eq_7, evE.eq_8, evE.eq_9, evE.eq_10, evE.eq_11, evE.eq_12, evE.eq_13, evE.eq_14, evE.eq_15, evE.eq_16, evE.eq_17, evE.eq_18, evE.eq_19, evE.eq_20, evE.eq_21, evE.eq_22, evE.eq_23, evL, evO, evC, R_ok, bS_ok, tk_cold, List.getElem?_cons_zero, List.getElem?_cons_succ, conD, List.set_cons_zero, List.set_cons_succ, Option.some.injEq, eq_int, ix_great, ix_rest, ix_turn, ix_cells, se_rest, se_turn, po_great, ne_great, ne_eq, reduceCtorEq, not_true_eq_false, not_false_eq_true, decide_true, decide_false, rc_great, le_st, it_lst, it_tup, ad_int, su_int, lt_int, gt_int, ge_int, le_int, in_int, in_bl, evI, ↓reduceIte, sz0, sz1, sz2, sz3, sz4, sz5, sz6, sz7, sz8, sz9, sz10, List.zip_nil_left, Bool.false_eq_true, Bool.not_true, Bool.not_false, ]; rfl) (by
    rintro d hd e S ⟨rfl, f, a, b, c, rfl⟩
    have hp : ∃ p : Int, d = .int p ∧ 0 < p ∧ p < 2147483648 := by
      simp only [primes, List.mem_cons, List.not_mem_nil, or_false] at hd
      rcases hd with h | h | h | h | h | h <;> exact ⟨_, h, by decide, by decide⟩
    obtain ⟨p, rfl, hp1, hp2⟩ := hp
    refine ⟨_, rfl, ?_⟩
    simp only [evSs, evS.eq_1, evS.eq_2, evS.eq_3, evS.eq_4, evS.eq_5, evS.eq_7, evS.eq_8, evS.eq_9, evS.eq_10, evE.eq_1, evE.eq_2, evE.eq_3, evE.eq_4, evE.eq_5, evE.eq_6, evE.eq_7, evE.eq_8, evE.eq_9, evE.eq_10, evE.eq_11, evE.eq_12, evE.eq_13, evE.eq_14, evE.eq_15, evE.eq_16, evE.eq_17, evE.eq_18, evE.eq_19, evE.eq_20, evE.eq_21, evE.eq_22, evE.eq_23, evL, evO, evC, R_ok, bS_ok, tk_cold, List.getElem?_cons_zero, List.getElem?_cons_succ, conD, List.set_cons_zero, List.set_cons_succ, Option.some.injEq, eq_int, ix_great, ix_rest, ix_turn, ix_cells, se_rest, se_turn, po_great, ne_great, ne_eq, reduceCtorEq, not_true_eq_false, not_false_eq_true, decide_true, decide_false, rc_great, le_st, it_lst, it_tup, ad_int, su_int, lt_int, gt_int, ge_int, le_int, in_int, in_bl, evI, ↓reduceIte, sz0, sz1, sz2, sz3, sz4, sz5, sz6, sz7, sz8, sz9, sz10, List.zip_nil_left, Bool.false_eq_true, Bool.not_true, Bool.not_false, mu_int _ (show (smallF 130363 || smallF (s.u + 1)) = true from rfl), fd_int _ (show (0 : Int) < 13 by decide) (show (13 : Int) < 1073741824 by decide)]
    clear hq
    generalize hq : evS (Sm.loop _ _ _) _ _ _ = q
    obtain ⟨s2, S2, rfl, rfl, b, c, hb, rfl⟩ := loop_inv (P := mixJ cs { s with u := s.u + 1 } E f p) (ds := cs.map .int) hq (tk_cold k) (by simp only [evSs, evS.eq_1, evS.eq_2, evS.eq_3, evS.eq_4, evS.eq_5, evS.eq_7, evS.eq_8, evS.eq_9, evS.eq_10, evE.eq_1, evE.eq_2, evE.eq_3, evE.eq_4, evE.eq_5, evE.eq_6, evE.eq_7, evE.eq_8, evE.eq_9, evE.eq_10, evE.eq_11, evE.eq_12, evE.eq_13, evE.eq_14, evE.eq_15, evE.eq_16, evE.eq_17, evE.eq_18, evE.eq_19, evE.eq_20, evE.eq_21, evE.eq_22, evE.eq_23, evL, evO, evC, R_ok, bS_ok, tk_cold, List.getElem?_cons_zero, List.getElem?_cons_succ, conD, List.set_cons_zero, List.set_cons_succ, Option.some.injEq, eq_int, ix_great, ix_rest, ix_turn, ix_cells, se_rest, se_turn, po_great, ne_great, ne_eq, reduceCtorEq, not_true_eq_false, not_false_eq_true, decide_true, decide_false, rc_great, le_st, it_lst, it_tup, ad_int, su_int, lt_int, gt_int, ge_int, le_int, in_int, in_bl, evI, ↓reduceIte, sz0, sz1, sz2, sz3, sz4, sz5, sz6, sz7, sz8, sz9, sz10, List.zip_nil_left, Bool.false_eq_true, Bool.not_true, Bool.not_false, ]) (by
      rintro d hd e S ⟨rfl, b, c, hb, rfl⟩
      obtain ⟨z, hz, rfl⟩ := List.mem_map.mp hd
      refine ⟨_, rfl, ?_⟩
      simp only [evSs, evS.eq_1, evS.eq_2, evS.eq_3, evS.eq_4, evS.eq_5, evS.eq_7, evS.eq_8, evS.eq_9, evS.eq_10, evE.eq_1, evE.eq_2, evE.eq_3, evE.eq_4, evE.eq_5, evE.eq_6, evE.eq_7, evE.eq_8, evE.eq_9, evE.eq_10, evE.eq_11, evE.eq_12, evE.eq_13, evE.eq_14, evE.eq_15, evE.eq_16, evE.eq_17, evE.eq_18, evE.eq_19, evE.eq_20, evE.eq_21, evE.eq_22, evE.eq_23, evL, evO, evC, R_ok, bS_ok, tk_cold, List.getElem?_cons_zero, List.getElem?_cons_succ, conD, List.set_cons_zero, List.set_cons_succ, Option.some.injEq, eq_int, ix_great, ix_rest, ix_turn, ix_cells, se_rest, se_turn, po_great, ne_great, ne_eq, reduceCtorEq, not_true_eq_false, not_false_eq_true, decide_true, decide_false, rc_great, le_st, it_lst, it_tup, ad_int, su_int, lt_int, gt_int, ge_int, le_int, in_int, in_bl, evI, ↓reduceIte, sz0, sz1, sz2, sz3, sz4, sz5, sz6, sz7, sz8, sz9, sz10, List.zip_nil_left, Bool.false_eq_true, Bool.not_true, Bool.not_false, mu_int _ (show (smallF b || smallF 48271) = true by rw [hb]; rfl), mo_int _ hp1]
      have h1 := Int.emod_nonneg (b * 48271 + z) (by omega : p ≠ 0)
      have h2 := Int.emod_lt_of_pos (b * 48271 + z) hp1
      exact ⟨_, _, rfl, rfl, _, _, small_of (by omega) (by omega), rfl⟩) ⟨rfl, _, _, small_of (by omega) (by omega), rfl⟩
    simp only [evSs, evS.eq_1, evS.eq_2, evS.eq_3, evS.eq_4, evS.eq_5, evS.eq_7, evS.eq_8, evS.eq_9, evS.eq_10, evE.eq_1, evE.eq_2, evE.eq_3, evE.eq_4, evE.eq_5, evE.eq_6, evE.eq_7, evE.eq_8, evE.eq_9, evE.eq_10, evE.eq_11, evE.eq_12, evE.eq_13, evE.eq_14, evE.eq_15, evE.eq_16, evE.eq_17, evE.eq_18, evE.eq_19, evE.eq_20, evE.eq_21, evE.eq_22, evE.eq_23, evL, evO, evC, R_ok, bS_ok, tk_cold, List.getElem?_cons_zero, List.getElem?_cons_succ, conD, List.set_cons_zero, List.set_cons_succ, Option.some.injEq, eq_int, ix_great, ix_rest, ix_turn, ix_cells, se_rest, se_turn, po_great, ne_great, ne_eq, reduceCtorEq, not_true_eq_false, not_false_eq_true, decide_true, decide_false, rc_great, le_st, it_lst, it_tup, ad_int, su_int, lt_int, gt_int, ge_int, le_int, in_int, in_bl, evI, ↓reduceIte, sz0, sz1, sz2, sz3, sz4, sz5, sz6, sz7, sz8, sz9, sz10, List.zip_nil_left, Bool.false_eq_true, Bool.not_true, Bool.not_false, mu_int _ (show (smallF f || smallF 2147483647) = true by rw [Bool.or_eq_true]; exact .inr rfl), mo_int _ hp1, po_int _ (show (0 : Int) ≤ 5 by decide) (show (5 : Int) ≤ 1000 by decide) hb]
    exact ⟨_, _, rfl, rfl, _, _, _, _, rfl⟩) ⟨rfl, 0, none, none, none, rfl⟩
  exact ⟨f, by simp only [evSs, evS.eq_1, evS.eq_2, evS.eq_3, evS.eq_4, evS.eq_5, evS.eq_7, evS.eq_8, evS.eq_9, evS.eq_10, evE.eq_1, evE.eq_2, evE.eq_3, evE.eq_4, evE.eq_5, evE.eq_6, evE.eq_7, evE.eq_8, evE.eq_9, evE.eq_10, evE.eq_11, evE.eq_12, evE.eq_13, evE.eq_14, evE.eq_15, evE.eq_16, evE.eq_17, evE.eq_18, evE.eq_19, evE.eq_20, evE.eq_21, evE.eq_22, evE.eq_23, evL, evO, evC, R_ok, bS_ok, tk_cold, List.getElem?_cons_zero, List.getElem?_cons_succ, conD, List.set_cons_zero, List.set_cons_succ, Option.some.injEq, eq_int, ix_great, ix_rest, ix_turn, ix_cells, se_rest, se_turn, po_great, ne_great, ne_eq, reduceCtorEq, not_true_eq_false, not_false_eq_true, decide_true, decide_false, rc_great, le_st, it_lst, it_tup, ad_int, su_int, lt_int, gt_int, ge_int, le_int, in_int, in_bl, evI, ↓reduceIte, sz0, sz1, sz2, sz3, sz4, sz5, sz6, sz7, sz8, sz9, sz10, List.zip_nil_left, Bool.false_eq_true, Bool.not_true, Bool.not_false, ]⟩
theorem take_body (cs : List Int) (s : Sg) (E : Sto) (n : Int) (hn : 0 < n) (hn2 : n < 1073741824) (hm : ∀ s : Sg, 0 ≤ s.u → s.u < 2 ^ 40 → ∃ i, (mk3 T.sta T.tb k).1.C "_law_mixed" [.ref 1] [] (stO cs s E) = .ok (.int i) (stO cs { s with u := s.u + 1 } E)) (h0 : 0 ≤ s.u) (hu : s.u < 2 ^ 40) :
    ∃ i s', (i = 0 ∨ 0 < i) ∧ i < n ∧ s'.u ≤ s.u + 1 ∧ s.u ≤ s'.u ∧ evSs d_law_take.body (mk3 T.sta T.tb k).1 [some (.ref 1), some (.int n), none] (stO cs s E) = .ok (.ret (.int i)) (stO cs s' E) := by
  have m1 : ∀ a : Int, (a % n = 0 ∨ 0 < a % n) ∧ a % n < n := fun a => ⟨by have := Int.emod_nonneg a (by omega : n ≠ 0); omega, Int.emod_lt_of_pos a hn⟩
  obtain ⟨g, r, u⟩ := s
  unfold d_law_take
  by_cases e : r = 0
  · cases g with
    | nil =>
      obtain ⟨j, hj⟩ := hm ⟨[], r, u⟩ h0 hu
      refine ⟨j % n, ⟨[], j / n, u + 1⟩, (m1 j).1, (m1 j).2, Int.le_refl _, by show u ≤ u + 1; omega, ?_⟩
      have e1 : decide (r = 0) = true := decide_eq_true e
      simp only [evSs, evS.eq_1, evS.eq_2, evS.eq_3, evS.eq_4, evS.eq_5, evS.eq_7, evS.eq_8, evS.eq_9, evS.eq_10, evE.eq_1, evE.eq_2, evE.eq_3, evE.eq_4, evE.eq_5, evE.eq_6, evE.eq_7, evE.eq_8, evE.eq_9, evE.eq_10, evE.eq_11, evE.eq_12, evE.eq_13, evE.eq_14, evE.eq_15, evE.eq_16, evE.eq_17, evE.eq_18, evE.eq_19, evE.eq_20, evE.eq_21, evE.eq_22, evE.eq_23, evL, evO, evC, R_ok, bS_ok, tk_cold, List.getElem?_cons_zero, List.getElem?_cons_succ, conD, List.set_cons_zero, List.set_cons_succ, Option.some.injEq, eq_int, ix_great, ix_rest, ix_turn, ix_cells, se_rest, se_turn, po_great, ne_great, ne_eq, reduceCtorEq, not_true_eq_false, not_false_eq_true, decide_true, decide_false, rc_great, le_st, it_lst, it_tup, ad_int, su_int, lt_int, gt_int, ge_int, le_int, in_int, in_bl, evI, ↓reduceIte, sz0, sz1, sz2, sz3, sz4, sz5, sz6, sz7, sz8, sz9, sz10, List.zip_nil_left, Bool.false_eq_true, Bool.not_true, Bool.not_false, e1, hj, in_int, mo_int _ hn, fd_int _ hn hn2]
    | cons i g =>
      refine ⟨i % n, ⟨g, i / n, u⟩, (m1 i).1, (m1 i).2, by show u ≤ u + 1; omega, Int.le_refl _, ?_⟩
      have e1 : decide (r = 0) = true := decide_eq_true e
      simp only [evSs, evS.eq_1, evS.eq_2, evS.eq_3, evS.eq_4, evS.eq_5, evS.eq_7, evS.eq_8, evS.eq_9, evS.eq_10, evE.eq_1, evE.eq_2, evE.eq_3, evE.eq_4, evE.eq_5, evE.eq_6, evE.eq_7, evE.eq_8, evE.eq_9, evE.eq_10, evE.eq_11, evE.eq_12, evE.eq_13, evE.eq_14, evE.eq_15, evE.eq_16, evE.eq_17, evE.eq_18, evE.eq_19, evE.eq_20, evE.eq_21, evE.eq_22, evE.eq_23, evL, evO, evC, R_ok, bS_ok, tk_cold, List.getElem?_cons_zero, List.getElem?_cons_succ, conD, List.set_cons_zero, List.set_cons_succ, Option.some.injEq, eq_int, ix_great, ix_rest, ix_turn, ix_cells, se_rest, se_turn, po_great, ne_great, ne_eq, reduceCtorEq, not_true_eq_false, not_false_eq_true, decide_true, decide_false, rc_great, le_st, it_lst, it_tup, ad_int, su_int, lt_int, gt_int, ge_int, le_int, in_int, in_bl, evI, ↓reduceIte, sz0, sz1, sz2, sz3, sz4, sz5, sz6, sz7, sz8, sz9, sz10, List.zip_nil_left, Bool.false_eq_true, Bool.not_true, Bool.not_false, e1, in_int, mo_int _ hn, fd_int _ hn hn2]
  · refine ⟨r % n, ⟨g, r / n, u⟩, (m1 r).1, (m1 r).2, by show u ≤ u + 1; omega, Int.le_refl _, ?_⟩
    have e1 : decide (r = 0) = false := decide_eq_false e
    simp only [evSs, evS.eq_1, evS.eq_2, evS.eq_3, evS.eq_4, evS.eq_5, evS.eq_7, evS.eq_8, evS.eq_9, evS.eq_10, evE.eq_1, evE.eq_2, evE.eq_3, evE.eq_4, evE.eq_5, evE.eq_6, evE.eq_7, evE.eq_8, evE.eq_9, evE.eq_10, evE.eq_11, evE.eq_12, evE.eq_13, evE.eq_14, evE.eq_15, evE.eq_16, evE.eq_17, evE.eq_18, evE.eq_19, evE.eq_20, evE.eq_21, evE.eq_22, evE.eq_23, evL, evO, evC, R_ok, bS_ok, tk_cold, List.getElem?_cons_zero, List.getElem?_cons_succ, conD, List.set_cons_zero, List.set_cons_succ, Option.some.injEq, eq_int, ix_great, ix_rest, ix_turn, ix_cells, se_rest, se_turn, po_great, ne_great, ne_eq, reduceCtorEq, not_true_eq_false, not_false_eq_true, decide_true, decide_false, rc_great, le_st, it_lst, it_tup, ad_int, su_int, lt_int, gt_int, ge_int, le_int, in_int, in_bl, evI, ↓reduceIte, sz0, sz1, sz2, sz3, sz4, sz5, sz6, sz7, sz8, sz9, sz10, List.zip_nil_left, Bool.false_eq_true, Bool.not_true, Bool.not_false, e1, in_int, mo_int _ hn, fd_int _ hn hn2]
end
end K01

set_option Elab.async false
set_option linter.all false
set_option maxRecDepth 100000
set_option maxHeartbeats 4000000
namespace K01
open PySem Fw
theorem C_ret {k : Nat} {f : Str} {d : Df} (h : T.tb f = some d) (hl : d.lam = false) {ds ds' : List D} {kws : List (Str × D)} {S S' : Sto} {r : D} (hs : decide ((ds.length, kws.map (·.1)) ∈ d.shapes) = true) (hb : bindG d.ps ds kws = some ds')
    (hq : evSs d.body (mk3 T.sta T.tb k).1 (startD d.N ds') S = .ok (.ret r) S') (hn : S'.length = S.length) (ht : top S.length S' r = r) : (mk3 T.sta T.tb (k + 1)).1.C f ds kws S = .ok r S' := by
  refine C_succ h hl (r_df (S' := S) hs hb hq ?_)
  exact gc_eq hn ht
theorem at_mem {α : Type} {ds : List α} {i : Int} (h0 : 0 ≤ i) (h1 : i < ds.length) : ∃ d, d ∈ ds ∧ L2.atI ds i = some d := by
  have hj : i.toNat < ds.length := by omega
  refine ⟨ds[i.toNat], List.getElem_mem _, ?_⟩
  unfold L2.atI L2.ixN
  rw [if_pos h0, if_pos h1]
  exact List.getElem?_eq_getElem hj
theorem idx_mem {ds : List D} {i : Int} {S : Sto} (h0 : 0 ≤ i) (h1 : i < ds.length) : ∃ d, d ∈ ds ∧ idxD (.lst ds) (.int i) S = .ok d S := by
  obtain ⟨d, hd, e⟩ := at_mem h0 h1
  refine ⟨d, hd, ?_⟩
  show (match L2.atI ds i with
    | some d => R.ok d S
    | none => .bad) = _
  rw [e]
theorem idx_memT {ds : List D} {i : Int} {S : Sto} (h0 : 0 ≤ i) (h1 : i < ds.length) : ∃ d, d ∈ ds ∧ idxD (.tup ds) (.int i) S = .ok d S := by
  obtain ⟨d, hd, e⟩ := at_mem h0 h1
  refine ⟨d, hd, ?_⟩
  show (match L2.atI ds i with
    | some d => R.ok d S
    | none => .bad) = _
  rw [e]
def notRef : D → Bool
  | .ref _ => false
  | _ => true
theorem top_nr {n : Nat} {S : Sto} {d : D} (h : notRef d = true) : top n S d = d := by
  cases d <;> first | rfl | (simp [notRef] at h)
theorem tu_lst (t : Sta) (ds : List D) (S : Sto) : biD t "tuple" [.lst ds] S = .ok (.tup ds) S := rfl
section
variable (cs : List Int)
theorem mixed_ok {k : Nat} (hk : 1 ≤ k) (s : Sg) (E : Sto) (hu : 0 ≤ s.u) (hv : s.u < 2 ^ 40) : ∃ i, (mk3 T.sta T.tb k).1.C "_law_mixed" [.ref 1] [] (stO cs s E) = .ok (.int i) (stO cs { s with u := s.u + 1 } E) := by
  obtain ⟨j, rfl⟩ : ∃ j, k = j + 1 := ⟨k - 1, by omega⟩
  obtain ⟨i, hi⟩ := mixed_body (k := j) cs s E hu hv
  exact ⟨i, C_ret rfl rfl rfl rfl hi rfl rfl⟩
theorem take_ok {k : Nat} (hk : 2 ≤ k) (s : Sg) (E : Sto) (n : Int) (hn : 0 < n) (hn2 : n < 1073741824) (h0 : 0 ≤ s.u) (hu : s.u < 2 ^ 40) :
    ∃ i s', 0 ≤ i ∧ i < n ∧ s'.u ≤ s.u + 1 ∧ s.u ≤ s'.u ∧ (mk3 T.sta T.tb k).1.C "_law_take" [.ref 1, .int n] [] (stO cs s E) = .ok (.int i) (stO cs s' E) := by
  obtain ⟨j, rfl⟩ : ∃ j, k = j + 1 := ⟨k - 1, by omega⟩
  obtain ⟨i, s', h1, h2, h3, h4, hi⟩ := take_body (k := j) cs s E n hn hn2 (fun s h0 hu => mixed_ok cs (by omega) s E h0 hu) h0 hu
  exact ⟨i, s', by omega, h2, h3, h4, C_ret rfl rfl rfl rfl hi rfl rfl⟩
theorem len_lst (t : Sta) (ds : List D) (S : Sto) : biD t "len" [.lst ds] S = .ok (.int ds.length) S := rfl
theorem len_tup (t : Sta) (ds : List D) (S : Sto) : biD t "len" [.tup ds] S = .ok (.int ds.length) S := rfl
theorem take_q {k : Nat} (hk : 2 ≤ k) {s : Sg} {E : Sto} {n : Int} {q : R D} (hq : (mk3 T.sta T.tb k).1.C "_law_take" [.ref 1, .int n] [] (stO cs s E) = q) (hn : 0 < n) (hn2 : n < 1073741824) (h0 : 0 ≤ s.u) (hu : s.u < 2 ^ 40) :
    ∃ i s', 0 ≤ i ∧ i < n ∧ s'.u ≤ s.u + 1 ∧ s.u ≤ s'.u ∧ q = .ok (.int i) (stO cs s' E) := by
  obtain ⟨i, s', h1, h2, h3, h4, h5⟩ := take_ok cs hk s E n hn hn2 h0 hu
  exact ⟨i, s', h1, h2, h3, h4, hq.symm.trans h5⟩
theorem pick_q {k : Nat} (hk : 3 ≤ k) {s : Sg} {E : Sto} {ds : List D} {q : R D} (hq : (mk3 T.sta T.tb k).1.C "_law_pick" [.ref 1, .lst ds] [] (stO cs s E) = q) (hn : 0 < ds.length) (hn2 : ds.length < 1000) (hr : ∀ d, d ∈ ds → notRef d = true) (h0 : 0 ≤ s.u) (hu : s.u < 2 ^ 40) :
    ∃ d s', d ∈ ds ∧ s'.u ≤ s.u + 1 ∧ s.u ≤ s'.u ∧ q = .ok d (stO cs s' E) := by
  obtain ⟨j, rfl⟩ : ∃ j, k = j + 1 := ⟨k - 1, by omega⟩
  obtain ⟨i, s', h1, h2, h3, h4, hi⟩ := take_ok cs (k := j) (by omega) s E ds.length (by omega) (by omega) h0 hu
  obtain ⟨d, hd, he⟩ := idx_mem (S := stO cs s' E) h1 h2
  refine ⟨d, s', hd, h3, h4, hq.symm.trans (C_ret (ds' := [.ref 1, .lst ds]) rfl rfl rfl rfl ?_ rfl (top_nr (hr d hd)))⟩
  show evSs d_law_pick.body _ [some (.ref 1), some (.lst ds)] _ = _
  unfold d_law_pick
  simp only [evSs, evS.eq_1, evS.eq_2, evS.eq_3, evS.eq_4, evS.eq_5, evS.eq_7, evS.eq_8, evS.eq_9, evS.eq_10, evE.eq_1, evE.eq_2, evE.eq_3, evE.eq_4, evE.eq_5, evE.eq_6, evE.eq_7, evE.eq_8, evE.eq_9, evE.eq_10, evE.eq_11, evE.eq_12, evE.eq_13, evE.eq_14, evE.eq_15, evE.eq_16, evE.eq_17, evE.eq_18, evE.eq_19, evE.eq_20, evE.eq_21, evE.eq_22, evE.eq_23, evL, evO, evC, R_ok, bS_ok, tk_cold, List.getElem?_cons_zero, List.getElem?_cons_succ, conD, List.set_cons_zero, List.set_cons_succ, Option.some.injEq, eq_int, ix_great, ix_rest, ix_turn, ix_cells, se_rest, se_turn, po_great, ne_great, ne_eq, reduceCtorEq, not_true_eq_false, not_false_eq_true, decide_true, decide_false, rc_great, le_st, it_lst, it_tup, ad_int, su_int, lt_int, gt_int, ge_int, le_int, in_int, in_bl, evI, ↓reduceIte, sz0, sz1, sz2, sz3, sz4, sz5, sz6, sz7, sz8, sz9, sz10, List.zip_nil_left, Bool.false_eq_true, Bool.not_true, Bool.not_false, len_lst, hi, he]
end
/-! values -/
def atB : D → Bool
  | .non => true
  | .bl _ => true
  | .int _ => true
  | .str _ => true
  | _ => false
def Vn (w : Nat) : Nat → D → Prop
  | 0, d => atB d = true
  | n + 1, d => atB d = true ∨ ∃ ds : List D, d = .tup ds ∧ ds.length ≤ w ∧ ∀ e, e ∈ ds → Vn w n e
theorem Vn.at_ {w n : Nat} {d : D} (h : atB d = true) : Vn w n d := by
  cases n with
  | zero => exact h
  | succ n => exact .inl h
theorem Vn.up {w v : Nat} (hw : w ≤ v) : ∀ {n m : Nat} {d : D}, n ≤ m → Vn w n d → Vn v m d
  | 0, m, d, _, h => Vn.at_ h
  | n + 1, 0, d, hm, h => by omega
  | n + 1, m + 1, d, hm, h => by
    rcases h with h | ⟨ds, rfl, h1, h2⟩
    · exact .inl h
    · exact .inr ⟨ds, rfl, by omega, fun e he => Vn.up hw (by omega) (h2 e he)⟩
theorem clL_of {n : Nat} : ∀ {ds : List D}, (∀ e, e ∈ ds → e.closed n = true) → closedL n ds = true
  | [], _ => rfl
  | d :: ds, h => by
    rw [closedL, h d List.mem_cons_self, clL_of (fun e he => h e (List.mem_cons_of_mem _ he))]
    rfl
theorem at_cl {d : D} {n : Nat} (h : atB d = true) : d.closed n = true := by
  cases d <;> first | rfl | (simp [atB] at h)
theorem Vn.cl {w m : Nat} : ∀ {n : Nat} {d : D}, Vn w n d → d.closed m = true
  | 0, d, h => at_cl h
  | n + 1, d, h => by
    rcases h with h | ⟨ds, rfl, h1, h2⟩
    · exact at_cl h
    · rw [D.closed]
      exact clL_of fun e he => (h2 e he).cl
/-! a comprehension whose turns change the store -/
theorem lc_inv {t : Sta} {own : List (Str × Nat)} {tg : Tg} {it : It1} {e : Ex} {s : En} {S S1 : Sto} {q : R D} {P : Nat → Sto → Prop} {Q : D → Prop} {ds : List D} (hq : evE t (.lc false own tg it .no e) s S = q) (hh : ∀ r : R D, t.cold r = r) (hi : evI t it s S = .ok (ds, none) S1)
    (hz : ds.length ≤ sizeLine) (hP : ∀ m S, P m S → S.length = S1.length) (hC : ∀ S, P 0 S → Cl0 S) (hQ : ∀ y, Q y → y.closed S1.length = true)
    (h : ∀ d acc S m, d ∈ ds → (∀ y, y ∈ acc → Q y) → P (m + 1) S → ∃ s2, tgD tg d (wipeD s (own.map (·.2))) = some s2 ∧ ∃ y S', evE t.blk e s2 (S ++ [O.lst acc]) = .ok y (S' ++ [O.lst acc]) ∧ P m S' ∧ Q y) (p : P ds.length S1) :
    ∃ acc S', q = .ok (.lst acc) S' ∧ acc.length = ds.length ∧ (∀ y, y ∈ acc → Q y) ∧ P 0 S' := by
  have go : ∀ (es acc : List D) (S : Sto), (∀ d, d ∈ es → d ∈ ds) → acc.length + es.length ≤ sizeLine → (∀ y, y ∈ acc → Q y) → P es.length S →
      ∃ acc' S', lcGo S1.length ds none (stF tg (own.map (·.2)) (evC t.blk .no) (evE t.blk e) s) es (S ++ [O.lst acc]) = .ok () (S' ++ [O.lst acc']) ∧ acc'.length = acc.length + es.length ∧ (∀ y, y ∈ acc' → Q y) ∧ P 0 S' := by
    intro es
    induction es with
    | nil => exact fun acc S _ _ ha hp => ⟨acc, S, by rw [lcGo]; exact if_pos rfl, rfl, ha, hp⟩
    | cons d es ih =>
      intro acc S hm hz ha hp
      obtain ⟨s2, e1, y, S', e2, hp', hy⟩ := h d acc S es.length (hm d List.mem_cons_self) ha hp
      have l' := hP _ _ hp'
      have e3 : (S' ++ [O.lst acc])[S1.length]? = some (O.lst acc) := by rw [← l']; simp
      have hl : acc.length < sizeLine := by simp only [List.length_cons] at hz; omega
      have e4 : (S' ++ [O.lst acc]).set S1.length (O.lst (acc ++ [y])) = S' ++ [O.lst (acc ++ [y])] := by rw [← l']; simp
      obtain ⟨acc', S2, q1, q2, q3, q4⟩ := ih (acc ++ [y]) S' (fun d hd => hm d (List.mem_cons_of_mem _ hd)) (by simp only [List.length_cons, List.length_append, List.length_nil] at hz ⊢; omega) (fun z hz => by
        rcases List.mem_append.mp hz with h | h
        · exact ha z h
        · rw [List.mem_singleton.mp h]; exact hy) hp'
      refine ⟨acc', S2, ?_, by rw [q2]; simp only [List.length_cons, List.length_append, List.length_nil]; omega, q3, q4⟩
      have st : stF tg (own.map (·.2)) (evC t.blk .no) (evE t.blk e) s d (S ++ [O.lst acc]) = .ok (some y) (S' ++ [O.lst acc]) := by
        unfold stF
        rw [e1]
        show noX ((evC t.blk .no s2 (S ++ [O.lst acc])).bind _) = _
        rw [evC]
        show noX ((evE t.blk e s2 (S ++ [O.lst acc])).bind fun y S4 => .ok (some y) S4) = _
        rw [e2]
        rfl
      rw [lcGo]
      refine (if_pos rfl).trans ?_
      rw [st]
      show (match (S' ++ [O.lst acc])[S1.length]? with
        | some (O.lst acc') => if acc'.length < sizeLine then lcGo S1.length ds none _ es ((S' ++ [O.lst acc]).set S1.length (.lst (acc' ++ [y]))) else .bad
        | _ => .bad) = _
      rw [e3]
      refine (if_pos hl).trans ?_
      rw [e4]
      exact q1
  obtain ⟨acc, S', q1, q2, q3, q4⟩ := go ds [] S1 (fun _ h => h) (by simpa using hz) (fun y hy => absurd hy List.not_mem_nil) p
  refine ⟨acc, S', ?_, by simpa using q2, q3, q4⟩
  rw [← hq, evE, hh, hi]
  show (lcGo S1.length ds none (stF tg (own.map (·.2)) (evC t.blk .no) (evE t.blk e) s) ds (S1 ++ [O.lst []])).bind _ = _
  rw [q1]
  have l' := hP _ _ q4
  show thaw S1.length (S' ++ [O.lst acc]) = _
  rw [← l']
  exact thaw_lst (hC _ q4) (by rw [l']; exact clL_of fun y hy => hQ y (q3 y hy))
section
variable (cs : List Int)
def cst : Nat → Int
  | 0 => 2
  | n + 1 => 2 + 2 * cst n
def rp (c : Int) : Nat → Int
  | 0 => 0
  | m + 1 => rp c m + c
theorem at_nr {d : D} (h : atB d = true) : notRef d = true := by cases d <;> first | rfl | (simp [atB] at h)
theorem Vn.nr {w n : Nat} {d : D} (h : Vn w n d) : notRef d = true := by
  cases n with
  | zero => exact at_nr h
  | succ n =>
    rcases h with h | ⟨ds, rfl, _⟩
    · exact at_nr h
    · rfl
theorem value_ok : ∀ (n : Nat) {k : Nat} (hk : n + 4 ≤ k) (s : Sg) (E : Sto), E0 E → 0 ≤ s.u → s.u + cst n < 2 ^ 40 →
    ∃ d s', Vn 2 n d ∧ s'.u ≤ s.u + cst n ∧ s.u ≤ s'.u ∧ (mk3 T.sta T.tb k).1.C "_law_value" [.ref 1, .int n] [] (stO cs s E) = .ok d (stO cs s' E)
  | n, k, hk, s, E, hE, h0, hu => by
    obtain ⟨j, rfl⟩ : ∃ j, k = j + 1 := ⟨k - 1, by omega⟩
    have hc : ∀ n, 2 ≤ cst n := by
      intro n
      induction n with
      | zero => exact Int.le_refl _
      | succ n ih => rw [cst]; omega
    have hcn := hc n
    suffices h : ∃ d s', Vn 2 n d ∧ s'.u ≤ s.u + cst n ∧ s.u ≤ s'.u ∧ evSs d_law_value.body (mk3 T.sta T.tb j).1 [some (.ref 1), some (.int n), none, none] (stO cs s E) = .ok (.ret d) (stO cs s' E) by
      obtain ⟨d, s', h1, h2, h3, h4⟩ := h
      exact ⟨d, s', h1, h2, h3, C_ret (ds' := [.ref 1, .int n]) rfl rfl rfl rfl h4 rfl (top_nr h1.nr)⟩
    unfold d_law_value
    simp only [evSs, evS.eq_1, evS.eq_2, evS.eq_3, evS.eq_4, evS.eq_5, evS.eq_7, evS.eq_8, evS.eq_9, evS.eq_10, evE.eq_1, evE.eq_2, evE.eq_3, evE.eq_4, evE.eq_5, evE.eq_6, evE.eq_7, evE.eq_8, evE.eq_9, evE.eq_10, evE.eq_11, evE.eq_12, evE.eq_13, evE.eq_14, evE.eq_15, evE.eq_16, evE.eq_17, evE.eq_18, evE.eq_19, evE.eq_20, evE.eq_21, evE.eq_22, evE.eq_23, evL, evO, evC, R_ok, bS_ok, tk_cold, List.getElem?_cons_zero, List.getElem?_cons_succ, conD, List.set_cons_zero, List.set_cons_succ, Option.some.injEq, eq_int, ix_great, ix_rest, ix_turn, ix_cells, se_rest, se_turn, po_great, ne_great, ne_eq, reduceCtorEq, not_true_eq_false, not_false_eq_true, decide_true, decide_false, rc_great, le_st, it_lst, it_tup, ad_int, su_int, lt_int, gt_int, ge_int, le_int, in_int, in_bl, evI, ↓reduceIte, sz0, sz1, sz2, sz3, sz4, sz5, sz6, sz7, sz8, sz9, sz10, List.zip_nil_left, Bool.false_eq_true, Bool.not_true, Bool.not_false, ]
    generalize hq : Sta.C _ (Str.ofString "_law_take") _ _ _ = q
    obtain ⟨i, s1, i1, i2, u1, u2, rfl⟩ := take_q cs (by omega) hq (by decide) (by decide) h0 (by omega)
    clear hq
    have p10 : ∀ S : Sto, binD .Pow (.int 10) (.int 39) S = .ok (.int (10 ^ 39)) S := fun S => po_int S (by decide) (by decide) rfl
    by_cases c1 : i < 2
    · have e1 : decide (i < 2) = true := decide_eq_true c1
      simp only [evSs, evS.eq_1, evS.eq_2, evS.eq_3, evS.eq_4, evS.eq_5, evS.eq_7, evS.eq_8, evS.eq_9, evS.eq_10, evE.eq_1, evE.eq_2, evE.eq_3, evE.eq_4, evE.eq_5, evE.eq_6, evE.eq_7, evE.eq_8, evE.eq_9, evE.eq_10, evE.eq_11, evE.eq_12, evE.eq_13, evE.eq_14, evE.eq_15, evE.eq_16, evE.eq_17, evE.eq_18, evE.eq_19, evE.eq_20, evE.eq_21, evE.eq_22, evE.eq_23, evL, evO, evC, R_ok, bS_ok, tk_cold, List.getElem?_cons_zero, List.getElem?_cons_succ, conD, List.set_cons_zero, List.set_cons_succ, Option.some.injEq, eq_int, ix_great, ix_rest, ix_turn, ix_cells, se_rest, se_turn, po_great, ne_great, ne_eq, reduceCtorEq, not_true_eq_false, not_false_eq_true, decide_true, decide_false, rc_great, le_st, it_lst, it_tup, ad_int, su_int, lt_int, gt_int, ge_int, le_int, in_int, in_bl, evI, ↓reduceIte, sz0, sz1, sz2, sz3, sz4, sz5, sz6, sz7, sz8, sz9, sz10, List.zip_nil_left, Bool.false_eq_true, Bool.not_true, Bool.not_false, e1, p10]
      generalize hq : Sta.C _ (Str.ofString "_law_pick") _ _ _ = q
      obtain ⟨d, s2, hd, v1, v2, rfl⟩ := pick_q cs (by omega) hq (by decide) (by decide) (by intro d hd; simp only [List.mem_cons, List.not_mem_nil, or_false] at hd; rcases hd with rfl | rfl | rfl | rfl | rfl | rfl | rfl | rfl <;> rfl) (by omega) (by omega)
      simp only [evSs, evS.eq_1, evS.eq_2, evS.eq_3, evS.eq_4, evS.eq_5, evS.eq_7, evS.eq_8, evS.eq_9, evS.eq_10, evE.eq_1, evE.eq_2, evE.eq_3, evE.eq_4, evE.eq_5, evE.eq_6, evE.eq_7, evE.eq_8, evE.eq_9, evE.eq_10, evE.eq_11, evE.eq_12, evE.eq_13, evE.eq_14, evE.eq_15, evE.eq_16, evE.eq_17, evE.eq_18, evE.eq_19, evE.eq_20, evE.eq_21, evE.eq_22, evE.eq_23, evL, evO, evC, R_ok, bS_ok, tk_cold, List.getElem?_cons_zero, List.getElem?_cons_succ, conD, List.set_cons_zero, List.set_cons_succ, Option.some.injEq, eq_int, ix_great, ix_rest, ix_turn, ix_cells, se_rest, se_turn, po_great, ne_great, ne_eq, reduceCtorEq, not_true_eq_false, not_false_eq_true, decide_true, decide_false, rc_great, le_st, it_lst, it_tup, ad_int, su_int, lt_int, gt_int, ge_int, le_int, in_int, in_bl, evI, ↓reduceIte, sz0, sz1, sz2, sz3, sz4, sz5, sz6, sz7, sz8, sz9, sz10, List.zip_nil_left, Bool.false_eq_true, Bool.not_true, Bool.not_false, ]
      refine ⟨d, s2, Vn.at_ ?_, by omega, by omega, rfl⟩
      simp only [List.mem_cons, List.not_mem_nil, or_false] at hd
      rcases hd with rfl | rfl | rfl | rfl | rfl | rfl | rfl | rfl <;> rfl
    have e1 : decide (i < 2) = false := decide_eq_false c1
    by_cases c2 : i < 4
    · have e2 : decide (i < 4) = true := decide_eq_true c2
      simp only [evSs, evS.eq_1, evS.eq_2, evS.eq_3, evS.eq_4, evS.eq_5, evS.eq_7, evS.eq_8, evS.eq_9, evS.eq_10, evE.eq_1, evE.eq_2, evE.eq_3, evE.eq_4, evE.eq_5, evE.eq_6, evE.eq_7, evE.eq_8, evE.eq_9, evE.eq_10, evE.eq_11, evE.eq_12, evE.eq_13, evE.eq_14, evE.eq_15, evE.eq_16, evE.eq_17, evE.eq_18, evE.eq_19, evE.eq_20, evE.eq_21, evE.eq_22, evE.eq_23, evL, evO, evC, R_ok, bS_ok, tk_cold, List.getElem?_cons_zero, List.getElem?_cons_succ, conD, List.set_cons_zero, List.set_cons_succ, Option.some.injEq, eq_int, ix_great, ix_rest, ix_turn, ix_cells, se_rest, se_turn, po_great, ne_great, ne_eq, reduceCtorEq, not_true_eq_false, not_false_eq_true, decide_true, decide_false, rc_great, le_st, it_lst, it_tup, ad_int, su_int, lt_int, gt_int, ge_int, le_int, in_int, in_bl, evI, ↓reduceIte, sz0, sz1, sz2, sz3, sz4, sz5, sz6, sz7, sz8, sz9, sz10, List.zip_nil_left, Bool.false_eq_true, Bool.not_true, Bool.not_false, e1, e2, p10]
      generalize hq : Sta.C _ (Str.ofString "_law_pick") _ _ _ = q
      obtain ⟨d, s2, hd, v1, v2, rfl⟩ := pick_q cs (by omega) hq (by decide) (by decide) (by intro d hd; simp only [List.mem_cons, List.not_mem_nil, or_false] at hd; rcases hd with rfl | rfl | rfl | rfl | rfl | rfl | rfl | rfl | rfl | rfl <;> rfl) (by omega) (by omega)
      simp only [evSs, evS.eq_1, evS.eq_2, evS.eq_3, evS.eq_4, evS.eq_5, evS.eq_7, evS.eq_8, evS.eq_9, evS.eq_10, evE.eq_1, evE.eq_2, evE.eq_3, evE.eq_4, evE.eq_5, evE.eq_6, evE.eq_7, evE.eq_8, evE.eq_9, evE.eq_10, evE.eq_11, evE.eq_12, evE.eq_13, evE.eq_14, evE.eq_15, evE.eq_16, evE.eq_17, evE.eq_18, evE.eq_19, evE.eq_20, evE.eq_21, evE.eq_22, evE.eq_23, evL, evO, evC, R_ok, bS_ok, tk_cold, List.getElem?_cons_zero, List.getElem?_cons_succ, conD, List.set_cons_zero, List.set_cons_succ, Option.some.injEq, eq_int, ix_great, ix_rest, ix_turn, ix_cells, se_rest, se_turn, po_great, ne_great, ne_eq, reduceCtorEq, not_true_eq_false, not_false_eq_true, decide_true, decide_false, rc_great, le_st, it_lst, it_tup, ad_int, su_int, lt_int, gt_int, ge_int, le_int, in_int, in_bl, evI, ↓reduceIte, sz0, sz1, sz2, sz3, sz4, sz5, sz6, sz7, sz8, sz9, sz10, List.zip_nil_left, Bool.false_eq_true, Bool.not_true, Bool.not_false, ]
      refine ⟨d, s2, Vn.at_ ?_, by omega, by omega, rfl⟩
      simp only [List.mem_cons, List.not_mem_nil, or_false] at hd
      rcases hd with rfl | rfl | rfl | rfl | rfl | rfl | rfl | rfl | rfl | rfl <;> rfl
    have e2 : decide (i < 4) = false := decide_eq_false c2
    by_cases c3 : decide (i < 6) = true ∨ (decide (i < 6) = false ∧ decide ((n : Int) = 0) = true)
    · rcases c3 with e3 | ⟨e3, e4⟩
      simp only [evSs, evS.eq_1, evS.eq_2, evS.eq_3, evS.eq_4, evS.eq_5, evS.eq_7, evS.eq_8, evS.eq_9, evS.eq_10, evE.eq_1, evE.eq_2, evE.eq_3, evE.eq_4, evE.eq_5, evE.eq_6, evE.eq_7, evE.eq_8, evE.eq_9, evE.eq_10, evE.eq_11, evE.eq_12, evE.eq_13, evE.eq_14, evE.eq_15, evE.eq_16, evE.eq_17, evE.eq_18, evE.eq_19, evE.eq_20, evE.eq_21, evE.eq_22, evE.eq_23, evL, evO, evC, R_ok, bS_ok, tk_cold, List.getElem?_cons_zero, List.getElem?_cons_succ, conD, List.set_cons_zero, List.set_cons_succ, Option.some.injEq, eq_int, ix_great, ix_rest, ix_turn, ix_cells, se_rest, se_turn, po_great, ne_great, ne_eq, reduceCtorEq, not_true_eq_false, not_false_eq_true, decide_true, decide_false, rc_great, le_st, it_lst, it_tup, ad_int, su_int, lt_int, gt_int, ge_int, le_int, in_int, in_bl, evI, ↓reduceIte, sz0, sz1, sz2, sz3, sz4, sz5, sz6, sz7, sz8, sz9, sz10, List.zip_nil_left, Bool.false_eq_true, Bool.not_true, Bool.not_false, e1, e2, e3, p10]
      rotate_left
      simp only [evSs, evS.eq_1, evS.eq_2, evS.eq_3, evS.eq_4, evS.eq_5, evS.eq_7, evS.eq_8, evS.eq_9, evS.eq_10, evE.eq_1, evE.eq_2, evE.eq_3, evE.eq_4, evE.eq_5, evE.eq_6, evE.eq_7, evE.eq_8, evE.eq_9, evE.eq_10, evE.eq_11, evE.eq_12, evE.eq_13, evE.eq_14, evE.eq_15, evE.eq_16, evE.eq_17, evE.eq_18, evE.eq_19, evE.eq_20, evE.eq_21, evE.eq_22, evE.eq_23, evL, evO, evC, R_ok, bS_ok, tk_cold, List.getElem?_cons_zero, List.getElem?_cons_succ, conD, List.set_cons_zero, List.set_cons_succ, Option.some.injEq, eq_int, ix_great, ix_rest, ix_turn, ix_cells, se_rest, se_turn, po_great, ne_great, ne_eq, reduceCtorEq, not_true_eq_false, not_false_eq_true, decide_true, decide_false, rc_great, le_st, it_lst, it_tup, ad_int, su_int, lt_int, gt_int, ge_int, le_int, in_int, in_bl, evI, ↓reduceIte, sz0, sz1, sz2, sz3, sz4, sz5, sz6, sz7, sz8, sz9, sz10, List.zip_nil_left, Bool.false_eq_true, Bool.not_true, Bool.not_false, e1, e2, e3, e4, p10]
      all_goals
        generalize hq : Sta.C _ (Str.ofString "_law_pick") _ _ _ = q
        obtain ⟨d, s2, hd, v1, v2, rfl⟩ := pick_q cs (by omega) hq (by decide) (by decide) (by intro d hd; simp only [List.mem_cons, List.not_mem_nil, or_false] at hd; rcases hd with rfl | rfl | rfl | rfl | rfl | rfl <;> rfl) (by omega) (by omega)
        simp only [evSs, evS.eq_1, evS.eq_2, evS.eq_3, evS.eq_4, evS.eq_5, evS.eq_7, evS.eq_8, evS.eq_9, evS.eq_10, evE.eq_1, evE.eq_2, evE.eq_3, evE.eq_4, evE.eq_5, evE.eq_6, evE.eq_7, evE.eq_8, evE.eq_9, evE.eq_10, evE.eq_11, evE.eq_12, evE.eq_13, evE.eq_14, evE.eq_15, evE.eq_16, evE.eq_17, evE.eq_18, evE.eq_19, evE.eq_20, evE.eq_21, evE.eq_22, evE.eq_23, evL, evO, evC, R_ok, bS_ok, tk_cold, List.getElem?_cons_zero, List.getElem?_cons_succ, conD, List.set_cons_zero, List.set_cons_succ, Option.some.injEq, eq_int, ix_great, ix_rest, ix_turn, ix_cells, se_rest, se_turn, po_great, ne_great, ne_eq, reduceCtorEq, not_true_eq_false, not_false_eq_true, decide_true, decide_false, rc_great, le_st, it_lst, it_tup, ad_int, su_int, lt_int, gt_int, ge_int, le_int, in_int, in_bl, evI, ↓reduceIte, sz0, sz1, sz2, sz3, sz4, sz5, sz6, sz7, sz8, sz9, sz10, List.zip_nil_left, Bool.false_eq_true, Bool.not_true, Bool.not_false, ]
        refine ⟨d, s2, Vn.at_ ?_, by omega, by omega, rfl⟩
        simp only [List.mem_cons, List.not_mem_nil, or_false] at hd
        rcases hd with rfl | rfl | rfl | rfl | rfl | rfl <;> rfl
    cases n with
    | zero =>
      refine absurd ?_ c3
      cases decide (i < 6)
      · exact .inr ⟨rfl, rfl⟩
      · exact .inl rfl
    | succ n =>
      have e4 : decide (((n + 1 : Nat) : Int) = 0) = false := decide_eq_false (by omega)
      have e5 : ((n + 1 : Nat) : Int) - 1 = n := by omega
      have e3 : decide (i < 6) = false := by
        cases h : decide (i < 6) with
        | true => exact absurd (.inl h) c3
        | false => rfl
      simp only [evSs, evS.eq_1, evS.eq_2, evS.eq_3, evS.eq_4, evS.eq_5, evS.eq_7, evS.eq_8, evS.eq_9, evS.eq_10, evE.eq_1, evE.eq_2, evE.eq_3, evE.eq_4, evE.eq_5, evE.eq_6, evE.eq_7, evE.eq_8, evE.eq_9, evE.eq_10, evE.eq_11, evE.eq_12, evE.eq_13, evE.eq_14, evE.eq_15, evE.eq_16, evE.eq_17, evE.eq_18, evE.eq_19, evE.eq_20, evE.eq_21, evE.eq_22, evE.eq_23, evL, evO, evC, R_ok, bS_ok, tk_cold, List.getElem?_cons_zero, List.getElem?_cons_succ, conD, List.set_cons_zero, List.set_cons_succ, Option.some.injEq, eq_int, ix_great, ix_rest, ix_turn, ix_cells, se_rest, se_turn, po_great, ne_great, ne_eq, reduceCtorEq, not_true_eq_false, not_false_eq_true, decide_true, decide_false, rc_great, le_st, it_lst, it_tup, ad_int, su_int, lt_int, gt_int, ge_int, le_int, in_int, in_bl, evI, ↓reduceIte, sz0, sz1, sz2, sz3, sz4, sz5, sz6, sz7, sz8, sz9, sz10, List.zip_nil_left, Bool.false_eq_true, Bool.not_true, Bool.not_false, e1, e2, e3, e4, p10]
      generalize hz : evE _ (Ex.lc _ _ _ _ _ _) _ _ = z
      have hcm := hc n
      have ecs : cst (n + 1) = 2 + 2 * cst n := rfl
      obtain ⟨m, s2, m1, m2, w1, w2, hm⟩ := take_ok cs (k := j) (by omega) s1 E 3 (by decide) (by decide) (by omega) (by omega)
      have rpn : ∀ m, 0 ≤ rp (cst n) m := by
        intro m
        induction m with
        | zero => exact Int.le_refl _
        | succ m ih => rw [rp]; omega
      have hlen : (rngL 0 m.toNat).length = m.toNat := by simp [rngL]
      have hsm : small62 m = true := by unfold small62; simp; omega
      obtain ⟨acc, S', rfl, a1, a2, s3, rfl, w3, w4⟩ := lc_inv (P := fun m S => ∃ s', S = stO cs s' E ∧ s.u ≤ s'.u ∧ s'.u + rp (cst n) m ≤ s.u + cst (n + 1)) (Q := Vn 2 n) (ds := rngL 0 m.toNat) (S1 := stO cs s2 E) hz (tk_cold j) (by simp only [evSs, evS.eq_1, evS.eq_2, evS.eq_3, evS.eq_4, evS.eq_5, evS.eq_7, evS.eq_8, evS.eq_9, evS.eq_10, evE.eq_1, evE.eq_2, evE.eq_3, evE.eq_4, evE.eq_5, evE.eq_6, evE.eq_7, evE.eq_8, evE.eq_9, evE.eq_10, evE.eq_11, evE.eq_12, evE.eq_13, evE.eq_14, evE.eq_15, evE.eq_16, evE.eq_17, evE.eq_18, evE.eq_19, evE.eq_20, evE.eq_21, evE.eq_22, evE.eq_23, evL, evO, evC, R_ok, bS_ok, tk_cold, List.getElem?_cons_zero, List.getElem?_cons_succ, conD, List.set_cons_zero, List.set_cons_succ, Option.some.injEq, eq_int, ix_great, ix_rest, ix_turn, ix_cells, se_rest, se_turn, po_great, ne_great, ne_eq, reduceCtorEq, not_true_eq_false, not_false_eq_true, decide_true, decide_false, rc_great, le_st, it_lst, it_tup, ad_int, su_int, lt_int, gt_int, ge_int, le_int, in_int, in_bl, evI, ↓reduceIte, sz0, sz1, sz2, sz3, sz4, sz5, sz6, sz7, sz8, sz9, sz10, List.zip_nil_left, Bool.false_eq_true, Bool.not_true, Bool.not_false, hm, hsm]) (by rw [hlen]; exact Nat.le_trans (show m.toNat ≤ 3 by omega) (of_decide_eq_true rfl))
        (by rintro m S ⟨s', rfl, _⟩; rfl) (by rintro S ⟨s', rfl, _⟩; exact st_Cl cs s' E hE) (fun y hy => hy.cl) (by
          rintro d acc S m hd ha ⟨s', rfl, x1, x2⟩
          have rm := rpn m
          have em : rp (cst n) (m + 1) = rp (cst n) m + cst n := rfl
          refine ⟨_, rfl, ?_⟩
          obtain ⟨y, s4, y1, y2, y3, y4⟩ := value_ok n (k := j) (by omega) s' (E ++ [O.lst acc]) (by unfold E0; rw [List.all_append, hE]; simp only [List.all_cons, List.all_nil, O.closed, Bool.and_true, Bool.true_and]; exact clL_of fun e he => (ha e he).cl) (by omega) (by omega)
          refine ⟨y, stO cs s4 E, ?_, ⟨s4, rfl, by omega, by omega⟩, y1⟩
          rw [tk_blk]
          show evE _ _ _ (stO cs s' (E ++ [O.lst acc])) = .ok y (stO cs s4 (E ++ [O.lst acc]))
          simp only [evSs, evS.eq_1, evS.eq_2, evS.eq_3, evS.eq_4, evS.eq_5, evS.eq_7, evS.eq_8, evS.eq_9, evS.eq_10, evE.eq_1, evE.eq_2, evE.eq_3, evE.eq_4, evE.eq_5, evE.eq_6, evE.eq_7, evE.eq_8, evE.eq_9, evE.eq_10, evE.eq_11, evE.eq_12, evE.eq_13, evE.eq_14, evE.eq_15, evE.eq_16, evE.eq_17, evE.eq_18, evE.eq_19, evE.eq_20, evE.eq_21, evE.eq_22, evE.eq_23, evL, evO, evC, R_ok, bS_ok, tk_cold, List.getElem?_cons_zero, List.getElem?_cons_succ, conD, List.set_cons_zero, List.set_cons_succ, Option.some.injEq, eq_int, ix_great, ix_rest, ix_turn, ix_cells, se_rest, se_turn, po_great, ne_great, ne_eq, reduceCtorEq, not_true_eq_false, not_false_eq_true, decide_true, decide_false, rc_great, le_st, it_lst, it_tup, ad_int, su_int, lt_int, gt_int, ge_int, le_int, in_int, in_bl, evI, ↓reduceIte, sz0, sz1, sz2, sz3, sz4, sz5, sz6, sz7, sz8, sz9, sz10, List.zip_nil_left, Bool.false_eq_true, Bool.not_true, Bool.not_false, wipeD, List.map_cons, List.map_nil, e5, y4]) ⟨s2, rfl, by omega, by
          rw [hlen]
          have : m.toNat = 0 ∨ m.toNat = 1 ∨ m.toNat = 2 := by omega
          rcases this with h | h | h <;> rw [h] <;> simp only [rp] <;> omega⟩
      simp only [evSs, evS.eq_1, evS.eq_2, evS.eq_3, evS.eq_4, evS.eq_5, evS.eq_7, evS.eq_8, evS.eq_9, evS.eq_10, evE.eq_1, evE.eq_2, evE.eq_3, evE.eq_4, evE.eq_5, evE.eq_6, evE.eq_7, evE.eq_8, evE.eq_9, evE.eq_10, evE.eq_11, evE.eq_12, evE.eq_13, evE.eq_14, evE.eq_15, evE.eq_16, evE.eq_17, evE.eq_18, evE.eq_19, evE.eq_20, evE.eq_21, evE.eq_22, evE.eq_23, evL, evO, evC, R_ok, bS_ok, tk_cold, List.getElem?_cons_zero, List.getElem?_cons_succ, conD, List.set_cons_zero, List.set_cons_succ, Option.some.injEq, eq_int, ix_great, ix_rest, ix_turn, ix_cells, se_rest, se_turn, po_great, ne_great, ne_eq, reduceCtorEq, not_true_eq_false, not_false_eq_true, decide_true, decide_false, rc_great, le_st, it_lst, it_tup, ad_int, su_int, lt_int, gt_int, ge_int, le_int, in_int, in_bl, evI, ↓reduceIte, sz0, sz1, sz2, sz3, sz4, sz5, sz6, sz7, sz8, sz9, sz10, List.zip_nil_left, Bool.false_eq_true, Bool.not_true, Bool.not_false, tu_lst]
      refine ⟨.tup acc, s3, .inr ⟨acc, rfl, by rw [a1, hlen]; omega, a2⟩, by simp only [rp] at w4; omega, w3, rfl⟩
end
end K01

set_option Elab.async false
set_option linter.all false
set_option maxRecDepth 100000
set_option maxHeartbeats 4000000
namespace K01
open PySem Fw
theorem isi_non_bool (k : Nat) (S : Sto) : biD (mk3 T.sta T.tb k).1 "isinstance" [.non, .ty "bool"] S = .ok (.bl false) S := isi_of k rfl
theorem isi_non_int (k : Nat) (S : Sto) : biD (mk3 T.sta T.tb k).1 "isinstance" [.non, .ty "int"] S = .ok (.bl false) S := isi_of k rfl
theorem isi_non_str (k : Nat) (S : Sto) : biD (mk3 T.sta T.tb k).1 "isinstance" [.non, .ty "str"] S = .ok (.bl false) S := isi_of k rfl
theorem isi_non_tuple (k : Nat) (S : Sto) : biD (mk3 T.sta T.tb k).1 "isinstance" [.non, .ty "tuple"] S = .ok (.bl false) S := isi_of k rfl
theorem isi_non_is (k : Nat) (S : Sto) : biD (mk3 T.sta T.tb k).1 "isinstance" [.non, .tup [.ty "int", .ty "str"]] S = .ok (.bl false) S := isi_of k rfl
theorem is_non (S : Sto) : cmpD .Is .non .non S = .ok (.bl true) S := rfl
theorem isi_bl_bool (k : Nat) (b : Bool) (S : Sto) : biD (mk3 T.sta T.tb k).1 "isinstance" [(.bl b), .ty "bool"] S = .ok (.bl true) S := isi_of k rfl
theorem isi_bl_int (k : Nat) (b : Bool) (S : Sto) : biD (mk3 T.sta T.tb k).1 "isinstance" [(.bl b), .ty "int"] S = .ok (.bl true) S := isi_of k rfl
theorem isi_bl_str (k : Nat) (b : Bool) (S : Sto) : biD (mk3 T.sta T.tb k).1 "isinstance" [(.bl b), .ty "str"] S = .ok (.bl false) S := isi_of k rfl
theorem isi_bl_tuple (k : Nat) (b : Bool) (S : Sto) : biD (mk3 T.sta T.tb k).1 "isinstance" [(.bl b), .ty "tuple"] S = .ok (.bl false) S := isi_of k rfl
theorem isi_bl_is (k : Nat) (b : Bool) (S : Sto) : biD (mk3 T.sta T.tb k).1 "isinstance" [(.bl b), .tup [.ty "int", .ty "str"]] S = .ok (.bl true) S := isi_of k rfl
theorem is_bl (b : Bool) (S : Sto) : cmpD .Is (.bl b) .non S = .ok (.bl false) S := rfl
theorem isi_int_bool (k : Nat) (i : Int) (S : Sto) : biD (mk3 T.sta T.tb k).1 "isinstance" [(.int i), .ty "bool"] S = .ok (.bl false) S := isi_of k rfl
theorem isi_int_int (k : Nat) (i : Int) (S : Sto) : biD (mk3 T.sta T.tb k).1 "isinstance" [(.int i), .ty "int"] S = .ok (.bl true) S := isi_of k rfl
theorem isi_int_str (k : Nat) (i : Int) (S : Sto) : biD (mk3 T.sta T.tb k).1 "isinstance" [(.int i), .ty "str"] S = .ok (.bl false) S := isi_of k rfl
theorem isi_int_tuple (k : Nat) (i : Int) (S : Sto) : biD (mk3 T.sta T.tb k).1 "isinstance" [(.int i), .ty "tuple"] S = .ok (.bl false) S := isi_of k rfl
theorem isi_int_is (k : Nat) (i : Int) (S : Sto) : biD (mk3 T.sta T.tb k).1 "isinstance" [(.int i), .tup [.ty "int", .ty "str"]] S = .ok (.bl true) S := isi_of k rfl
theorem is_int (i : Int) (S : Sto) : cmpD .Is (.int i) .non S = .ok (.bl false) S := rfl
theorem isi_str_bool (k : Nat) (x : Str) (S : Sto) : biD (mk3 T.sta T.tb k).1 "isinstance" [(.str x), .ty "bool"] S = .ok (.bl false) S := isi_of k rfl
theorem isi_str_int (k : Nat) (x : Str) (S : Sto) : biD (mk3 T.sta T.tb k).1 "isinstance" [(.str x), .ty "int"] S = .ok (.bl false) S := isi_of k rfl
theorem isi_str_str (k : Nat) (x : Str) (S : Sto) : biD (mk3 T.sta T.tb k).1 "isinstance" [(.str x), .ty "str"] S = .ok (.bl true) S := isi_of k rfl
theorem isi_str_tuple (k : Nat) (x : Str) (S : Sto) : biD (mk3 T.sta T.tb k).1 "isinstance" [(.str x), .ty "tuple"] S = .ok (.bl false) S := isi_of k rfl
theorem isi_str_is (k : Nat) (x : Str) (S : Sto) : biD (mk3 T.sta T.tb k).1 "isinstance" [(.str x), .tup [.ty "int", .ty "str"]] S = .ok (.bl true) S := isi_of k rfl
theorem is_str (x : Str) (S : Sto) : cmpD .Is (.str x) .non S = .ok (.bl false) S := rfl
theorem isi_tup_bool (k : Nat) (ds : List D) (S : Sto) : biD (mk3 T.sta T.tb k).1 "isinstance" [(.tup ds), .ty "bool"] S = .ok (.bl false) S := isi_of k rfl
theorem isi_tup_int (k : Nat) (ds : List D) (S : Sto) : biD (mk3 T.sta T.tb k).1 "isinstance" [(.tup ds), .ty "int"] S = .ok (.bl false) S := isi_of k rfl
theorem isi_tup_str (k : Nat) (ds : List D) (S : Sto) : biD (mk3 T.sta T.tb k).1 "isinstance" [(.tup ds), .ty "str"] S = .ok (.bl false) S := isi_of k rfl
theorem isi_tup_tuple (k : Nat) (ds : List D) (S : Sto) : biD (mk3 T.sta T.tb k).1 "isinstance" [(.tup ds), .ty "tuple"] S = .ok (.bl true) S := isi_of k rfl
theorem isi_tup_is (k : Nat) (ds : List D) (S : Sto) : biD (mk3 T.sta T.tb k).1 "isinstance" [(.tup ds), .tup [.ty "int", .ty "str"]] S = .ok (.bl false) S := isi_of k rfl
theorem is_tup (ds : List D) (S : Sto) : cmpD .Is (.tup ds) .non S = .ok (.bl false) S := rfl
theorem isi_lst_bool (k : Nat) (ds : List D) (S : Sto) : biD (mk3 T.sta T.tb k).1 "isinstance" [(.lst ds), .ty "bool"] S = .ok (.bl false) S := isi_of k rfl
theorem isi_lst_int (k : Nat) (ds : List D) (S : Sto) : biD (mk3 T.sta T.tb k).1 "isinstance" [(.lst ds), .ty "int"] S = .ok (.bl false) S := isi_of k rfl
theorem isi_lst_str (k : Nat) (ds : List D) (S : Sto) : biD (mk3 T.sta T.tb k).1 "isinstance" [(.lst ds), .ty "str"] S = .ok (.bl false) S := isi_of k rfl
theorem isi_lst_tuple (k : Nat) (ds : List D) (S : Sto) : biD (mk3 T.sta T.tb k).1 "isinstance" [(.lst ds), .ty "tuple"] S = .ok (.bl false) S := isi_of k rfl
theorem isi_lst_is (k : Nat) (ds : List D) (S : Sto) : biD (mk3 T.sta T.tb k).1 "isinstance" [(.lst ds), .tup [.ty "int", .ty "str"]] S = .ok (.bl false) S := isi_of k rfl
theorem is_lst (ds : List D) (S : Sto) : cmpD .Is (.lst ds) .non S = .ok (.bl false) S := rfl
theorem isi_dct_bool (k : Nat) (ks : List L2.Key) (ds : List D) (S : Sto) : biD (mk3 T.sta T.tb k).1 "isinstance" [(.dct ks ds), .ty "bool"] S = .ok (.bl false) S := isi_of k rfl
theorem isi_dct_int (k : Nat) (ks : List L2.Key) (ds : List D) (S : Sto) : biD (mk3 T.sta T.tb k).1 "isinstance" [(.dct ks ds), .ty "int"] S = .ok (.bl false) S := isi_of k rfl
theorem isi_dct_str (k : Nat) (ks : List L2.Key) (ds : List D) (S : Sto) : biD (mk3 T.sta T.tb k).1 "isinstance" [(.dct ks ds), .ty "str"] S = .ok (.bl false) S := isi_of k rfl
theorem isi_dct_tuple (k : Nat) (ks : List L2.Key) (ds : List D) (S : Sto) : biD (mk3 T.sta T.tb k).1 "isinstance" [(.dct ks ds), .ty "tuple"] S = .ok (.bl false) S := isi_of k rfl
theorem isi_dct_is (k : Nat) (ks : List L2.Key) (ds : List D) (S : Sto) : biD (mk3 T.sta T.tb k).1 "isinstance" [(.dct ks ds), .tup [.ty "int", .ty "str"]] S = .ok (.bl false) S := isi_of k rfl
theorem is_dct (ks : List L2.Key) (ds : List D) (S : Sto) : cmpD .Is (.dct ks ds) .non S = .ok (.bl false) S := rfl
theorem gl_bool (k : Nat) : (mk3 T.sta T.tb k).1.G "bool" = some (.ty "bool") := tk_g k rfl
theorem gl_int (k : Nat) : (mk3 T.sta T.tb k).1.G "int" = some (.ty "int") := tk_g k rfl
theorem gl_str (k : Nat) : (mk3 T.sta T.tb k).1.G "str" = some (.ty "str") := tk_g k rfl
theorem gl_tuple (k : Nat) : (mk3 T.sta T.tb k).1.G "tuple" = some (.ty "tuple") := tk_g k rfl
/-! kinds -/
def kn : D → Str
  | .non => "none"
  | .bl _ => "bool"
  | .int _ => "int"
  | .str _ => "text"
  | _ => "tuple"
def flatB : D → Bool
  | .ref _ => false
  | _ => true
theorem Vn.cases {w n : Nat} {d : D} (h : Vn w n d) : d = .non ∨ (∃ b, d = .bl b) ∨ (∃ i, d = .int i) ∨ (∃ x, d = .str x) ∨ ∃ ds m, d = .tup ds ∧ ds.length ≤ w ∧ n = m + 1 ∧ ∀ e, e ∈ ds → Vn w m e := by
  have at_ : ∀ {d : D}, atB d = true → d = .non ∨ (∃ b, d = .bl b) ∨ (∃ i, d = .int i) ∨ (∃ x, d = .str x) := by
    intro d h
    cases d with
    | non => exact .inl rfl
    | bl b => exact .inr (.inl ⟨b, rfl⟩)
    | int b => exact .inr (.inr (.inl ⟨b, rfl⟩))
    | str b => exact .inr (.inr (.inr ⟨b, rfl⟩))
    | _ => simp [atB] at h
  cases n with
  | zero =>
    rcases at_ h with h | h | h | h
    · exact .inl h
    · exact .inr (.inl h)
    · exact .inr (.inr (.inl h))
    · exact .inr (.inr (.inr (.inl h)))
  | succ n =>
    rcases h with h | ⟨ds, rfl, h1, h2⟩
    · rcases at_ h with h | h | h | h
      · exact .inl h
      · exact .inr (.inl h)
      · exact .inr (.inr (.inl h))
      · exact .inr (.inr (.inr (.inl h)))
    · exact .inr (.inr (.inr (.inr ⟨ds, n, rfl, h1, rfl, h2⟩)))
theorem lkind_ok {w n k : Nat} (hk : 1 ≤ k) {d : D} (h : Vn w n d) (S : Sto) : (mk3 T.sta T.tb k).1.C "_law_kind" [d] [] S = .ok (.str (kn d)) S := by
  obtain ⟨j, rfl⟩ : ∃ j, k = j + 1 := ⟨k - 1, by omega⟩
  refine C_ret (ds' := [d]) rfl rfl rfl rfl ?_ rfl rfl
  show evSs d_law_kind.body _ [some d] S = _
  unfold d_law_kind
  rcases h.cases with rfl | ⟨b, rfl⟩ | ⟨i, rfl⟩ | ⟨x, rfl⟩ | ⟨ds, m, rfl, _⟩
  all_goals
    simp only [evSs, evS.eq_1, evS.eq_2, evS.eq_3, evS.eq_4, evS.eq_5, evS.eq_7, evS.eq_8, evS.eq_9, evS.eq_10, evE.eq_1, evE.eq_2, evE.eq_3, evE.eq_4, evE.eq_5, evE.eq_6, evE.eq_7, evE.eq_8, evE.eq_9, evE.eq_10, evE.eq_11, evE.eq_12, evE.eq_13, evE.eq_14, evE.eq_15, evE.eq_16, evE.eq_17, evE.eq_18, evE.eq_19, evE.eq_20, evE.eq_21, evE.eq_22, evE.eq_23, evL, evO, evC, R_ok, bS_ok, tk_cold, List.getElem?_cons_zero, List.getElem?_cons_succ, conD, List.set_cons_zero, List.set_cons_succ, Option.some.injEq, eq_int, ix_great, ix_rest, ix_turn, ix_cells, se_rest, se_turn, po_great, ne_great, ne_eq, reduceCtorEq, not_true_eq_false, not_false_eq_true, decide_true, decide_false, rc_great, le_st, it_lst, it_tup, ad_int, su_int, lt_int, gt_int, ge_int, le_int, in_int, in_bl, evI, Int.reduceEq, Int.reduceLT, Int.reduceLE, isi_non_bool, isi_non_int, isi_non_str, isi_non_tuple, isi_non_is, is_non, isi_bl_bool, isi_bl_int, isi_bl_str, isi_bl_tuple, isi_bl_is, is_bl, isi_int_bool, isi_int_int, isi_int_str, isi_int_tuple, isi_int_is, is_int, isi_str_bool, isi_str_int, isi_str_str, isi_str_tuple, isi_str_is, is_str, isi_tup_bool, isi_tup_int, isi_tup_str, isi_tup_tuple, isi_tup_is, is_tup, isi_lst_bool, isi_lst_int, isi_lst_str, isi_lst_tuple, isi_lst_is, is_lst, isi_dct_bool, isi_dct_int, isi_dct_str, isi_dct_tuple, isi_dct_is, is_dct, gl_bool, gl_int, gl_str, gl_tuple, ↓reduceIte, sz0, sz1, sz2, sz3, sz4, sz5, sz6, sz7, sz8, sz9, sz10, List.zip_nil_left, Bool.false_eq_true, Bool.not_true, Bool.not_false, ]
    rfl
mutual
theorem cl_le {n m : Nat} (hm : n ≤ m) : ∀ d : D, d.closed n = true → d.closed m = true
  | .ref l, h => by simp [D.closed] at h ⊢; omega
  | .tup ds, h => by rw [D.closed] at h ⊢; exact clL_le hm ds h
  | .lst ds, h => by rw [D.closed] at h ⊢; exact clL_le hm ds h
  | .dct _ ds, h => by rw [D.closed] at h ⊢; exact clL_le hm ds h
  | .obj _ _ ds, h => by rw [D.closed] at h ⊢; exact clL_le hm ds h
  | .non, _ => rfl | .bl _, _ => rfl | .int _, _ => rfl | .str _, _ => rfl | .ty _, _ => rfl | .glo _, _ => rfl | .scr _, _ => rfl
theorem clL_le {n m : Nat} (hm : n ≤ m) : ∀ ds : List D, closedL n ds = true → closedL m ds = true
  | [], _ => rfl
  | d :: ds, h => by
    rw [closedL, Bool.and_eq_true] at h ⊢
    exact ⟨cl_le hm d h.1, clL_le hm ds h.2⟩
end
theorem O_le {n m : Nat} (hm : n ≤ m) : ∀ o : O, o.closed n = true → o.closed m = true
  | .lst ds, h => clL_le hm ds h
  | .dct _ ds, h => clL_le hm ds h
  | .ins _ _ ds, h => clL_le hm ds h
theorem Cl0_snoc {S : Sto} {acc : List D} (h : Cl0 S) (ha : closedL S.length acc = true) : Cl0 (S ++ [O.lst acc]) := by
  unfold Cl0 at h ⊢
  rw [List.all_append, List.length_append, Bool.and_eq_true]
  refine ⟨?_, ?_⟩
  · rw [List.all_eq_true] at h ⊢
    exact fun o ho => O_le (by simp) o (h o ho)
  · simp only [List.all_cons, List.all_nil, O.closed, Bool.and_true]
    exact clL_le (by simp) acc ha
theorem lc_map {t : Sta} {own : List (Str × Nat)} {tg : Tg} {it : It1} {e : Ex} {s : En} {S : Sto} {q : R D} {g : D → D} {ds : List D} (hq : evE t (.lc false own tg it .no e) s S = q) (hh : ∀ r : R D, t.cold r = r) (hS : Cl0 S) (hi : evI t it s S = .ok (ds, none) S)
    (hz : ds.length ≤ sizeLine) (hc : ∀ d, d ∈ ds → (g d).closed S.length = true)
    (hb : ∀ d acc, d ∈ ds → Cl0 (S ++ [O.lst acc]) → ∃ s2, tgD tg d (wipeD s (own.map (·.2))) = some s2 ∧ evE t.blk e s2 (S ++ [O.lst acc]) = .ok (g d) (S ++ [O.lst acc])) : q = .ok (.lst (ds.map g)) S := by
  have go : ∀ (es acc : List D), (∀ d, d ∈ es → d ∈ ds) → acc.length + es.length ≤ sizeLine → closedL S.length acc = true →
      lcGo S.length ds none (stF tg (own.map (·.2)) (evC t.blk .no) (evE t.blk e) s) es (S ++ [O.lst acc]) = .ok () (S ++ [O.lst (acc ++ es.map g)]) := by
    intro es
    induction es with
    | nil => intro acc _ _ _; rw [lcGo, List.map_nil, List.append_nil]; exact if_pos rfl
    | cons d es ih =>
      intro acc hm hz ha
      obtain ⟨s2, e1, e2⟩ := hb d acc (hm d List.mem_cons_self) (Cl0_snoc hS ha)
      have e3 : (S ++ [O.lst acc])[S.length]? = some (O.lst acc) := by simp
      have hl : acc.length < sizeLine := by simp only [List.length_cons] at hz; omega
      have e4 : (S ++ [O.lst acc]).set S.length (O.lst (acc ++ [g d])) = S ++ [O.lst (acc ++ [g d])] := by simp
      have st : stF tg (own.map (·.2)) (evC t.blk .no) (evE t.blk e) s d (S ++ [O.lst acc]) = .ok (some (g d)) (S ++ [O.lst acc]) := by
        unfold stF
        rw [e1]
        show noX ((evC t.blk .no s2 (S ++ [O.lst acc])).bind _) = _
        rw [evC]
        show noX ((evE t.blk e s2 (S ++ [O.lst acc])).bind fun y S4 => .ok (some y) S4) = _
        rw [e2]
        rfl
      rw [lcGo]
      refine (if_pos rfl).trans ?_
      rw [st]
      show (match (S ++ [O.lst acc])[S.length]? with
        | some (O.lst acc') => if acc'.length < sizeLine then lcGo S.length ds none _ es ((S ++ [O.lst acc]).set S.length (.lst (acc' ++ [g d]))) else .bad
        | _ => .bad) = _
      rw [e3]
      refine (if_pos hl).trans ?_
      have hca : closedL S.length (acc ++ [g d]) = true := by
        have : ∀ a : List D, closedL S.length a = true → closedL S.length (a ++ [g d]) = true := by
          intro a
          induction a with
          | nil => intro _; show ((g d).closed S.length && true) = true; rw [hc d (hm d List.mem_cons_self)]; rfl
          | cons x a ih2 =>
            intro h
            rw [closedL, Bool.and_eq_true] at h
            show (x.closed S.length && closedL S.length (a ++ [g d])) = true
            rw [h.1, ih2 h.2]
            rfl
        exact this acc ha
      rw [e4, ih (acc ++ [g d]) (fun d hd => hm d (List.mem_cons_of_mem _ hd)) (by simp only [List.length_cons, List.length_append, List.length_nil] at hz ⊢; omega) hca, List.map_cons, List.append_assoc]
      rfl
  rw [← hq, evE, hh, hi]
  show (lcGo S.length ds none (stF tg (own.map (·.2)) (evC t.blk .no) (evE t.blk e) s) ds (S ++ [O.lst []])).bind _ = _
  rw [go ds [] (fun _ h => h) (by simpa using hz) rfl]
  show thaw S.length (S ++ [O.lst ([] ++ ds.map g)]) = _
  rw [List.nil_append]
  exact thaw_lst hS (clL_of fun y hy => by
    obtain ⟨d, hd, rfl⟩ := List.mem_map.mp hy
    exact hc d hd)
/-! ranks -/
mutual
def rk : D → D
  | .bl b => .tup [.int 1, .int (PyProof.Rows.b2i b)]
  | .int i => .tup [.int 2, .int i]
  | .str x => .tup [.int 3, .str x]
  | .tup ds => .tup [.int 4, .tup (rkL ds)]
  | _ => .tup [.int 0, .int 0]
def rkL : List D → List D
  | [] => []
  | d :: ds => rk d :: rkL ds
end
mutual
def lr : D → D
  | .bl b => .lst [.int 1, .bl b]
  | .int i => .lst [.int 2, .int i]
  | .str x => .lst [.int 3, .str x]
  | .tup ds => .lst [.int 4, .lst (lrL ds)]
  | _ => .lst [.int 0, .int 0]
def lrL : List D → List D
  | [] => []
  | d :: ds => lr d :: lrL ds
end
theorem rkL_map : ∀ ds : List D, rkL ds = ds.map rk
  | [] => rfl
  | d :: ds => by rw [rkL, rkL_map ds]; rfl
theorem lrL_map : ∀ ds : List D, lrL ds = ds.map lr
  | [] => rfl
  | d :: ds => by rw [lrL, lrL_map ds]; rfl
mutual
theorem rk_cl {n : Nat} : ∀ d : D, (rk d).closed n = true
  | .non => rfl | .bl _ => rfl | .int _ => rfl | .str _ => rfl | .ref _ => rfl | .ty _ => rfl | .glo _ => rfl | .scr _ => rfl | .lst _ => rfl | .dct _ _ => rfl | .obj _ _ _ => rfl
  | .tup ds => by
    rw [rk]
    show (true && (closedL n (rkL ds) && true)) = true
    rw [rkL_cl ds]
    rfl
theorem rkL_cl {n : Nat} : ∀ ds : List D, closedL n (rkL ds) = true
  | [] => rfl
  | d :: ds => by rw [rkL, closedL, rk_cl d, rkL_cl ds]; rfl
end
mutual
theorem lr_cl {n : Nat} : ∀ d : D, (lr d).closed n = true
  | .non => rfl | .bl _ => rfl | .int _ => rfl | .str _ => rfl | .ref _ => rfl | .ty _ => rfl | .glo _ => rfl | .scr _ => rfl | .lst _ => rfl | .dct _ _ => rfl | .obj _ _ _ => rfl
  | .tup ds => by
    rw [lr]
    show (true && (closedL n (lrL ds) && true)) = true
    rw [lrL_cl ds]
    rfl
theorem lrL_cl {n : Nat} : ∀ ds : List D, closedL n (lrL ds) = true
  | [] => rfl
  | d :: ds => by rw [lrL, closedL, lr_cl d, lrL_cl ds]; rfl
end
theorem kix_none (S : Sto) : mtD "index" (.lst [.str "none", .str "bool", .str "int", .str "text", .str "tuple"]) [.str "none"] S = .ok (.int 0) S := rfl
theorem kix_bool (S : Sto) : mtD "index" (.lst [.str "none", .str "bool", .str "int", .str "text", .str "tuple"]) [.str "bool"] S = .ok (.int 1) S := rfl
theorem kix_int (S : Sto) : mtD "index" (.lst [.str "none", .str "bool", .str "int", .str "text", .str "tuple"]) [.str "int"] S = .ok (.int 2) S := rfl
theorem kix_text (S : Sto) : mtD "index" (.lst [.str "none", .str "bool", .str "int", .str "text", .str "tuple"]) [.str "text"] S = .ok (.int 3) S := rfl
theorem kix_tuple (S : Sto) : mtD "index" (.lst [.str "none", .str "bool", .str "int", .str "text", .str "tuple"]) [.str "tuple"] S = .ok (.int 4) S := rfl
theorem rc_lst (m : Str) (ds : List D) (S : Sto) : rcvB m (flat S (.lst ds)) = true := rfl
theorem sz_of {n : Nat} (h : n ≤ 1000) : n ≤ sizeLine := Nat.le_trans h (of_decide_eq_true rfl)
theorem rank_ok : ∀ (n : Nat) {k : Nat} (hk : n + 1 ≤ k) {d : D} (h : Vn 5 n d) (S : Sto), Cl0 S → (mk3 T.sta T.tb k).1.C "rank" [d] [] S = .ok (rk d) S
  | n, k, hk, d, h, S, hS => by
    obtain ⟨j, rfl⟩ : ∃ j, k = j + 1 := ⟨k - 1, by omega⟩
    refine C_ret (ds' := [d]) rfl rfl rfl rfl ?_ rfl (by rcases h.cases with rfl | ⟨b, rfl⟩ | ⟨i, rfl⟩ | ⟨x, rfl⟩ | ⟨ds, m, rfl, _⟩ <;> rfl)
    show evSs drank.body _ [some d, none] S = _
    unfold drank
    rcases h.cases with rfl | ⟨b, rfl⟩ | ⟨i, rfl⟩ | ⟨x, rfl⟩ | ⟨ds, m, rfl, hl, rfl, he⟩
    · simp only [evSs, evS.eq_1, evS.eq_2, evS.eq_3, evS.eq_4, evS.eq_5, evS.eq_7, evS.eq_8, evS.eq_9, evS.eq_10, evE.eq_1, evE.eq_2, evE.eq_3, evE.eq_4, evE.eq_5, evE.eq_6, evE.eq_7, evE.eq_8, evE.eq_9, evE.eq_10, evE.eq_11, evE.eq_12, evE.eq_13, evE.eq_14, evE.eq_15, evE.eq_16, evE.eq_17, evE.eq_18, evE.eq_19, evE.eq_20, evE.eq_21, evE.eq_22, evE.eq_23, evL, evO, evC, R_ok, bS_ok, tk_cold, List.getElem?_cons_zero, List.getElem?_cons_succ, conD, List.set_cons_zero, List.set_cons_succ, Option.some.injEq, eq_int, ix_great, ix_rest, ix_turn, ix_cells, se_rest, se_turn, po_great, ne_great, ne_eq, reduceCtorEq, not_true_eq_false, not_false_eq_true, decide_true, decide_false, rc_great, le_st, it_lst, it_tup, ad_int, su_int, lt_int, gt_int, ge_int, le_int, in_int, in_bl, evI, Int.reduceEq, Int.reduceLT, Int.reduceLE, isi_non_bool, isi_non_int, isi_non_str, isi_non_tuple, isi_non_is, is_non, isi_bl_bool, isi_bl_int, isi_bl_str, isi_bl_tuple, isi_bl_is, is_bl, isi_int_bool, isi_int_int, isi_int_str, isi_int_tuple, isi_int_is, is_int, isi_str_bool, isi_str_int, isi_str_str, isi_str_tuple, isi_str_is, is_str, isi_tup_bool, isi_tup_int, isi_tup_str, isi_tup_tuple, isi_tup_is, is_tup, isi_lst_bool, isi_lst_int, isi_lst_str, isi_lst_tuple, isi_lst_is, is_lst, isi_dct_bool, isi_dct_int, isi_dct_str, isi_dct_tuple, isi_dct_is, is_dct, gl_bool, gl_int, gl_str, gl_tuple, ↓reduceIte, sz0, sz1, sz2, sz3, sz4, sz5, sz6, sz7, sz8, sz9, sz10, List.zip_nil_left, Bool.false_eq_true, Bool.not_true, Bool.not_false, rk]
    · simp only [evSs, evS.eq_1, evS.eq_2, evS.eq_3, evS.eq_4, evS.eq_5, evS.eq_7, evS.eq_8, evS.eq_9, evS.eq_10, evE.eq_1, evE.eq_2, evE.eq_3, evE.eq_4, evE.eq_5, evE.eq_6, evE.eq_7, evE.eq_8, evE.eq_9, evE.eq_10, evE.eq_11, evE.eq_12, evE.eq_13, evE.eq_14, evE.eq_15, evE.eq_16, evE.eq_17, evE.eq_18, evE.eq_19, evE.eq_20, evE.eq_21, evE.eq_22, evE.eq_23, evL, evO, evC, R_ok, bS_ok, tk_cold, List.getElem?_cons_zero, List.getElem?_cons_succ, conD, List.set_cons_zero, List.set_cons_succ, Option.some.injEq, eq_int, ix_great, ix_rest, ix_turn, ix_cells, se_rest, se_turn, po_great, ne_great, ne_eq, reduceCtorEq, not_true_eq_false, not_false_eq_true, decide_true, decide_false, rc_great, le_st, it_lst, it_tup, ad_int, su_int, lt_int, gt_int, ge_int, le_int, in_int, in_bl, evI, Int.reduceEq, Int.reduceLT, Int.reduceLE, isi_non_bool, isi_non_int, isi_non_str, isi_non_tuple, isi_non_is, is_non, isi_bl_bool, isi_bl_int, isi_bl_str, isi_bl_tuple, isi_bl_is, is_bl, isi_int_bool, isi_int_int, isi_int_str, isi_int_tuple, isi_int_is, is_int, isi_str_bool, isi_str_int, isi_str_str, isi_str_tuple, isi_str_is, is_str, isi_tup_bool, isi_tup_int, isi_tup_str, isi_tup_tuple, isi_tup_is, is_tup, isi_lst_bool, isi_lst_int, isi_lst_str, isi_lst_tuple, isi_lst_is, is_lst, isi_dct_bool, isi_dct_int, isi_dct_str, isi_dct_tuple, isi_dct_is, is_dct, gl_bool, gl_int, gl_str, gl_tuple, ↓reduceIte, sz0, sz1, sz2, sz3, sz4, sz5, sz6, sz7, sz8, sz9, sz10, List.zip_nil_left, Bool.false_eq_true, Bool.not_true, Bool.not_false, rk]
    · simp only [evSs, evS.eq_1, evS.eq_2, evS.eq_3, evS.eq_4, evS.eq_5, evS.eq_7, evS.eq_8, evS.eq_9, evS.eq_10, evE.eq_1, evE.eq_2, evE.eq_3, evE.eq_4, evE.eq_5, evE.eq_6, evE.eq_7, evE.eq_8, evE.eq_9, evE.eq_10, evE.eq_11, evE.eq_12, evE.eq_13, evE.eq_14, evE.eq_15, evE.eq_16, evE.eq_17, evE.eq_18, evE.eq_19, evE.eq_20, evE.eq_21, evE.eq_22, evE.eq_23, evL, evO, evC, R_ok, bS_ok, tk_cold, List.getElem?_cons_zero, List.getElem?_cons_succ, conD, List.set_cons_zero, List.set_cons_succ, Option.some.injEq, eq_int, ix_great, ix_rest, ix_turn, ix_cells, se_rest, se_turn, po_great, ne_great, ne_eq, reduceCtorEq, not_true_eq_false, not_false_eq_true, decide_true, decide_false, rc_great, le_st, it_lst, it_tup, ad_int, su_int, lt_int, gt_int, ge_int, le_int, in_int, in_bl, evI, Int.reduceEq, Int.reduceLT, Int.reduceLE, isi_non_bool, isi_non_int, isi_non_str, isi_non_tuple, isi_non_is, is_non, isi_bl_bool, isi_bl_int, isi_bl_str, isi_bl_tuple, isi_bl_is, is_bl, isi_int_bool, isi_int_int, isi_int_str, isi_int_tuple, isi_int_is, is_int, isi_str_bool, isi_str_int, isi_str_str, isi_str_tuple, isi_str_is, is_str, isi_tup_bool, isi_tup_int, isi_tup_str, isi_tup_tuple, isi_tup_is, is_tup, isi_lst_bool, isi_lst_int, isi_lst_str, isi_lst_tuple, isi_lst_is, is_lst, isi_dct_bool, isi_dct_int, isi_dct_str, isi_dct_tuple, isi_dct_is, is_dct, gl_bool, gl_int, gl_str, gl_tuple, ↓reduceIte, sz0, sz1, sz2, sz3, sz4, sz5, sz6, sz7, sz8, sz9, sz10, List.zip_nil_left, Bool.false_eq_true, Bool.not_true, Bool.not_false, rk]
    · simp only [evSs, evS.eq_1, evS.eq_2, evS.eq_3, evS.eq_4, evS.eq_5, evS.eq_7, evS.eq_8, evS.eq_9, evS.eq_10, evE.eq_1, evE.eq_2, evE.eq_3, evE.eq_4, evE.eq_5, evE.eq_6, evE.eq_7, evE.eq_8, evE.eq_9, evE.eq_10, evE.eq_11, evE.eq_12, evE.eq_13, evE.eq_14, evE.eq_15, evE.eq_16, evE.eq_17, evE.eq_18, evE.eq_19, evE.eq_20, evE.eq_21, evE.eq_22, evE.eq_23, evL, evO, evC, R_ok, bS_ok, tk_cold, List.getElem?_cons_zero, List.getElem?_cons_succ, conD, List.set_cons_zero, List.set_cons_succ, Option.some.injEq, eq_int, ix_great, ix_rest, ix_turn, ix_cells, se_rest, se_turn, po_great, ne_great, ne_eq, reduceCtorEq, not_true_eq_false, not_false_eq_true, decide_true, decide_false, rc_great, le_st, it_lst, it_tup, ad_int, su_int, lt_int, gt_int, ge_int, le_int, in_int, in_bl, evI, Int.reduceEq, Int.reduceLT, Int.reduceLE, isi_non_bool, isi_non_int, isi_non_str, isi_non_tuple, isi_non_is, is_non, isi_bl_bool, isi_bl_int, isi_bl_str, isi_bl_tuple, isi_bl_is, is_bl, isi_int_bool, isi_int_int, isi_int_str, isi_int_tuple, isi_int_is, is_int, isi_str_bool, isi_str_int, isi_str_str, isi_str_tuple, isi_str_is, is_str, isi_tup_bool, isi_tup_int, isi_tup_str, isi_tup_tuple, isi_tup_is, is_tup, isi_lst_bool, isi_lst_int, isi_lst_str, isi_lst_tuple, isi_lst_is, is_lst, isi_dct_bool, isi_dct_int, isi_dct_str, isi_dct_tuple, isi_dct_is, is_dct, gl_bool, gl_int, gl_str, gl_tuple, ↓reduceIte, sz0, sz1, sz2, sz3, sz4, sz5, sz6, sz7, sz8, sz9, sz10, List.zip_nil_left, Bool.false_eq_true, Bool.not_true, Bool.not_false, rk]
    · simp only [evSs, evS.eq_1, evS.eq_2, evS.eq_3, evS.eq_4, evS.eq_5, evS.eq_7, evS.eq_8, evS.eq_9, evS.eq_10, evE.eq_1, evE.eq_2, evE.eq_3, evE.eq_4, evE.eq_5, evE.eq_6, evE.eq_7, evE.eq_8, evE.eq_9, evE.eq_10, evE.eq_11, evE.eq_12, evE.eq_13, evE.eq_14, evE.eq_15, evE.eq_16, evE.eq_17, evE.eq_18, evE.eq_19, evE.eq_20, evE.eq_21, evE.eq_22, evE.eq_23, evL, evO, evC, R_ok, bS_ok, tk_cold, List.getElem?_cons_zero, List.getElem?_cons_succ, conD, List.set_cons_zero, List.set_cons_succ, Option.some.injEq, eq_int, ix_great, ix_rest, ix_turn, ix_cells, se_rest, se_turn, po_great, ne_great, ne_eq, reduceCtorEq, not_true_eq_false, not_false_eq_true, decide_true, decide_false, rc_great, le_st, it_lst, it_tup, ad_int, su_int, lt_int, gt_int, ge_int, le_int, in_int, in_bl, evI, Int.reduceEq, Int.reduceLT, Int.reduceLE, isi_non_bool, isi_non_int, isi_non_str, isi_non_tuple, isi_non_is, is_non, isi_bl_bool, isi_bl_int, isi_bl_str, isi_bl_tuple, isi_bl_is, is_bl, isi_int_bool, isi_int_int, isi_int_str, isi_int_tuple, isi_int_is, is_int, isi_str_bool, isi_str_int, isi_str_str, isi_str_tuple, isi_str_is, is_str, isi_tup_bool, isi_tup_int, isi_tup_str, isi_tup_tuple, isi_tup_is, is_tup, isi_lst_bool, isi_lst_int, isi_lst_str, isi_lst_tuple, isi_lst_is, is_lst, isi_dct_bool, isi_dct_int, isi_dct_str, isi_dct_tuple, isi_dct_is, is_dct, gl_bool, gl_int, gl_str, gl_tuple, ↓reduceIte, sz0, sz1, sz2, sz3, sz4, sz5, sz6, sz7, sz8, sz9, sz10, List.zip_nil_left, Bool.false_eq_true, Bool.not_true, Bool.not_false, rk]
      generalize hz : evE _ (Ex.lc _ _ _ _ _ _) _ _ = z
      have hr := lc_map (g := rk) (ds := ds) hz (tk_cold j) hS (by simp only [evSs, evS.eq_1, evS.eq_2, evS.eq_3, evS.eq_4, evS.eq_5, evS.eq_7, evS.eq_8, evS.eq_9, evS.eq_10, evE.eq_1, evE.eq_2, evE.eq_3, evE.eq_4, evE.eq_5, evE.eq_6, evE.eq_7, evE.eq_8, evE.eq_9, evE.eq_10, evE.eq_11, evE.eq_12, evE.eq_13, evE.eq_14, evE.eq_15, evE.eq_16, evE.eq_17, evE.eq_18, evE.eq_19, evE.eq_20, evE.eq_21, evE.eq_22, evE.eq_23, evL, evO, evC, R_ok, bS_ok, tk_cold, List.getElem?_cons_zero, List.getElem?_cons_succ, conD, List.set_cons_zero, List.set_cons_succ, Option.some.injEq, eq_int, ix_great, ix_rest, ix_turn, ix_cells, se_rest, se_turn, po_great, ne_great, ne_eq, reduceCtorEq, not_true_eq_false, not_false_eq_true, decide_true, decide_false, rc_great, le_st, it_lst, it_tup, ad_int, su_int, lt_int, gt_int, ge_int, le_int, in_int, in_bl, evI, Int.reduceEq, Int.reduceLT, Int.reduceLE, isi_non_bool, isi_non_int, isi_non_str, isi_non_tuple, isi_non_is, is_non, isi_bl_bool, isi_bl_int, isi_bl_str, isi_bl_tuple, isi_bl_is, is_bl, isi_int_bool, isi_int_int, isi_int_str, isi_int_tuple, isi_int_is, is_int, isi_str_bool, isi_str_int, isi_str_str, isi_str_tuple, isi_str_is, is_str, isi_tup_bool, isi_tup_int, isi_tup_str, isi_tup_tuple, isi_tup_is, is_tup, isi_lst_bool, isi_lst_int, isi_lst_str, isi_lst_tuple, isi_lst_is, is_lst, isi_dct_bool, isi_dct_int, isi_dct_str, isi_dct_tuple, isi_dct_is, is_dct, gl_bool, gl_int, gl_str, gl_tuple, ↓reduceIte, sz0, sz1, sz2, sz3, sz4, sz5, sz6, sz7, sz8, sz9, sz10, List.zip_nil_left, Bool.false_eq_true, Bool.not_true, Bool.not_false, ]) (sz_of (by omega)) (fun d _ => rk_cl d) (by
        intro d acc hd hc
        refine ⟨_, rfl, ?_⟩
        rw [tk_blk]
        simp only [evSs, evS.eq_1, evS.eq_2, evS.eq_3, evS.eq_4, evS.eq_5, evS.eq_7, evS.eq_8, evS.eq_9, evS.eq_10, evE.eq_1, evE.eq_2, evE.eq_3, evE.eq_4, evE.eq_5, evE.eq_6, evE.eq_7, evE.eq_8, evE.eq_9, evE.eq_10, evE.eq_11, evE.eq_12, evE.eq_13, evE.eq_14, evE.eq_15, evE.eq_16, evE.eq_17, evE.eq_18, evE.eq_19, evE.eq_20, evE.eq_21, evE.eq_22, evE.eq_23, evL, evO, evC, R_ok, bS_ok, tk_cold, List.getElem?_cons_zero, List.getElem?_cons_succ, conD, List.set_cons_zero, List.set_cons_succ, Option.some.injEq, eq_int, ix_great, ix_rest, ix_turn, ix_cells, se_rest, se_turn, po_great, ne_great, ne_eq, reduceCtorEq, not_true_eq_false, not_false_eq_true, decide_true, decide_false, rc_great, le_st, it_lst, it_tup, ad_int, su_int, lt_int, gt_int, ge_int, le_int, in_int, in_bl, evI, Int.reduceEq, Int.reduceLT, Int.reduceLE, isi_non_bool, isi_non_int, isi_non_str, isi_non_tuple, isi_non_is, is_non, isi_bl_bool, isi_bl_int, isi_bl_str, isi_bl_tuple, isi_bl_is, is_bl, isi_int_bool, isi_int_int, isi_int_str, isi_int_tuple, isi_int_is, is_int, isi_str_bool, isi_str_int, isi_str_str, isi_str_tuple, isi_str_is, is_str, isi_tup_bool, isi_tup_int, isi_tup_str, isi_tup_tuple, isi_tup_is, is_tup, isi_lst_bool, isi_lst_int, isi_lst_str, isi_lst_tuple, isi_lst_is, is_lst, isi_dct_bool, isi_dct_int, isi_dct_str, isi_dct_tuple, isi_dct_is, is_dct, gl_bool, gl_int, gl_str, gl_tuple, ↓reduceIte, sz0, sz1, sz2, sz3, sz4, sz5, sz6, sz7, sz8, sz9, sz10, List.zip_nil_left, Bool.false_eq_true, Bool.not_true, Bool.not_false, wipeD, List.map_cons, List.map_nil, rank_ok m (k := j) (by omega) (he d hd) _ hc])
      rw [hr, rkL_map]
      simp only [evSs, evS.eq_1, evS.eq_2, evS.eq_3, evS.eq_4, evS.eq_5, evS.eq_7, evS.eq_8, evS.eq_9, evS.eq_10, evE.eq_1, evE.eq_2, evE.eq_3, evE.eq_4, evE.eq_5, evE.eq_6, evE.eq_7, evE.eq_8, evE.eq_9, evE.eq_10, evE.eq_11, evE.eq_12, evE.eq_13, evE.eq_14, evE.eq_15, evE.eq_16, evE.eq_17, evE.eq_18, evE.eq_19, evE.eq_20, evE.eq_21, evE.eq_22, evE.eq_23, evL, evO, evC, R_ok, bS_ok, tk_cold, List.getElem?_cons_zero, List.getElem?_cons_succ, conD, List.set_cons_zero, List.set_cons_succ, Option.some.injEq, eq_int, ix_great, ix_rest, ix_turn, ix_cells, se_rest, se_turn, po_great, ne_great, ne_eq, reduceCtorEq, not_true_eq_false, not_false_eq_true, decide_true, decide_false, rc_great, le_st, it_lst, it_tup, ad_int, su_int, lt_int, gt_int, ge_int, le_int, in_int, in_bl, evI, Int.reduceEq, Int.reduceLT, Int.reduceLE, isi_non_bool, isi_non_int, isi_non_str, isi_non_tuple, isi_non_is, is_non, isi_bl_bool, isi_bl_int, isi_bl_str, isi_bl_tuple, isi_bl_is, is_bl, isi_int_bool, isi_int_int, isi_int_str, isi_int_tuple, isi_int_is, is_int, isi_str_bool, isi_str_int, isi_str_str, isi_str_tuple, isi_str_is, is_str, isi_tup_bool, isi_tup_int, isi_tup_str, isi_tup_tuple, isi_tup_is, is_tup, isi_lst_bool, isi_lst_int, isi_lst_str, isi_lst_tuple, isi_lst_is, is_lst, isi_dct_bool, isi_dct_int, isi_dct_str, isi_dct_tuple, isi_dct_is, is_dct, gl_bool, gl_int, gl_str, gl_tuple, ↓reduceIte, sz0, sz1, sz2, sz3, sz4, sz5, sz6, sz7, sz8, sz9, sz10, List.zip_nil_left, Bool.false_eq_true, Bool.not_true, Bool.not_false, tu_lst]
theorem lrank_ok : ∀ (n : Nat) {k : Nat} (hk : n + 2 ≤ k) {d : D} (h : Vn 5 n d) (S : Sto), Cl0 S → (mk3 T.sta T.tb k).1.C "_law_rank" [d] [] S = .ok (lr d) S
  | n, k, hk, d, h, S, hS => by
    obtain ⟨j, rfl⟩ : ∃ j, k = j + 1 := ⟨k - 1, by omega⟩
    refine C_ret (ds' := [d]) rfl rfl rfl rfl ?_ rfl (by rcases h.cases with rfl | ⟨b, rfl⟩ | ⟨i, rfl⟩ | ⟨x, rfl⟩ | ⟨ds, m, rfl, _⟩ <;> rfl)
    show evSs d_law_rank.body _ [some d, none, none] S = _
    unfold d_law_rank
    have hkd := lkind_ok (k := j) (by omega) h S
    rcases h.cases with rfl | ⟨b, rfl⟩ | ⟨i, rfl⟩ | ⟨x, rfl⟩ | ⟨ds, m, rfl, hl, rfl, he⟩
    · simp only [evSs, evS.eq_1, evS.eq_2, evS.eq_3, evS.eq_4, evS.eq_5, evS.eq_7, evS.eq_8, evS.eq_9, evS.eq_10, evE.eq_1, evE.eq_2, evE.eq_3, evE.eq_4, evE.eq_5, evE.eq_6, evE.eq_7, evE.eq_8, evE.eq_9, evE.eq_10, evE.eq_11, evE.eq_12, evE.eq_13, evE.eq_14, evE.eq_15, evE.eq_16, evE.eq_17, evE.eq_18, evE.eq_19, evE.eq_20, evE.eq_21, evE.eq_22, evE.eq_23, evL, evO, evC, R_ok, bS_ok, tk_cold, List.getElem?_cons_zero, List.getElem?_cons_succ, conD, List.set_cons_zero, List.set_cons_succ, Option.some.injEq, eq_int, ix_great, ix_rest, ix_turn, ix_cells, se_rest, se_turn, po_great, ne_great, ne_eq, reduceCtorEq, not_true_eq_false, not_false_eq_true, decide_true, decide_false, rc_great, le_st, it_lst, it_tup, ad_int, su_int, lt_int, gt_int, ge_int, le_int, in_int, in_bl, evI, Int.reduceEq, Int.reduceLT, Int.reduceLE, isi_non_bool, isi_non_int, isi_non_str, isi_non_tuple, isi_non_is, is_non, isi_bl_bool, isi_bl_int, isi_bl_str, isi_bl_tuple, isi_bl_is, is_bl, isi_int_bool, isi_int_int, isi_int_str, isi_int_tuple, isi_int_is, is_int, isi_str_bool, isi_str_int, isi_str_str, isi_str_tuple, isi_str_is, is_str, isi_tup_bool, isi_tup_int, isi_tup_str, isi_tup_tuple, isi_tup_is, is_tup, isi_lst_bool, isi_lst_int, isi_lst_str, isi_lst_tuple, isi_lst_is, is_lst, isi_dct_bool, isi_dct_int, isi_dct_str, isi_dct_tuple, isi_dct_is, is_dct, gl_bool, gl_int, gl_str, gl_tuple, ↓reduceIte, sz0, sz1, sz2, sz3, sz4, sz5, sz6, sz7, sz8, sz9, sz10, List.zip_nil_left, Bool.false_eq_true, Bool.not_true, Bool.not_false, lr, hkd, kn, rc_lst, kix_none, kix_bool, kix_int, kix_text, kix_tuple]
      done
    · simp only [evSs, evS.eq_1, evS.eq_2, evS.eq_3, evS.eq_4, evS.eq_5, evS.eq_7, evS.eq_8, evS.eq_9, evS.eq_10, evE.eq_1, evE.eq_2, evE.eq_3, evE.eq_4, evE.eq_5, evE.eq_6, evE.eq_7, evE.eq_8, evE.eq_9, evE.eq_10, evE.eq_11, evE.eq_12, evE.eq_13, evE.eq_14, evE.eq_15, evE.eq_16, evE.eq_17, evE.eq_18, evE.eq_19, evE.eq_20, evE.eq_21, evE.eq_22, evE.eq_23, evL, evO, evC, R_ok, bS_ok, tk_cold, List.getElem?_cons_zero, List.getElem?_cons_succ, conD, List.set_cons_zero, List.set_cons_succ, Option.some.injEq, eq_int, ix_great, ix_rest, ix_turn, ix_cells, se_rest, se_turn, po_great, ne_great, ne_eq, reduceCtorEq, not_true_eq_false, not_false_eq_true, decide_true, decide_false, rc_great, le_st, it_lst, it_tup, ad_int, su_int, lt_int, gt_int, ge_int, le_int, in_int, in_bl, evI, Int.reduceEq, Int.reduceLT, Int.reduceLE, isi_non_bool, isi_non_int, isi_non_str, isi_non_tuple, isi_non_is, is_non, isi_bl_bool, isi_bl_int, isi_bl_str, isi_bl_tuple, isi_bl_is, is_bl, isi_int_bool, isi_int_int, isi_int_str, isi_int_tuple, isi_int_is, is_int, isi_str_bool, isi_str_int, isi_str_str, isi_str_tuple, isi_str_is, is_str, isi_tup_bool, isi_tup_int, isi_tup_str, isi_tup_tuple, isi_tup_is, is_tup, isi_lst_bool, isi_lst_int, isi_lst_str, isi_lst_tuple, isi_lst_is, is_lst, isi_dct_bool, isi_dct_int, isi_dct_str, isi_dct_tuple, isi_dct_is, is_dct, gl_bool, gl_int, gl_str, gl_tuple, ↓reduceIte, sz0, sz1, sz2, sz3, sz4, sz5, sz6, sz7, sz8, sz9, sz10, List.zip_nil_left, Bool.false_eq_true, Bool.not_true, Bool.not_false, lr, hkd, kn, rc_lst, kix_none, kix_bool, kix_int, kix_text, kix_tuple]
    · simp only [evSs, evS.eq_1, evS.eq_2, evS.eq_3, evS.eq_4, evS.eq_5, evS.eq_7, evS.eq_8, evS.eq_9, evS.eq_10, evE.eq_1, evE.eq_2, evE.eq_3, evE.eq_4, evE.eq_5, evE.eq_6, evE.eq_7, evE.eq_8, evE.eq_9, evE.eq_10, evE.eq_11, evE.eq_12, evE.eq_13, evE.eq_14, evE.eq_15, evE.eq_16, evE.eq_17, evE.eq_18, evE.eq_19, evE.eq_20, evE.eq_21, evE.eq_22, evE.eq_23, evL, evO, evC, R_ok, bS_ok, tk_cold, List.getElem?_cons_zero, List.getElem?_cons_succ, conD, List.set_cons_zero, List.set_cons_succ, Option.some.injEq, eq_int, ix_great, ix_rest, ix_turn, ix_cells, se_rest, se_turn, po_great, ne_great, ne_eq, reduceCtorEq, not_true_eq_false, not_false_eq_true, decide_true, decide_false, rc_great, le_st, it_lst, it_tup, ad_int, su_int, lt_int, gt_int, ge_int, le_int, in_int, in_bl, evI, Int.reduceEq, Int.reduceLT, Int.reduceLE, isi_non_bool, isi_non_int, isi_non_str, isi_non_tuple, isi_non_is, is_non, isi_bl_bool, isi_bl_int, isi_bl_str, isi_bl_tuple, isi_bl_is, is_bl, isi_int_bool, isi_int_int, isi_int_str, isi_int_tuple, isi_int_is, is_int, isi_str_bool, isi_str_int, isi_str_str, isi_str_tuple, isi_str_is, is_str, isi_tup_bool, isi_tup_int, isi_tup_str, isi_tup_tuple, isi_tup_is, is_tup, isi_lst_bool, isi_lst_int, isi_lst_str, isi_lst_tuple, isi_lst_is, is_lst, isi_dct_bool, isi_dct_int, isi_dct_str, isi_dct_tuple, isi_dct_is, is_dct, gl_bool, gl_int, gl_str, gl_tuple, ↓reduceIte, sz0, sz1, sz2, sz3, sz4, sz5, sz6, sz7, sz8, sz9, sz10, List.zip_nil_left, Bool.false_eq_true, Bool.not_true, Bool.not_false, lr, hkd, kn, rc_lst, kix_none, kix_bool, kix_int, kix_text, kix_tuple]
    · simp only [evSs, evS.eq_1, evS.eq_2, evS.eq_3, evS.eq_4, evS.eq_5, evS.eq_7, evS.eq_8, evS.eq_9, evS.eq_10, evE.eq_1, evE.eq_2, evE.eq_3, evE.eq_4, evE.eq_5, evE.eq_6, evE.eq_7, evE.eq_8, evE.eq_9, evE.eq_10, evE.eq_11, evE.eq_12, evE.eq_13, evE.eq_14, evE.eq_15, evE.eq_16, evE.eq_17, evE.eq_18, evE.eq_19, evE.eq_20, evE.eq_21, evE.eq_22, evE.eq_23, evL, evO, evC, R_ok, bS_ok, tk_cold, List.getElem?_cons_zero, List.getElem?_cons_succ, conD, List.set_cons_zero, List.set_cons_succ, Option.some.injEq, eq_int, ix_great, ix_rest, ix_turn, ix_cells, se_rest, se_turn, po_great, ne_great, ne_eq, reduceCtorEq, not_true_eq_false, not_false_eq_true, decide_true, decide_false, rc_great, le_st, it_lst, it_tup, ad_int, su_int, lt_int, gt_int, ge_int, le_int, in_int, in_bl, evI, Int.reduceEq, Int.reduceLT, Int.reduceLE, isi_non_bool, isi_non_int, isi_non_str, isi_non_tuple, isi_non_is, is_non, isi_bl_bool, isi_bl_int, isi_bl_str, isi_bl_tuple, isi_bl_is, is_bl, isi_int_bool, isi_int_int, isi_int_str, isi_int_tuple, isi_int_is, is_int, isi_str_bool, isi_str_int, isi_str_str, isi_str_tuple, isi_str_is, is_str, isi_tup_bool, isi_tup_int, isi_tup_str, isi_tup_tuple, isi_tup_is, is_tup, isi_lst_bool, isi_lst_int, isi_lst_str, isi_lst_tuple, isi_lst_is, is_lst, isi_dct_bool, isi_dct_int, isi_dct_str, isi_dct_tuple, isi_dct_is, is_dct, gl_bool, gl_int, gl_str, gl_tuple, ↓reduceIte, sz0, sz1, sz2, sz3, sz4, sz5, sz6, sz7, sz8, sz9, sz10, List.zip_nil_left, Bool.false_eq_true, Bool.not_true, Bool.not_false, lr, hkd, kn, rc_lst, kix_none, kix_bool, kix_int, kix_text, kix_tuple]
    · simp only [evSs, evS.eq_1, evS.eq_2, evS.eq_3, evS.eq_4, evS.eq_5, evS.eq_7, evS.eq_8, evS.eq_9, evS.eq_10, evE.eq_1, evE.eq_2, evE.eq_3, evE.eq_4, evE.eq_5, evE.eq_6, evE.eq_7, evE.eq_8, evE.eq_9, evE.eq_10, evE.eq_11, evE.eq_12, evE.eq_13, evE.eq_14, evE.eq_15, evE.eq_16, evE.eq_17, evE.eq_18, evE.eq_19, evE.eq_20, evE.eq_21, evE.eq_22, evE.eq_23, evL, evO, evC, R_ok, bS_ok, tk_cold, List.getElem?_cons_zero, List.getElem?_cons_succ, conD, List.set_cons_zero, List.set_cons_succ, Option.some.injEq, eq_int, ix_great, ix_rest, ix_turn, ix_cells, se_rest, se_turn, po_great, ne_great, ne_eq, reduceCtorEq, not_true_eq_false, not_false_eq_true, decide_true, decide_false, rc_great, le_st, it_lst, it_tup, ad_int, su_int, lt_int, gt_int, ge_int, le_int, in_int, in_bl, evI, Int.reduceEq, Int.reduceLT, Int.reduceLE, isi_non_bool, isi_non_int, isi_non_str, isi_non_tuple, isi_non_is, is_non, isi_bl_bool, isi_bl_int, isi_bl_str, isi_bl_tuple, isi_bl_is, is_bl, isi_int_bool, isi_int_int, isi_int_str, isi_int_tuple, isi_int_is, is_int, isi_str_bool, isi_str_int, isi_str_str, isi_str_tuple, isi_str_is, is_str, isi_tup_bool, isi_tup_int, isi_tup_str, isi_tup_tuple, isi_tup_is, is_tup, isi_lst_bool, isi_lst_int, isi_lst_str, isi_lst_tuple, isi_lst_is, is_lst, isi_dct_bool, isi_dct_int, isi_dct_str, isi_dct_tuple, isi_dct_is, is_dct, gl_bool, gl_int, gl_str, gl_tuple, ↓reduceIte, sz0, sz1, sz2, sz3, sz4, sz5, sz6, sz7, sz8, sz9, sz10, List.zip_nil_left, Bool.false_eq_true, Bool.not_true, Bool.not_false, lr, hkd, kn, rc_lst, kix_none, kix_bool, kix_int, kix_text, kix_tuple]
      generalize hz : evE _ (Ex.lc _ _ _ _ _ _) _ _ = z
      have hr := lc_map (g := lr) (ds := ds) hz (tk_cold j) hS (by simp only [evSs, evS.eq_1, evS.eq_2, evS.eq_3, evS.eq_4, evS.eq_5, evS.eq_7, evS.eq_8, evS.eq_9, evS.eq_10, evE.eq_1, evE.eq_2, evE.eq_3, evE.eq_4, evE.eq_5, evE.eq_6, evE.eq_7, evE.eq_8, evE.eq_9, evE.eq_10, evE.eq_11, evE.eq_12, evE.eq_13, evE.eq_14, evE.eq_15, evE.eq_16, evE.eq_17, evE.eq_18, evE.eq_19, evE.eq_20, evE.eq_21, evE.eq_22, evE.eq_23, evL, evO, evC, R_ok, bS_ok, tk_cold, List.getElem?_cons_zero, List.getElem?_cons_succ, conD, List.set_cons_zero, List.set_cons_succ, Option.some.injEq, eq_int, ix_great, ix_rest, ix_turn, ix_cells, se_rest, se_turn, po_great, ne_great, ne_eq, reduceCtorEq, not_true_eq_false, not_false_eq_true, decide_true, decide_false, rc_great, le_st, it_lst, it_tup, ad_int, su_int, lt_int, gt_int, ge_int, le_int, in_int, in_bl, evI, Int.reduceEq, Int.reduceLT, Int.reduceLE, isi_non_bool, isi_non_int, isi_non_str, isi_non_tuple, isi_non_is, is_non, isi_bl_bool, isi_bl_int, isi_bl_str, isi_bl_tuple, isi_bl_is, is_bl, isi_int_bool, isi_int_int, isi_int_str, isi_int_tuple, isi_int_is, is_int, isi_str_bool, isi_str_int, isi_str_str, isi_str_tuple, isi_str_is, is_str, isi_tup_bool, isi_tup_int, isi_tup_str, isi_tup_tuple, isi_tup_is, is_tup, isi_lst_bool, isi_lst_int, isi_lst_str, isi_lst_tuple, isi_lst_is, is_lst, isi_dct_bool, isi_dct_int, isi_dct_str, isi_dct_tuple, isi_dct_is, is_dct, gl_bool, gl_int, gl_str, gl_tuple, ↓reduceIte, sz0, sz1, sz2, sz3, sz4, sz5, sz6, sz7, sz8, sz9, sz10, List.zip_nil_left, Bool.false_eq_true, Bool.not_true, Bool.not_false, ]) (sz_of (by omega)) (fun d _ => lr_cl d) (by
        intro d acc hd hc
        refine ⟨_, rfl, ?_⟩
        rw [tk_blk]
        simp only [evSs, evS.eq_1, evS.eq_2, evS.eq_3, evS.eq_4, evS.eq_5, evS.eq_7, evS.eq_8, evS.eq_9, evS.eq_10, evE.eq_1, evE.eq_2, evE.eq_3, evE.eq_4, evE.eq_5, evE.eq_6, evE.eq_7, evE.eq_8, evE.eq_9, evE.eq_10, evE.eq_11, evE.eq_12, evE.eq_13, evE.eq_14, evE.eq_15, evE.eq_16, evE.eq_17, evE.eq_18, evE.eq_19, evE.eq_20, evE.eq_21, evE.eq_22, evE.eq_23, evL, evO, evC, R_ok, bS_ok, tk_cold, List.getElem?_cons_zero, List.getElem?_cons_succ, conD, List.set_cons_zero, List.set_cons_succ, Option.some.injEq, eq_int, ix_great, ix_rest, ix_turn, ix_cells, se_rest, se_turn, po_great, ne_great, ne_eq, reduceCtorEq, not_true_eq_false, not_false_eq_true, decide_true, decide_false, rc_great, le_st, it_lst, it_tup, ad_int, su_int, lt_int, gt_int, ge_int, le_int, in_int, in_bl, evI, Int.reduceEq, Int.reduceLT, Int.reduceLE, isi_non_bool, isi_non_int, isi_non_str, isi_non_tuple, isi_non_is, is_non, isi_bl_bool, isi_bl_int, isi_bl_str, isi_bl_tuple, isi_bl_is, is_bl, isi_int_bool, isi_int_int, isi_int_str, isi_int_tuple, isi_int_is, is_int, isi_str_bool, isi_str_int, isi_str_str, isi_str_tuple, isi_str_is, is_str, isi_tup_bool, isi_tup_int, isi_tup_str, isi_tup_tuple, isi_tup_is, is_tup, isi_lst_bool, isi_lst_int, isi_lst_str, isi_lst_tuple, isi_lst_is, is_lst, isi_dct_bool, isi_dct_int, isi_dct_str, isi_dct_tuple, isi_dct_is, is_dct, gl_bool, gl_int, gl_str, gl_tuple, ↓reduceIte, sz0, sz1, sz2, sz3, sz4, sz5, sz6, sz7, sz8, sz9, sz10, List.zip_nil_left, Bool.false_eq_true, Bool.not_true, Bool.not_false, wipeD, List.map_cons, List.map_nil, lrank_ok m (k := j) (by omega) (he d hd) _ hc])
      rw [hr, lrL_map]
      simp only [evSs, evS.eq_1, evS.eq_2, evS.eq_3, evS.eq_4, evS.eq_5, evS.eq_7, evS.eq_8, evS.eq_9, evS.eq_10, evE.eq_1, evE.eq_2, evE.eq_3, evE.eq_4, evE.eq_5, evE.eq_6, evE.eq_7, evE.eq_8, evE.eq_9, evE.eq_10, evE.eq_11, evE.eq_12, evE.eq_13, evE.eq_14, evE.eq_15, evE.eq_16, evE.eq_17, evE.eq_18, evE.eq_19, evE.eq_20, evE.eq_21, evE.eq_22, evE.eq_23, evL, evO, evC, R_ok, bS_ok, tk_cold, List.getElem?_cons_zero, List.getElem?_cons_succ, conD, List.set_cons_zero, List.set_cons_succ, Option.some.injEq, eq_int, ix_great, ix_rest, ix_turn, ix_cells, se_rest, se_turn, po_great, ne_great, ne_eq, reduceCtorEq, not_true_eq_false, not_false_eq_true, decide_true, decide_false, rc_great, le_st, it_lst, it_tup, ad_int, su_int, lt_int, gt_int, ge_int, le_int, in_int, in_bl, evI, Int.reduceEq, Int.reduceLT, Int.reduceLE, isi_non_bool, isi_non_int, isi_non_str, isi_non_tuple, isi_non_is, is_non, isi_bl_bool, isi_bl_int, isi_bl_str, isi_bl_tuple, isi_bl_is, is_bl, isi_int_bool, isi_int_int, isi_int_str, isi_int_tuple, isi_int_is, is_int, isi_str_bool, isi_str_int, isi_str_str, isi_str_tuple, isi_str_is, is_str, isi_tup_bool, isi_tup_int, isi_tup_str, isi_tup_tuple, isi_tup_is, is_tup, isi_lst_bool, isi_lst_int, isi_lst_str, isi_lst_tuple, isi_lst_is, is_lst, isi_dct_bool, isi_dct_int, isi_dct_str, isi_dct_tuple, isi_dct_is, is_dct, gl_bool, gl_int, gl_str, gl_tuple, ↓reduceIte, sz0, sz1, sz2, sz3, sz4, sz5, sz6, sz7, sz8, sz9, sz10, List.zip_nil_left, Bool.false_eq_true, Bool.not_true, Bool.not_false, tu_lst]
end K01

set_option Elab.async false
set_option linter.all false
set_option maxRecDepth 100000
set_option maxHeartbeats 4000000
namespace K01
open PySem Fw
/-! the order of values -/
def iC (i j : Int) : Ordering := if i < j then .lt else if i = j then .eq else .gt
def sC (a b : Str) : Ordering := if a.cps.toList < b.cps.toList then .lt else if a = b then .eq else .gt
def th : Ordering → Ordering → Ordering
  | .eq, o => o
  | o, _ => o
def kd : D → Int
  | .bl _ => 1
  | .int _ => 2
  | .str _ => 3
  | .tup _ => 4
  | _ => 0
mutual
def sD : D → D → Ordering
  | .bl a, .bl b => iC (PyProof.Rows.b2i a) (PyProof.Rows.b2i b)
  | .int a, .int b => iC a b
  | .str a, .str b => sC a b
  | .tup a, .tup b => oL a b
  | _, _ => .eq
def oL : List D → List D → Ordering
  | [], [] => .eq
  | [], _ :: _ => .lt
  | _ :: _, [] => .gt
  | x :: xs, y :: ys => th (th (iC (kd x) (kd y)) (sD x y)) (oL xs ys)
end
def oD (a b : D) : Ordering := th (iC (kd a) (kd b)) (sD a b)
theorem iC_swap (i j : Int) : iC j i = (iC i j).swap := by
  unfold iC
  split <;> split <;> (try split) <;> (try split) <;> first | rfl | omega
theorem iC_eq {i j : Int} (h : iC i j = .eq) : i = j := by
  unfold iC at h
  split at h
  · cases h
  · split at h
    · assumption
    · cases h
theorem iC_lt {i j : Int} (h : iC i j = .lt) : i < j := by
  unfold iC at h
  split at h
  · assumption
  · split at h <;> cases h
theorem lt_iC {i j : Int} (h : i < j) : iC i j = .lt := if_pos h
theorem str_ext {a b : Str} (h : a.cps.toList = b.cps.toList) : a = b := by
  cases a; cases b
  simp only [Str.mk.injEq]
  exact Array.toList_inj.mp h
theorem sC_swap (a b : Str) : sC b a = (sC a b).swap := by
  unfold sC
  by_cases h1 : a.cps.toList < b.cps.toList
  · rw [if_pos h1, if_neg (List.lt_asymm h1), if_neg (fun e => by rw [e] at h1; exact List.lt_irrefl _ h1)]
    rfl
  · rw [if_neg h1]
    by_cases h2 : b.cps.toList < a.cps.toList
    · rw [if_pos h2, if_neg (fun e => by rw [e] at h2; exact List.lt_irrefl _ h2)]
      rfl
    · have e : a = b := str_ext (List.le_antisymm (List.not_lt.mp h2) (List.not_lt.mp h1))
      rw [if_neg h2, if_pos e, if_pos e.symm]
      rfl
theorem sC_eq {a b : Str} (h : sC a b = .eq) : a = b := by
  unfold sC at h
  split at h
  · cases h
  · split at h
    · assumption
    · cases h
theorem sC_lt {a b : Str} (h : sC a b = .lt) : a.cps.toList < b.cps.toList := by
  unfold sC at h
  split at h
  · assumption
  · split at h <;> cases h
theorem lt_sC {a b : Str} (h : a.cps.toList < b.cps.toList) : sC a b = .lt := if_pos h
theorem th_swap (a b : Ordering) : (th a b).swap = th a.swap b.swap := by cases a <;> rfl
theorem th_eq {a b : Ordering} (h : th a b = .eq) : a = .eq ∧ b = .eq := by cases a <;> first | exact ⟨rfl, h⟩ | cases h
mutual
theorem sD_swap : ∀ a b : D, sD b a = (sD a b).swap
  | .bl a, b => by cases b <;> first | rfl | (rw [sD, sD]; exact iC_swap _ _)
  | .int a, b => by cases b <;> first | rfl | (rw [sD, sD]; exact iC_swap _ _)
  | .str a, b => by cases b <;> first | rfl | (rw [sD, sD]; exact sC_swap _ _)
  | .tup a, b => by
    cases b with
    | tup b => rw [sD, sD]; exact oL_swap a b
    | _ => rfl
  | .non, b => by cases b <;> rfl
  | .ref _, b => by cases b <;> rfl | .ty _, b => by cases b <;> rfl | .glo _, b => by cases b <;> rfl | .scr _, b => by cases b <;> rfl | .lst _, b => by cases b <;> rfl | .dct _ _, b => by cases b <;> rfl | .obj _ _ _, b => by cases b <;> rfl
theorem oL_swap : ∀ a b : List D, oL b a = (oL a b).swap
  | [], b => by cases b <;> rfl
  | x :: xs, b => by
    cases b with
    | nil => rfl
    | cons y ys => rw [oL, oL, iC_swap (kd x) (kd y), sD_swap x y, oL_swap xs ys, th_swap, th_swap]
end
theorem oD_swap (a b : D) : oD b a = (oD a b).swap := by unfold oD; rw [iC_swap (kd a) (kd b), sD_swap a b, th_swap]
theorem oL_cons (x y : D) (xs ys : List D) : oL (x :: xs) (y :: ys) = th (oD x y) (oL xs ys) := by rw [oL]; rfl
theorem oD_eq {w : Nat} : ∀ (n : Nat) {a b : D}, Vn w n a → Vn w n b → oD a b = .eq → a = b
  | n, a, b, ha, hb, h => by
    obtain ⟨h1, h2⟩ := th_eq h
    have h1 := iC_eq h1
    rcases ha.cases with rfl | ⟨x, rfl⟩ | ⟨x, rfl⟩ | ⟨x, rfl⟩ | ⟨ds, m, rfl, hl, rfl, he⟩ <;> rcases hb.cases with rfl | ⟨y, rfl⟩ | ⟨y, rfl⟩ | ⟨y, rfl⟩ | ⟨es, m', rfl, hl', hm, he'⟩
    all_goals first
      | rfl
      | (simp [kd] at h1; done)
      | skip
    · rw [sD] at h2
      have h2 := iC_eq h2
      cases x <;> cases y <;> first | rfl | (simp [PyProof.Rows.b2i] at h2)
    · rw [sD] at h2
      rw [iC_eq h2]
    · rw [sD] at h2
      rw [sC_eq h2]
    · rw [sD] at h2
      have hm : m = m' := by omega
      subst hm
      have go : ∀ xs ys : List D, (∀ e, e ∈ xs → Vn w m e) → (∀ e, e ∈ ys → Vn w m e) → oL xs ys = .eq → xs = ys := by
        intro xs
        induction xs with
        | nil =>
          intro ys _ _ h
          cases ys with
          | nil => rfl
          | cons y ys => cases h
        | cons x xs ih =>
          intro ys h1 h2 h
          cases ys with
          | nil => cases h
          | cons y ys =>
            rw [oL_cons] at h
            obtain ⟨q1, q2⟩ := th_eq h
            rw [oD_eq m (h1 x List.mem_cons_self) (h2 y List.mem_cons_self) q1, ih ys (fun e he => h1 e (List.mem_cons_of_mem _ he)) (fun e he => h2 e (List.mem_cons_of_mem _ he)) q2]
      rw [go ds es he he' h2]
theorem oD_tr {w : Nat} : ∀ (n : Nat) {a b c : D}, Vn w n a → Vn w n b → Vn w n c → oD a b = .lt → oD b c = .lt → oD a c = .lt
  | n, a, b, c, ha, hb, hc, h1, h2 => by
    unfold oD at h1 h2 ⊢
    cases q1 : iC (kd a) (kd b) with
    | gt => rw [q1] at h1; cases h1
    | lt =>
      have l1 := iC_lt q1
      cases q2 : iC (kd b) (kd c) with
      | gt => rw [q2] at h2; cases h2
      | lt => rw [lt_iC (Int.lt_trans l1 (iC_lt q2))]; rfl
      | eq => rw [← iC_eq q2, q1]; rfl
    | eq =>
      have l1 := iC_eq q1
      cases q2 : iC (kd b) (kd c) with
      | gt => rw [q2] at h2; cases h2
      | lt => rw [l1, q2]; rfl
      | eq =>
        have l2 := iC_eq q2
        rw [q1] at h1
        rw [q2] at h2
        rw [l1, q2]
        show sD a c = .lt
        have h1 : sD a b = .lt := h1
        have h2 : sD b c = .lt := h2
        rcases ha.cases with rfl | ⟨x, rfl⟩ | ⟨x, rfl⟩ | ⟨x, rfl⟩ | ⟨ds, m, rfl, hl, rfl, he⟩ <;> rcases hb.cases with rfl | ⟨y, rfl⟩ | ⟨y, rfl⟩ | ⟨y, rfl⟩ | ⟨es, m', rfl, hl', hm, he'⟩
        all_goals first
          | (simp [sD] at h1; done)
          | (simp [kd] at l1; done)
          | skip
        all_goals rcases hc.cases with rfl | ⟨z, rfl⟩ | ⟨z, rfl⟩ | ⟨z, rfl⟩ | ⟨fs, m'', rfl, hl'', hm2, he''⟩
        all_goals first
          | (simp [kd] at l2; done)
          | skip
        · rw [sD] at h1 h2 ⊢
          exact lt_iC (Int.lt_trans (iC_lt h1) (iC_lt h2))
        · rw [sD] at h1 h2 ⊢
          exact lt_iC (Int.lt_trans (iC_lt h1) (iC_lt h2))
        · rw [sD] at h1 h2 ⊢
          exact lt_sC (List.lt_trans (sC_lt h1) (sC_lt h2))
        · rw [sD] at h1 h2 ⊢
          have hm : m = m' := by omega
          subst hm
          have hm : m = m'' := by omega
          subst hm
          have go : ∀ xs ys zs : List D, (∀ e, e ∈ xs → Vn w m e) → (∀ e, e ∈ ys → Vn w m e) → (∀ e, e ∈ zs → Vn w m e) → oL xs ys = .lt → oL ys zs = .lt → oL xs zs = .lt := by
            intro xs
            induction xs with
            | nil =>
              intro ys zs _ _ _ h1 h2
              cases zs with
              | nil => cases ys <;> cases h2
              | cons z zs => rfl
            | cons x xs ih =>
              intro ys zs g1 g2 g3 h1 h2
              cases ys with
              | nil => cases h1
              | cons y ys =>
                cases zs with
                | nil => cases h2
                | cons z zs =>
                  rw [oL_cons] at h1 h2 ⊢
                  have vx := g1 x List.mem_cons_self
                  have vy := g2 y List.mem_cons_self
                  have vz := g3 z List.mem_cons_self
                  cases r1 : oD x y with
                  | gt => rw [r1] at h1; cases h1
                  | lt =>
                    cases r2 : oD y z with
                    | gt => rw [r2] at h2; cases h2
                    | lt => rw [oD_tr m vx vy vz r1 r2]; rfl
                    | eq => rw [← oD_eq m vy vz r2, r1]; rfl
                  | eq =>
                    rw [oD_eq m vx vy r1]
                    cases r2 : oD y z with
                    | gt => rw [r2] at h2; cases h2
                    | lt => rfl
                    | eq =>
                      rw [r1] at h1
                      rw [r2] at h2
                      exact ih ys zs (fun e he => g1 e (List.mem_cons_of_mem _ he)) (fun e he => g2 e (List.mem_cons_of_mem _ he)) (fun e he => g3 e (List.mem_cons_of_mem _ he)) h1 h2
          exact go ds es fs he he' he'' h1 h2
end K01

set_option Elab.async false
set_option linter.all false
set_option maxRecDepth 100000
set_option maxHeartbeats 4000000
namespace K01
open PySem Fw
mutual
def pk : D → PyData
  | .bl b => .tuple [.int 1, .int (PyProof.Rows.b2i b)]
  | .int i => .tuple [.int 2, .int i]
  | .str x => .tuple [.int 3, .str x]
  | .tup ds => .tuple [.int 4, .tuple (pkL ds)]
  | _ => .tuple [.int 0, .int 0]
def pkL : List D → List PyData
  | [] => []
  | d :: ds => pk d :: pkL ds
end
mutual
def pl : D → PyData
  | .bl b => .list [.int 1, .bool b]
  | .int i => .list [.int 2, .int i]
  | .str x => .list [.int 3, .str x]
  | .tup ds => .list [.int 4, .list (plL ds)]
  | _ => .list [.int 0, .int 0]
def plL : List D → List PyData
  | [] => []
  | d :: ds => pl d :: plL ds
end
mutual
theorem rk_py : ∀ d : D, toPy (rk d) = some (pk d)
  | .non => rfl | .bl _ => rfl | .int _ => rfl | .str _ => rfl | .ref _ => rfl | .ty _ => rfl | .glo _ => rfl | .scr _ => rfl | .lst _ => rfl | .dct _ _ => rfl | .obj _ _ _ => rfl
  | .tup ds => by
    rw [rk, pk, toPy, toPyL, toPyL, toPyL, toPy, toPy, rkL_py ds]
    rfl
theorem rkL_py : ∀ ds : List D, toPyL (rkL ds) = some (pkL ds)
  | [] => rfl
  | d :: ds => by rw [rkL, pkL, toPyL, rk_py d, rkL_py ds]; rfl
end
mutual
theorem lr_py : ∀ d : D, toPy (lr d) = some (pl d)
  | .non => rfl | .bl _ => rfl | .int _ => rfl | .str _ => rfl | .ref _ => rfl | .ty _ => rfl | .glo _ => rfl | .scr _ => rfl | .lst _ => rfl | .dct _ _ => rfl | .obj _ _ _ => rfl
  | .tup ds => by
    rw [lr, pl, toPy, toPyL, toPyL, toPyL, toPy, toPy, lrL_py ds]
    rfl
theorem lrL_py : ∀ ds : List D, toPyL (lrL ds) = some (plL ds)
  | [] => rfl
  | d :: ds => by rw [lrL, plL, toPyL, lr_py d, lrL_py ds]; rfl
end
theorem pk_dep {w : Nat} : ∀ (n : Nat) {d : D}, Vn w n d → (pk d).depth ≤ 2 * n + 1 ∧ (pl d).depth ≤ 2 * n + 1
  | n, d, h => by
    rcases h.cases with rfl | ⟨b, rfl⟩ | ⟨i, rfl⟩ | ⟨x, rfl⟩ | ⟨ds, m, rfl, hl, rfl, he⟩
    · exact ⟨show 1 ≤ _ by omega, show 1 ≤ _ by omega⟩
    · exact ⟨show 1 ≤ _ by omega, show 1 ≤ _ by omega⟩
    · exact ⟨show 1 ≤ _ by omega, show 1 ≤ _ by omega⟩
    · exact ⟨show 1 ≤ _ by omega, show 1 ≤ _ by omega⟩
    · have go : ∀ xs : List D, (∀ e, e ∈ xs → Vn w m e) → PyData.depthAll (pkL xs) ≤ 2 * m + 1 ∧ PyData.depthAll (plL xs) ≤ 2 * m + 1 := by
        intro xs
        induction xs with
        | nil => exact fun _ => ⟨Nat.zero_le _, Nat.zero_le _⟩
        | cons x xs ih =>
          intro h
          have h1 := pk_dep m (h x List.mem_cons_self)
          have h2 := ih fun e he => h e (List.mem_cons_of_mem _ he)
          rw [pkL, plL, PyData.depthAll, PyData.depthAll]
          omega
      have h := go ds he
      rw [pk, pl]
      simp only [PyData.depth, PyData.depthAll]
      omega
theorem eqI (i j : Int) : PyData.eqv (.int i) (.int j) = (iC i j == .eq) := by
  rw [PyData.eqv]
  unfold iC
  by_cases h : i = j
  · rw [if_neg (by omega), if_pos h, h]; simp
  · by_cases h2 : i < j
    · rw [if_pos h2]; simp [h]
    · rw [if_neg h2, if_neg h]; simp [h]
theorem ltI (i j : Int) : ltP (.int i) (.int j) = some (iC i j == .lt) := by
  rw [ltP]
  unfold iC
  by_cases h2 : i < j
  · rw [if_pos h2]; simp [h2]
  · rw [if_neg h2]; split <;> simp [h2]
theorem eqS (i j : Str) : PyData.eqv (.str i) (.str j) = (sC i j == .eq) := by
  rw [PyData.eqv]
  unfold sC
  by_cases h2 : i.cps.toList < j.cps.toList
  · rw [if_pos h2]
    have : i ≠ j := fun e => by rw [e] at h2; exact List.lt_irrefl _ h2
    simp [this]
  · rw [if_neg h2]; split <;> simp [*]
theorem ltS (i j : Str) : ltP (.str i) (.str j) = some (sC i j == .lt) := by
  rw [ltP]
  unfold sC
  by_cases h2 : i.cps.toList < j.cps.toList
  · rw [if_pos h2]; simp [h2]
  · rw [if_neg h2]; split <;> simp [h2]
theorem eqB (i j : Bool) : PyData.eqv (.bool i) (.bool j) = (iC (PyProof.Rows.b2i i) (PyProof.Rows.b2i j) == .eq) := by cases i <;> cases j <;> rfl
theorem ltB (i j : Bool) : ltP (.bool i) (.bool j) = some (iC (PyProof.Rows.b2i i) (PyProof.Rows.b2i j) == .lt) := by cases i <;> cases j <;> rfl
theorem th_beq (a b : Ordering) : (th a b == .eq) = ((a == .eq) && (b == .eq)) := by cases a <;> cases b <;> rfl
/-! pairs: a number first -/
theorem pairE {i j : Int} {p q : PyData} {o : Ordering} (h : i = j → PyData.eqv p q = (o == .eq)) : PyData.eqvAll [.int i, p] [.int j, q] = (th (iC i j) o == .eq) := by
  rw [PyData.eqvAll, PyData.eqvAll, PyData.eqvAll, eqI, th_beq, Bool.and_true]
  by_cases e : i = j
  · rw [h e]
  · have : (iC i j == .eq) = false := by
      cases z : iC i j with
      | eq => exact absurd (iC_eq z) e
      | _ => rfl
    rw [this]
    rfl
theorem pairL {i j : Int} {p q : PyData} {o : Ordering} (h : i = j → PyData.eqv p q = (o == .eq)) (h2 : i = j → ltP p q = some (o == .lt)) : ltPL [.int i, p] [.int j, q] = some (th (iC i j) o == .lt) := by
  rw [ltPL, eqI, ltI]
  cases z : iC i j with
  | eq =>
    have e := iC_eq z
    rw [if_pos (show (Ordering.eq == Ordering.eq) = true from rfl), ltPL, h e, h2 e, ltPL]
    cases o <;> rfl
  | lt => rfl
  | gt => rfl
theorem pk_ord {w : Nat} : ∀ (n : Nat) {a b : D}, Vn w n a → Vn w n b → (PyData.eqv (pk a) (pk b) = (oD a b == .eq) ∧ ltP (pk a) (pk b) = some (oD a b == .lt)) ∧ (PyData.eqv (pl a) (pl b) = (oD a b == .eq) ∧ ltP (pl a) (pl b) = some (oD a b == .lt))
  | n, a, b, ha, hb => by
    have ne : ∀ {i j : Int}, i ≠ j → ∀ {p q : PyData} {o : Ordering}, PyData.eqvAll [.int i, p] [.int j, q] = (th (iC i j) o == .eq) ∧ ltPL [.int i, p] [.int j, q] = some (th (iC i j) o == .lt) :=
      fun h => ⟨pairE fun e => absurd e h, pairL (fun e => absurd e h) (fun e => absurd e h)⟩
    rcases ha.cases with rfl | ⟨x, rfl⟩ | ⟨x, rfl⟩ | ⟨x, rfl⟩ | ⟨ds, m, rfl, hl, rfl, he⟩ <;> rcases hb.cases with rfl | ⟨y, rfl⟩ | ⟨y, rfl⟩ | ⟨y, rfl⟩ | ⟨es, m', rfl, hl', hm, he'⟩
    all_goals
      unfold oD
      simp only [pk, pl, PyData.eqv, ltP, kd]
    all_goals first
      | exact ⟨ne (by decide), ne (by decide)⟩
      | skip
    · exact ⟨⟨rfl, rfl⟩, ⟨rfl, rfl⟩⟩
    · simp only [sD]
      exact ⟨⟨pairE fun _ => eqI _ _, pairL (fun _ => eqI _ _) (fun _ => ltI _ _)⟩, ⟨pairE fun _ => eqB _ _, pairL (fun _ => eqB _ _) (fun _ => ltB _ _)⟩⟩
    · simp only [sD]
      exact ⟨⟨pairE fun _ => eqI _ _, pairL (fun _ => eqI _ _) (fun _ => ltI _ _)⟩, ⟨pairE fun _ => eqI _ _, pairL (fun _ => eqI _ _) (fun _ => ltI _ _)⟩⟩
    · simp only [sD]
      exact ⟨⟨pairE fun _ => eqS _ _, pairL (fun _ => eqS _ _) (fun _ => ltS _ _)⟩, ⟨pairE fun _ => eqS _ _, pairL (fun _ => eqS _ _) (fun _ => ltS _ _)⟩⟩
    · have hm : m = m' := by omega
      subst hm
      have go : ∀ xs ys : List D, (∀ e, e ∈ xs → Vn w m e) → (∀ e, e ∈ ys → Vn w m e) →
          (PyData.eqvAll (pkL xs) (pkL ys) = (oL xs ys == .eq) ∧ ltPL (pkL xs) (pkL ys) = some (oL xs ys == .lt)) ∧ (PyData.eqvAll (plL xs) (plL ys) = (oL xs ys == .eq) ∧ ltPL (plL xs) (plL ys) = some (oL xs ys == .lt)) := by
        intro xs
        induction xs with
        | nil =>
          intro ys _ _
          cases ys with
          | nil => exact ⟨⟨rfl, rfl⟩, ⟨rfl, rfl⟩⟩
          | cons y ys => exact ⟨⟨rfl, rfl⟩, ⟨rfl, rfl⟩⟩
        | cons x xs ih =>
          intro ys h1 h2
          cases ys with
          | nil => exact ⟨⟨rfl, rfl⟩, ⟨rfl, rfl⟩⟩
          | cons y ys =>
            obtain ⟨⟨a1, a2⟩, ⟨a3, a4⟩⟩ := pk_ord m (h1 x List.mem_cons_self) (h2 y List.mem_cons_self)
            obtain ⟨⟨b1, b2⟩, ⟨b3, b4⟩⟩ := ih ys (fun e he => h1 e (List.mem_cons_of_mem _ he)) (fun e he => h2 e (List.mem_cons_of_mem _ he))
            rw [oL_cons, pkL, pkL, plL, plL, PyData.eqvAll, PyData.eqvAll, ltPL, ltPL, a1, a2, a3, a4, b1, b2, b3, b4, th_beq]
            refine ⟨⟨rfl, ?_⟩, ⟨rfl, ?_⟩⟩ <;> cases oD x y <;> rfl
      obtain ⟨⟨c1, c2⟩, ⟨c3, c4⟩⟩ := go ds es he he'
      simp only [sD]
      exact ⟨⟨pairE fun _ => c1, pairL (fun _ => c1) (fun _ => c2)⟩, ⟨pairE fun _ => c3, pairL (fun _ => c3) (fun _ => c4)⟩⟩
section
variable {n : Nat} {a b : D} (ha : Vn 5 n a) (hb : Vn 5 n b) (hn : n ≤ 28) (S : Sto)
theorem rk_flat (d : D) : flat S (rk d) = rk d := by cases d <;> rfl
theorem lr_flat (d : D) : flat S (lr d) = lr d := by cases d <;> rfl
include ha hb hn
theorem eq_rk : cmpD .Eq (rk a) (rk b) S = .ok (D.bl (oD a b == .eq)) S := by
  have : cmp1 .Eq (rk a) (rk b) = some (oD a b == .eq) := by
    show eqD _ _ = _
    unfold eqD
    rw [rk_py, rk_py]
    have h := (pk_dep n ha).1
    refine (if_pos (show min (pk a).depth (pk b).depth ≤ 60 by omega)).trans ?_
    rw [(pk_ord n ha hb).1.1]
  unfold cmpD
  rw [rk_flat, rk_flat, this]
theorem lt_rk : cmpD .Lt (rk a) (rk b) S = .ok (D.bl (oD a b == .lt)) S := by
  have : cmp1 .Lt (rk a) (rk b) = some (oD a b == .lt) := by
    show ltD _ _ = _
    unfold ltD
    rw [rk_py, rk_py]
    have h := (pk_dep n ha).1
    refine (if_pos (show min (pk a).depth (pk b).depth ≤ 60 by omega)).trans ?_
    rw [(pk_ord n ha hb).1.2]
  unfold cmpD
  rw [rk_flat, rk_flat, this]
theorem eq_lr : cmpD .Eq (lr a) (lr b) S = .ok (D.bl (oD a b == .eq)) S := by
  have : cmp1 .Eq (lr a) (lr b) = some (oD a b == .eq) := by
    show eqD _ _ = _
    unfold eqD
    rw [lr_py, lr_py]
    have h := (pk_dep n ha).2
    refine (if_pos (show min (pl a).depth (pl b).depth ≤ 60 by omega)).trans ?_
    rw [(pk_ord n ha hb).2.1]
  unfold cmpD
  rw [lr_flat, lr_flat, this]
theorem lt_lr : cmpD .Lt (lr a) (lr b) S = .ok (D.bl (oD a b == .lt)) S := by
  have : cmp1 .Lt (lr a) (lr b) = some (oD a b == .lt) := by
    show ltD _ _ = _
    unfold ltD
    rw [lr_py, lr_py]
    have h := (pk_dep n ha).2
    refine (if_pos (show min (pl a).depth (pl b).depth ≤ 60 by omega)).trans ?_
    rw [(pk_ord n ha hb).2.2]
  unfold cmpD
  rw [lr_flat, lr_flat, this]
end
end K01

set_option Elab.async false
set_option linter.all false
set_option maxRecDepth 100000
set_option maxHeartbeats 4000000
namespace K01
open PySem Fw
theorem R_exc {α β : Type} (x : Xc) (S : Sto) (f : α → Sto → R β) : (R.exc x S).bind f = .exc x S := rfl
theorem bS_exc {α : Type} (x : Xc) (S : Sto) (s : En) (f : α → Sto → R Fl) : (R.exc x S).bindS s f = .ok (.exc x s) S := rfl
theorem rx_bad (k : Nat) : (("BadValue" : Str) ∈ (mk3 T.sta T.tb k).1.RX) = True := eq_true (by rw [tk_RX]; exact List.mem_singleton.mpr rfl)
theorem gl_KINDS (k : Nat) : (mk3 T.sta T.tb k).1.G "KINDS" = some (.tup [.str "none", .str "bool", .str "int", .str "text", .str "tuple"]) := tk_g k rfl
theorem all_bls (k : Nat) (ds : List D) (S : Sto) : biD (mk3 T.sta T.tb k).1 "all" [.lst (ds.map fun d => D.bl (isv d))] S = .ok (.bl (isvL ds)) S := by
  refine all_of k ?_
  unfold biAll
  show (match blsD (ds.map fun d => D.bl (isv d)) with
    | some bs => R.ok (D.bl (bs.all id)) S
    | none => .bad) = _
  rw [bls_map, isvL_all]
theorem C_end {k : Nat} {f : Str} {d : Df} (h : T.tb f = some d) (hl : d.lam = false) {ds ds' : List D} {kws : List (Str × D)} {S S' : Sto} {e : En} (hs : decide ((ds.length, kws.map (·.1)) ∈ d.shapes) = true) (hb : bindG d.ps ds kws = some ds')
    (hq : evSs d.body (mk3 T.sta T.tb k).1 (startD d.N ds') S = .ok (.next e) S') (hn : S'.length = S.length) : (mk3 T.sta T.tb (k + 1)).1.C f ds kws S = .ok .non S' := by
  refine C_succ h hl (r_df (S' := S) hs hb hq ?_)
  exact gc_eq hn rfl
theorem C_exc {k : Nat} {f : Str} {d : Df} (h : T.tb f = some d) (hl : d.lam = false) {ds ds' : List D} {kws : List (Str × D)} {S : Sto} {e : En} {x : Xc} (hs : decide ((ds.length, kws.map (·.1)) ∈ d.shapes) = true) (hb : bindG d.ps ds kws = some ds')
    (hq : evSs d.body (mk3 T.sta T.tb k).1 (startD d.N ds') S = .ok (.exc x e) S) : (mk3 T.sta T.tb (k + 1)).1.C f ds kws S = .exc x S := by
  refine C_succ h hl (r_df (S' := S) hs hb hq ?_)
  have h : (if (closedL S.length x.ds && (S.take S.length).all (O.closed S.length)) = true then R.exc x (S.take S.length) else R.exc x S : R D) = .exc x S := by
    rw [List.take_length]
    split <;> rfl
  exact h
/-! is_value, on any datum -/
def flB : D → Bool
  | .non => true
  | .bl _ => true
  | .int _ => true
  | .str _ => true
  | .lst _ => true
  | .dct _ _ => true
  | _ => false
def Wn : Nat → D → Prop
  | 0, d => flB d = true
  | n + 1, d => flB d = true ∨ ∃ ds : List D, d = .tup ds ∧ ds.length ≤ 10 ∧ ∀ e, e ∈ ds → Wn n e
theorem Wn.cases {n : Nat} {d : D} (h : Wn n d) : d = .non ∨ (∃ b, d = .bl b) ∨ (∃ i, d = .int i) ∨ (∃ x, d = .str x) ∨ (∃ ds, d = .lst ds) ∨ (∃ ks ds, d = .dct ks ds) ∨ ∃ ds m, d = .tup ds ∧ ds.length ≤ 10 ∧ n = m + 1 ∧ ∀ e, e ∈ ds → Wn m e := by
  have fl : flB d = true ∨ ∃ ds m, d = .tup ds ∧ ds.length ≤ 10 ∧ n = m + 1 ∧ ∀ e, e ∈ ds → Wn m e := by
    cases n with
    | zero => exact .inl h
    | succ n =>
      rcases h with h | ⟨ds, h1, h2, h3⟩
      · exact .inl h
      · exact .inr ⟨ds, n, h1, h2, rfl, h3⟩
  rcases fl with h | h
  · cases d with
    | non => exact .inl rfl
    | bl b => exact .inr (.inl ⟨b, rfl⟩)
    | int b => exact .inr (.inr (.inl ⟨b, rfl⟩))
    | str b => exact .inr (.inr (.inr (.inl ⟨b, rfl⟩)))
    | lst b => exact .inr (.inr (.inr (.inr (.inl ⟨b, rfl⟩))))
    | dct ks b => exact .inr (.inr (.inr (.inr (.inr (.inl ⟨ks, b, rfl⟩)))))
    | _ => simp [flB] at h
  · exact .inr (.inr (.inr (.inr (.inr (.inr h)))))
theorem isvL_of : ∀ {ds : List D}, (∀ e, e ∈ ds → isv e = true) → isvL ds = true
  | [], _ => rfl
  | d :: ds, h => by rw [isvL, h d List.mem_cons_self, isvL_of fun e he => h e (List.mem_cons_of_mem _ he)]; rfl
theorem Vn.wn {w : Nat} (hw : w ≤ 10) : ∀ {n : Nat} {d : D}, Vn w n d → Wn n d ∧ isv d = true
  | n, d, h => by
    rcases h.cases with rfl | ⟨b, rfl⟩ | ⟨i, rfl⟩ | ⟨x, rfl⟩ | ⟨ds, m, rfl, hl, rfl, he⟩
    · cases n <;> first | exact ⟨rfl, rfl⟩ | exact ⟨.inl rfl, rfl⟩
    · cases n <;> first | exact ⟨rfl, rfl⟩ | exact ⟨.inl rfl, rfl⟩
    · cases n <;> first | exact ⟨rfl, rfl⟩ | exact ⟨.inl rfl, rfl⟩
    · cases n <;> first | exact ⟨rfl, rfl⟩ | exact ⟨.inl rfl, rfl⟩
    · refine ⟨.inr ⟨ds, rfl, by omega, fun e h => (Vn.wn hw (he e h)).1⟩, ?_⟩
      rw [isv]
      exact isvL_of fun e h => (Vn.wn hw (he e h)).2
theorem isv_ok : ∀ (n : Nat) {k : Nat} (hk : n + 1 ≤ k) {d : D} (h : Wn n d) {ds : List D} {kws : List (Str × D)} (hs : decide ((ds.length, kws.map (·.1)) ∈ dis_value.shapes) = true) (hb : bindG dis_value.ps ds kws = some [d]) (S : Sto), Cl0 S →
    (mk3 T.sta T.tb k).1.C "is_value" ds kws S = .ok (.bl (isv d)) S
  | n, k, hk, d, h, ds, kws, hs, hb, S, hS => by
    obtain ⟨j, rfl⟩ : ∃ j, k = j + 1 := ⟨k - 1, by omega⟩
    refine C_ret rfl rfl hs hb ?_ rfl rfl
    show evSs dis_value.body _ [some d, none] S = _
    unfold dis_value
    rcases h.cases with rfl | ⟨b, rfl⟩ | ⟨i, rfl⟩ | ⟨x, rfl⟩ | ⟨es, rfl⟩ | ⟨ks, es, rfl⟩ | ⟨es, m, rfl, hl, rfl, he⟩
    · simp only [evSs, evS.eq_1, evS.eq_2, evS.eq_3, evS.eq_4, evS.eq_5, evS.eq_7, evS.eq_8, evS.eq_9, evS.eq_10, evE.eq_1, evE.eq_2, evE.eq_3, evE.eq_4, evE.eq_5, evE.eq_6, evE.eq_7, evE.eq_8, evE.eq_9, evE.eq_10, evE.eq_11, evE.eq_12, evE.eq_13, evE.eq_14, evE.eq_15, evE.eq_16, evE.eq_17, evE.eq_18, evE.eq_19, evE.eq_20, evE.eq_21, evE.eq_22, evE.eq_23, evL, evO, evC, R_ok, bS_ok, tk_cold, List.getElem?_cons_zero, List.getElem?_cons_succ, conD, List.set_cons_zero, List.set_cons_succ, Option.some.injEq, eq_int, ix_great, ix_rest, ix_turn, ix_cells, se_rest, se_turn, po_great, ne_great, ne_eq, reduceCtorEq, not_true_eq_false, not_false_eq_true, decide_true, decide_false, rc_great, le_st, it_lst, it_tup, ad_int, su_int, lt_int, gt_int, ge_int, le_int, in_int, in_bl, evI, Int.reduceEq, Int.reduceLT, Int.reduceLE, isi_non_bool, isi_non_int, isi_non_str, isi_non_tuple, isi_non_is, is_non, isi_bl_bool, isi_bl_int, isi_bl_str, isi_bl_tuple, isi_bl_is, is_bl, isi_int_bool, isi_int_int, isi_int_str, isi_int_tuple, isi_int_is, is_int, isi_str_bool, isi_str_int, isi_str_str, isi_str_tuple, isi_str_is, is_str, isi_tup_bool, isi_tup_int, isi_tup_str, isi_tup_tuple, isi_tup_is, is_tup, isi_lst_bool, isi_lst_int, isi_lst_str, isi_lst_tuple, isi_lst_is, is_lst, isi_dct_bool, isi_dct_int, isi_dct_str, isi_dct_tuple, isi_dct_is, is_dct, gl_bool, gl_int, gl_str, gl_tuple, ↓reduceIte, sz0, sz1, sz2, sz3, sz4, sz5, sz6, sz7, sz8, sz9, sz10, List.zip_nil_left, List.zip_cons_cons, R_exc, bS_exc, rx_bad, all_bls, gl_KINDS, tu_lst, len_lst, len_tup, rc_lst,  Bool.false_eq_true, Bool.not_true, Bool.not_false, isv]
    · simp only [evSs, evS.eq_1, evS.eq_2, evS.eq_3, evS.eq_4, evS.eq_5, evS.eq_7, evS.eq_8, evS.eq_9, evS.eq_10, evE.eq_1, evE.eq_2, evE.eq_3, evE.eq_4, evE.eq_5, evE.eq_6, evE.eq_7, evE.eq_8, evE.eq_9, evE.eq_10, evE.eq_11, evE.eq_12, evE.eq_13, evE.eq_14, evE.eq_15, evE.eq_16, evE.eq_17, evE.eq_18, evE.eq_19, evE.eq_20, evE.eq_21, evE.eq_22, evE.eq_23, evL, evO, evC, R_ok, bS_ok, tk_cold, List.getElem?_cons_zero, List.getElem?_cons_succ, conD, List.set_cons_zero, List.set_cons_succ, Option.some.injEq, eq_int, ix_great, ix_rest, ix_turn, ix_cells, se_rest, se_turn, po_great, ne_great, ne_eq, reduceCtorEq, not_true_eq_false, not_false_eq_true, decide_true, decide_false, rc_great, le_st, it_lst, it_tup, ad_int, su_int, lt_int, gt_int, ge_int, le_int, in_int, in_bl, evI, Int.reduceEq, Int.reduceLT, Int.reduceLE, isi_non_bool, isi_non_int, isi_non_str, isi_non_tuple, isi_non_is, is_non, isi_bl_bool, isi_bl_int, isi_bl_str, isi_bl_tuple, isi_bl_is, is_bl, isi_int_bool, isi_int_int, isi_int_str, isi_int_tuple, isi_int_is, is_int, isi_str_bool, isi_str_int, isi_str_str, isi_str_tuple, isi_str_is, is_str, isi_tup_bool, isi_tup_int, isi_tup_str, isi_tup_tuple, isi_tup_is, is_tup, isi_lst_bool, isi_lst_int, isi_lst_str, isi_lst_tuple, isi_lst_is, is_lst, isi_dct_bool, isi_dct_int, isi_dct_str, isi_dct_tuple, isi_dct_is, is_dct, gl_bool, gl_int, gl_str, gl_tuple, ↓reduceIte, sz0, sz1, sz2, sz3, sz4, sz5, sz6, sz7, sz8, sz9, sz10, List.zip_nil_left, List.zip_cons_cons, R_exc, bS_exc, rx_bad, all_bls, gl_KINDS, tu_lst, len_lst, len_tup, rc_lst,  Bool.false_eq_true, Bool.not_true, Bool.not_false, isv]
    · simp only [evSs, evS.eq_1, evS.eq_2, evS.eq_3, evS.eq_4, evS.eq_5, evS.eq_7, evS.eq_8, evS.eq_9, evS.eq_10, evE.eq_1, evE.eq_2, evE.eq_3, evE.eq_4, evE.eq_5, evE.eq_6, evE.eq_7, evE.eq_8, evE.eq_9, evE.eq_10, evE.eq_11, evE.eq_12, evE.eq_13, evE.eq_14, evE.eq_15, evE.eq_16, evE.eq_17, evE.eq_18, evE.eq_19, evE.eq_20, evE.eq_21, evE.eq_22, evE.eq_23, evL, evO, evC, R_ok, bS_ok, tk_cold, List.getElem?_cons_zero, List.getElem?_cons_succ, conD, List.set_cons_zero, List.set_cons_succ, Option.some.injEq, eq_int, ix_great, ix_rest, ix_turn, ix_cells, se_rest, se_turn, po_great, ne_great, ne_eq, reduceCtorEq, not_true_eq_false, not_false_eq_true, decide_true, decide_false, rc_great, le_st, it_lst, it_tup, ad_int, su_int, lt_int, gt_int, ge_int, le_int, in_int, in_bl, evI, Int.reduceEq, Int.reduceLT, Int.reduceLE, isi_non_bool, isi_non_int, isi_non_str, isi_non_tuple, isi_non_is, is_non, isi_bl_bool, isi_bl_int, isi_bl_str, isi_bl_tuple, isi_bl_is, is_bl, isi_int_bool, isi_int_int, isi_int_str, isi_int_tuple, isi_int_is, is_int, isi_str_bool, isi_str_int, isi_str_str, isi_str_tuple, isi_str_is, is_str, isi_tup_bool, isi_tup_int, isi_tup_str, isi_tup_tuple, isi_tup_is, is_tup, isi_lst_bool, isi_lst_int, isi_lst_str, isi_lst_tuple, isi_lst_is, is_lst, isi_dct_bool, isi_dct_int, isi_dct_str, isi_dct_tuple, isi_dct_is, is_dct, gl_bool, gl_int, gl_str, gl_tuple, ↓reduceIte, sz0, sz1, sz2, sz3, sz4, sz5, sz6, sz7, sz8, sz9, sz10, List.zip_nil_left, List.zip_cons_cons, R_exc, bS_exc, rx_bad, all_bls, gl_KINDS, tu_lst, len_lst, len_tup, rc_lst,  Bool.false_eq_true, Bool.not_true, Bool.not_false, isv]
    · simp only [evSs, evS.eq_1, evS.eq_2, evS.eq_3, evS.eq_4, evS.eq_5, evS.eq_7, evS.eq_8, evS.eq_9, evS.eq_10, evE.eq_1, evE.eq_2, evE.eq_3, evE.eq_4, evE.eq_5, evE.eq_6, evE.eq_7, evE.eq_8, evE.eq_9, evE.eq_10, evE.eq_11, evE.eq_12, evE.eq_13, evE.eq_14, evE.eq_15, evE.eq_16, evE.eq_17, evE.eq_18, evE.eq_19, evE.eq_20, evE.eq_21, evE.eq_22, evE.eq_23, evL, evO, evC, R_ok, bS_ok, tk_cold, List.getElem?_cons_zero, List.getElem?_cons_succ, conD, List.set_cons_zero, List.set_cons_succ, Option.some.injEq, eq_int, ix_great, ix_rest, ix_turn, ix_cells, se_rest, se_turn, po_great, ne_great, ne_eq, reduceCtorEq, not_true_eq_false, not_false_eq_true, decide_true, decide_false, rc_great, le_st, it_lst, it_tup, ad_int, su_int, lt_int, gt_int, ge_int, le_int, in_int, in_bl, evI, Int.reduceEq, Int.reduceLT, Int.reduceLE, isi_non_bool, isi_non_int, isi_non_str, isi_non_tuple, isi_non_is, is_non, isi_bl_bool, isi_bl_int, isi_bl_str, isi_bl_tuple, isi_bl_is, is_bl, isi_int_bool, isi_int_int, isi_int_str, isi_int_tuple, isi_int_is, is_int, isi_str_bool, isi_str_int, isi_str_str, isi_str_tuple, isi_str_is, is_str, isi_tup_bool, isi_tup_int, isi_tup_str, isi_tup_tuple, isi_tup_is, is_tup, isi_lst_bool, isi_lst_int, isi_lst_str, isi_lst_tuple, isi_lst_is, is_lst, isi_dct_bool, isi_dct_int, isi_dct_str, isi_dct_tuple, isi_dct_is, is_dct, gl_bool, gl_int, gl_str, gl_tuple, ↓reduceIte, sz0, sz1, sz2, sz3, sz4, sz5, sz6, sz7, sz8, sz9, sz10, List.zip_nil_left, List.zip_cons_cons, R_exc, bS_exc, rx_bad, all_bls, gl_KINDS, tu_lst, len_lst, len_tup, rc_lst,  Bool.false_eq_true, Bool.not_true, Bool.not_false, isv]
    · simp only [evSs, evS.eq_1, evS.eq_2, evS.eq_3, evS.eq_4, evS.eq_5, evS.eq_7, evS.eq_8, evS.eq_9, evS.eq_10, evE.eq_1, evE.eq_2, evE.eq_3, evE.eq_4, evE.eq_5, evE.eq_6, evE.eq_7, evE.eq_8, evE.eq_9, evE.eq_10, evE.eq_11, evE.eq_12, evE.eq_13, evE.eq_14, evE.eq_15, evE.eq_16, evE.eq_17, evE.eq_18, evE.eq_19, evE.eq_20, evE.eq_21, evE.eq_22, evE.eq_23, evL, evO, evC, R_ok, bS_ok, tk_cold, List.getElem?_cons_zero, List.getElem?_cons_succ, conD, List.set_cons_zero, List.set_cons_succ, Option.some.injEq, eq_int, ix_great, ix_rest, ix_turn, ix_cells, se_rest, se_turn, po_great, ne_great, ne_eq, reduceCtorEq, not_true_eq_false, not_false_eq_true, decide_true, decide_false, rc_great, le_st, it_lst, it_tup, ad_int, su_int, lt_int, gt_int, ge_int, le_int, in_int, in_bl, evI, Int.reduceEq, Int.reduceLT, Int.reduceLE, isi_non_bool, isi_non_int, isi_non_str, isi_non_tuple, isi_non_is, is_non, isi_bl_bool, isi_bl_int, isi_bl_str, isi_bl_tuple, isi_bl_is, is_bl, isi_int_bool, isi_int_int, isi_int_str, isi_int_tuple, isi_int_is, is_int, isi_str_bool, isi_str_int, isi_str_str, isi_str_tuple, isi_str_is, is_str, isi_tup_bool, isi_tup_int, isi_tup_str, isi_tup_tuple, isi_tup_is, is_tup, isi_lst_bool, isi_lst_int, isi_lst_str, isi_lst_tuple, isi_lst_is, is_lst, isi_dct_bool, isi_dct_int, isi_dct_str, isi_dct_tuple, isi_dct_is, is_dct, gl_bool, gl_int, gl_str, gl_tuple, ↓reduceIte, sz0, sz1, sz2, sz3, sz4, sz5, sz6, sz7, sz8, sz9, sz10, List.zip_nil_left, List.zip_cons_cons, R_exc, bS_exc, rx_bad, all_bls, gl_KINDS, tu_lst, len_lst, len_tup, rc_lst,  Bool.false_eq_true, Bool.not_true, Bool.not_false, isv]
    · simp only [evSs, evS.eq_1, evS.eq_2, evS.eq_3, evS.eq_4, evS.eq_5, evS.eq_7, evS.eq_8, evS.eq_9, evS.eq_10, evE.eq_1, evE.eq_2, evE.eq_3, evE.eq_4, evE.eq_5, evE.eq_6, evE.eq_7, evE.eq_8, evE.eq_9, evE.eq_10, evE.eq_11, evE.eq_12, evE.eq_13, evE.eq_14, evE.eq_15, evE.eq_16, evE.eq_17, evE.eq_18, evE.eq_19, evE.eq_20, evE.eq_21, evE.eq_22, evE.eq_23, evL, evO, evC, R_ok, bS_ok, tk_cold, List.getElem?_cons_zero, List.getElem?_cons_succ, conD, List.set_cons_zero, List.set_cons_succ, Option.some.injEq, eq_int, ix_great, ix_rest, ix_turn, ix_cells, se_rest, se_turn, po_great, ne_great, ne_eq, reduceCtorEq, not_true_eq_false, not_false_eq_true, decide_true, decide_false, rc_great, le_st, it_lst, it_tup, ad_int, su_int, lt_int, gt_int, ge_int, le_int, in_int, in_bl, evI, Int.reduceEq, Int.reduceLT, Int.reduceLE, isi_non_bool, isi_non_int, isi_non_str, isi_non_tuple, isi_non_is, is_non, isi_bl_bool, isi_bl_int, isi_bl_str, isi_bl_tuple, isi_bl_is, is_bl, isi_int_bool, isi_int_int, isi_int_str, isi_int_tuple, isi_int_is, is_int, isi_str_bool, isi_str_int, isi_str_str, isi_str_tuple, isi_str_is, is_str, isi_tup_bool, isi_tup_int, isi_tup_str, isi_tup_tuple, isi_tup_is, is_tup, isi_lst_bool, isi_lst_int, isi_lst_str, isi_lst_tuple, isi_lst_is, is_lst, isi_dct_bool, isi_dct_int, isi_dct_str, isi_dct_tuple, isi_dct_is, is_dct, gl_bool, gl_int, gl_str, gl_tuple, ↓reduceIte, sz0, sz1, sz2, sz3, sz4, sz5, sz6, sz7, sz8, sz9, sz10, List.zip_nil_left, List.zip_cons_cons, R_exc, bS_exc, rx_bad, all_bls, gl_KINDS, tu_lst, len_lst, len_tup, rc_lst,  Bool.false_eq_true, Bool.not_true, Bool.not_false, isv]
    · simp only [evSs, evS.eq_1, evS.eq_2, evS.eq_3, evS.eq_4, evS.eq_5, evS.eq_7, evS.eq_8, evS.eq_9, evS.eq_10, evE.eq_1, evE.eq_2, evE.eq_3, evE.eq_4, evE.eq_5, evE.eq_6, evE.eq_7, evE.eq_8, evE.eq_9, evE.eq_10, evE.eq_11, evE.eq_12, evE.eq_13, evE.eq_14, evE.eq_15, evE.eq_16, evE.eq_17, evE.eq_18, evE.eq_19, evE.eq_20, evE.eq_21, evE.eq_22, evE.eq_23, evL, evO, evC, R_ok, bS_ok, tk_cold, List.getElem?_cons_zero, List.getElem?_cons_succ, conD, List.set_cons_zero, List.set_cons_succ, Option.some.injEq, eq_int, ix_great, ix_rest, ix_turn, ix_cells, se_rest, se_turn, po_great, ne_great, ne_eq, reduceCtorEq, not_true_eq_false, not_false_eq_true, decide_true, decide_false, rc_great, le_st, it_lst, it_tup, ad_int, su_int, lt_int, gt_int, ge_int, le_int, in_int, in_bl, evI, Int.reduceEq, Int.reduceLT, Int.reduceLE, isi_non_bool, isi_non_int, isi_non_str, isi_non_tuple, isi_non_is, is_non, isi_bl_bool, isi_bl_int, isi_bl_str, isi_bl_tuple, isi_bl_is, is_bl, isi_int_bool, isi_int_int, isi_int_str, isi_int_tuple, isi_int_is, is_int, isi_str_bool, isi_str_int, isi_str_str, isi_str_tuple, isi_str_is, is_str, isi_tup_bool, isi_tup_int, isi_tup_str, isi_tup_tuple, isi_tup_is, is_tup, isi_lst_bool, isi_lst_int, isi_lst_str, isi_lst_tuple, isi_lst_is, is_lst, isi_dct_bool, isi_dct_int, isi_dct_str, isi_dct_tuple, isi_dct_is, is_dct, gl_bool, gl_int, gl_str, gl_tuple, ↓reduceIte, sz0, sz1, sz2, sz3, sz4, sz5, sz6, sz7, sz8, sz9, sz10, List.zip_nil_left, List.zip_cons_cons, R_exc, bS_exc, rx_bad, all_bls, gl_KINDS, tu_lst, len_lst, len_tup, rc_lst,  Bool.false_eq_true, Bool.not_true, Bool.not_false, isv]
      generalize hz : evE _ (Ex.lc _ _ _ _ _ _) _ _ = z
      have hr := lc_map (g := fun d => D.bl (isv d)) (ds := es) hz (tk_cold j) hS (by simp only [evSs, evS.eq_1, evS.eq_2, evS.eq_3, evS.eq_4, evS.eq_5, evS.eq_7, evS.eq_8, evS.eq_9, evS.eq_10, evE.eq_1, evE.eq_2, evE.eq_3, evE.eq_4, evE.eq_5, evE.eq_6, evE.eq_7, evE.eq_8, evE.eq_9, evE.eq_10, evE.eq_11, evE.eq_12, evE.eq_13, evE.eq_14, evE.eq_15, evE.eq_16, evE.eq_17, evE.eq_18, evE.eq_19, evE.eq_20, evE.eq_21, evE.eq_22, evE.eq_23, evL, evO, evC, R_ok, bS_ok, tk_cold, List.getElem?_cons_zero, List.getElem?_cons_succ, conD, List.set_cons_zero, List.set_cons_succ, Option.some.injEq, eq_int, ix_great, ix_rest, ix_turn, ix_cells, se_rest, se_turn, po_great, ne_great, ne_eq, reduceCtorEq, not_true_eq_false, not_false_eq_true, decide_true, decide_false, rc_great, le_st, it_lst, it_tup, ad_int, su_int, lt_int, gt_int, ge_int, le_int, in_int, in_bl, evI, Int.reduceEq, Int.reduceLT, Int.reduceLE, isi_non_bool, isi_non_int, isi_non_str, isi_non_tuple, isi_non_is, is_non, isi_bl_bool, isi_bl_int, isi_bl_str, isi_bl_tuple, isi_bl_is, is_bl, isi_int_bool, isi_int_int, isi_int_str, isi_int_tuple, isi_int_is, is_int, isi_str_bool, isi_str_int, isi_str_str, isi_str_tuple, isi_str_is, is_str, isi_tup_bool, isi_tup_int, isi_tup_str, isi_tup_tuple, isi_tup_is, is_tup, isi_lst_bool, isi_lst_int, isi_lst_str, isi_lst_tuple, isi_lst_is, is_lst, isi_dct_bool, isi_dct_int, isi_dct_str, isi_dct_tuple, isi_dct_is, is_dct, gl_bool, gl_int, gl_str, gl_tuple, ↓reduceIte, sz0, sz1, sz2, sz3, sz4, sz5, sz6, sz7, sz8, sz9, sz10, List.zip_nil_left, List.zip_cons_cons, R_exc, bS_exc, rx_bad, all_bls, gl_KINDS, tu_lst, len_lst, len_tup, rc_lst,  Bool.false_eq_true, Bool.not_true, Bool.not_false, ]) (sz_of (by omega)) (fun d _ => rfl) (by
        intro d acc hd hc
        refine ⟨_, rfl, ?_⟩
        rw [tk_blk]
        simp only [evSs, evS.eq_1, evS.eq_2, evS.eq_3, evS.eq_4, evS.eq_5, evS.eq_7, evS.eq_8, evS.eq_9, evS.eq_10, evE.eq_1, evE.eq_2, evE.eq_3, evE.eq_4, evE.eq_5, evE.eq_6, evE.eq_7, evE.eq_8, evE.eq_9, evE.eq_10, evE.eq_11, evE.eq_12, evE.eq_13, evE.eq_14, evE.eq_15, evE.eq_16, evE.eq_17, evE.eq_18, evE.eq_19, evE.eq_20, evE.eq_21, evE.eq_22, evE.eq_23, evL, evO, evC, R_ok, bS_ok, tk_cold, List.getElem?_cons_zero, List.getElem?_cons_succ, conD, List.set_cons_zero, List.set_cons_succ, Option.some.injEq, eq_int, ix_great, ix_rest, ix_turn, ix_cells, se_rest, se_turn, po_great, ne_great, ne_eq, reduceCtorEq, not_true_eq_false, not_false_eq_true, decide_true, decide_false, rc_great, le_st, it_lst, it_tup, ad_int, su_int, lt_int, gt_int, ge_int, le_int, in_int, in_bl, evI, Int.reduceEq, Int.reduceLT, Int.reduceLE, isi_non_bool, isi_non_int, isi_non_str, isi_non_tuple, isi_non_is, is_non, isi_bl_bool, isi_bl_int, isi_bl_str, isi_bl_tuple, isi_bl_is, is_bl, isi_int_bool, isi_int_int, isi_int_str, isi_int_tuple, isi_int_is, is_int, isi_str_bool, isi_str_int, isi_str_str, isi_str_tuple, isi_str_is, is_str, isi_tup_bool, isi_tup_int, isi_tup_str, isi_tup_tuple, isi_tup_is, is_tup, isi_lst_bool, isi_lst_int, isi_lst_str, isi_lst_tuple, isi_lst_is, is_lst, isi_dct_bool, isi_dct_int, isi_dct_str, isi_dct_tuple, isi_dct_is, is_dct, gl_bool, gl_int, gl_str, gl_tuple, ↓reduceIte, sz0, sz1, sz2, sz3, sz4, sz5, sz6, sz7, sz8, sz9, sz10, List.zip_nil_left, List.zip_cons_cons, R_exc, bS_exc, rx_bad, all_bls, gl_KINDS, tu_lst, len_lst, len_tup, rc_lst,  Bool.false_eq_true, Bool.not_true, Bool.not_false, wipeD, List.map_cons, List.map_nil, isv_ok m (k := j) (by omega) (he d hd) (ds := [d]) (kws := []) rfl rfl _ hc])
      rw [hr]
      simp only [evSs, evS.eq_1, evS.eq_2, evS.eq_3, evS.eq_4, evS.eq_5, evS.eq_7, evS.eq_8, evS.eq_9, evS.eq_10, evE.eq_1, evE.eq_2, evE.eq_3, evE.eq_4, evE.eq_5, evE.eq_6, evE.eq_7, evE.eq_8, evE.eq_9, evE.eq_10, evE.eq_11, evE.eq_12, evE.eq_13, evE.eq_14, evE.eq_15, evE.eq_16, evE.eq_17, evE.eq_18, evE.eq_19, evE.eq_20, evE.eq_21, evE.eq_22, evE.eq_23, evL, evO, evC, R_ok, bS_ok, tk_cold, List.getElem?_cons_zero, List.getElem?_cons_succ, conD, List.set_cons_zero, List.set_cons_succ, Option.some.injEq, eq_int, ix_great, ix_rest, ix_turn, ix_cells, se_rest, se_turn, po_great, ne_great, ne_eq, reduceCtorEq, not_true_eq_false, not_false_eq_true, decide_true, decide_false, rc_great, le_st, it_lst, it_tup, ad_int, su_int, lt_int, gt_int, ge_int, le_int, in_int, in_bl, evI, Int.reduceEq, Int.reduceLT, Int.reduceLE, isi_non_bool, isi_non_int, isi_non_str, isi_non_tuple, isi_non_is, is_non, isi_bl_bool, isi_bl_int, isi_bl_str, isi_bl_tuple, isi_bl_is, is_bl, isi_int_bool, isi_int_int, isi_int_str, isi_int_tuple, isi_int_is, is_int, isi_str_bool, isi_str_int, isi_str_str, isi_str_tuple, isi_str_is, is_str, isi_tup_bool, isi_tup_int, isi_tup_str, isi_tup_tuple, isi_tup_is, is_tup, isi_lst_bool, isi_lst_int, isi_lst_str, isi_lst_tuple, isi_lst_is, is_lst, isi_dct_bool, isi_dct_int, isi_dct_str, isi_dct_tuple, isi_dct_is, is_dct, gl_bool, gl_int, gl_str, gl_tuple, ↓reduceIte, sz0, sz1, sz2, sz3, sz4, sz5, sz6, sz7, sz8, sz9, sz10, List.zip_nil_left, List.zip_cons_cons, R_exc, bS_exc, rx_bad, all_bls, gl_KINDS, tu_lst, len_lst, len_tup, rc_lst,  Bool.false_eq_true, Bool.not_true, Bool.not_false, ]
theorem need_ok {n k : Nat} (hk : n + 2 ≤ k) {d : D} (h : Wn n d) (hv : isv d = true) (S : Sto) (hS : Cl0 S) : (mk3 T.sta T.tb k).1.C "need_value" [d] [] S = .ok .non S := by
  obtain ⟨j, rfl⟩ : ∃ j, k = j + 1 := ⟨k - 1, by omega⟩
  refine C_end (e := [some d]) (ds' := [d]) rfl rfl rfl rfl ?_ rfl
  show evSs dneed_value.body _ [some d] S = _
  unfold dneed_value
  simp only [evSs, evS.eq_1, evS.eq_2, evS.eq_3, evS.eq_4, evS.eq_5, evS.eq_7, evS.eq_8, evS.eq_9, evS.eq_10, evE.eq_1, evE.eq_2, evE.eq_3, evE.eq_4, evE.eq_5, evE.eq_6, evE.eq_7, evE.eq_8, evE.eq_9, evE.eq_10, evE.eq_11, evE.eq_12, evE.eq_13, evE.eq_14, evE.eq_15, evE.eq_16, evE.eq_17, evE.eq_18, evE.eq_19, evE.eq_20, evE.eq_21, evE.eq_22, evE.eq_23, evL, evO, evC, R_ok, bS_ok, tk_cold, List.getElem?_cons_zero, List.getElem?_cons_succ, conD, List.set_cons_zero, List.set_cons_succ, Option.some.injEq, eq_int, ix_great, ix_rest, ix_turn, ix_cells, se_rest, se_turn, po_great, ne_great, ne_eq, reduceCtorEq, not_true_eq_false, not_false_eq_true, decide_true, decide_false, rc_great, le_st, it_lst, it_tup, ad_int, su_int, lt_int, gt_int, ge_int, le_int, in_int, in_bl, evI, Int.reduceEq, Int.reduceLT, Int.reduceLE, isi_non_bool, isi_non_int, isi_non_str, isi_non_tuple, isi_non_is, is_non, isi_bl_bool, isi_bl_int, isi_bl_str, isi_bl_tuple, isi_bl_is, is_bl, isi_int_bool, isi_int_int, isi_int_str, isi_int_tuple, isi_int_is, is_int, isi_str_bool, isi_str_int, isi_str_str, isi_str_tuple, isi_str_is, is_str, isi_tup_bool, isi_tup_int, isi_tup_str, isi_tup_tuple, isi_tup_is, is_tup, isi_lst_bool, isi_lst_int, isi_lst_str, isi_lst_tuple, isi_lst_is, is_lst, isi_dct_bool, isi_dct_int, isi_dct_str, isi_dct_tuple, isi_dct_is, is_dct, gl_bool, gl_int, gl_str, gl_tuple, ↓reduceIte, sz0, sz1, sz2, sz3, sz4, sz5, sz6, sz7, sz8, sz9, sz10, List.zip_nil_left, List.zip_cons_cons, R_exc, bS_exc, rx_bad, all_bls, gl_KINDS, tu_lst, len_lst, len_tup, rc_lst,  Bool.false_eq_true, Bool.not_true, Bool.not_false, isv_ok n (k := j) (by omega) h (ds := [d]) (kws := []) rfl rfl S hS, hv]
def badV : Xc := ⟨"BadValue", [], []⟩
theorem need_bad {n k : Nat} (hk : n + 2 ≤ k) {d : D} (h : Wn n d) (hv : isv d = false) (S : Sto) (hS : Cl0 S) : (mk3 T.sta T.tb k).1.C "need_value" [d] [] S = .exc badV S := by
  obtain ⟨j, rfl⟩ : ∃ j, k = j + 1 := ⟨k - 1, by omega⟩
  refine C_exc (e := [some d]) (ds' := [d]) rfl rfl rfl rfl ?_
  show evSs dneed_value.body _ [some d] S = _
  unfold dneed_value
  simp only [evSs, evS.eq_1, evS.eq_2, evS.eq_3, evS.eq_4, evS.eq_5, evS.eq_7, evS.eq_8, evS.eq_9, evS.eq_10, evE.eq_1, evE.eq_2, evE.eq_3, evE.eq_4, evE.eq_5, evE.eq_6, evE.eq_7, evE.eq_8, evE.eq_9, evE.eq_10, evE.eq_11, evE.eq_12, evE.eq_13, evE.eq_14, evE.eq_15, evE.eq_16, evE.eq_17, evE.eq_18, evE.eq_19, evE.eq_20, evE.eq_21, evE.eq_22, evE.eq_23, evL, evO, evC, R_ok, bS_ok, tk_cold, List.getElem?_cons_zero, List.getElem?_cons_succ, conD, List.set_cons_zero, List.set_cons_succ, Option.some.injEq, eq_int, ix_great, ix_rest, ix_turn, ix_cells, se_rest, se_turn, po_great, ne_great, ne_eq, reduceCtorEq, not_true_eq_false, not_false_eq_true, decide_true, decide_false, rc_great, le_st, it_lst, it_tup, ad_int, su_int, lt_int, gt_int, ge_int, le_int, in_int, in_bl, evI, Int.reduceEq, Int.reduceLT, Int.reduceLE, isi_non_bool, isi_non_int, isi_non_str, isi_non_tuple, isi_non_is, is_non, isi_bl_bool, isi_bl_int, isi_bl_str, isi_bl_tuple, isi_bl_is, is_bl, isi_int_bool, isi_int_int, isi_int_str, isi_int_tuple, isi_int_is, is_int, isi_str_bool, isi_str_int, isi_str_str, isi_str_tuple, isi_str_is, is_str, isi_tup_bool, isi_tup_int, isi_tup_str, isi_tup_tuple, isi_tup_is, is_tup, isi_lst_bool, isi_lst_int, isi_lst_str, isi_lst_tuple, isi_lst_is, is_lst, isi_dct_bool, isi_dct_int, isi_dct_str, isi_dct_tuple, isi_dct_is, is_dct, gl_bool, gl_int, gl_str, gl_tuple, ↓reduceIte, sz0, sz1, sz2, sz3, sz4, sz5, sz6, sz7, sz8, sz9, sz10, List.zip_nil_left, List.zip_cons_cons, R_exc, bS_exc, rx_bad, all_bls, gl_KINDS, tu_lst, len_lst, len_tup, rc_lst,  Bool.false_eq_true, Bool.not_true, Bool.not_false, isv_ok n (k := j) (by omega) h (ds := [d]) (kws := []) rfl rfl S hS, hv, badV]
section
variable {n k : Nat} (hk : n + 3 ≤ k)
include hk
theorem kind_ok {d : D} (h : Vn 5 n d) {ds : List D} {kws : List (Str × D)} (hs : decide ((ds.length, kws.map (·.1)) ∈ dkind_of.shapes) = true) (hb : bindG dkind_of.ps ds kws = some [d]) (S : Sto) (hS : Cl0 S) :
    (mk3 T.sta T.tb k).1.C "kind_of" ds kws S = .ok (.str (kn d)) S := by
  obtain ⟨j, rfl⟩ : ∃ j, k = j + 1 := ⟨k - 1, by omega⟩
  refine C_ret rfl rfl hs hb ?_ rfl rfl
  show evSs dkind_of.body _ [some d] S = _
  unfold dkind_of
  have hw := h.wn (by omega)
  have ix : idxD (rk d) (.int 0) S = .ok (.int (kd d)) S := by cases d <;> rfl
  have ix2 : idxD (.tup [.str "none", .str "bool", .str "int", .str "text", .str "tuple"]) (.int (kd d)) S = .ok (.str (kn d)) S := by
    rcases h.cases with rfl | ⟨b, rfl⟩ | ⟨i, rfl⟩ | ⟨x, rfl⟩ | ⟨ds, m, rfl, _⟩ <;> rfl
  simp only [evSs, evS.eq_1, evS.eq_2, evS.eq_3, evS.eq_4, evS.eq_5, evS.eq_7, evS.eq_8, evS.eq_9, evS.eq_10, evE.eq_1, evE.eq_2, evE.eq_3, evE.eq_4, evE.eq_5, evE.eq_6, evE.eq_7, evE.eq_8, evE.eq_9, evE.eq_10, evE.eq_11, evE.eq_12, evE.eq_13, evE.eq_14, evE.eq_15, evE.eq_16, evE.eq_17, evE.eq_18, evE.eq_19, evE.eq_20, evE.eq_21, evE.eq_22, evE.eq_23, evL, evO, evC, R_ok, bS_ok, tk_cold, List.getElem?_cons_zero, List.getElem?_cons_succ, conD, List.set_cons_zero, List.set_cons_succ, Option.some.injEq, eq_int, ix_great, ix_rest, ix_turn, ix_cells, se_rest, se_turn, po_great, ne_great, ne_eq, reduceCtorEq, not_true_eq_false, not_false_eq_true, decide_true, decide_false, rc_great, le_st, it_lst, it_tup, ad_int, su_int, lt_int, gt_int, ge_int, le_int, in_int, in_bl, evI, Int.reduceEq, Int.reduceLT, Int.reduceLE, isi_non_bool, isi_non_int, isi_non_str, isi_non_tuple, isi_non_is, is_non, isi_bl_bool, isi_bl_int, isi_bl_str, isi_bl_tuple, isi_bl_is, is_bl, isi_int_bool, isi_int_int, isi_int_str, isi_int_tuple, isi_int_is, is_int, isi_str_bool, isi_str_int, isi_str_str, isi_str_tuple, isi_str_is, is_str, isi_tup_bool, isi_tup_int, isi_tup_str, isi_tup_tuple, isi_tup_is, is_tup, isi_lst_bool, isi_lst_int, isi_lst_str, isi_lst_tuple, isi_lst_is, is_lst, isi_dct_bool, isi_dct_int, isi_dct_str, isi_dct_tuple, isi_dct_is, is_dct, gl_bool, gl_int, gl_str, gl_tuple, ↓reduceIte, sz0, sz1, sz2, sz3, sz4, sz5, sz6, sz7, sz8, sz9, sz10, List.zip_nil_left, List.zip_cons_cons, R_exc, bS_exc, rx_bad, all_bls, gl_KINDS, tu_lst, len_lst, len_tup, rc_lst,  Bool.false_eq_true, Bool.not_true, Bool.not_false, need_ok (k := j) (by omega) hw.1 hw.2 S hS, rank_ok n (k := j) (by omega) h S hS, ix, ix2]
theorem issame_ok {a b : D} (ha : Vn 5 n a) (hb : Vn 5 n b) (hn : n ≤ 28) (S : Sto) (hS : Cl0 S) : (mk3 T.sta T.tb k).1.C "is_same" [a, b] [] S = .ok (.bl (oD a b == .eq)) S := by
  obtain ⟨j, rfl⟩ : ∃ j, k = j + 1 := ⟨k - 1, by omega⟩
  refine C_ret (ds' := [a, b]) rfl rfl rfl rfl ?_ rfl rfl
  show evSs dis_same.body _ [some a, some b] S = _
  unfold dis_same
  simp only [evSs, evS.eq_1, evS.eq_2, evS.eq_3, evS.eq_4, evS.eq_5, evS.eq_7, evS.eq_8, evS.eq_9, evS.eq_10, evE.eq_1, evE.eq_2, evE.eq_3, evE.eq_4, evE.eq_5, evE.eq_6, evE.eq_7, evE.eq_8, evE.eq_9, evE.eq_10, evE.eq_11, evE.eq_12, evE.eq_13, evE.eq_14, evE.eq_15, evE.eq_16, evE.eq_17, evE.eq_18, evE.eq_19, evE.eq_20, evE.eq_21, evE.eq_22, evE.eq_23, evL, evO, evC, R_ok, bS_ok, tk_cold, List.getElem?_cons_zero, List.getElem?_cons_succ, conD, List.set_cons_zero, List.set_cons_succ, Option.some.injEq, eq_int, ix_great, ix_rest, ix_turn, ix_cells, se_rest, se_turn, po_great, ne_great, ne_eq, reduceCtorEq, not_true_eq_false, not_false_eq_true, decide_true, decide_false, rc_great, le_st, it_lst, it_tup, ad_int, su_int, lt_int, gt_int, ge_int, le_int, in_int, in_bl, evI, Int.reduceEq, Int.reduceLT, Int.reduceLE, isi_non_bool, isi_non_int, isi_non_str, isi_non_tuple, isi_non_is, is_non, isi_bl_bool, isi_bl_int, isi_bl_str, isi_bl_tuple, isi_bl_is, is_bl, isi_int_bool, isi_int_int, isi_int_str, isi_int_tuple, isi_int_is, is_int, isi_str_bool, isi_str_int, isi_str_str, isi_str_tuple, isi_str_is, is_str, isi_tup_bool, isi_tup_int, isi_tup_str, isi_tup_tuple, isi_tup_is, is_tup, isi_lst_bool, isi_lst_int, isi_lst_str, isi_lst_tuple, isi_lst_is, is_lst, isi_dct_bool, isi_dct_int, isi_dct_str, isi_dct_tuple, isi_dct_is, is_dct, gl_bool, gl_int, gl_str, gl_tuple, ↓reduceIte, sz0, sz1, sz2, sz3, sz4, sz5, sz6, sz7, sz8, sz9, sz10, List.zip_nil_left, List.zip_cons_cons, R_exc, bS_exc, rx_bad, all_bls, gl_KINDS, tu_lst, len_lst, len_tup, rc_lst,  Bool.false_eq_true, Bool.not_true, Bool.not_false, rank_ok n (k := j) (by omega) ha S hS, rank_ok n (k := j) (by omega) hb S hS, eq_rk ha hb hn S]
def cpI (a b : D) : Int := match oD a b with
  | .lt => -1
  | .eq => 0
  | .gt => 1
theorem cmp_ok {a b : D} (ha : Vn 5 n a) (hb : Vn 5 n b) (hn : n ≤ 28) {ds : List D} {kws : List (Str × D)} (hs : decide ((ds.length, kws.map (·.1)) ∈ dcompare.shapes) = true) (hbi : bindG dcompare.ps ds kws = some [a, b]) (S : Sto) (hS : Cl0 S) :
    (mk3 T.sta T.tb k).1.C "compare" ds kws S = .ok (.int (cpI a b)) S := by
  obtain ⟨j, rfl⟩ : ∃ j, k = j + 1 := ⟨k - 1, by omega⟩
  refine C_ret rfl rfl hs hbi ?_ rfl rfl
  show evSs dcompare.body _ [some a, some b, none, none] S = _
  unfold dcompare cpI
  have wa := ha.wn (by omega)
  have wb := hb.wn (by omega)
  cases e : oD a b
  all_goals
    simp only [evSs, evS.eq_1, evS.eq_2, evS.eq_3, evS.eq_4, evS.eq_5, evS.eq_7, evS.eq_8, evS.eq_9, evS.eq_10, evE.eq_1, evE.eq_2, evE.eq_3, evE.eq_4, evE.eq_5, evE.eq_6, evE.eq_7, evE.eq_8, evE.eq_9, evE.eq_10, evE.eq_11, evE.eq_12, evE.eq_13, evE.eq_14, evE.eq_15, evE.eq_16, evE.eq_17, evE.eq_18, evE.eq_19, evE.eq_20, evE.eq_21, evE.eq_22, evE.eq_23, evL, evO, evC, R_ok, bS_ok, tk_cold, List.getElem?_cons_zero, List.getElem?_cons_succ, conD, List.set_cons_zero, List.set_cons_succ, Option.some.injEq, eq_int, ix_great, ix_rest, ix_turn, ix_cells, se_rest, se_turn, po_great, ne_great, ne_eq, reduceCtorEq, not_true_eq_false, not_false_eq_true, decide_true, decide_false, rc_great, le_st, it_lst, it_tup, ad_int, su_int, lt_int, gt_int, ge_int, le_int, in_int, in_bl, evI, Int.reduceEq, Int.reduceLT, Int.reduceLE, isi_non_bool, isi_non_int, isi_non_str, isi_non_tuple, isi_non_is, is_non, isi_bl_bool, isi_bl_int, isi_bl_str, isi_bl_tuple, isi_bl_is, is_bl, isi_int_bool, isi_int_int, isi_int_str, isi_int_tuple, isi_int_is, is_int, isi_str_bool, isi_str_int, isi_str_str, isi_str_tuple, isi_str_is, is_str, isi_tup_bool, isi_tup_int, isi_tup_str, isi_tup_tuple, isi_tup_is, is_tup, isi_lst_bool, isi_lst_int, isi_lst_str, isi_lst_tuple, isi_lst_is, is_lst, isi_dct_bool, isi_dct_int, isi_dct_str, isi_dct_tuple, isi_dct_is, is_dct, gl_bool, gl_int, gl_str, gl_tuple, ↓reduceIte, sz0, sz1, sz2, sz3, sz4, sz5, sz6, sz7, sz8, sz9, sz10, List.zip_nil_left, List.zip_cons_cons, R_exc, bS_exc, rx_bad, all_bls, gl_KINDS, tu_lst, len_lst, len_tup, rc_lst,  Bool.false_eq_true, Bool.not_true, Bool.not_false, need_ok (k := j) (by omega) wa.1 wa.2 S hS, need_ok (k := j) (by omega) wb.1 wb.2 S hS, rank_ok n (k := j) (by omega) ha S hS, rank_ok n (k := j) (by omega) hb S hS, setAll, eq_rk ha hb hn S, lt_rk ha hb hn S, e, show (Ordering.lt == Ordering.eq) = false from rfl, show (Ordering.gt == Ordering.eq) = false from rfl, show (Ordering.eq == Ordering.eq) = true from rfl, show (Ordering.lt == Ordering.lt) = true from rfl, show (Ordering.gt == Ordering.lt) = false from rfl]
    try rfl
end
section
variable {n k : Nat} (hk : n + 4 ≤ k)
include hk
theorem same_ok {a b : D} (ha : Vn 5 n a) (hb : Vn 5 n b) (hn : n ≤ 28) {ds : List D} {kws : List (Str × D)} (hs : decide ((ds.length, kws.map (·.1)) ∈ dsame.shapes) = true) (hbi : bindG dsame.ps ds kws = some [a, b]) (S : Sto) (hS : Cl0 S) :
    (mk3 T.sta T.tb k).1.C "same" ds kws S = .ok (.bl (oD a b == .eq)) S := by
  obtain ⟨j, rfl⟩ : ∃ j, k = j + 1 := ⟨k - 1, by omega⟩
  refine C_ret rfl rfl hs hbi ?_ rfl rfl
  show evSs dsame.body _ [some a, some b] S = _
  unfold dsame
  have wa := ha.wn (by omega)
  have wb := hb.wn (by omega)
  simp only [evSs, evS.eq_1, evS.eq_2, evS.eq_3, evS.eq_4, evS.eq_5, evS.eq_7, evS.eq_8, evS.eq_9, evS.eq_10, evE.eq_1, evE.eq_2, evE.eq_3, evE.eq_4, evE.eq_5, evE.eq_6, evE.eq_7, evE.eq_8, evE.eq_9, evE.eq_10, evE.eq_11, evE.eq_12, evE.eq_13, evE.eq_14, evE.eq_15, evE.eq_16, evE.eq_17, evE.eq_18, evE.eq_19, evE.eq_20, evE.eq_21, evE.eq_22, evE.eq_23, evL, evO, evC, R_ok, bS_ok, tk_cold, List.getElem?_cons_zero, List.getElem?_cons_succ, conD, List.set_cons_zero, List.set_cons_succ, Option.some.injEq, eq_int, ix_great, ix_rest, ix_turn, ix_cells, se_rest, se_turn, po_great, ne_great, ne_eq, reduceCtorEq, not_true_eq_false, not_false_eq_true, decide_true, decide_false, rc_great, le_st, it_lst, it_tup, ad_int, su_int, lt_int, gt_int, ge_int, le_int, in_int, in_bl, evI, Int.reduceEq, Int.reduceLT, Int.reduceLE, isi_non_bool, isi_non_int, isi_non_str, isi_non_tuple, isi_non_is, is_non, isi_bl_bool, isi_bl_int, isi_bl_str, isi_bl_tuple, isi_bl_is, is_bl, isi_int_bool, isi_int_int, isi_int_str, isi_int_tuple, isi_int_is, is_int, isi_str_bool, isi_str_int, isi_str_str, isi_str_tuple, isi_str_is, is_str, isi_tup_bool, isi_tup_int, isi_tup_str, isi_tup_tuple, isi_tup_is, is_tup, isi_lst_bool, isi_lst_int, isi_lst_str, isi_lst_tuple, isi_lst_is, is_lst, isi_dct_bool, isi_dct_int, isi_dct_str, isi_dct_tuple, isi_dct_is, is_dct, gl_bool, gl_int, gl_str, gl_tuple, ↓reduceIte, sz0, sz1, sz2, sz3, sz4, sz5, sz6, sz7, sz8, sz9, sz10, List.zip_nil_left, List.zip_cons_cons, R_exc, bS_exc, rx_bad, all_bls, gl_KINDS, tu_lst, len_lst, len_tup, rc_lst,  Bool.false_eq_true, Bool.not_true, Bool.not_false, need_ok (k := j) (by omega) wa.1 wa.2 S hS, need_ok (k := j) (by omega) wb.1 wb.2 S hS, issame_ok (k := j) (by omega) ha hb hn S hS]
/-! what is no value is refused -/
theorem kind_bad {d : D} (h : Wn n d) (hv : isv d = false) (S : Sto) (hS : Cl0 S) : (mk3 T.sta T.tb k).1.C "kind_of" [d] [] S = .exc badV S := by
  obtain ⟨j, rfl⟩ : ∃ j, k = j + 1 := ⟨k - 1, by omega⟩
  refine C_exc (e := [some d]) (ds' := [d]) rfl rfl rfl rfl ?_
  show evSs dkind_of.body _ [some d] S = _
  unfold dkind_of
  simp only [evSs, evS.eq_1, evS.eq_2, evS.eq_3, evS.eq_4, evS.eq_5, evS.eq_7, evS.eq_8, evS.eq_9, evS.eq_10, evE.eq_1, evE.eq_2, evE.eq_3, evE.eq_4, evE.eq_5, evE.eq_6, evE.eq_7, evE.eq_8, evE.eq_9, evE.eq_10, evE.eq_11, evE.eq_12, evE.eq_13, evE.eq_14, evE.eq_15, evE.eq_16, evE.eq_17, evE.eq_18, evE.eq_19, evE.eq_20, evE.eq_21, evE.eq_22, evE.eq_23, evL, evO, evC, R_ok, bS_ok, tk_cold, List.getElem?_cons_zero, List.getElem?_cons_succ, conD, List.set_cons_zero, List.set_cons_succ, Option.some.injEq, eq_int, ix_great, ix_rest, ix_turn, ix_cells, se_rest, se_turn, po_great, ne_great, ne_eq, reduceCtorEq, not_true_eq_false, not_false_eq_true, decide_true, decide_false, rc_great, le_st, it_lst, it_tup, ad_int, su_int, lt_int, gt_int, ge_int, le_int, in_int, in_bl, evI, Int.reduceEq, Int.reduceLT, Int.reduceLE, isi_non_bool, isi_non_int, isi_non_str, isi_non_tuple, isi_non_is, is_non, isi_bl_bool, isi_bl_int, isi_bl_str, isi_bl_tuple, isi_bl_is, is_bl, isi_int_bool, isi_int_int, isi_int_str, isi_int_tuple, isi_int_is, is_int, isi_str_bool, isi_str_int, isi_str_str, isi_str_tuple, isi_str_is, is_str, isi_tup_bool, isi_tup_int, isi_tup_str, isi_tup_tuple, isi_tup_is, is_tup, isi_lst_bool, isi_lst_int, isi_lst_str, isi_lst_tuple, isi_lst_is, is_lst, isi_dct_bool, isi_dct_int, isi_dct_str, isi_dct_tuple, isi_dct_is, is_dct, gl_bool, gl_int, gl_str, gl_tuple, ↓reduceIte, sz0, sz1, sz2, sz3, sz4, sz5, sz6, sz7, sz8, sz9, sz10, List.zip_nil_left, List.zip_cons_cons, R_exc, bS_exc, rx_bad, all_bls, gl_KINDS, tu_lst, len_lst, len_tup, rc_lst,  Bool.false_eq_true, Bool.not_true, Bool.not_false, need_bad (k := j) (by omega) h hv S hS]
theorem same_bad {a b : D} (ha : Wn n a) (hb : Wn n b) (hv : (isv a && isv b) = false) (S : Sto) (hS : Cl0 S) : (mk3 T.sta T.tb k).1.C "same" [a, b] [] S = .exc badV S := by
  obtain ⟨j, rfl⟩ : ∃ j, k = j + 1 := ⟨k - 1, by omega⟩
  refine C_exc (e := [some a, some b]) (ds' := [a, b]) rfl rfl rfl rfl ?_
  show evSs dsame.body _ [some a, some b] S = _
  unfold dsame
  cases ea : isv a with
  | false => simp only [evSs, evS.eq_1, evS.eq_2, evS.eq_3, evS.eq_4, evS.eq_5, evS.eq_7, evS.eq_8, evS.eq_9, evS.eq_10, evE.eq_1, evE.eq_2, evE.eq_3, evE.eq_4, evE.eq_5, evE.eq_6, evE.eq_7, evE.eq_8, evE.eq_9, evE.eq_10, evE.eq_11, evE.eq_12, evE.eq_13, evE.eq_14, evE.eq_15, evE.eq_16, evE.eq_17, evE.eq_18, evE.eq_19, evE.eq_20, evE.eq_21, evE.eq_22, evE.eq_23, evL, evO, evC, R_ok, bS_ok, tk_cold, List.getElem?_cons_zero, List.getElem?_cons_succ, conD, List.set_cons_zero, List.set_cons_succ, Option.some.injEq, eq_int, ix_great, ix_rest, ix_turn, ix_cells, se_rest, se_turn, po_great, ne_great, ne_eq, reduceCtorEq, not_true_eq_false, not_false_eq_true, decide_true, decide_false, rc_great, le_st, it_lst, it_tup, ad_int, su_int, lt_int, gt_int, ge_int, le_int, in_int, in_bl, evI, Int.reduceEq, Int.reduceLT, Int.reduceLE, isi_non_bool, isi_non_int, isi_non_str, isi_non_tuple, isi_non_is, is_non, isi_bl_bool, isi_bl_int, isi_bl_str, isi_bl_tuple, isi_bl_is, is_bl, isi_int_bool, isi_int_int, isi_int_str, isi_int_tuple, isi_int_is, is_int, isi_str_bool, isi_str_int, isi_str_str, isi_str_tuple, isi_str_is, is_str, isi_tup_bool, isi_tup_int, isi_tup_str, isi_tup_tuple, isi_tup_is, is_tup, isi_lst_bool, isi_lst_int, isi_lst_str, isi_lst_tuple, isi_lst_is, is_lst, isi_dct_bool, isi_dct_int, isi_dct_str, isi_dct_tuple, isi_dct_is, is_dct, gl_bool, gl_int, gl_str, gl_tuple, ↓reduceIte, sz0, sz1, sz2, sz3, sz4, sz5, sz6, sz7, sz8, sz9, sz10, List.zip_nil_left, List.zip_cons_cons, R_exc, bS_exc, rx_bad, all_bls, gl_KINDS, tu_lst, len_lst, len_tup, rc_lst,  Bool.false_eq_true, Bool.not_true, Bool.not_false, need_bad (k := j) (by omega) ha ea S hS]
  | true =>
    rw [ea] at hv
    simp only [evSs, evS.eq_1, evS.eq_2, evS.eq_3, evS.eq_4, evS.eq_5, evS.eq_7, evS.eq_8, evS.eq_9, evS.eq_10, evE.eq_1, evE.eq_2, evE.eq_3, evE.eq_4, evE.eq_5, evE.eq_6, evE.eq_7, evE.eq_8, evE.eq_9, evE.eq_10, evE.eq_11, evE.eq_12, evE.eq_13, evE.eq_14, evE.eq_15, evE.eq_16, evE.eq_17, evE.eq_18, evE.eq_19, evE.eq_20, evE.eq_21, evE.eq_22, evE.eq_23, evL, evO, evC, R_ok, bS_ok, tk_cold, List.getElem?_cons_zero, List.getElem?_cons_succ, conD, List.set_cons_zero, List.set_cons_succ, Option.some.injEq, eq_int, ix_great, ix_rest, ix_turn, ix_cells, se_rest, se_turn, po_great, ne_great, ne_eq, reduceCtorEq, not_true_eq_false, not_false_eq_true, decide_true, decide_false, rc_great, le_st, it_lst, it_tup, ad_int, su_int, lt_int, gt_int, ge_int, le_int, in_int, in_bl, evI, Int.reduceEq, Int.reduceLT, Int.reduceLE, isi_non_bool, isi_non_int, isi_non_str, isi_non_tuple, isi_non_is, is_non, isi_bl_bool, isi_bl_int, isi_bl_str, isi_bl_tuple, isi_bl_is, is_bl, isi_int_bool, isi_int_int, isi_int_str, isi_int_tuple, isi_int_is, is_int, isi_str_bool, isi_str_int, isi_str_str, isi_str_tuple, isi_str_is, is_str, isi_tup_bool, isi_tup_int, isi_tup_str, isi_tup_tuple, isi_tup_is, is_tup, isi_lst_bool, isi_lst_int, isi_lst_str, isi_lst_tuple, isi_lst_is, is_lst, isi_dct_bool, isi_dct_int, isi_dct_str, isi_dct_tuple, isi_dct_is, is_dct, gl_bool, gl_int, gl_str, gl_tuple, ↓reduceIte, sz0, sz1, sz2, sz3, sz4, sz5, sz6, sz7, sz8, sz9, sz10, List.zip_nil_left, List.zip_cons_cons, R_exc, bS_exc, rx_bad, all_bls, gl_KINDS, tu_lst, len_lst, len_tup, rc_lst,  Bool.false_eq_true, Bool.not_true, Bool.not_false, need_ok (k := j) (by omega) ha ea S hS, need_bad (k := j) (by omega) hb hv S hS]
theorem cmp_bad {a b : D} (ha : Wn n a) (hb : Wn n b) (hv : (isv a && isv b) = false) (S : Sto) (hS : Cl0 S) : (mk3 T.sta T.tb k).1.C "compare" [a, b] [] S = .exc badV S := by
  obtain ⟨j, rfl⟩ : ∃ j, k = j + 1 := ⟨k - 1, by omega⟩
  refine C_exc (e := [some a, some b, none, none]) (ds' := [a, b]) rfl rfl rfl rfl ?_
  show evSs dcompare.body _ [some a, some b, none, none] S = _
  unfold dcompare
  cases ea : isv a with
  | false => simp only [evSs, evS.eq_1, evS.eq_2, evS.eq_3, evS.eq_4, evS.eq_5, evS.eq_7, evS.eq_8, evS.eq_9, evS.eq_10, evE.eq_1, evE.eq_2, evE.eq_3, evE.eq_4, evE.eq_5, evE.eq_6, evE.eq_7, evE.eq_8, evE.eq_9, evE.eq_10, evE.eq_11, evE.eq_12, evE.eq_13, evE.eq_14, evE.eq_15, evE.eq_16, evE.eq_17, evE.eq_18, evE.eq_19, evE.eq_20, evE.eq_21, evE.eq_22, evE.eq_23, evL, evO, evC, R_ok, bS_ok, tk_cold, List.getElem?_cons_zero, List.getElem?_cons_succ, conD, List.set_cons_zero, List.set_cons_succ, Option.some.injEq, eq_int, ix_great, ix_rest, ix_turn, ix_cells, se_rest, se_turn, po_great, ne_great, ne_eq, reduceCtorEq, not_true_eq_false, not_false_eq_true, decide_true, decide_false, rc_great, le_st, it_lst, it_tup, ad_int, su_int, lt_int, gt_int, ge_int, le_int, in_int, in_bl, evI, Int.reduceEq, Int.reduceLT, Int.reduceLE, isi_non_bool, isi_non_int, isi_non_str, isi_non_tuple, isi_non_is, is_non, isi_bl_bool, isi_bl_int, isi_bl_str, isi_bl_tuple, isi_bl_is, is_bl, isi_int_bool, isi_int_int, isi_int_str, isi_int_tuple, isi_int_is, is_int, isi_str_bool, isi_str_int, isi_str_str, isi_str_tuple, isi_str_is, is_str, isi_tup_bool, isi_tup_int, isi_tup_str, isi_tup_tuple, isi_tup_is, is_tup, isi_lst_bool, isi_lst_int, isi_lst_str, isi_lst_tuple, isi_lst_is, is_lst, isi_dct_bool, isi_dct_int, isi_dct_str, isi_dct_tuple, isi_dct_is, is_dct, gl_bool, gl_int, gl_str, gl_tuple, ↓reduceIte, sz0, sz1, sz2, sz3, sz4, sz5, sz6, sz7, sz8, sz9, sz10, List.zip_nil_left, List.zip_cons_cons, R_exc, bS_exc, rx_bad, all_bls, gl_KINDS, tu_lst, len_lst, len_tup, rc_lst,  Bool.false_eq_true, Bool.not_true, Bool.not_false, need_bad (k := j) (by omega) ha ea S hS]
  | true =>
    rw [ea] at hv
    simp only [evSs, evS.eq_1, evS.eq_2, evS.eq_3, evS.eq_4, evS.eq_5, evS.eq_7, evS.eq_8, evS.eq_9, evS.eq_10, evE.eq_1, evE.eq_2, evE.eq_3, evE.eq_4, evE.eq_5, evE.eq_6, evE.eq_7, evE.eq_8, evE.eq_9, evE.eq_10, evE.eq_11, evE.eq_12, evE.eq_13, evE.eq_14, evE.eq_15, evE.eq_16, evE.eq_17, evE.eq_18, evE.eq_19, evE.eq_20, evE.eq_21, evE.eq_22, evE.eq_23, evL, evO, evC, R_ok, bS_ok, tk_cold, List.getElem?_cons_zero, List.getElem?_cons_succ, conD, List.set_cons_zero, List.set_cons_succ, Option.some.injEq, eq_int, ix_great, ix_rest, ix_turn, ix_cells, se_rest, se_turn, po_great, ne_great, ne_eq, reduceCtorEq, not_true_eq_false, not_false_eq_true, decide_true, decide_false, rc_great, le_st, it_lst, it_tup, ad_int, su_int, lt_int, gt_int, ge_int, le_int, in_int, in_bl, evI, Int.reduceEq, Int.reduceLT, Int.reduceLE, isi_non_bool, isi_non_int, isi_non_str, isi_non_tuple, isi_non_is, is_non, isi_bl_bool, isi_bl_int, isi_bl_str, isi_bl_tuple, isi_bl_is, is_bl, isi_int_bool, isi_int_int, isi_int_str, isi_int_tuple, isi_int_is, is_int, isi_str_bool, isi_str_int, isi_str_str, isi_str_tuple, isi_str_is, is_str, isi_tup_bool, isi_tup_int, isi_tup_str, isi_tup_tuple, isi_tup_is, is_tup, isi_lst_bool, isi_lst_int, isi_lst_str, isi_lst_tuple, isi_lst_is, is_lst, isi_dct_bool, isi_dct_int, isi_dct_str, isi_dct_tuple, isi_dct_is, is_dct, gl_bool, gl_int, gl_str, gl_tuple, ↓reduceIte, sz0, sz1, sz2, sz3, sz4, sz5, sz6, sz7, sz8, sz9, sz10, List.zip_nil_left, List.zip_cons_cons, R_exc, bS_exc, rx_bad, all_bls, gl_KINDS, tu_lst, len_lst, len_tup, rc_lst,  Bool.false_eq_true, Bool.not_true, Bool.not_false, need_ok (k := j) (by omega) ha ea S hS, need_bad (k := j) (by omega) hb hv S hS]
end
end K01

set_option Elab.async false
set_option linter.all false
set_option maxRecDepth 100000
set_option maxHeartbeats 4000000
namespace K01
open PySem Fw
/-! with closures -/
def tl (k : Nat) : Sta := { (mk3 T.sta T.tb k).1 with lam := true }
theorem tl_cold {α : Type} (k : Nat) (r : R α) : (tl k).cold r = r := tk_cold k r
theorem tl_C (k : Nat) : (tl k).C = (mk3 T.sta T.tb k).1.C := rfl
theorem gl_tl (k : Nat) : (tl k).G = (mk3 T.sta T.tb k).1.G := rfl
theorem tl_inner (k : Nat) : (tl k).inner = (mk3 T.sta T.tb k).1 := by cases k <;> rfl
theorem ref_ok (i : Nat) (th : Sto → R D) (S : Sto) (h : th S = .exc badV S) : runLam (mk3 T.sta T.tb i).1 d_law_refused th S = .ok (.str "value") S := by
  have key : evSs d_law_refused.body { (mk3 T.sta T.tb i).1 with thk := some (0, th), lam := false } [none, none] S = .ok (.ret (.str "value")) S := by
    have e1 : ∀ t : Sta, t.hot = none → t.thk = some (0, th) → evSs (.cons (.ret (.lst false (.cons (.act 0) .nil))) .nil) t [none, none] S = .ok (.exc badV [none, none]) S := by
      intro t h1 h2
      have hc : t.cold (th S) = .exc badV S := by
        unfold Sta.cold
        rw [h1, h]
        rfl
      rw [evSs, evS, evE, evL, evE, h2]
      show (match (((((t.cold (th S)).bind _).bind _) : R D).bindS _ _) with
        | R.ok (Fl.next s1) S1 => _
        | q => q) = _
      rw [hc]
      rfl
    cases i with
    | zero =>
      unfold d_law_refused
      rw [evSs, evS, e1 _ rfl rfl]
      rfl
    | succ i =>
      unfold d_law_refused
      rw [evSs, evS, e1 _ rfl rfl]
      rfl
  unfold runLam
  show gcF S.length (fin (evSs d_law_refused.body { (mk3 T.sta T.tb i).1 with thk := some (0, th), lam := false } [none, none] S)) = _
  rw [key]
  exact gc_eq rfl rfl
theorem lam_ok (i : Nat) {e : Ex} {s : En} {S : Sto} (h : evE (mk3 T.sta T.tb (i + 1)).1 e s S = .exc badV S) : evE (tl (i + 1)) (.lam "_law_refused" e) s S = .ok (.str "value") S := by
  rw [evE, tl_cold, tl_inner]
  exact ref_ok i _ S h
theorem ap_st (S : Sto) (acc : List D) (d : D) (h : acc.length < sizeLine) : mtD "append" (.ref S.length) [d] (S ++ [O.lst acc]) = .ok .non (S ++ [O.lst (acc ++ [d])]) := by
  have e1 : (S ++ [O.lst acc])[S.length]? = some (O.lst acc) := by simp
  show (match (S ++ [O.lst acc])[S.length]? with
    | some (O.lst es) => if es.length < sizeLine then putO S.length (.lst (es ++ [d])) .non (S ++ [O.lst acc]) else .bad
    | _ => .bad) = _
  rw [e1]
  refine (if_pos h).trans ?_
  unfold putO
  simp
theorem rc_st (S : Sto) (acc : List D) (m : Str) : rcvB m (flat (S ++ [O.lst acc]) (.ref S.length)) = true := by
  have e1 : (S ++ [O.lst acc])[S.length]? = some (O.lst acc) := by simp
  unfold rcvB flat
  dsimp only
  rw [e1]
  rfl
theorem szl (n : Nat) (h : n < 1000) : n < sizeLine := Nat.lt_of_lt_of_le h (of_decide_eq_true rfl)
def five : List D := [.str "value", .str "value", .str "value", .str "value", .str "value"]
theorem mul5 (S : Sto) : binD .Mult (.lst [.str "value"]) (.int 5) S = .ok (.lst five) S := rfl
theorem eq5 (S : Sto) : cmpD .Eq (.ref S.length) (.lst five) (S ++ [O.lst five]) = .ok (D.bl true) (S ++ [O.lst five]) := by
  have e1 : (S ++ [O.lst five])[S.length]? = some (O.lst five) := by simp
  have : flat (S ++ [O.lst five]) (.ref S.length) = .lst five := by
    unfold flat
    dsimp only
    rw [e1]
  unfold cmpD
  rw [this]
  rfl
theorem is_bb (S : Sto) (b c : Bool) : cmpD .Is (.bl b) (.bl c) S = .ok (D.bl (decide (b = c))) S := rfl
theorem odd_ok {n k : Nat} (hk : n + 7 ≤ k) {o d : D} (ho : Wn n o) (hv : isv o = false) (hd : Wn n d) (ho0 : o.closed 0 = true) (hd0 : d.closed 0 = true) (S : Sto) (hS : Cl0 S) : (mk3 T.sta T.tb k).1.C "_law_odd_right" [o, d] [] S = .ok (.bl true) S := by
  obtain ⟨j, rfl⟩ : ∃ j, k = j + 4 := ⟨k - 4, by omega⟩
  show runDf (tl (j + 1)) d_law_odd_right [o, d] [] S = _
  have h1 : (isv o && isv d) = false := by rw [hv]; rfl
  have h2 : (isv d && isv o) = false := by rw [hv, Bool.and_false]
  have hc : ∀ acc, closedL 0 acc = true → Cl0 (S ++ [O.lst acc]) := fun acc ha => Cl0_snoc hS (clL_le (Nat.zero_le _) acc ha)
  have l1 : evE (tl (j + 1)) (.lam "_law_refused" (.call "kind_of" (.cons (.var 0) .nil) [] .nil)) [some o, some d, none] S = .ok (.str "value") S := lam_ok j (by simp only [evSs, evS.eq_1, evS.eq_2, evS.eq_3, evS.eq_4, evS.eq_5, evS.eq_7, evS.eq_8, evS.eq_9, evS.eq_10, evE.eq_1, evE.eq_2, evE.eq_3, evE.eq_4, evE.eq_5, evE.eq_6, evE.eq_7, evE.eq_8, evE.eq_9, evE.eq_10, evE.eq_11, evE.eq_12, evE.eq_13, evE.eq_14, evE.eq_15, evE.eq_16, evE.eq_17, evE.eq_18, evE.eq_19, evE.eq_21, evE.eq_22, evE.eq_23, evL, evO, evC, R_ok, bS_ok, tk_cold, List.getElem?_cons_zero, List.getElem?_cons_succ, conD, List.set_cons_zero, List.set_cons_succ, Option.some.injEq, eq_int, ix_great, ix_rest, ix_turn, ix_cells, se_rest, se_turn, po_great, ne_great, ne_eq, reduceCtorEq, not_true_eq_false, not_false_eq_true, decide_true, decide_false, rc_great, le_st, it_lst, it_tup, ad_int, su_int, lt_int, gt_int, ge_int, le_int, in_int, in_bl, evI, Int.reduceEq, Int.reduceLT, Int.reduceLE, isi_non_bool, isi_non_int, isi_non_str, isi_non_tuple, isi_non_is, is_non, isi_bl_bool, isi_bl_int, isi_bl_str, isi_bl_tuple, isi_bl_is, is_bl, isi_int_bool, isi_int_int, isi_int_str, isi_int_tuple, isi_int_is, is_int, isi_str_bool, isi_str_int, isi_str_str, isi_str_tuple, isi_str_is, is_str, isi_tup_bool, isi_tup_int, isi_tup_str, isi_tup_tuple, isi_tup_is, is_tup, isi_lst_bool, isi_lst_int, isi_lst_str, isi_lst_tuple, isi_lst_is, is_lst, isi_dct_bool, isi_dct_int, isi_dct_str, isi_dct_tuple, isi_dct_is, is_dct, gl_bool, gl_int, gl_str, gl_tuple, ↓reduceIte, sz0, sz1, sz2, sz3, sz4, sz5, sz6, sz7, sz8, sz9, sz10, List.zip_nil_left, List.zip_cons_cons, R_exc, bS_exc, tl_cold, tl_C, gl_tl,  rx_bad, all_bls, gl_KINDS, tu_lst, len_lst, len_tup, rc_lst,  Bool.false_eq_true, Bool.not_true, Bool.not_false, kind_bad (k := j + 1) (by omega) ho hv S hS])
  have l2 : ∀ x acc, closedL 0 acc = true → evE (tl (j + 1)) (.lam "_law_refused" (.call "same" (.cons (.var 0) (.cons (.var 1) .nil)) [] .nil)) [some o, some d, x] (S ++ [O.lst acc]) = .ok (.str "value") (S ++ [O.lst acc]) := fun x acc ha => lam_ok j (by simp only [evSs, evS.eq_1, evS.eq_2, evS.eq_3, evS.eq_4, evS.eq_5, evS.eq_7, evS.eq_8, evS.eq_9, evS.eq_10, evE.eq_1, evE.eq_2, evE.eq_3, evE.eq_4, evE.eq_5, evE.eq_6, evE.eq_7, evE.eq_8, evE.eq_9, evE.eq_10, evE.eq_11, evE.eq_12, evE.eq_13, evE.eq_14, evE.eq_15, evE.eq_16, evE.eq_17, evE.eq_18, evE.eq_19, evE.eq_21, evE.eq_22, evE.eq_23, evL, evO, evC, R_ok, bS_ok, tk_cold, List.getElem?_cons_zero, List.getElem?_cons_succ, conD, List.set_cons_zero, List.set_cons_succ, Option.some.injEq, eq_int, ix_great, ix_rest, ix_turn, ix_cells, se_rest, se_turn, po_great, ne_great, ne_eq, reduceCtorEq, not_true_eq_false, not_false_eq_true, decide_true, decide_false, rc_great, le_st, it_lst, it_tup, ad_int, su_int, lt_int, gt_int, ge_int, le_int, in_int, in_bl, evI, Int.reduceEq, Int.reduceLT, Int.reduceLE, isi_non_bool, isi_non_int, isi_non_str, isi_non_tuple, isi_non_is, is_non, isi_bl_bool, isi_bl_int, isi_bl_str, isi_bl_tuple, isi_bl_is, is_bl, isi_int_bool, isi_int_int, isi_int_str, isi_int_tuple, isi_int_is, is_int, isi_str_bool, isi_str_int, isi_str_str, isi_str_tuple, isi_str_is, is_str, isi_tup_bool, isi_tup_int, isi_tup_str, isi_tup_tuple, isi_tup_is, is_tup, isi_lst_bool, isi_lst_int, isi_lst_str, isi_lst_tuple, isi_lst_is, is_lst, isi_dct_bool, isi_dct_int, isi_dct_str, isi_dct_tuple, isi_dct_is, is_dct, gl_bool, gl_int, gl_str, gl_tuple, ↓reduceIte, sz0, sz1, sz2, sz3, sz4, sz5, sz6, sz7, sz8, sz9, sz10, List.zip_nil_left, List.zip_cons_cons, R_exc, bS_exc, tl_cold, tl_C, gl_tl,  rx_bad, all_bls, gl_KINDS, tu_lst, len_lst, len_tup, rc_lst,  Bool.false_eq_true, Bool.not_true, Bool.not_false, same_bad (k := j + 1) (by omega) ho hd h1 _ (hc acc ha)])
  have l3 : ∀ x acc, closedL 0 acc = true → evE (tl (j + 1)) (.lam "_law_refused" (.call "same" (.cons (.var 1) (.cons (.var 0) .nil)) [] .nil)) [some o, some d, x] (S ++ [O.lst acc]) = .ok (.str "value") (S ++ [O.lst acc]) := fun x acc ha => lam_ok j (by simp only [evSs, evS.eq_1, evS.eq_2, evS.eq_3, evS.eq_4, evS.eq_5, evS.eq_7, evS.eq_8, evS.eq_9, evS.eq_10, evE.eq_1, evE.eq_2, evE.eq_3, evE.eq_4, evE.eq_5, evE.eq_6, evE.eq_7, evE.eq_8, evE.eq_9, evE.eq_10, evE.eq_11, evE.eq_12, evE.eq_13, evE.eq_14, evE.eq_15, evE.eq_16, evE.eq_17, evE.eq_18, evE.eq_19, evE.eq_21, evE.eq_22, evE.eq_23, evL, evO, evC, R_ok, bS_ok, tk_cold, List.getElem?_cons_zero, List.getElem?_cons_succ, conD, List.set_cons_zero, List.set_cons_succ, Option.some.injEq, eq_int, ix_great, ix_rest, ix_turn, ix_cells, se_rest, se_turn, po_great, ne_great, ne_eq, reduceCtorEq, not_true_eq_false, not_false_eq_true, decide_true, decide_false, rc_great, le_st, it_lst, it_tup, ad_int, su_int, lt_int, gt_int, ge_int, le_int, in_int, in_bl, evI, Int.reduceEq, Int.reduceLT, Int.reduceLE, isi_non_bool, isi_non_int, isi_non_str, isi_non_tuple, isi_non_is, is_non, isi_bl_bool, isi_bl_int, isi_bl_str, isi_bl_tuple, isi_bl_is, is_bl, isi_int_bool, isi_int_int, isi_int_str, isi_int_tuple, isi_int_is, is_int, isi_str_bool, isi_str_int, isi_str_str, isi_str_tuple, isi_str_is, is_str, isi_tup_bool, isi_tup_int, isi_tup_str, isi_tup_tuple, isi_tup_is, is_tup, isi_lst_bool, isi_lst_int, isi_lst_str, isi_lst_tuple, isi_lst_is, is_lst, isi_dct_bool, isi_dct_int, isi_dct_str, isi_dct_tuple, isi_dct_is, is_dct, gl_bool, gl_int, gl_str, gl_tuple, ↓reduceIte, sz0, sz1, sz2, sz3, sz4, sz5, sz6, sz7, sz8, sz9, sz10, List.zip_nil_left, List.zip_cons_cons, R_exc, bS_exc, tl_cold, tl_C, gl_tl,  rx_bad, all_bls, gl_KINDS, tu_lst, len_lst, len_tup, rc_lst,  Bool.false_eq_true, Bool.not_true, Bool.not_false, same_bad (k := j + 1) (by omega) hd ho h2 _ (hc acc ha)])
  have l4 : ∀ x acc, closedL 0 acc = true → evE (tl (j + 1)) (.lam "_law_refused" (.call "compare" (.cons (.var 0) (.cons (.var 1) .nil)) [] .nil)) [some o, some d, x] (S ++ [O.lst acc]) = .ok (.str "value") (S ++ [O.lst acc]) := fun x acc ha => lam_ok j (by simp only [evSs, evS.eq_1, evS.eq_2, evS.eq_3, evS.eq_4, evS.eq_5, evS.eq_7, evS.eq_8, evS.eq_9, evS.eq_10, evE.eq_1, evE.eq_2, evE.eq_3, evE.eq_4, evE.eq_5, evE.eq_6, evE.eq_7, evE.eq_8, evE.eq_9, evE.eq_10, evE.eq_11, evE.eq_12, evE.eq_13, evE.eq_14, evE.eq_15, evE.eq_16, evE.eq_17, evE.eq_18, evE.eq_19, evE.eq_21, evE.eq_22, evE.eq_23, evL, evO, evC, R_ok, bS_ok, tk_cold, List.getElem?_cons_zero, List.getElem?_cons_succ, conD, List.set_cons_zero, List.set_cons_succ, Option.some.injEq, eq_int, ix_great, ix_rest, ix_turn, ix_cells, se_rest, se_turn, po_great, ne_great, ne_eq, reduceCtorEq, not_true_eq_false, not_false_eq_true, decide_true, decide_false, rc_great, le_st, it_lst, it_tup, ad_int, su_int, lt_int, gt_int, ge_int, le_int, in_int, in_bl, evI, Int.reduceEq, Int.reduceLT, Int.reduceLE, isi_non_bool, isi_non_int, isi_non_str, isi_non_tuple, isi_non_is, is_non, isi_bl_bool, isi_bl_int, isi_bl_str, isi_bl_tuple, isi_bl_is, is_bl, isi_int_bool, isi_int_int, isi_int_str, isi_int_tuple, isi_int_is, is_int, isi_str_bool, isi_str_int, isi_str_str, isi_str_tuple, isi_str_is, is_str, isi_tup_bool, isi_tup_int, isi_tup_str, isi_tup_tuple, isi_tup_is, is_tup, isi_lst_bool, isi_lst_int, isi_lst_str, isi_lst_tuple, isi_lst_is, is_lst, isi_dct_bool, isi_dct_int, isi_dct_str, isi_dct_tuple, isi_dct_is, is_dct, gl_bool, gl_int, gl_str, gl_tuple, ↓reduceIte, sz0, sz1, sz2, sz3, sz4, sz5, sz6, sz7, sz8, sz9, sz10, List.zip_nil_left, List.zip_cons_cons, R_exc, bS_exc, tl_cold, tl_C, gl_tl,  rx_bad, all_bls, gl_KINDS, tu_lst, len_lst, len_tup, rc_lst,  Bool.false_eq_true, Bool.not_true, Bool.not_false, cmp_bad (k := j + 1) (by omega) ho hd h1 _ (hc acc ha)])
  have l5 : ∀ x acc, closedL 0 acc = true → evE (tl (j + 1)) (.lam "_law_refused" (.call "compare" (.cons (.var 1) (.cons (.var 0) .nil)) [] .nil)) [some o, some d, x] (S ++ [O.lst acc]) = .ok (.str "value") (S ++ [O.lst acc]) := fun x acc ha => lam_ok j (by simp only [evSs, evS.eq_1, evS.eq_2, evS.eq_3, evS.eq_4, evS.eq_5, evS.eq_7, evS.eq_8, evS.eq_9, evS.eq_10, evE.eq_1, evE.eq_2, evE.eq_3, evE.eq_4, evE.eq_5, evE.eq_6, evE.eq_7, evE.eq_8, evE.eq_9, evE.eq_10, evE.eq_11, evE.eq_12, evE.eq_13, evE.eq_14, evE.eq_15, evE.eq_16, evE.eq_17, evE.eq_18, evE.eq_19, evE.eq_21, evE.eq_22, evE.eq_23, evL, evO, evC, R_ok, bS_ok, tk_cold, List.getElem?_cons_zero, List.getElem?_cons_succ, conD, List.set_cons_zero, List.set_cons_succ, Option.some.injEq, eq_int, ix_great, ix_rest, ix_turn, ix_cells, se_rest, se_turn, po_great, ne_great, ne_eq, reduceCtorEq, not_true_eq_false, not_false_eq_true, decide_true, decide_false, rc_great, le_st, it_lst, it_tup, ad_int, su_int, lt_int, gt_int, ge_int, le_int, in_int, in_bl, evI, Int.reduceEq, Int.reduceLT, Int.reduceLE, isi_non_bool, isi_non_int, isi_non_str, isi_non_tuple, isi_non_is, is_non, isi_bl_bool, isi_bl_int, isi_bl_str, isi_bl_tuple, isi_bl_is, is_bl, isi_int_bool, isi_int_int, isi_int_str, isi_int_tuple, isi_int_is, is_int, isi_str_bool, isi_str_int, isi_str_str, isi_str_tuple, isi_str_is, is_str, isi_tup_bool, isi_tup_int, isi_tup_str, isi_tup_tuple, isi_tup_is, is_tup, isi_lst_bool, isi_lst_int, isi_lst_str, isi_lst_tuple, isi_lst_is, is_lst, isi_dct_bool, isi_dct_int, isi_dct_str, isi_dct_tuple, isi_dct_is, is_dct, gl_bool, gl_int, gl_str, gl_tuple, ↓reduceIte, sz0, sz1, sz2, sz3, sz4, sz5, sz6, sz7, sz8, sz9, sz10, List.zip_nil_left, List.zip_cons_cons, R_exc, bS_exc, tl_cold, tl_C, gl_tl,  rx_bad, all_bls, gl_KINDS, tu_lst, len_lst, len_tup, rc_lst,  Bool.false_eq_true, Bool.not_true, Bool.not_false, cmp_bad (k := j + 1) (by omega) hd ho h2 _ (hc acc ha)])
  refine r_df (ds' := [o, d]) (S' := S) rfl rfl (q := .ok (.ret (.bl true)) (S ++ [O.lst five])) ?_ (gc_more hS rfl)
  show evSs d_law_odd_right.body _ [some o, some d, none] S = _
  have iv := isv_ok n (k := j + 1) (by omega) ho (ds := [o]) (kws := []) rfl rfl _ (hc five rfl)
  have a1 := ap_st S [.str "value"] (.str "value") (szl _ (by decide))
  have a2 := ap_st S [.str "value", .str "value"] (.str "value") (szl _ (by decide))
  have a3 := ap_st S [.str "value", .str "value", .str "value"] (.str "value") (szl _ (by decide))
  have a4 := ap_st S [.str "value", .str "value", .str "value", .str "value"] (.str "value") (szl _ (by decide))
  simp only [List.cons_append, List.nil_append] at a1 a2 a3 a4
  have m1 := l2 (some (.ref S.length)) [.str "value"] rfl
  have m2 := l3 (some (.ref S.length)) [.str "value", .str "value"] rfl
  have m3 := l4 (some (.ref S.length)) [.str "value", .str "value", .str "value"] rfl
  have m4 := l5 (some (.ref S.length)) [.str "value", .str "value", .str "value", .str "value"] rfl
  have q5 := eq5 S
  unfold d_law_odd_right
  unfold five at *
  simp only [evSs, evS.eq_1, evS.eq_2, evS.eq_3, evS.eq_4, evS.eq_5, evS.eq_7, evS.eq_8, evS.eq_9, evS.eq_10, evE.eq_1, evE.eq_2, evE.eq_3, evE.eq_4, evE.eq_5, evE.eq_6, evE.eq_7, evE.eq_8, evE.eq_9, evE.eq_10, evE.eq_11, evE.eq_12, evE.eq_13, evE.eq_14, evE.eq_15, evE.eq_16, evE.eq_17, evE.eq_18, evE.eq_19, evE.eq_21, evE.eq_22, evE.eq_23, evL, evO, evC, R_ok, bS_ok, tk_cold, List.getElem?_cons_zero, List.getElem?_cons_succ, conD, List.set_cons_zero, List.set_cons_succ, Option.some.injEq, eq_int, ix_great, ix_rest, ix_turn, ix_cells, se_rest, se_turn, po_great, ne_great, ne_eq, reduceCtorEq, not_true_eq_false, not_false_eq_true, decide_true, decide_false, rc_great, le_st, it_lst, it_tup, ad_int, su_int, lt_int, gt_int, ge_int, le_int, in_int, in_bl, evI, Int.reduceEq, Int.reduceLT, Int.reduceLE, isi_non_bool, isi_non_int, isi_non_str, isi_non_tuple, isi_non_is, is_non, isi_bl_bool, isi_bl_int, isi_bl_str, isi_bl_tuple, isi_bl_is, is_bl, isi_int_bool, isi_int_int, isi_int_str, isi_int_tuple, isi_int_is, is_int, isi_str_bool, isi_str_int, isi_str_str, isi_str_tuple, isi_str_is, is_str, isi_tup_bool, isi_tup_int, isi_tup_str, isi_tup_tuple, isi_tup_is, is_tup, isi_lst_bool, isi_lst_int, isi_lst_str, isi_lst_tuple, isi_lst_is, is_lst, isi_dct_bool, isi_dct_int, isi_dct_str, isi_dct_tuple, isi_dct_is, is_dct, gl_bool, gl_int, gl_str, gl_tuple, ↓reduceIte, sz0, sz1, sz2, sz3, sz4, sz5, sz6, sz7, sz8, sz9, sz10, List.zip_nil_left, List.zip_cons_cons, R_exc, bS_exc, tl_cold, tl_C, gl_tl,  rx_bad, all_bls, gl_KINDS, tu_lst, len_lst, len_tup, rc_lst,  Bool.false_eq_true, Bool.not_true, Bool.not_false, l1, m1, m2, m3, m4, rc_st, a1, a2, a3, a4, mul5, five, q5, iv, hv, is_bb]
  done
end K01

set_option Elab.async false
set_option linter.all false
set_option maxRecDepth 100000
set_option maxHeartbeats 4000000
namespace K01
open PySem Fw
theorem eq_str (x y : Str) (S : Sto) : cmpD .Eq (.str x) (.str y) S = .ok (D.bl (decide (x = y))) S := by
  have : cmp1 .Eq (.str x) (.str y) = some (PyData.eqv (.str x) (.str y)) := rfl
  show (match cmp1 .Eq (.str x) (.str y) with
    | some b => R.ok (D.bl b) S
    | none => .bad) = _
  rw [this]
  dsimp only
  rw [PyData.eqv]
  rfl
theorem ne_str (x y : Str) (S : Sto) : cmpD .NotEq (.str x) (.str y) S = .ok (D.bl (!decide (x = y))) S := by
  have : cmp1 .NotEq (.str x) (.str y) = some (!PyData.eqv (.str x) (.str y)) := rfl
  show (match cmp1 .NotEq (.str x) (.str y) with
    | some b => R.ok (D.bl b) S
    | none => .bad) = _
  rw [this]
  dsimp only
  rw [PyData.eqv]
  rfl
def rp2 (i j : Int) : Str := (PyData.list [.int i, .int j]).shown
def rpb (i j : Bool) : Str := (PyData.list [.bool i, .bool j]).shown
theorem rp_a (t : Sta) (S : Sto) : biD t "repr" [.lst [.int (-1), .int 1]] S = .ok (.str (rp2 (-1) 1)) S := rfl
theorem rp_b (t : Sta) (S : Sto) : biD t "repr" [.lst [.int 0, .int 0]] S = .ok (.str (rp2 0 0)) S := rfl
theorem rp_c (t : Sta) (S : Sto) : biD t "repr" [.lst [.int 1, .int (-1)]] S = .ok (.str (rp2 1 (-1))) S := rfl
theorem rp_t (t : Sta) (S : Sto) : biD t "repr" [.lst [.bl true, .bl true]] S = .ok (.str (rpb true true)) S := rfl
theorem rp_f (t : Sta) (S : Sto) : biD t "repr" [.lst [.bl false, .bl false]] S = .ok (.str (rpb false false)) S := rfl
theorem pair_ok {n k : Nat} (hk : n + 6 ≤ k) {a b : D} (ha : Vn 5 n a) (hb : Vn 5 n b) (hn : n ≤ 28) (S : Sto) (hS : Cl0 S) : (mk3 T.sta T.tb k).1.C "_law_pair_right" [a, b] [] S = .ok (.bl true) S := by
  obtain ⟨j, rfl⟩ : ∃ j, k = j + 1 := ⟨k - 1, by omega⟩
  refine C_ret (ds' := [a, b]) rfl rfl rfl rfl ?_ rfl rfl
  show evSs d_law_pair_right.body _ [some a, some b, none, none, none] S = _
  unfold d_law_pair_right
  have c1 := cmp_ok (k := j) (by omega) ha hb hn (ds := [a, b]) (kws := []) rfl rfl S hS
  have c2 := cmp_ok (k := j) (by omega) hb ha hn (ds := []) (kws := [("one", b), ("other", a)]) rfl rfl S hS
  have s1 := same_ok (k := j) (by omega) ha hb hn (ds := [a, b]) (kws := []) rfl rfl S hS
  have s2 := same_ok (k := j) (by omega) ha hb hn (ds := []) (kws := [("one", a), ("other", b)]) rfl rfl S hS
  have z := oD_swap a b
  unfold cpI at c1 c2
  rw [z] at c2
  cases e : oD a b
  all_goals
    rw [e] at c1 c2 s1 s2
    simp only [evSs, evS.eq_1, evS.eq_2, evS.eq_3, evS.eq_4, evS.eq_5, evS.eq_7, evS.eq_8, evS.eq_9, evS.eq_10, evE.eq_1, evE.eq_2, evE.eq_3, evE.eq_4, evE.eq_5, evE.eq_6, evE.eq_7, evE.eq_8, evE.eq_9, evE.eq_10, evE.eq_11, evE.eq_12, evE.eq_13, evE.eq_14, evE.eq_15, evE.eq_16, evE.eq_17, evE.eq_18, evE.eq_19, evE.eq_21, evE.eq_22, evE.eq_23, evL, evO, evC, R_ok, bS_ok, tk_cold, List.getElem?_cons_zero, List.getElem?_cons_succ, conD, List.set_cons_zero, List.set_cons_succ, Option.some.injEq, eq_int, ix_great, ix_rest, ix_turn, ix_cells, se_rest, se_turn, po_great, ne_great, ne_eq, reduceCtorEq, not_true_eq_false, not_false_eq_true, decide_true, decide_false, rc_great, le_st, it_lst, it_tup, ad_int, su_int, lt_int, gt_int, ge_int, le_int, in_int, in_bl, evI, Int.reduceEq, Int.reduceLT, Int.reduceLE, isi_non_bool, isi_non_int, isi_non_str, isi_non_tuple, isi_non_is, is_non, isi_bl_bool, isi_bl_int, isi_bl_str, isi_bl_tuple, isi_bl_is, is_bl, isi_int_bool, isi_int_int, isi_int_str, isi_int_tuple, isi_int_is, is_int, isi_str_bool, isi_str_int, isi_str_str, isi_str_tuple, isi_str_is, is_str, isi_tup_bool, isi_tup_int, isi_tup_str, isi_tup_tuple, isi_tup_is, is_tup, isi_lst_bool, isi_lst_int, isi_lst_str, isi_lst_tuple, isi_lst_is, is_lst, isi_dct_bool, isi_dct_int, isi_dct_str, isi_dct_tuple, isi_dct_is, is_dct, gl_bool, gl_int, gl_str, gl_tuple, ↓reduceIte, sz0, sz1, sz2, sz3, sz4, sz5, sz6, sz7, sz8, sz9, sz10, List.zip_nil_left, List.zip_cons_cons, R_exc, bS_exc, tl_cold, tl_C, gl_tl,  rx_bad, all_bls, gl_KINDS, tu_lst, len_lst, len_tup, rc_lst,  Bool.false_eq_true, Bool.not_true, Bool.not_false, lrank_ok n (k := j) (by omega) ha S hS, lrank_ok n (k := j) (by omega) hb S hS, setAll, eq_lr ha hb hn S, lt_lr ha hb hn S, e, show (Ordering.lt == Ordering.eq) = false from rfl, show (Ordering.gt == Ordering.eq) = false from rfl, show (Ordering.eq == Ordering.eq) = true from rfl, show (Ordering.lt == Ordering.lt) = true from rfl, show (Ordering.gt == Ordering.lt) = false from rfl, mu_int _ (show (smallF 2 || smallF (PyProof.Rows.b2i true)) = true from rfl), mu_int _ (show (smallF 2 || smallF (PyProof.Rows.b2i false)) = true from rfl), c1, c2, s1, s2, Ordering.swap, show (1 : Int) - 2 * PyProof.Rows.b2i true = -1 from rfl, show (1 : Int) - 2 * PyProof.Rows.b2i false = 1 from rfl, show (-(-1 : Int)) = 1 from rfl, show (-(0 : Int)) = 0 from rfl, rp_a, rp_b, rp_c, rp_t, rp_f, ne_str, eq_str]
end K01

set_option Elab.async false
set_option linter.all false
set_option maxRecDepth 100000
set_option maxHeartbeats 4000000
namespace K01
open PySem Fw
def rowA : Ss → Sm
  | .cons a _ => a
  | _ => .retN
def rowR : Ss → Ss
  | .cons _ r => r
  | r => r
theorem cut_mem {α : Type} {xs : List α} {lo hi : Option Int} {x : α} (h : x ∈ cutD xs lo hi) : x ∈ xs := List.mem_of_mem_drop (List.mem_of_mem_take h)
theorem cut_len {α : Type} (xs : List α) (lo hi : Option Int) : (cutD xs lo hi).length ≤ xs.length := by
  unfold cutD
  rw [List.length_take, List.length_drop]
  omega
theorem sl_tup (ds : List D) (lo hi : Option Int) (S : Sto) : slD (.tup ds) lo hi S = .ok (.tup (cutD ds lo hi)) S := rfl
theorem ad_tup {a b : List D} (S : Sto) (h : a.length + b.length ≤ sizeLine) : binD .Add (.tup a) (.tup b) S = .ok (.tup (a ++ b)) S := if_pos h
theorem Vn.py {w : Nat} : ∀ (n : Nat) {d : D}, Vn w n d → ∃ p, toPy d = some p
  | n, d, h => by
    rcases h.cases with rfl | ⟨b, rfl⟩ | ⟨i, rfl⟩ | ⟨x, rfl⟩ | ⟨ds, m, rfl, hl, rfl, he⟩
    · exact ⟨_, rfl⟩
    · exact ⟨_, rfl⟩
    · exact ⟨_, rfl⟩
    · exact ⟨_, rfl⟩
    · have go : ∀ xs : List D, (∀ e, e ∈ xs → Vn w m e) → ∃ ps, toPyL xs = some ps ∧ ps.length = xs.length := by
        intro xs
        induction xs with
        | nil => exact fun _ => ⟨[], rfl, rfl⟩
        | cons x xs ih =>
          intro h
          obtain ⟨p, e1⟩ := Vn.py m (h x List.mem_cons_self)
          obtain ⟨ps, e2, e3⟩ := ih fun e he => h e (List.mem_cons_of_mem _ he)
          exact ⟨p :: ps, by rw [toPyL, e1, e2]; rfl, by rw [List.length_cons, List.length_cons, e3]⟩
      obtain ⟨ps, e, _⟩ := go ds he
      exact ⟨.tuple ps, by rw [toPy, e]; rfl⟩
theorem ne_tup {w n : Nat} {ds : List D} (h : Vn w n (.tup ds)) (S : Sto) : cmpD .NotEq (.tup ds) (.tup []) S = .ok (D.bl (decide (ds ≠ []))) S := by
  obtain ⟨p, hp⟩ := h.py
  have : cmp1 .NotEq (.tup ds) (.tup []) = some (decide (ds ≠ [])) := by
    unfold cmp1 eqD
    rw [hp, show toPy (.tup []) = some (.tuple []) from rfl]
    show (if min p.depth (PyData.depth (.tuple [])) ≤ 60 then some _ else none : Option Bool).map not = _
    rw [if_pos (Nat.le_trans (Nat.min_le_right _ _) (by decide))]
    rw [toPy, Option.map_eq_some_iff] at hp
    obtain ⟨ps, e1, rfl⟩ := hp
    cases ds with
    | nil => cases e1; rfl
    | cons d ds =>
      rw [toPyL, Option.bind_eq_some_iff] at e1
      obtain ⟨q, _, e2⟩ := e1
      rw [Option.map_eq_some_iff] at e2
      obtain ⟨qs, _, rfl⟩ := e2
      rfl
  show (match cmp1 .NotEq (.tup ds) (.tup []) with
    | some b => R.ok (D.bl b) S
    | none => .bad) = _
  rw [this]
theorem in_int2 (S : Sto) : cmpD .In (.str "int") (.tup [.str "int", .str "bool"]) S = .ok (D.bl true) S := rfl
theorem in_bool2 (S : Sto) : cmpD .In (.str "bool") (.tup [.str "int", .str "bool"]) S = .ok (D.bl true) S := rfl
theorem in_none2 (S : Sto) : cmpD .In (.str "none") (.tup [.str "int", .str "bool"]) S = .ok (D.bl false) S := rfl
theorem in_text2 (S : Sto) : cmpD .In (.str "text") (.tup [.str "int", .str "bool"]) S = .ok (D.bl false) S := rfl
theorem in_tup2 (S : Sto) : cmpD .In (.str "tuple") (.tup [.str "int", .str "bool"]) S = .ok (D.bl false) S := rfl
theorem bo_int (t : Sta) (i : Int) (S : Sto) : biD t "bool" [.int i] S = .ok (.bl (i != 0)) S := rfl
theorem bo_bl (t : Sta) (i : Bool) (S : Sto) : biD t "bool" [.bl i] S = .ok (.bl i) S := rfl
section
variable (cs : List Int)
theorem value_q {n k : Nat} (hk : n + 4 ≤ k) {s : Sg} {E : Sto} {i : Int} (hi : i = (n : Int)) {q : R D} (hq : (mk3 T.sta T.tb k).1.C "_law_value" [.ref 1, .int i] [] (stO cs s E) = q) (hE : E0 E) (h0 : 0 ≤ s.u) (hu : s.u + cst n < 2 ^ 40) :
    ∃ d s', Vn 2 n d ∧ s'.u ≤ s.u + cst n ∧ s.u ≤ s'.u ∧ q = .ok d (stO cs s' E) := by
  subst hi
  obtain ⟨d, s', h1, h2, h3, h4⟩ := value_ok cs n hk s E hE h0 hu
  exact ⟨d, s', h1, h2, h3, hq.symm.trans h4⟩
theorem cst1 : cst 1 = 6 := rfl
theorem near_ok : ∀ (n : Nat) {k : Nat} (hk : n + 6 ≤ k) {d : D} (hd : Vn 2 n d) (s : Sg) (E : Sto), E0 E → 0 ≤ s.u → s.u + 3 * n + 10 < 2 ^ 40 →
    ∃ y s', Vn 5 (n + 1) y ∧ s'.u ≤ s.u + 3 * n + 10 ∧ s.u ≤ s'.u ∧ (mk3 T.sta T.tb k).1.C "_law_near" [.ref 1, d] [] (stO cs s E) = .ok y (stO cs s' E)
  | n, k, hk, d, hd, s, E, hE, h0, hu => by
    obtain ⟨j, rfl⟩ : ∃ j, k = j + 1 := ⟨k - 1, by omega⟩
    suffices h : ∃ y s', Vn 5 (n + 1) y ∧ s'.u ≤ s.u + 3 * n + 10 ∧ s.u ≤ s'.u ∧ evSs d_law_near.body (mk3 T.sta T.tb j).1 [some (.ref 1), some d, none, none] (stO cs s E) = .ok (.ret y) (stO cs s' E) by
      obtain ⟨y, s', h1, h2, h3, h4⟩ := h
      exact ⟨y, s', h1, h2, h3, C_ret (ds' := [.ref 1, d]) rfl rfl rfl rfl h4 rfl (top_nr h1.nr)⟩
    have hself : Vn 5 (n + 1) d := hd.up (by omega) (by omega)
    -- behind the first test
    have rest : ∀ (s1 : Sg) (x : Option D), s1.u ≤ s.u + 1 → s.u ≤ s1.u → ∃ y s', Vn 5 (n + 1) y ∧ s'.u ≤ s.u + 3 * n + 10 ∧ s.u ≤ s'.u ∧
        evSs (rowR d_law_near.body) (mk3 T.sta T.tb j).1 [some (.ref 1), some d, none, x] (stO cs s1 E) = .ok (.ret y) (stO cs s' E) := by
      intro s1 x u1 u2
      unfold d_law_near
      dsimp only [rowR]
      simp only [evSs, evS.eq_1, evS.eq_2, evS.eq_3, evS.eq_4, evS.eq_5, evS.eq_7, evS.eq_8, evS.eq_9, evS.eq_10, evE.eq_1, evE.eq_2, evE.eq_3, evE.eq_4, evE.eq_5, evE.eq_6, evE.eq_7, evE.eq_8, evE.eq_9, evE.eq_10, evE.eq_11, evE.eq_12, evE.eq_13, evE.eq_14, evE.eq_15, evE.eq_16, evE.eq_17, evE.eq_18, evE.eq_19, evE.eq_21, evE.eq_22, evE.eq_23, evL, evO, evC, R_ok, bS_ok, tk_cold, List.getElem?_cons_zero, List.getElem?_cons_succ, conD, List.set_cons_zero, List.set_cons_succ, Option.some.injEq, eq_int, ix_great, ix_rest, ix_turn, ix_cells, se_rest, se_turn, po_great, ne_great, ne_eq, reduceCtorEq, not_true_eq_false, not_false_eq_true, decide_true, decide_false, rc_great, le_st, it_lst, it_tup, ad_int, su_int, lt_int, gt_int, ge_int, le_int, in_int, in_bl, evI, Int.reduceEq, Int.reduceLT, Int.reduceLE, isi_non_bool, isi_non_int, isi_non_str, isi_non_tuple, isi_non_is, is_non, isi_bl_bool, isi_bl_int, isi_bl_str, isi_bl_tuple, isi_bl_is, is_bl, isi_int_bool, isi_int_int, isi_int_str, isi_int_tuple, isi_int_is, is_int, isi_str_bool, isi_str_int, isi_str_str, isi_str_tuple, isi_str_is, is_str, isi_tup_bool, isi_tup_int, isi_tup_str, isi_tup_tuple, isi_tup_is, is_tup, isi_lst_bool, isi_lst_int, isi_lst_str, isi_lst_tuple, isi_lst_is, is_lst, isi_dct_bool, isi_dct_int, isi_dct_str, isi_dct_tuple, isi_dct_is, is_dct, gl_bool, gl_int, gl_str, gl_tuple, ↓reduceIte, sz0, sz1, sz2, sz3, sz4, sz5, sz6, sz7, sz8, sz9, sz10, List.zip_nil_left, List.zip_cons_cons, R_exc, bS_exc, tl_cold, tl_C, gl_tl,  rx_bad, all_bls, gl_KINDS, tu_lst, len_lst, len_tup, rc_lst,  Bool.false_eq_true, Bool.not_true, Bool.not_false, ]
      generalize hq : Sta.C _ (Str.ofString "_law_take") _ _ _ = q
      obtain ⟨i, s2, i1, i2, v1, v2, rfl⟩ := take_q cs (by omega) hq (by decide) (by decide) (by omega) (by omega)
      clear hq
      have hkd := lkind_ok (k := j) (by omega) hd (stO cs s2 E)
      have hi : i = 0 ∨ i = 1 ∨ i = 2 ∨ i = 3 := by omega
      rcases hi with rfl | rfl | rfl | rfl
      · rcases hd.cases with rfl | ⟨b, rfl⟩ | ⟨z, rfl⟩ | ⟨z, rfl⟩ | ⟨ds, m, rfl, hl, rfl, he⟩
        · simp only [evSs, evS.eq_1, evS.eq_2, evS.eq_3, evS.eq_4, evS.eq_5, evS.eq_7, evS.eq_8, evS.eq_9, evS.eq_10, evE.eq_1, evE.eq_2, evE.eq_3, evE.eq_4, evE.eq_5, evE.eq_6, evE.eq_7, evE.eq_8, evE.eq_9, evE.eq_10, evE.eq_11, evE.eq_12, evE.eq_13, evE.eq_14, evE.eq_15, evE.eq_16, evE.eq_17, evE.eq_18, evE.eq_19, evE.eq_21, evE.eq_22, evE.eq_23, evL, evO, evC, R_ok, bS_ok, tk_cold, List.getElem?_cons_zero, List.getElem?_cons_succ, conD, List.set_cons_zero, List.set_cons_succ, Option.some.injEq, eq_int, ix_great, ix_rest, ix_turn, ix_cells, se_rest, se_turn, po_great, ne_great, ne_eq, reduceCtorEq, not_true_eq_false, not_false_eq_true, decide_true, decide_false, rc_great, le_st, it_lst, it_tup, ad_int, su_int, lt_int, gt_int, ge_int, le_int, in_int, in_bl, evI, Int.reduceEq, Int.reduceLT, Int.reduceLE, isi_non_bool, isi_non_int, isi_non_str, isi_non_tuple, isi_non_is, is_non, isi_bl_bool, isi_bl_int, isi_bl_str, isi_bl_tuple, isi_bl_is, is_bl, isi_int_bool, isi_int_int, isi_int_str, isi_int_tuple, isi_int_is, is_int, isi_str_bool, isi_str_int, isi_str_str, isi_str_tuple, isi_str_is, is_str, isi_tup_bool, isi_tup_int, isi_tup_str, isi_tup_tuple, isi_tup_is, is_tup, isi_lst_bool, isi_lst_int, isi_lst_str, isi_lst_tuple, isi_lst_is, is_lst, isi_dct_bool, isi_dct_int, isi_dct_str, isi_dct_tuple, isi_dct_is, is_dct, gl_bool, gl_int, gl_str, gl_tuple, ↓reduceIte, sz0, sz1, sz2, sz3, sz4, sz5, sz6, sz7, sz8, sz9, sz10, List.zip_nil_left, List.zip_cons_cons, R_exc, bS_exc, tl_cold, tl_C, gl_tl,  rx_bad, all_bls, gl_KINDS, tu_lst, len_lst, len_tup, rc_lst,  Bool.false_eq_true, Bool.not_true, Bool.not_false, ]
          exact ⟨_, s2, hself, by omega, by omega, rfl⟩
        · simp only [evSs, evS.eq_1, evS.eq_2, evS.eq_3, evS.eq_4, evS.eq_5, evS.eq_7, evS.eq_8, evS.eq_9, evS.eq_10, evE.eq_1, evE.eq_2, evE.eq_3, evE.eq_4, evE.eq_5, evE.eq_6, evE.eq_7, evE.eq_8, evE.eq_9, evE.eq_10, evE.eq_11, evE.eq_12, evE.eq_13, evE.eq_14, evE.eq_15, evE.eq_16, evE.eq_17, evE.eq_18, evE.eq_19, evE.eq_21, evE.eq_22, evE.eq_23, evL, evO, evC, R_ok, bS_ok, tk_cold, List.getElem?_cons_zero, List.getElem?_cons_succ, conD, List.set_cons_zero, List.set_cons_succ, Option.some.injEq, eq_int, ix_great, ix_rest, ix_turn, ix_cells, se_rest, se_turn, po_great, ne_great, ne_eq, reduceCtorEq, not_true_eq_false, not_false_eq_true, decide_true, decide_false, rc_great, le_st, it_lst, it_tup, ad_int, su_int, lt_int, gt_int, ge_int, le_int, in_int, in_bl, evI, Int.reduceEq, Int.reduceLT, Int.reduceLE, isi_non_bool, isi_non_int, isi_non_str, isi_non_tuple, isi_non_is, is_non, isi_bl_bool, isi_bl_int, isi_bl_str, isi_bl_tuple, isi_bl_is, is_bl, isi_int_bool, isi_int_int, isi_int_str, isi_int_tuple, isi_int_is, is_int, isi_str_bool, isi_str_int, isi_str_str, isi_str_tuple, isi_str_is, is_str, isi_tup_bool, isi_tup_int, isi_tup_str, isi_tup_tuple, isi_tup_is, is_tup, isi_lst_bool, isi_lst_int, isi_lst_str, isi_lst_tuple, isi_lst_is, is_lst, isi_dct_bool, isi_dct_int, isi_dct_str, isi_dct_tuple, isi_dct_is, is_dct, gl_bool, gl_int, gl_str, gl_tuple, ↓reduceIte, sz0, sz1, sz2, sz3, sz4, sz5, sz6, sz7, sz8, sz9, sz10, List.zip_nil_left, List.zip_cons_cons, R_exc, bS_exc, tl_cold, tl_C, gl_tl,  rx_bad, all_bls, gl_KINDS, tu_lst, len_lst, len_tup, rc_lst,  Bool.false_eq_true, Bool.not_true, Bool.not_false, ]
          exact ⟨_, s2, hself, by omega, by omega, rfl⟩
        · simp only [evSs, evS.eq_1, evS.eq_2, evS.eq_3, evS.eq_4, evS.eq_5, evS.eq_7, evS.eq_8, evS.eq_9, evS.eq_10, evE.eq_1, evE.eq_2, evE.eq_3, evE.eq_4, evE.eq_5, evE.eq_6, evE.eq_7, evE.eq_8, evE.eq_9, evE.eq_10, evE.eq_11, evE.eq_12, evE.eq_13, evE.eq_14, evE.eq_15, evE.eq_16, evE.eq_17, evE.eq_18, evE.eq_19, evE.eq_21, evE.eq_22, evE.eq_23, evL, evO, evC, R_ok, bS_ok, tk_cold, List.getElem?_cons_zero, List.getElem?_cons_succ, conD, List.set_cons_zero, List.set_cons_succ, Option.some.injEq, eq_int, ix_great, ix_rest, ix_turn, ix_cells, se_rest, se_turn, po_great, ne_great, ne_eq, reduceCtorEq, not_true_eq_false, not_false_eq_true, decide_true, decide_false, rc_great, le_st, it_lst, it_tup, ad_int, su_int, lt_int, gt_int, ge_int, le_int, in_int, in_bl, evI, Int.reduceEq, Int.reduceLT, Int.reduceLE, isi_non_bool, isi_non_int, isi_non_str, isi_non_tuple, isi_non_is, is_non, isi_bl_bool, isi_bl_int, isi_bl_str, isi_bl_tuple, isi_bl_is, is_bl, isi_int_bool, isi_int_int, isi_int_str, isi_int_tuple, isi_int_is, is_int, isi_str_bool, isi_str_int, isi_str_str, isi_str_tuple, isi_str_is, is_str, isi_tup_bool, isi_tup_int, isi_tup_str, isi_tup_tuple, isi_tup_is, is_tup, isi_lst_bool, isi_lst_int, isi_lst_str, isi_lst_tuple, isi_lst_is, is_lst, isi_dct_bool, isi_dct_int, isi_dct_str, isi_dct_tuple, isi_dct_is, is_dct, gl_bool, gl_int, gl_str, gl_tuple, ↓reduceIte, sz0, sz1, sz2, sz3, sz4, sz5, sz6, sz7, sz8, sz9, sz10, List.zip_nil_left, List.zip_cons_cons, R_exc, bS_exc, tl_cold, tl_C, gl_tl,  rx_bad, all_bls, gl_KINDS, tu_lst, len_lst, len_tup, rc_lst,  Bool.false_eq_true, Bool.not_true, Bool.not_false, ]
          exact ⟨_, s2, hself, by omega, by omega, rfl⟩
        · simp only [evSs, evS.eq_1, evS.eq_2, evS.eq_3, evS.eq_4, evS.eq_5, evS.eq_7, evS.eq_8, evS.eq_9, evS.eq_10, evE.eq_1, evE.eq_2, evE.eq_3, evE.eq_4, evE.eq_5, evE.eq_6, evE.eq_7, evE.eq_8, evE.eq_9, evE.eq_10, evE.eq_11, evE.eq_12, evE.eq_13, evE.eq_14, evE.eq_15, evE.eq_16, evE.eq_17, evE.eq_18, evE.eq_19, evE.eq_21, evE.eq_22, evE.eq_23, evL, evO, evC, R_ok, bS_ok, tk_cold, List.getElem?_cons_zero, List.getElem?_cons_succ, conD, List.set_cons_zero, List.set_cons_succ, Option.some.injEq, eq_int, ix_great, ix_rest, ix_turn, ix_cells, se_rest, se_turn, po_great, ne_great, ne_eq, reduceCtorEq, not_true_eq_false, not_false_eq_true, decide_true, decide_false, rc_great, le_st, it_lst, it_tup, ad_int, su_int, lt_int, gt_int, ge_int, le_int, in_int, in_bl, evI, Int.reduceEq, Int.reduceLT, Int.reduceLE, isi_non_bool, isi_non_int, isi_non_str, isi_non_tuple, isi_non_is, is_non, isi_bl_bool, isi_bl_int, isi_bl_str, isi_bl_tuple, isi_bl_is, is_bl, isi_int_bool, isi_int_int, isi_int_str, isi_int_tuple, isi_int_is, is_int, isi_str_bool, isi_str_int, isi_str_str, isi_str_tuple, isi_str_is, is_str, isi_tup_bool, isi_tup_int, isi_tup_str, isi_tup_tuple, isi_tup_is, is_tup, isi_lst_bool, isi_lst_int, isi_lst_str, isi_lst_tuple, isi_lst_is, is_lst, isi_dct_bool, isi_dct_int, isi_dct_str, isi_dct_tuple, isi_dct_is, is_dct, gl_bool, gl_int, gl_str, gl_tuple, ↓reduceIte, sz0, sz1, sz2, sz3, sz4, sz5, sz6, sz7, sz8, sz9, sz10, List.zip_nil_left, List.zip_cons_cons, R_exc, bS_exc, tl_cold, tl_C, gl_tl,  rx_bad, all_bls, gl_KINDS, tu_lst, len_lst, len_tup, rc_lst,  Bool.false_eq_true, Bool.not_true, Bool.not_false, ]
          exact ⟨_, s2, hself, by omega, by omega, rfl⟩
        · simp only [evSs, evS.eq_1, evS.eq_2, evS.eq_3, evS.eq_4, evS.eq_5, evS.eq_7, evS.eq_8, evS.eq_9, evS.eq_10, evE.eq_1, evE.eq_2, evE.eq_3, evE.eq_4, evE.eq_5, evE.eq_6, evE.eq_7, evE.eq_8, evE.eq_9, evE.eq_10, evE.eq_11, evE.eq_12, evE.eq_13, evE.eq_14, evE.eq_15, evE.eq_16, evE.eq_17, evE.eq_18, evE.eq_19, evE.eq_21, evE.eq_22, evE.eq_23, evL, evO, evC, R_ok, bS_ok, tk_cold, List.getElem?_cons_zero, List.getElem?_cons_succ, conD, List.set_cons_zero, List.set_cons_succ, Option.some.injEq, eq_int, ix_great, ix_rest, ix_turn, ix_cells, se_rest, se_turn, po_great, ne_great, ne_eq, reduceCtorEq, not_true_eq_false, not_false_eq_true, decide_true, decide_false, rc_great, le_st, it_lst, it_tup, ad_int, su_int, lt_int, gt_int, ge_int, le_int, in_int, in_bl, evI, Int.reduceEq, Int.reduceLT, Int.reduceLE, isi_non_bool, isi_non_int, isi_non_str, isi_non_tuple, isi_non_is, is_non, isi_bl_bool, isi_bl_int, isi_bl_str, isi_bl_tuple, isi_bl_is, is_bl, isi_int_bool, isi_int_int, isi_int_str, isi_int_tuple, isi_int_is, is_int, isi_str_bool, isi_str_int, isi_str_str, isi_str_tuple, isi_str_is, is_str, isi_tup_bool, isi_tup_int, isi_tup_str, isi_tup_tuple, isi_tup_is, is_tup, isi_lst_bool, isi_lst_int, isi_lst_str, isi_lst_tuple, isi_lst_is, is_lst, isi_dct_bool, isi_dct_int, isi_dct_str, isi_dct_tuple, isi_dct_is, is_dct, gl_bool, gl_int, gl_str, gl_tuple, ↓reduceIte, sz0, sz1, sz2, sz3, sz4, sz5, sz6, sz7, sz8, sz9, sz10, List.zip_nil_left, List.zip_cons_cons, R_exc, bS_exc, tl_cold, tl_C, gl_tl,  rx_bad, all_bls, gl_KINDS, tu_lst, len_lst, len_tup, rc_lst,  Bool.false_eq_true, Bool.not_true, Bool.not_false, ]
          generalize hq : Sta.C _ (Str.ofString "_law_take") _ _ _ = q
          obtain ⟨i, s3, j1, j2, w1, w2, rfl⟩ := take_q cs (by omega) hq (by decide) (by decide) (by omega) (by omega)
          clear hq
          by_cases e : i = 0
          · simp only [evSs, evS.eq_1, evS.eq_2, evS.eq_3, evS.eq_4, evS.eq_5, evS.eq_7, evS.eq_8, evS.eq_9, evS.eq_10, evE.eq_1, evE.eq_2, evE.eq_3, evE.eq_4, evE.eq_5, evE.eq_6, evE.eq_7, evE.eq_8, evE.eq_9, evE.eq_10, evE.eq_11, evE.eq_12, evE.eq_13, evE.eq_14, evE.eq_15, evE.eq_16, evE.eq_17, evE.eq_18, evE.eq_19, evE.eq_21, evE.eq_22, evE.eq_23, evL, evO, evC, R_ok, bS_ok, tk_cold, List.getElem?_cons_zero, List.getElem?_cons_succ, conD, List.set_cons_zero, List.set_cons_succ, Option.some.injEq, eq_int, ix_great, ix_rest, ix_turn, ix_cells, se_rest, se_turn, po_great, ne_great, ne_eq, reduceCtorEq, not_true_eq_false, not_false_eq_true, decide_true, decide_false, rc_great, le_st, it_lst, it_tup, ad_int, su_int, lt_int, gt_int, ge_int, le_int, in_int, in_bl, evI, Int.reduceEq, Int.reduceLT, Int.reduceLE, isi_non_bool, isi_non_int, isi_non_str, isi_non_tuple, isi_non_is, is_non, isi_bl_bool, isi_bl_int, isi_bl_str, isi_bl_tuple, isi_bl_is, is_bl, isi_int_bool, isi_int_int, isi_int_str, isi_int_tuple, isi_int_is, is_int, isi_str_bool, isi_str_int, isi_str_str, isi_str_tuple, isi_str_is, is_str, isi_tup_bool, isi_tup_int, isi_tup_str, isi_tup_tuple, isi_tup_is, is_tup, isi_lst_bool, isi_lst_int, isi_lst_str, isi_lst_tuple, isi_lst_is, is_lst, isi_dct_bool, isi_dct_int, isi_dct_str, isi_dct_tuple, isi_dct_is, is_dct, gl_bool, gl_int, gl_str, gl_tuple, ↓reduceIte, sz0, sz1, sz2, sz3, sz4, sz5, sz6, sz7, sz8, sz9, sz10, List.zip_nil_left, List.zip_cons_cons, R_exc, bS_exc, tl_cold, tl_C, gl_tl,  rx_bad, all_bls, gl_KINDS, tu_lst, len_lst, len_tup, rc_lst,  Bool.false_eq_true, Bool.not_true, Bool.not_false, show decide (i = 0) = true from decide_eq_true e, sl_tup]
            exact ⟨_, s3, .inr ⟨_, rfl, Nat.le_trans (cut_len _ _ _) (by omega), fun e h => (he e (cut_mem h)).up (by omega) (by omega)⟩, by omega, by omega, rfl⟩
          · simp only [evSs, evS.eq_1, evS.eq_2, evS.eq_3, evS.eq_4, evS.eq_5, evS.eq_7, evS.eq_8, evS.eq_9, evS.eq_10, evE.eq_1, evE.eq_2, evE.eq_3, evE.eq_4, evE.eq_5, evE.eq_6, evE.eq_7, evE.eq_8, evE.eq_9, evE.eq_10, evE.eq_11, evE.eq_12, evE.eq_13, evE.eq_14, evE.eq_15, evE.eq_16, evE.eq_17, evE.eq_18, evE.eq_19, evE.eq_21, evE.eq_22, evE.eq_23, evL, evO, evC, R_ok, bS_ok, tk_cold, List.getElem?_cons_zero, List.getElem?_cons_succ, conD, List.set_cons_zero, List.set_cons_succ, Option.some.injEq, eq_int, ix_great, ix_rest, ix_turn, ix_cells, se_rest, se_turn, po_great, ne_great, ne_eq, reduceCtorEq, not_true_eq_false, not_false_eq_true, decide_true, decide_false, rc_great, le_st, it_lst, it_tup, ad_int, su_int, lt_int, gt_int, ge_int, le_int, in_int, in_bl, evI, Int.reduceEq, Int.reduceLT, Int.reduceLE, isi_non_bool, isi_non_int, isi_non_str, isi_non_tuple, isi_non_is, is_non, isi_bl_bool, isi_bl_int, isi_bl_str, isi_bl_tuple, isi_bl_is, is_bl, isi_int_bool, isi_int_int, isi_int_str, isi_int_tuple, isi_int_is, is_int, isi_str_bool, isi_str_int, isi_str_str, isi_str_tuple, isi_str_is, is_str, isi_tup_bool, isi_tup_int, isi_tup_str, isi_tup_tuple, isi_tup_is, is_tup, isi_lst_bool, isi_lst_int, isi_lst_str, isi_lst_tuple, isi_lst_is, is_lst, isi_dct_bool, isi_dct_int, isi_dct_str, isi_dct_tuple, isi_dct_is, is_dct, gl_bool, gl_int, gl_str, gl_tuple, ↓reduceIte, sz0, sz1, sz2, sz3, sz4, sz5, sz6, sz7, sz8, sz9, sz10, List.zip_nil_left, List.zip_cons_cons, R_exc, bS_exc, tl_cold, tl_C, gl_tl,  rx_bad, all_bls, gl_KINDS, tu_lst, len_lst, len_tup, rc_lst,  Bool.false_eq_true, Bool.not_true, Bool.not_false, show decide (i = 0) = false from decide_eq_false e, ad_tup _ (show ds.length + [D.non].length ≤ sizeLine from sz_of (by simp only [List.length_cons, List.length_nil]; omega))]
            refine ⟨_, s3, .inr ⟨_, rfl, by simp only [List.length_append, List.length_cons, List.length_nil]; omega, fun e h => ?_⟩, by omega, by omega, rfl⟩
            rcases List.mem_append.mp h with h | h
            · exact (he e h).up (by omega) (by omega)
            · rw [List.mem_singleton.mp h]
              exact Vn.at_ rfl
      · rcases hd.cases with rfl | ⟨b, rfl⟩ | ⟨z, rfl⟩ | ⟨z, rfl⟩ | ⟨ds, m, rfl, hl, rfl, he⟩
        · simp only [evSs, evS.eq_1, evS.eq_2, evS.eq_3, evS.eq_4, evS.eq_5, evS.eq_7, evS.eq_8, evS.eq_9, evS.eq_10, evE.eq_1, evE.eq_2, evE.eq_3, evE.eq_4, evE.eq_5, evE.eq_6, evE.eq_7, evE.eq_8, evE.eq_9, evE.eq_10, evE.eq_11, evE.eq_12, evE.eq_13, evE.eq_14, evE.eq_15, evE.eq_16, evE.eq_17, evE.eq_18, evE.eq_19, evE.eq_21, evE.eq_22, evE.eq_23, evL, evO, evC, R_ok, bS_ok, tk_cold, List.getElem?_cons_zero, List.getElem?_cons_succ, conD, List.set_cons_zero, List.set_cons_succ, Option.some.injEq, eq_int, ix_great, ix_rest, ix_turn, ix_cells, se_rest, se_turn, po_great, ne_great, ne_eq, reduceCtorEq, not_true_eq_false, not_false_eq_true, decide_true, decide_false, rc_great, le_st, it_lst, it_tup, ad_int, su_int, lt_int, gt_int, ge_int, le_int, in_int, in_bl, evI, Int.reduceEq, Int.reduceLT, Int.reduceLE, isi_non_bool, isi_non_int, isi_non_str, isi_non_tuple, isi_non_is, is_non, isi_bl_bool, isi_bl_int, isi_bl_str, isi_bl_tuple, isi_bl_is, is_bl, isi_int_bool, isi_int_int, isi_int_str, isi_int_tuple, isi_int_is, is_int, isi_str_bool, isi_str_int, isi_str_str, isi_str_tuple, isi_str_is, is_str, isi_tup_bool, isi_tup_int, isi_tup_str, isi_tup_tuple, isi_tup_is, is_tup, isi_lst_bool, isi_lst_int, isi_lst_str, isi_lst_tuple, isi_lst_is, is_lst, isi_dct_bool, isi_dct_int, isi_dct_str, isi_dct_tuple, isi_dct_is, is_dct, gl_bool, gl_int, gl_str, gl_tuple, ↓reduceIte, sz0, sz1, sz2, sz3, sz4, sz5, sz6, sz7, sz8, sz9, sz10, List.zip_nil_left, List.zip_cons_cons, R_exc, bS_exc, tl_cold, tl_C, gl_tl,  rx_bad, all_bls, gl_KINDS, tu_lst, len_lst, len_tup, rc_lst,  Bool.false_eq_true, Bool.not_true, Bool.not_false, hkd, kn, in_none2]
          exact ⟨_, s2, hself, by omega, by omega, rfl⟩
        · simp only [evSs, evS.eq_1, evS.eq_2, evS.eq_3, evS.eq_4, evS.eq_5, evS.eq_7, evS.eq_8, evS.eq_9, evS.eq_10, evE.eq_1, evE.eq_2, evE.eq_3, evE.eq_4, evE.eq_5, evE.eq_6, evE.eq_7, evE.eq_8, evE.eq_9, evE.eq_10, evE.eq_11, evE.eq_12, evE.eq_13, evE.eq_14, evE.eq_15, evE.eq_16, evE.eq_17, evE.eq_18, evE.eq_19, evE.eq_21, evE.eq_22, evE.eq_23, evL, evO, evC, R_ok, bS_ok, tk_cold, List.getElem?_cons_zero, List.getElem?_cons_succ, conD, List.set_cons_zero, List.set_cons_succ, Option.some.injEq, eq_int, ix_great, ix_rest, ix_turn, ix_cells, se_rest, se_turn, po_great, ne_great, ne_eq, reduceCtorEq, not_true_eq_false, not_false_eq_true, decide_true, decide_false, rc_great, le_st, it_lst, it_tup, ad_int, su_int, lt_int, gt_int, ge_int, le_int, in_int, in_bl, evI, Int.reduceEq, Int.reduceLT, Int.reduceLE, isi_non_bool, isi_non_int, isi_non_str, isi_non_tuple, isi_non_is, is_non, isi_bl_bool, isi_bl_int, isi_bl_str, isi_bl_tuple, isi_bl_is, is_bl, isi_int_bool, isi_int_int, isi_int_str, isi_int_tuple, isi_int_is, is_int, isi_str_bool, isi_str_int, isi_str_str, isi_str_tuple, isi_str_is, is_str, isi_tup_bool, isi_tup_int, isi_tup_str, isi_tup_tuple, isi_tup_is, is_tup, isi_lst_bool, isi_lst_int, isi_lst_str, isi_lst_tuple, isi_lst_is, is_lst, isi_dct_bool, isi_dct_int, isi_dct_str, isi_dct_tuple, isi_dct_is, is_dct, gl_bool, gl_int, gl_str, gl_tuple, ↓reduceIte, sz0, sz1, sz2, sz3, sz4, sz5, sz6, sz7, sz8, sz9, sz10, List.zip_nil_left, List.zip_cons_cons, R_exc, bS_exc, tl_cold, tl_C, gl_tl,  rx_bad, all_bls, gl_KINDS, tu_lst, len_lst, len_tup, rc_lst,  Bool.false_eq_true, Bool.not_true, Bool.not_false, hkd, kn, in_bool2, bo_bl]
          generalize hq : Sta.C _ (Str.ofString "_law_take") _ _ _ = q
          obtain ⟨i, s3, j1, j2, w1, w2, rfl⟩ := take_q cs (by omega) hq (by decide) (by decide) (by omega) (by omega)
          obtain ⟨y, hy, e⟩ := idx_mem (ds := [.int (PyProof.Rows.b2i b), .bl b, .int (PyProof.Rows.b2i b + 1)]) (S := stO cs s3 E) j1 j2
          simp only [evSs, evS.eq_1, evS.eq_2, evS.eq_3, evS.eq_4, evS.eq_5, evS.eq_7, evS.eq_8, evS.eq_9, evS.eq_10, evE.eq_1, evE.eq_2, evE.eq_3, evE.eq_4, evE.eq_5, evE.eq_6, evE.eq_7, evE.eq_8, evE.eq_9, evE.eq_10, evE.eq_11, evE.eq_12, evE.eq_13, evE.eq_14, evE.eq_15, evE.eq_16, evE.eq_17, evE.eq_18, evE.eq_19, evE.eq_21, evE.eq_22, evE.eq_23, evL, evO, evC, R_ok, bS_ok, tk_cold, List.getElem?_cons_zero, List.getElem?_cons_succ, conD, List.set_cons_zero, List.set_cons_succ, Option.some.injEq, eq_int, ix_great, ix_rest, ix_turn, ix_cells, se_rest, se_turn, po_great, ne_great, ne_eq, reduceCtorEq, not_true_eq_false, not_false_eq_true, decide_true, decide_false, rc_great, le_st, it_lst, it_tup, ad_int, su_int, lt_int, gt_int, ge_int, le_int, in_int, in_bl, evI, Int.reduceEq, Int.reduceLT, Int.reduceLE, isi_non_bool, isi_non_int, isi_non_str, isi_non_tuple, isi_non_is, is_non, isi_bl_bool, isi_bl_int, isi_bl_str, isi_bl_tuple, isi_bl_is, is_bl, isi_int_bool, isi_int_int, isi_int_str, isi_int_tuple, isi_int_is, is_int, isi_str_bool, isi_str_int, isi_str_str, isi_str_tuple, isi_str_is, is_str, isi_tup_bool, isi_tup_int, isi_tup_str, isi_tup_tuple, isi_tup_is, is_tup, isi_lst_bool, isi_lst_int, isi_lst_str, isi_lst_tuple, isi_lst_is, is_lst, isi_dct_bool, isi_dct_int, isi_dct_str, isi_dct_tuple, isi_dct_is, is_dct, gl_bool, gl_int, gl_str, gl_tuple, ↓reduceIte, sz0, sz1, sz2, sz3, sz4, sz5, sz6, sz7, sz8, sz9, sz10, List.zip_nil_left, List.zip_cons_cons, R_exc, bS_exc, tl_cold, tl_C, gl_tl,  rx_bad, all_bls, gl_KINDS, tu_lst, len_lst, len_tup, rc_lst,  Bool.false_eq_true, Bool.not_true, Bool.not_false, e]
          refine ⟨y, s3, Vn.at_ ?_, by omega, by omega, rfl⟩
          simp only [List.mem_cons, List.not_mem_nil, or_false] at hy
          rcases hy with rfl | rfl | rfl <;> rfl
        · simp only [evSs, evS.eq_1, evS.eq_2, evS.eq_3, evS.eq_4, evS.eq_5, evS.eq_7, evS.eq_8, evS.eq_9, evS.eq_10, evE.eq_1, evE.eq_2, evE.eq_3, evE.eq_4, evE.eq_5, evE.eq_6, evE.eq_7, evE.eq_8, evE.eq_9, evE.eq_10, evE.eq_11, evE.eq_12, evE.eq_13, evE.eq_14, evE.eq_15, evE.eq_16, evE.eq_17, evE.eq_18, evE.eq_19, evE.eq_21, evE.eq_22, evE.eq_23, evL, evO, evC, R_ok, bS_ok, tk_cold, List.getElem?_cons_zero, List.getElem?_cons_succ, conD, List.set_cons_zero, List.set_cons_succ, Option.some.injEq, eq_int, ix_great, ix_rest, ix_turn, ix_cells, se_rest, se_turn, po_great, ne_great, ne_eq, reduceCtorEq, not_true_eq_false, not_false_eq_true, decide_true, decide_false, rc_great, le_st, it_lst, it_tup, ad_int, su_int, lt_int, gt_int, ge_int, le_int, in_int, in_bl, evI, Int.reduceEq, Int.reduceLT, Int.reduceLE, isi_non_bool, isi_non_int, isi_non_str, isi_non_tuple, isi_non_is, is_non, isi_bl_bool, isi_bl_int, isi_bl_str, isi_bl_tuple, isi_bl_is, is_bl, isi_int_bool, isi_int_int, isi_int_str, isi_int_tuple, isi_int_is, is_int, isi_str_bool, isi_str_int, isi_str_str, isi_str_tuple, isi_str_is, is_str, isi_tup_bool, isi_tup_int, isi_tup_str, isi_tup_tuple, isi_tup_is, is_tup, isi_lst_bool, isi_lst_int, isi_lst_str, isi_lst_tuple, isi_lst_is, is_lst, isi_dct_bool, isi_dct_int, isi_dct_str, isi_dct_tuple, isi_dct_is, is_dct, gl_bool, gl_int, gl_str, gl_tuple, ↓reduceIte, sz0, sz1, sz2, sz3, sz4, sz5, sz6, sz7, sz8, sz9, sz10, List.zip_nil_left, List.zip_cons_cons, R_exc, bS_exc, tl_cold, tl_C, gl_tl,  rx_bad, all_bls, gl_KINDS, tu_lst, len_lst, len_tup, rc_lst,  Bool.false_eq_true, Bool.not_true, Bool.not_false, hkd, kn, in_int2, bo_int]
          generalize hq : Sta.C _ (Str.ofString "_law_take") _ _ _ = q
          obtain ⟨i, s3, j1, j2, w1, w2, rfl⟩ := take_q cs (by omega) hq (by decide) (by decide) (by omega) (by omega)
          obtain ⟨y, hy, e⟩ := idx_mem (ds := [.int z, .bl (z != 0), .int (z + 1)]) (S := stO cs s3 E) j1 j2
          simp only [evSs, evS.eq_1, evS.eq_2, evS.eq_3, evS.eq_4, evS.eq_5, evS.eq_7, evS.eq_8, evS.eq_9, evS.eq_10, evE.eq_1, evE.eq_2, evE.eq_3, evE.eq_4, evE.eq_5, evE.eq_6, evE.eq_7, evE.eq_8, evE.eq_9, evE.eq_10, evE.eq_11, evE.eq_12, evE.eq_13, evE.eq_14, evE.eq_15, evE.eq_16, evE.eq_17, evE.eq_18, evE.eq_19, evE.eq_21, evE.eq_22, evE.eq_23, evL, evO, evC, R_ok, bS_ok, tk_cold, List.getElem?_cons_zero, List.getElem?_cons_succ, conD, List.set_cons_zero, List.set_cons_succ, Option.some.injEq, eq_int, ix_great, ix_rest, ix_turn, ix_cells, se_rest, se_turn, po_great, ne_great, ne_eq, reduceCtorEq, not_true_eq_false, not_false_eq_true, decide_true, decide_false, rc_great, le_st, it_lst, it_tup, ad_int, su_int, lt_int, gt_int, ge_int, le_int, in_int, in_bl, evI, Int.reduceEq, Int.reduceLT, Int.reduceLE, isi_non_bool, isi_non_int, isi_non_str, isi_non_tuple, isi_non_is, is_non, isi_bl_bool, isi_bl_int, isi_bl_str, isi_bl_tuple, isi_bl_is, is_bl, isi_int_bool, isi_int_int, isi_int_str, isi_int_tuple, isi_int_is, is_int, isi_str_bool, isi_str_int, isi_str_str, isi_str_tuple, isi_str_is, is_str, isi_tup_bool, isi_tup_int, isi_tup_str, isi_tup_tuple, isi_tup_is, is_tup, isi_lst_bool, isi_lst_int, isi_lst_str, isi_lst_tuple, isi_lst_is, is_lst, isi_dct_bool, isi_dct_int, isi_dct_str, isi_dct_tuple, isi_dct_is, is_dct, gl_bool, gl_int, gl_str, gl_tuple, ↓reduceIte, sz0, sz1, sz2, sz3, sz4, sz5, sz6, sz7, sz8, sz9, sz10, List.zip_nil_left, List.zip_cons_cons, R_exc, bS_exc, tl_cold, tl_C, gl_tl,  rx_bad, all_bls, gl_KINDS, tu_lst, len_lst, len_tup, rc_lst,  Bool.false_eq_true, Bool.not_true, Bool.not_false, e]
          refine ⟨y, s3, Vn.at_ ?_, by omega, by omega, rfl⟩
          simp only [List.mem_cons, List.not_mem_nil, or_false] at hy
          rcases hy with rfl | rfl | rfl <;> rfl
        · simp only [evSs, evS.eq_1, evS.eq_2, evS.eq_3, evS.eq_4, evS.eq_5, evS.eq_7, evS.eq_8, evS.eq_9, evS.eq_10, evE.eq_1, evE.eq_2, evE.eq_3, evE.eq_4, evE.eq_5, evE.eq_6, evE.eq_7, evE.eq_8, evE.eq_9, evE.eq_10, evE.eq_11, evE.eq_12, evE.eq_13, evE.eq_14, evE.eq_15, evE.eq_16, evE.eq_17, evE.eq_18, evE.eq_19, evE.eq_21, evE.eq_22, evE.eq_23, evL, evO, evC, R_ok, bS_ok, tk_cold, List.getElem?_cons_zero, List.getElem?_cons_succ, conD, List.set_cons_zero, List.set_cons_succ, Option.some.injEq, eq_int, ix_great, ix_rest, ix_turn, ix_cells, se_rest, se_turn, po_great, ne_great, ne_eq, reduceCtorEq, not_true_eq_false, not_false_eq_true, decide_true, decide_false, rc_great, le_st, it_lst, it_tup, ad_int, su_int, lt_int, gt_int, ge_int, le_int, in_int, in_bl, evI, Int.reduceEq, Int.reduceLT, Int.reduceLE, isi_non_bool, isi_non_int, isi_non_str, isi_non_tuple, isi_non_is, is_non, isi_bl_bool, isi_bl_int, isi_bl_str, isi_bl_tuple, isi_bl_is, is_bl, isi_int_bool, isi_int_int, isi_int_str, isi_int_tuple, isi_int_is, is_int, isi_str_bool, isi_str_int, isi_str_str, isi_str_tuple, isi_str_is, is_str, isi_tup_bool, isi_tup_int, isi_tup_str, isi_tup_tuple, isi_tup_is, is_tup, isi_lst_bool, isi_lst_int, isi_lst_str, isi_lst_tuple, isi_lst_is, is_lst, isi_dct_bool, isi_dct_int, isi_dct_str, isi_dct_tuple, isi_dct_is, is_dct, gl_bool, gl_int, gl_str, gl_tuple, ↓reduceIte, sz0, sz1, sz2, sz3, sz4, sz5, sz6, sz7, sz8, sz9, sz10, List.zip_nil_left, List.zip_cons_cons, R_exc, bS_exc, tl_cold, tl_C, gl_tl,  rx_bad, all_bls, gl_KINDS, tu_lst, len_lst, len_tup, rc_lst,  Bool.false_eq_true, Bool.not_true, Bool.not_false, hkd, kn, in_text2]
          exact ⟨_, s2, hself, by omega, by omega, rfl⟩
        · simp only [evSs, evS.eq_1, evS.eq_2, evS.eq_3, evS.eq_4, evS.eq_5, evS.eq_7, evS.eq_8, evS.eq_9, evS.eq_10, evE.eq_1, evE.eq_2, evE.eq_3, evE.eq_4, evE.eq_5, evE.eq_6, evE.eq_7, evE.eq_8, evE.eq_9, evE.eq_10, evE.eq_11, evE.eq_12, evE.eq_13, evE.eq_14, evE.eq_15, evE.eq_16, evE.eq_17, evE.eq_18, evE.eq_19, evE.eq_21, evE.eq_22, evE.eq_23, evL, evO, evC, R_ok, bS_ok, tk_cold, List.getElem?_cons_zero, List.getElem?_cons_succ, conD, List.set_cons_zero, List.set_cons_succ, Option.some.injEq, eq_int, ix_great, ix_rest, ix_turn, ix_cells, se_rest, se_turn, po_great, ne_great, ne_eq, reduceCtorEq, not_true_eq_false, not_false_eq_true, decide_true, decide_false, rc_great, le_st, it_lst, it_tup, ad_int, su_int, lt_int, gt_int, ge_int, le_int, in_int, in_bl, evI, Int.reduceEq, Int.reduceLT, Int.reduceLE, isi_non_bool, isi_non_int, isi_non_str, isi_non_tuple, isi_non_is, is_non, isi_bl_bool, isi_bl_int, isi_bl_str, isi_bl_tuple, isi_bl_is, is_bl, isi_int_bool, isi_int_int, isi_int_str, isi_int_tuple, isi_int_is, is_int, isi_str_bool, isi_str_int, isi_str_str, isi_str_tuple, isi_str_is, is_str, isi_tup_bool, isi_tup_int, isi_tup_str, isi_tup_tuple, isi_tup_is, is_tup, isi_lst_bool, isi_lst_int, isi_lst_str, isi_lst_tuple, isi_lst_is, is_lst, isi_dct_bool, isi_dct_int, isi_dct_str, isi_dct_tuple, isi_dct_is, is_dct, gl_bool, gl_int, gl_str, gl_tuple, ↓reduceIte, sz0, sz1, sz2, sz3, sz4, sz5, sz6, sz7, sz8, sz9, sz10, List.zip_nil_left, List.zip_cons_cons, R_exc, bS_exc, tl_cold, tl_C, gl_tl,  rx_bad, all_bls, gl_KINDS, tu_lst, len_lst, len_tup, rc_lst,  Bool.false_eq_true, Bool.not_true, Bool.not_false, hkd, kn, in_tup2]
          exact ⟨_, s2, hself, by omega, by omega, rfl⟩
      · simp only [evSs, evS.eq_1, evS.eq_2, evS.eq_3, evS.eq_4, evS.eq_5, evS.eq_7, evS.eq_8, evS.eq_9, evS.eq_10, evE.eq_1, evE.eq_2, evE.eq_3, evE.eq_4, evE.eq_5, evE.eq_6, evE.eq_7, evE.eq_8, evE.eq_9, evE.eq_10, evE.eq_11, evE.eq_12, evE.eq_13, evE.eq_14, evE.eq_15, evE.eq_16, evE.eq_17, evE.eq_18, evE.eq_19, evE.eq_21, evE.eq_22, evE.eq_23, evL, evO, evC, R_ok, bS_ok, tk_cold, List.getElem?_cons_zero, List.getElem?_cons_succ, conD, List.set_cons_zero, List.set_cons_succ, Option.some.injEq, eq_int, ix_great, ix_rest, ix_turn, ix_cells, se_rest, se_turn, po_great, ne_great, ne_eq, reduceCtorEq, not_true_eq_false, not_false_eq_true, decide_true, decide_false, rc_great, le_st, it_lst, it_tup, ad_int, su_int, lt_int, gt_int, ge_int, le_int, in_int, in_bl, evI, Int.reduceEq, Int.reduceLT, Int.reduceLE, isi_non_bool, isi_non_int, isi_non_str, isi_non_tuple, isi_non_is, is_non, isi_bl_bool, isi_bl_int, isi_bl_str, isi_bl_tuple, isi_bl_is, is_bl, isi_int_bool, isi_int_int, isi_int_str, isi_int_tuple, isi_int_is, is_int, isi_str_bool, isi_str_int, isi_str_str, isi_str_tuple, isi_str_is, is_str, isi_tup_bool, isi_tup_int, isi_tup_str, isi_tup_tuple, isi_tup_is, is_tup, isi_lst_bool, isi_lst_int, isi_lst_str, isi_lst_tuple, isi_lst_is, is_lst, isi_dct_bool, isi_dct_int, isi_dct_str, isi_dct_tuple, isi_dct_is, is_dct, gl_bool, gl_int, gl_str, gl_tuple, ↓reduceIte, sz0, sz1, sz2, sz3, sz4, sz5, sz6, sz7, sz8, sz9, sz10, List.zip_nil_left, List.zip_cons_cons, R_exc, bS_exc, tl_cold, tl_C, gl_tl,  rx_bad, all_bls, gl_KINDS, tu_lst, len_lst, len_tup, rc_lst,  Bool.false_eq_true, Bool.not_true, Bool.not_false, ]
        generalize hq : Sta.C _ (Str.ofString "_law_value") _ _ _ = q
        obtain ⟨y, s3, hy, w1, w2, rfl⟩ := value_q cs (n := 1) (by omega) rfl hq hE (by omega) (by rw [cst1]; omega)
        rw [cst1] at w1
        simp only [evSs, evS.eq_1, evS.eq_2, evS.eq_3, evS.eq_4, evS.eq_5, evS.eq_7, evS.eq_8, evS.eq_9, evS.eq_10, evE.eq_1, evE.eq_2, evE.eq_3, evE.eq_4, evE.eq_5, evE.eq_6, evE.eq_7, evE.eq_8, evE.eq_9, evE.eq_10, evE.eq_11, evE.eq_12, evE.eq_13, evE.eq_14, evE.eq_15, evE.eq_16, evE.eq_17, evE.eq_18, evE.eq_19, evE.eq_21, evE.eq_22, evE.eq_23, evL, evO, evC, R_ok, bS_ok, tk_cold, List.getElem?_cons_zero, List.getElem?_cons_succ, conD, List.set_cons_zero, List.set_cons_succ, Option.some.injEq, eq_int, ix_great, ix_rest, ix_turn, ix_cells, se_rest, se_turn, po_great, ne_great, ne_eq, reduceCtorEq, not_true_eq_false, not_false_eq_true, decide_true, decide_false, rc_great, le_st, it_lst, it_tup, ad_int, su_int, lt_int, gt_int, ge_int, le_int, in_int, in_bl, evI, Int.reduceEq, Int.reduceLT, Int.reduceLE, isi_non_bool, isi_non_int, isi_non_str, isi_non_tuple, isi_non_is, is_non, isi_bl_bool, isi_bl_int, isi_bl_str, isi_bl_tuple, isi_bl_is, is_bl, isi_int_bool, isi_int_int, isi_int_str, isi_int_tuple, isi_int_is, is_int, isi_str_bool, isi_str_int, isi_str_str, isi_str_tuple, isi_str_is, is_str, isi_tup_bool, isi_tup_int, isi_tup_str, isi_tup_tuple, isi_tup_is, is_tup, isi_lst_bool, isi_lst_int, isi_lst_str, isi_lst_tuple, isi_lst_is, is_lst, isi_dct_bool, isi_dct_int, isi_dct_str, isi_dct_tuple, isi_dct_is, is_dct, gl_bool, gl_int, gl_str, gl_tuple, ↓reduceIte, sz0, sz1, sz2, sz3, sz4, sz5, sz6, sz7, sz8, sz9, sz10, List.zip_nil_left, List.zip_cons_cons, R_exc, bS_exc, tl_cold, tl_C, gl_tl,  rx_bad, all_bls, gl_KINDS, tu_lst, len_lst, len_tup, rc_lst,  Bool.false_eq_true, Bool.not_true, Bool.not_false, ]
        exact ⟨y, s3, hy.up (by omega) (by omega), by omega, by omega, rfl⟩
      · simp only [evSs, evS.eq_1, evS.eq_2, evS.eq_3, evS.eq_4, evS.eq_5, evS.eq_7, evS.eq_8, evS.eq_9, evS.eq_10, evE.eq_1, evE.eq_2, evE.eq_3, evE.eq_4, evE.eq_5, evE.eq_6, evE.eq_7, evE.eq_8, evE.eq_9, evE.eq_10, evE.eq_11, evE.eq_12, evE.eq_13, evE.eq_14, evE.eq_15, evE.eq_16, evE.eq_17, evE.eq_18, evE.eq_19, evE.eq_21, evE.eq_22, evE.eq_23, evL, evO, evC, R_ok, bS_ok, tk_cold, List.getElem?_cons_zero, List.getElem?_cons_succ, conD, List.set_cons_zero, List.set_cons_succ, Option.some.injEq, eq_int, ix_great, ix_rest, ix_turn, ix_cells, se_rest, se_turn, po_great, ne_great, ne_eq, reduceCtorEq, not_true_eq_false, not_false_eq_true, decide_true, decide_false, rc_great, le_st, it_lst, it_tup, ad_int, su_int, lt_int, gt_int, ge_int, le_int, in_int, in_bl, evI, Int.reduceEq, Int.reduceLT, Int.reduceLE, isi_non_bool, isi_non_int, isi_non_str, isi_non_tuple, isi_non_is, is_non, isi_bl_bool, isi_bl_int, isi_bl_str, isi_bl_tuple, isi_bl_is, is_bl, isi_int_bool, isi_int_int, isi_int_str, isi_int_tuple, isi_int_is, is_int, isi_str_bool, isi_str_int, isi_str_str, isi_str_tuple, isi_str_is, is_str, isi_tup_bool, isi_tup_int, isi_tup_str, isi_tup_tuple, isi_tup_is, is_tup, isi_lst_bool, isi_lst_int, isi_lst_str, isi_lst_tuple, isi_lst_is, is_lst, isi_dct_bool, isi_dct_int, isi_dct_str, isi_dct_tuple, isi_dct_is, is_dct, gl_bool, gl_int, gl_str, gl_tuple, ↓reduceIte, sz0, sz1, sz2, sz3, sz4, sz5, sz6, sz7, sz8, sz9, sz10, List.zip_nil_left, List.zip_cons_cons, R_exc, bS_exc, tl_cold, tl_C, gl_tl,  rx_bad, all_bls, gl_KINDS, tu_lst, len_lst, len_tup, rc_lst,  Bool.false_eq_true, Bool.not_true, Bool.not_false, ]
        exact ⟨_, s2, hself, by omega, by omega, rfl⟩
    -- the first test
    have plain : ∀ {s1 : Sg}, s1.u ≤ s.u + 1 → s.u ≤ s1.u → evS (rowA d_law_near.body) (mk3 T.sta T.tb j).1 [some (.ref 1), some d, none, none] (stO cs s E) = .ok (.next [some (.ref 1), some d, none, none]) (stO cs s1 E) →
        ∃ y s', Vn 5 (n + 1) y ∧ s'.u ≤ s.u + 3 * n + 10 ∧ s.u ≤ s'.u ∧ evSs d_law_near.body (mk3 T.sta T.tb j).1 [some (.ref 1), some d, none, none] (stO cs s E) = .ok (.ret y) (stO cs s' E) := fun u1 u2 hq => by
      obtain ⟨y, s', h1, h2, h3, h4⟩ := rest _ none u1 u2
      exact ⟨y, s', h1, h2, h3, r_seq hq (r_nx h4)⟩
    rcases hd.cases with rfl | ⟨b, rfl⟩ | ⟨z, rfl⟩ | ⟨z, rfl⟩ | ⟨ds, m, rfl, hl, rfl, he⟩
    · exact plain (s1 := s) (by omega) (by omega) (by unfold d_law_near; dsimp only [rowA]; simp only [evSs, evS.eq_1, evS.eq_2, evS.eq_3, evS.eq_4, evS.eq_5, evS.eq_7, evS.eq_8, evS.eq_9, evS.eq_10, evE.eq_1, evE.eq_2, evE.eq_3, evE.eq_4, evE.eq_5, evE.eq_6, evE.eq_7, evE.eq_8, evE.eq_9, evE.eq_10, evE.eq_11, evE.eq_12, evE.eq_13, evE.eq_14, evE.eq_15, evE.eq_16, evE.eq_17, evE.eq_18, evE.eq_19, evE.eq_21, evE.eq_22, evE.eq_23, evL, evO, evC, R_ok, bS_ok, tk_cold, List.getElem?_cons_zero, List.getElem?_cons_succ, conD, List.set_cons_zero, List.set_cons_succ, Option.some.injEq, eq_int, ix_great, ix_rest, ix_turn, ix_cells, se_rest, se_turn, po_great, ne_great, ne_eq, reduceCtorEq, not_true_eq_false, not_false_eq_true, decide_true, decide_false, rc_great, le_st, it_lst, it_tup, ad_int, su_int, lt_int, gt_int, ge_int, le_int, in_int, in_bl, evI, Int.reduceEq, Int.reduceLT, Int.reduceLE, isi_non_bool, isi_non_int, isi_non_str, isi_non_tuple, isi_non_is, is_non, isi_bl_bool, isi_bl_int, isi_bl_str, isi_bl_tuple, isi_bl_is, is_bl, isi_int_bool, isi_int_int, isi_int_str, isi_int_tuple, isi_int_is, is_int, isi_str_bool, isi_str_int, isi_str_str, isi_str_tuple, isi_str_is, is_str, isi_tup_bool, isi_tup_int, isi_tup_str, isi_tup_tuple, isi_tup_is, is_tup, isi_lst_bool, isi_lst_int, isi_lst_str, isi_lst_tuple, isi_lst_is, is_lst, isi_dct_bool, isi_dct_int, isi_dct_str, isi_dct_tuple, isi_dct_is, is_dct, gl_bool, gl_int, gl_str, gl_tuple, ↓reduceIte, sz0, sz1, sz2, sz3, sz4, sz5, sz6, sz7, sz8, sz9, sz10, List.zip_nil_left, List.zip_cons_cons, R_exc, bS_exc, tl_cold, tl_C, gl_tl,  rx_bad, all_bls, gl_KINDS, tu_lst, len_lst, len_tup, rc_lst,  Bool.false_eq_true, Bool.not_true, Bool.not_false, ])
    · exact plain (s1 := s) (by omega) (by omega) (by unfold d_law_near; dsimp only [rowA]; simp only [evSs, evS.eq_1, evS.eq_2, evS.eq_3, evS.eq_4, evS.eq_5, evS.eq_7, evS.eq_8, evS.eq_9, evS.eq_10, evE.eq_1, evE.eq_2, evE.eq_3, evE.eq_4, evE.eq_5, evE.eq_6, evE.eq_7, evE.eq_8, evE.eq_9, evE.eq_10, evE.eq_11, evE.eq_12, evE.eq_13, evE.eq_14, evE.eq_15, evE.eq_16, evE.eq_17, evE.eq_18, evE.eq_19, evE.eq_21, evE.eq_22, evE.eq_23, evL, evO, evC, R_ok, bS_ok, tk_cold, List.getElem?_cons_zero, List.getElem?_cons_succ, conD, List.set_cons_zero, List.set_cons_succ, Option.some.injEq, eq_int, ix_great, ix_rest, ix_turn, ix_cells, se_rest, se_turn, po_great, ne_great, ne_eq, reduceCtorEq, not_true_eq_false, not_false_eq_true, decide_true, decide_false, rc_great, le_st, it_lst, it_tup, ad_int, su_int, lt_int, gt_int, ge_int, le_int, in_int, in_bl, evI, Int.reduceEq, Int.reduceLT, Int.reduceLE, isi_non_bool, isi_non_int, isi_non_str, isi_non_tuple, isi_non_is, is_non, isi_bl_bool, isi_bl_int, isi_bl_str, isi_bl_tuple, isi_bl_is, is_bl, isi_int_bool, isi_int_int, isi_int_str, isi_int_tuple, isi_int_is, is_int, isi_str_bool, isi_str_int, isi_str_str, isi_str_tuple, isi_str_is, is_str, isi_tup_bool, isi_tup_int, isi_tup_str, isi_tup_tuple, isi_tup_is, is_tup, isi_lst_bool, isi_lst_int, isi_lst_str, isi_lst_tuple, isi_lst_is, is_lst, isi_dct_bool, isi_dct_int, isi_dct_str, isi_dct_tuple, isi_dct_is, is_dct, gl_bool, gl_int, gl_str, gl_tuple, ↓reduceIte, sz0, sz1, sz2, sz3, sz4, sz5, sz6, sz7, sz8, sz9, sz10, List.zip_nil_left, List.zip_cons_cons, R_exc, bS_exc, tl_cold, tl_C, gl_tl,  rx_bad, all_bls, gl_KINDS, tu_lst, len_lst, len_tup, rc_lst,  Bool.false_eq_true, Bool.not_true, Bool.not_false, ])
    · exact plain (s1 := s) (by omega) (by omega) (by unfold d_law_near; dsimp only [rowA]; simp only [evSs, evS.eq_1, evS.eq_2, evS.eq_3, evS.eq_4, evS.eq_5, evS.eq_7, evS.eq_8, evS.eq_9, evS.eq_10, evE.eq_1, evE.eq_2, evE.eq_3, evE.eq_4, evE.eq_5, evE.eq_6, evE.eq_7, evE.eq_8, evE.eq_9, evE.eq_10, evE.eq_11, evE.eq_12, evE.eq_13, evE.eq_14, evE.eq_15, evE.eq_16, evE.eq_17, evE.eq_18, evE.eq_19, evE.eq_21, evE.eq_22, evE.eq_23, evL, evO, evC, R_ok, bS_ok, tk_cold, List.getElem?_cons_zero, List.getElem?_cons_succ, conD, List.set_cons_zero, List.set_cons_succ, Option.some.injEq, eq_int, ix_great, ix_rest, ix_turn, ix_cells, se_rest, se_turn, po_great, ne_great, ne_eq, reduceCtorEq, not_true_eq_false, not_false_eq_true, decide_true, decide_false, rc_great, le_st, it_lst, it_tup, ad_int, su_int, lt_int, gt_int, ge_int, le_int, in_int, in_bl, evI, Int.reduceEq, Int.reduceLT, Int.reduceLE, isi_non_bool, isi_non_int, isi_non_str, isi_non_tuple, isi_non_is, is_non, isi_bl_bool, isi_bl_int, isi_bl_str, isi_bl_tuple, isi_bl_is, is_bl, isi_int_bool, isi_int_int, isi_int_str, isi_int_tuple, isi_int_is, is_int, isi_str_bool, isi_str_int, isi_str_str, isi_str_tuple, isi_str_is, is_str, isi_tup_bool, isi_tup_int, isi_tup_str, isi_tup_tuple, isi_tup_is, is_tup, isi_lst_bool, isi_lst_int, isi_lst_str, isi_lst_tuple, isi_lst_is, is_lst, isi_dct_bool, isi_dct_int, isi_dct_str, isi_dct_tuple, isi_dct_is, is_dct, gl_bool, gl_int, gl_str, gl_tuple, ↓reduceIte, sz0, sz1, sz2, sz3, sz4, sz5, sz6, sz7, sz8, sz9, sz10, List.zip_nil_left, List.zip_cons_cons, R_exc, bS_exc, tl_cold, tl_C, gl_tl,  rx_bad, all_bls, gl_KINDS, tu_lst, len_lst, len_tup, rc_lst,  Bool.false_eq_true, Bool.not_true, Bool.not_false, ])
    · exact plain (s1 := s) (by omega) (by omega) (by unfold d_law_near; dsimp only [rowA]; simp only [evSs, evS.eq_1, evS.eq_2, evS.eq_3, evS.eq_4, evS.eq_5, evS.eq_7, evS.eq_8, evS.eq_9, evS.eq_10, evE.eq_1, evE.eq_2, evE.eq_3, evE.eq_4, evE.eq_5, evE.eq_6, evE.eq_7, evE.eq_8, evE.eq_9, evE.eq_10, evE.eq_11, evE.eq_12, evE.eq_13, evE.eq_14, evE.eq_15, evE.eq_16, evE.eq_17, evE.eq_18, evE.eq_19, evE.eq_21, evE.eq_22, evE.eq_23, evL, evO, evC, R_ok, bS_ok, tk_cold, List.getElem?_cons_zero, List.getElem?_cons_succ, conD, List.set_cons_zero, List.set_cons_succ, Option.some.injEq, eq_int, ix_great, ix_rest, ix_turn, ix_cells, se_rest, se_turn, po_great, ne_great, ne_eq, reduceCtorEq, not_true_eq_false, not_false_eq_true, decide_true, decide_false, rc_great, le_st, it_lst, it_tup, ad_int, su_int, lt_int, gt_int, ge_int, le_int, in_int, in_bl, evI, Int.reduceEq, Int.reduceLT, Int.reduceLE, isi_non_bool, isi_non_int, isi_non_str, isi_non_tuple, isi_non_is, is_non, isi_bl_bool, isi_bl_int, isi_bl_str, isi_bl_tuple, isi_bl_is, is_bl, isi_int_bool, isi_int_int, isi_int_str, isi_int_tuple, isi_int_is, is_int, isi_str_bool, isi_str_int, isi_str_str, isi_str_tuple, isi_str_is, is_str, isi_tup_bool, isi_tup_int, isi_tup_str, isi_tup_tuple, isi_tup_is, is_tup, isi_lst_bool, isi_lst_int, isi_lst_str, isi_lst_tuple, isi_lst_is, is_lst, isi_dct_bool, isi_dct_int, isi_dct_str, isi_dct_tuple, isi_dct_is, is_dct, gl_bool, gl_int, gl_str, gl_tuple, ↓reduceIte, sz0, sz1, sz2, sz3, sz4, sz5, sz6, sz7, sz8, sz9, sz10, List.zip_nil_left, List.zip_cons_cons, R_exc, bS_exc, tl_cold, tl_C, gl_tl,  rx_bad, all_bls, gl_KINDS, tu_lst, len_lst, len_tup, rc_lst,  Bool.false_eq_true, Bool.not_true, Bool.not_false, ])
    · by_cases e0 : ds = []
      · exact plain (s1 := s) (by omega) (by omega) (by unfold d_law_near; dsimp only [rowA]; simp only [evSs, evS.eq_1, evS.eq_2, evS.eq_3, evS.eq_4, evS.eq_5, evS.eq_7, evS.eq_8, evS.eq_9, evS.eq_10, evE.eq_1, evE.eq_2, evE.eq_3, evE.eq_4, evE.eq_5, evE.eq_6, evE.eq_7, evE.eq_8, evE.eq_9, evE.eq_10, evE.eq_11, evE.eq_12, evE.eq_13, evE.eq_14, evE.eq_15, evE.eq_16, evE.eq_17, evE.eq_18, evE.eq_19, evE.eq_21, evE.eq_22, evE.eq_23, evL, evO, evC, R_ok, bS_ok, tk_cold, List.getElem?_cons_zero, List.getElem?_cons_succ, conD, List.set_cons_zero, List.set_cons_succ, Option.some.injEq, eq_int, ix_great, ix_rest, ix_turn, ix_cells, se_rest, se_turn, po_great, ne_great, ne_eq, reduceCtorEq, not_true_eq_false, not_false_eq_true, decide_true, decide_false, rc_great, le_st, it_lst, it_tup, ad_int, su_int, lt_int, gt_int, ge_int, le_int, in_int, in_bl, evI, Int.reduceEq, Int.reduceLT, Int.reduceLE, isi_non_bool, isi_non_int, isi_non_str, isi_non_tuple, isi_non_is, is_non, isi_bl_bool, isi_bl_int, isi_bl_str, isi_bl_tuple, isi_bl_is, is_bl, isi_int_bool, isi_int_int, isi_int_str, isi_int_tuple, isi_int_is, is_int, isi_str_bool, isi_str_int, isi_str_str, isi_str_tuple, isi_str_is, is_str, isi_tup_bool, isi_tup_int, isi_tup_str, isi_tup_tuple, isi_tup_is, is_tup, isi_lst_bool, isi_lst_int, isi_lst_str, isi_lst_tuple, isi_lst_is, is_lst, isi_dct_bool, isi_dct_int, isi_dct_str, isi_dct_tuple, isi_dct_is, is_dct, gl_bool, gl_int, gl_str, gl_tuple, ↓reduceIte, sz0, sz1, sz2, sz3, sz4, sz5, sz6, sz7, sz8, sz9, sz10, List.zip_nil_left, List.zip_cons_cons, R_exc, bS_exc, tl_cold, tl_C, gl_tl,  rx_bad, all_bls, gl_KINDS, tu_lst, len_lst, len_tup, rc_lst,  Bool.false_eq_true, Bool.not_true, Bool.not_false, ne_tup hd, show decide (ds ≠ []) = false from decide_eq_false (fun h => h e0)])
      obtain ⟨i, s1, i1, i2, u1, u2, h3⟩ := take_ok cs (k := j) (by omega) s E 3 (by decide) (by decide) h0 (by omega)
      by_cases c : 0 < i
      · have hlen : 0 < ds.length := List.length_pos_iff.mpr e0
        obtain ⟨a, s2, a1, a2, v1, v2, h4⟩ := take_ok cs (k := j) (by omega) s1 E ds.length (by omega) (by omega) (by omega) (by omega)
        obtain ⟨x, hx, h5⟩ := idx_memT (ds := ds) (S := stO cs s2 E) a1 a2
        obtain ⟨y, s3, hy, w1, w2, h6⟩ := near_ok m (k := j) (by omega) (he x hx) s2 E hE (by omega) (by omega)
        have l1 := cut_len ds none (some a)
        have l2 := cut_len ds (some (a + 1)) none
        refine ⟨.tup ((cutD ds none (some a) ++ [y]) ++ cutD ds (some (a + 1)) none), s3, .inr ⟨_, rfl, by simp only [List.length_append, List.length_cons, List.length_nil]; omega, fun e h => ?_⟩, by omega, by omega, ?_⟩
        · rcases List.mem_append.mp h with h | h
          · rcases List.mem_append.mp h with h | h
            · exact (he e (cut_mem h)).up (by omega) (by omega)
            · rw [List.mem_singleton.mp h]
              exact hy
          · exact (he e (cut_mem h)).up (by omega) (by omega)
        · unfold d_law_near
          simp only [evSs, evS.eq_1, evS.eq_2, evS.eq_3, evS.eq_4, evS.eq_5, evS.eq_7, evS.eq_8, evS.eq_9, evS.eq_10, evE.eq_1, evE.eq_2, evE.eq_3, evE.eq_4, evE.eq_5, evE.eq_6, evE.eq_7, evE.eq_8, evE.eq_9, evE.eq_10, evE.eq_11, evE.eq_12, evE.eq_13, evE.eq_14, evE.eq_15, evE.eq_16, evE.eq_17, evE.eq_18, evE.eq_19, evE.eq_21, evE.eq_22, evE.eq_23, evL, evO, evC, R_ok, bS_ok, tk_cold, List.getElem?_cons_zero, List.getElem?_cons_succ, conD, List.set_cons_zero, List.set_cons_succ, Option.some.injEq, eq_int, ix_great, ix_rest, ix_turn, ix_cells, se_rest, se_turn, po_great, ne_great, ne_eq, reduceCtorEq, not_true_eq_false, not_false_eq_true, decide_true, decide_false, rc_great, le_st, it_lst, it_tup, ad_int, su_int, lt_int, gt_int, ge_int, le_int, in_int, in_bl, evI, Int.reduceEq, Int.reduceLT, Int.reduceLE, isi_non_bool, isi_non_int, isi_non_str, isi_non_tuple, isi_non_is, is_non, isi_bl_bool, isi_bl_int, isi_bl_str, isi_bl_tuple, isi_bl_is, is_bl, isi_int_bool, isi_int_int, isi_int_str, isi_int_tuple, isi_int_is, is_int, isi_str_bool, isi_str_int, isi_str_str, isi_str_tuple, isi_str_is, is_str, isi_tup_bool, isi_tup_int, isi_tup_str, isi_tup_tuple, isi_tup_is, is_tup, isi_lst_bool, isi_lst_int, isi_lst_str, isi_lst_tuple, isi_lst_is, is_lst, isi_dct_bool, isi_dct_int, isi_dct_str, isi_dct_tuple, isi_dct_is, is_dct, gl_bool, gl_int, gl_str, gl_tuple, ↓reduceIte, sz0, sz1, sz2, sz3, sz4, sz5, sz6, sz7, sz8, sz9, sz10, List.zip_nil_left, List.zip_cons_cons, R_exc, bS_exc, tl_cold, tl_C, gl_tl,  rx_bad, all_bls, gl_KINDS, tu_lst, len_lst, len_tup, rc_lst,  Bool.false_eq_true, Bool.not_true, Bool.not_false, ne_tup hd, show decide (ds ≠ []) = true from decide_eq_true e0, h3, show decide (0 < i) = true from decide_eq_true c, h4, h5, h6, sl_tup, ad_tup _ (show (cutD ds none (some a)).length + [y].length ≤ sizeLine from sz_of (by simp only [List.length_cons, List.length_nil]; omega)),
            ad_tup _ (show (cutD ds none (some a) ++ [y]).length + (cutD ds (some (a + 1)) none).length ≤ sizeLine from sz_of (by simp only [List.length_append, List.length_cons, List.length_nil]; omega))]
      · exact plain (s1 := s1) (by omega) (by omega) (by unfold d_law_near; dsimp only [rowA]; simp only [evSs, evS.eq_1, evS.eq_2, evS.eq_3, evS.eq_4, evS.eq_5, evS.eq_7, evS.eq_8, evS.eq_9, evS.eq_10, evE.eq_1, evE.eq_2, evE.eq_3, evE.eq_4, evE.eq_5, evE.eq_6, evE.eq_7, evE.eq_8, evE.eq_9, evE.eq_10, evE.eq_11, evE.eq_12, evE.eq_13, evE.eq_14, evE.eq_15, evE.eq_16, evE.eq_17, evE.eq_18, evE.eq_19, evE.eq_21, evE.eq_22, evE.eq_23, evL, evO, evC, R_ok, bS_ok, tk_cold, List.getElem?_cons_zero, List.getElem?_cons_succ, conD, List.set_cons_zero, List.set_cons_succ, Option.some.injEq, eq_int, ix_great, ix_rest, ix_turn, ix_cells, se_rest, se_turn, po_great, ne_great, ne_eq, reduceCtorEq, not_true_eq_false, not_false_eq_true, decide_true, decide_false, rc_great, le_st, it_lst, it_tup, ad_int, su_int, lt_int, gt_int, ge_int, le_int, in_int, in_bl, evI, Int.reduceEq, Int.reduceLT, Int.reduceLE, isi_non_bool, isi_non_int, isi_non_str, isi_non_tuple, isi_non_is, is_non, isi_bl_bool, isi_bl_int, isi_bl_str, isi_bl_tuple, isi_bl_is, is_bl, isi_int_bool, isi_int_int, isi_int_str, isi_int_tuple, isi_int_is, is_int, isi_str_bool, isi_str_int, isi_str_str, isi_str_tuple, isi_str_is, is_str, isi_tup_bool, isi_tup_int, isi_tup_str, isi_tup_tuple, isi_tup_is, is_tup, isi_lst_bool, isi_lst_int, isi_lst_str, isi_lst_tuple, isi_lst_is, is_lst, isi_dct_bool, isi_dct_int, isi_dct_str, isi_dct_tuple, isi_dct_is, is_dct, gl_bool, gl_int, gl_str, gl_tuple, ↓reduceIte, sz0, sz1, sz2, sz3, sz4, sz5, sz6, sz7, sz8, sz9, sz10, List.zip_nil_left, List.zip_cons_cons, R_exc, bS_exc, tl_cold, tl_C, gl_tl,  rx_bad, all_bls, gl_KINDS, tu_lst, len_lst, len_tup, rc_lst,  Bool.false_eq_true, Bool.not_true, Bool.not_false, ne_tup hd, show decide (ds ≠ []) = true from decide_eq_true e0, h3, show decide (0 < i) = false from decide_eq_false c])
end
end K01

set_option Elab.async false
set_option linter.all false
set_option maxRecDepth 100000
set_option maxHeartbeats 4000000
namespace K01
open PySem Fw
theorem for_invN {P : Nat → En → Sto → Prop} {all : List D} {b : D → En → Sto → R Fl} : ∀ {ds : List D} {s : En} {S : Sto}, (∀ d ∈ ds, ∀ m s S, P (m + 1) s S → ∃ s1 S1, b d s S = .ok (.next s1) S1 ∧ P m s1 S1) → P ds.length s S → ∃ s1 S1, forGo all none b ds s S = .ok (.next s1) S1 ∧ P 0 s1 S1
  | [], s, S, h, p => ⟨s, S, if_pos rfl, p⟩
  | d :: ds, s, S, h, p => by
    obtain ⟨s1, S1, e1, p1⟩ := h d List.mem_cons_self ds.length s S p
    obtain ⟨s2, S2, e2, p2⟩ := for_invN (ds := ds) (fun d hd => h d (List.mem_cons_of_mem _ hd)) p1
    refine ⟨s2, S2, ?_, p2⟩
    rw [forGo]
    refine (if_pos rfl).trans ?_
    rw [e1]
    exact e2
theorem loop_invN {t : Sta} {tg : Tg} {it : It1} {bd : Ss} {s : En} {S S1 : Sto} {q : R Fl} {P : Nat → En → Sto → Prop} {ds : List D} (hq : evS (.loop tg it bd) t s S = q) (hh : ∀ r : R Fl, t.cold r = r) (hi : evI t it s S = .ok (ds, none) S1)
    (h : ∀ d ∈ ds, ∀ m s S, P (m + 1) s S → ∃ s0, tgD tg d s = some s0 ∧ ∃ s1 S1, evSs bd t s0 S = .ok (.next s1) S1 ∧ P m s1 S1) (p : P ds.length s S1) : ∃ s2 S2, q = .ok (.next s2) S2 ∧ P 0 s2 S2 := by
  rw [evS, hh, hi] at hq
  obtain ⟨s2, S2, e, p2⟩ := for_invN (all := ds) (b := fun d s S => match tgD tg d s with
    | some s1 => evSs bd t s1 S
    | none => .bad) (ds := ds) (s := s) (S := S1) (P := P) (fun d hd m s S hp => by
      obtain ⟨s0, e0, s1, S1, e1, p1⟩ := h d hd m s S hp
      refine ⟨s1, S1, ?_, p1⟩
      show (match tgD tg d s with
        | some s1 => evSs bd t s1 S
        | none => .bad) = _
      rw [e0]
      exact e1) p
  exact ⟨s2, S2, hq.symm.trans e, p2⟩
theorem thaw_dct {S : Sto} {ks : List L2.Key} {ds : List D} (hS : Cl0 S) (h : closedL S.length ds = true) : thaw S.length (S ++ [O.dct ks ds]) = .ok (.dct ks ds) S := by
  unfold thaw
  have e1 : (S ++ [O.dct ks ds])[S.length]? = some (O.dct ks ds) := by simp
  rw [if_pos (by simp), e1]
  dsimp only
  rw [List.take_left, h, hS]
  rfl
theorem dctF {t : Sta} {s : En} {S : Sto} {ks : List Str} {es : Es} {ds : List D} (hS : Cl0 S) (h : evL t es s (S ++ [O.dct [] []]) = .ok ds (S ++ [O.dct [] []])) (hc : closedL S.length ds = true) : evE t (.dct false ks es) s S = .ok (.dct (ks.map Sum.inr) ds) S := by
  have e1 : (S ++ [O.dct [] []])[S.length]? = some (O.dct [] []) := by simp
  have e2 : ∀ o, (S ++ [O.dct [] []]).set S.length o = S ++ [o] := by simp
  rw [evE, h]
  show (match (S ++ [O.dct [] []])[S.length]? with
    | some (O.dct [] []) => (if false = true then R.ok (D.ref S.length) ((S ++ [O.dct [] []]).set S.length (.dct (ks.map Sum.inr) ds)) else thaw S.length ((S ++ [O.dct [] []]).set S.length (.dct (ks.map Sum.inr) ds)))
    | _ => .bad) = _
  rw [e1]
  dsimp only
  rw [if_neg Bool.false_ne_true, e2]
  exact thaw_dct hS hc
theorem dct0 (t : Sta) (s : En) (S : Sto) (hS : Cl0 S) : evE t (.dct false [] .nil) s S = .ok (.dct [] []) S := dctF hS r_nil rfl
theorem dct1 (t : Sta) (i : Nat) (d : D) (s : En) (S : Sto) (hS : Cl0 S) (hd : d.closed S.length = true) (hi : s[i]? = some (some d)) : evE t (.dct false ["a"] (.cons (.var i) .nil)) s S = .ok (.dct [.inr "a"] [d]) S :=
  dctF hS (r_cons (r_var hi) r_nil) (by rw [closedL, hd]; rfl)
theorem isnot_bb (S : Sto) (b c : Bool) : cmpD .IsNot (.bl b) (.bl c) S = .ok (D.bl (!decide (b = c))) S := rfl
theorem ixp0 (a b : D) (S : Sto) : idxD (.tup [a, b]) (.int 0) S = .ok a S := rfl
theorem ixp1 (a b : D) (S : Sto) : idxD (.tup [a, b]) (.int 1) S = .ok b S := rfl
theorem flt_go {all : List D} {st : D → Sto → R (Option D)} : ∀ (zs acc : List Int), acc.length + zs.length ≤ 1000 → (∀ z S, st (.int z) S = .ok none S ∨ ∃ y, st (.int z) S = .ok (some (.int y)) S) →
    ∃ g : List Int, lcGo 0 all none st (zs.map .int) [O.lst (acc.map .int)] = .ok () [O.lst (g.map .int)]
  | [], acc, _, _ => ⟨acc, by rw [List.map_nil, lcGo]; exact if_pos rfl⟩
  | z :: zs, acc, hz, h => by
    simp only [List.length_cons] at hz
    rcases h z [O.lst (acc.map .int)] with e | ⟨y, e⟩
    · obtain ⟨g, hg⟩ := flt_go (all := all) zs acc (by omega) h
      refine ⟨g, ?_⟩
      rw [List.map_cons, lcGo]
      refine (if_pos rfl).trans ?_
      rw [e]
      exact hg
    · obtain ⟨g, hg⟩ := flt_go (all := all) zs (acc ++ [y]) (by simp only [List.length_append, List.length_cons, List.length_nil]; omega) h
      refine ⟨g, ?_⟩
      rw [List.map_cons, lcGo]
      refine (if_pos rfl).trans ?_
      rw [e]
      show (if (acc.map D.int).length < sizeLine then lcGo 0 all none st (zs.map .int) [O.lst (acc.map .int ++ [.int y])] else .bad) = _
      rw [if_pos (szl _ (by rw [List.length_map]; omega))]
      rw [List.map_append] at hg
      exact hg
theorem it_scr (ns : List Int) (S : Sto) : itD S (.scr ns) = .ok (ns.map .int, none) S := rfl
theorem li_scr (t : Sta) (ns : List Int) (S : Sto) : biD t "list" [.scr ns] S = .ok (.lst (ns.map .int)) S := rfl
theorem begun_ok (k : Nat) (ns : List Int) (hl : ns.length ≤ 63) : ∃ g, (mk3 T.sta T.tb (k + 1)).1.C "_law_begun" [.scr ns] [] [] = .ok (.ref 1) (stO ns ⟨g, 0, 0⟩ []) := by
  have p18 : ∀ S : Sto, binD .Pow (.int 10) (.int 18) S = .ok (.int (10 ^ 18)) S := fun S => po_int S (by decide) (by decide) rfl
  have hlc : ∃ g : List Int, evE (mk3 T.sta T.tb k).1 (.lc true [("cell", 2)] (.nm 2) (.ex (.var 0)) (.yes (.cmp .GtE (.var 2) (.bin .Pow (.con (.int 10)) (.con (.int 18))))) (.bin .Sub (.var 2) (.bin .Pow (.con (.int 10)) (.con (.int 18))))) [some (.scr ns), none, none] [] = .ok (.ref 0) [O.lst (g.map .int)] := by
    rw [evE, tk_cold, tk_blk, show evI (mk3 T.sta T.tb k).1 (.ex (.var 0)) [some (.scr ns), none, none] [] = .ok (ns.map .int, none) [] from by simp only [evSs, evS.eq_1, evS.eq_2, evS.eq_3, evS.eq_4, evS.eq_5, evS.eq_7, evS.eq_8, evS.eq_9, evS.eq_10, evE.eq_1, evE.eq_2, evE.eq_3, evE.eq_4, evE.eq_5, evE.eq_6, evE.eq_7, evE.eq_8, evE.eq_9, evE.eq_10, evE.eq_11, evE.eq_12, evE.eq_13, evE.eq_15, evE.eq_16, evE.eq_17, evE.eq_18, evE.eq_19, evE.eq_21, evE.eq_22, evE.eq_23, evL, evO, evC, R_ok, bS_ok, tk_cold, List.getElem?_cons_zero, List.getElem?_cons_succ, conD, List.set_cons_zero, List.set_cons_succ, Option.some.injEq, eq_int, ix_great, ix_rest, ix_turn, ix_cells, se_rest, se_turn, po_great, ne_great, ne_eq, reduceCtorEq, not_true_eq_false, not_false_eq_true, decide_true, decide_false, rc_great, le_st, it_lst, it_tup, ad_int, su_int, lt_int, gt_int, ge_int, le_int, in_int, in_bl, evI, Int.reduceEq, Int.reduceLT, Int.reduceLE, isi_non_bool, isi_non_int, isi_non_str, isi_non_tuple, isi_non_is, is_non, isi_bl_bool, isi_bl_int, isi_bl_str, isi_bl_tuple, isi_bl_is, is_bl, isi_int_bool, isi_int_int, isi_int_str, isi_int_tuple, isi_int_is, is_int, isi_str_bool, isi_str_int, isi_str_str, isi_str_tuple, isi_str_is, is_str, isi_tup_bool, isi_tup_int, isi_tup_str, isi_tup_tuple, isi_tup_is, is_tup, isi_lst_bool, isi_lst_int, isi_lst_str, isi_lst_tuple, isi_lst_is, is_lst, isi_dct_bool, isi_dct_int, isi_dct_str, isi_dct_tuple, isi_dct_is, is_dct, gl_bool, gl_int, gl_str, gl_tuple, ↓reduceIte, sz0, sz1, sz2, sz3, sz4, sz5, sz6, sz7, sz8, sz9, sz10, List.zip_nil_left, List.zip_cons_cons, R_exc, bS_exc, eq_self, ne_str,  tl_cold, tl_C, gl_tl,  rx_bad, all_bls, gl_KINDS, tu_lst, len_lst, len_tup, rc_lst,  Bool.false_eq_true, Bool.not_true, Bool.not_false, it_scr]]
    obtain ⟨g, hg⟩ := flt_go (all := ns.map .int) (st := fun d S2 => match tgD (.nm 2) d (wipeD [some (.scr ns), none, none] ([("cell", 2)].map (·.2))) with
      | none => .bad
      | some s2 => noX ((evC (mk3 T.sta T.tb k).1 (.yes (.cmp .GtE (.var 2) (.bin .Pow (.con (.int 10)) (.con (.int 18))))) s2 S2).bind fun b S3 => if b = true then (evE (mk3 T.sta T.tb k).1 (.bin .Sub (.var 2) (.bin .Pow (.con (.int 10)) (.con (.int 18)))) s2 S3).bind fun y S4 => .ok (some y) S4 else .ok none S3)) ns [] (by simp only [List.length_nil]; omega) (fun z S => by
        by_cases c : (10 : Int) ^ 18 ≤ z
        · refine .inr ⟨z - 10 ^ 18, ?_⟩
          simp only [evSs, evS.eq_1, evS.eq_2, evS.eq_3, evS.eq_4, evS.eq_5, evS.eq_7, evS.eq_8, evS.eq_9, evS.eq_10, evE.eq_1, evE.eq_2, evE.eq_3, evE.eq_4, evE.eq_5, evE.eq_6, evE.eq_7, evE.eq_8, evE.eq_9, evE.eq_10, evE.eq_11, evE.eq_12, evE.eq_13, evE.eq_15, evE.eq_16, evE.eq_17, evE.eq_18, evE.eq_19, evE.eq_21, evE.eq_22, evE.eq_23, evL, evO, evC, R_ok, bS_ok, tk_cold, List.getElem?_cons_zero, List.getElem?_cons_succ, conD, List.set_cons_zero, List.set_cons_succ, Option.some.injEq, eq_int, ix_great, ix_rest, ix_turn, ix_cells, se_rest, se_turn, po_great, ne_great, ne_eq, reduceCtorEq, not_true_eq_false, not_false_eq_true, decide_true, decide_false, rc_great, le_st, it_lst, it_tup, ad_int, su_int, lt_int, gt_int, ge_int, le_int, in_int, in_bl, evI, Int.reduceEq, Int.reduceLT, Int.reduceLE, isi_non_bool, isi_non_int, isi_non_str, isi_non_tuple, isi_non_is, is_non, isi_bl_bool, isi_bl_int, isi_bl_str, isi_bl_tuple, isi_bl_is, is_bl, isi_int_bool, isi_int_int, isi_int_str, isi_int_tuple, isi_int_is, is_int, isi_str_bool, isi_str_int, isi_str_str, isi_str_tuple, isi_str_is, is_str, isi_tup_bool, isi_tup_int, isi_tup_str, isi_tup_tuple, isi_tup_is, is_tup, isi_lst_bool, isi_lst_int, isi_lst_str, isi_lst_tuple, isi_lst_is, is_lst, isi_dct_bool, isi_dct_int, isi_dct_str, isi_dct_tuple, isi_dct_is, is_dct, gl_bool, gl_int, gl_str, gl_tuple, ↓reduceIte, sz0, sz1, sz2, sz3, sz4, sz5, sz6, sz7, sz8, sz9, sz10, List.zip_nil_left, List.zip_cons_cons, R_exc, bS_exc, eq_self, ne_str,  tl_cold, tl_C, gl_tl,  rx_bad, all_bls, gl_KINDS, tu_lst, len_lst, len_tup, rc_lst,  Bool.false_eq_true, Bool.not_true, Bool.not_false, tgD, wipeD, List.map_cons, List.map_nil, p18, show decide ((10 : Int) ^ 18 ≤ z) = true from decide_eq_true c]
          rfl
        · refine .inl ?_
          simp only [evSs, evS.eq_1, evS.eq_2, evS.eq_3, evS.eq_4, evS.eq_5, evS.eq_7, evS.eq_8, evS.eq_9, evS.eq_10, evE.eq_1, evE.eq_2, evE.eq_3, evE.eq_4, evE.eq_5, evE.eq_6, evE.eq_7, evE.eq_8, evE.eq_9, evE.eq_10, evE.eq_11, evE.eq_12, evE.eq_13, evE.eq_15, evE.eq_16, evE.eq_17, evE.eq_18, evE.eq_19, evE.eq_21, evE.eq_22, evE.eq_23, evL, evO, evC, R_ok, bS_ok, tk_cold, List.getElem?_cons_zero, List.getElem?_cons_succ, conD, List.set_cons_zero, List.set_cons_succ, Option.some.injEq, eq_int, ix_great, ix_rest, ix_turn, ix_cells, se_rest, se_turn, po_great, ne_great, ne_eq, reduceCtorEq, not_true_eq_false, not_false_eq_true, decide_true, decide_false, rc_great, le_st, it_lst, it_tup, ad_int, su_int, lt_int, gt_int, ge_int, le_int, in_int, in_bl, evI, Int.reduceEq, Int.reduceLT, Int.reduceLE, isi_non_bool, isi_non_int, isi_non_str, isi_non_tuple, isi_non_is, is_non, isi_bl_bool, isi_bl_int, isi_bl_str, isi_bl_tuple, isi_bl_is, is_bl, isi_int_bool, isi_int_int, isi_int_str, isi_int_tuple, isi_int_is, is_int, isi_str_bool, isi_str_int, isi_str_str, isi_str_tuple, isi_str_is, is_str, isi_tup_bool, isi_tup_int, isi_tup_str, isi_tup_tuple, isi_tup_is, is_tup, isi_lst_bool, isi_lst_int, isi_lst_str, isi_lst_tuple, isi_lst_is, is_lst, isi_dct_bool, isi_dct_int, isi_dct_str, isi_dct_tuple, isi_dct_is, is_dct, gl_bool, gl_int, gl_str, gl_tuple, ↓reduceIte, sz0, sz1, sz2, sz3, sz4, sz5, sz6, sz7, sz8, sz9, sz10, List.zip_nil_left, List.zip_cons_cons, R_exc, bS_exc, eq_self, ne_str,  tl_cold, tl_C, gl_tl,  rx_bad, all_bls, gl_KINDS, tu_lst, len_lst, len_tup, rc_lst,  Bool.false_eq_true, Bool.not_true, Bool.not_false, tgD, wipeD, List.map_cons, List.map_nil, p18, show decide ((10 : Int) ^ 18 ≤ z) = false from decide_eq_false c]
          rfl)
    refine ⟨g, ?_⟩
    exact (congrArg (fun r : R Unit => R.bind r fun _ S5 => if true = true then R.ok (D.ref 0) S5 else thaw 0 S5) hg)
  obtain ⟨g, hg⟩ := hlc
  refine ⟨g, C_succ (d := d_law_begun) rfl rfl (r_df (ds' := [.scr ns]) (S' := []) (q := .ok (.ret (.ref 1)) (stO ns ⟨g, 0, 0⟩ [])) rfl rfl ?_ rfl)⟩
  show evSs d_law_begun.body _ [some (.scr ns), none, none] [] = _
  unfold d_law_begun
  refine r_seq (r_set hg) (r_nx ?_)
  refine r_seq (r_ret ?_) r_rt
  rw [evE]
  have hl : evL (mk3 T.sta T.tb k).1 (.cons (.var 1) (.cons (.bi "list" (.cons (.var 0) .nil)) (.cons (.con (.int 0)) (.cons (.con (.int 0)) .nil)))) [some (.scr ns), some (.ref 0), none] [O.lst (g.map .int), O.dct [] []] = .ok [.ref 0, .lst (ns.map .int), .int 0, .int 0] [O.lst (g.map .int), O.dct [] []] := by simp only [evSs, evS.eq_1, evS.eq_2, evS.eq_3, evS.eq_4, evS.eq_5, evS.eq_7, evS.eq_8, evS.eq_9, evS.eq_10, evE.eq_1, evE.eq_2, evE.eq_3, evE.eq_4, evE.eq_5, evE.eq_6, evE.eq_7, evE.eq_8, evE.eq_9, evE.eq_10, evE.eq_11, evE.eq_12, evE.eq_13, evE.eq_15, evE.eq_16, evE.eq_17, evE.eq_18, evE.eq_19, evE.eq_21, evE.eq_22, evE.eq_23, evL, evO, evC, R_ok, bS_ok, tk_cold, List.getElem?_cons_zero, List.getElem?_cons_succ, conD, List.set_cons_zero, List.set_cons_succ, Option.some.injEq, eq_int, ix_great, ix_rest, ix_turn, ix_cells, se_rest, se_turn, po_great, ne_great, ne_eq, reduceCtorEq, not_true_eq_false, not_false_eq_true, decide_true, decide_false, rc_great, le_st, it_lst, it_tup, ad_int, su_int, lt_int, gt_int, ge_int, le_int, in_int, in_bl, evI, Int.reduceEq, Int.reduceLT, Int.reduceLE, isi_non_bool, isi_non_int, isi_non_str, isi_non_tuple, isi_non_is, is_non, isi_bl_bool, isi_bl_int, isi_bl_str, isi_bl_tuple, isi_bl_is, is_bl, isi_int_bool, isi_int_int, isi_int_str, isi_int_tuple, isi_int_is, is_int, isi_str_bool, isi_str_int, isi_str_str, isi_str_tuple, isi_str_is, is_str, isi_tup_bool, isi_tup_int, isi_tup_str, isi_tup_tuple, isi_tup_is, is_tup, isi_lst_bool, isi_lst_int, isi_lst_str, isi_lst_tuple, isi_lst_is, is_lst, isi_dct_bool, isi_dct_int, isi_dct_str, isi_dct_tuple, isi_dct_is, is_dct, gl_bool, gl_int, gl_str, gl_tuple, ↓reduceIte, sz0, sz1, sz2, sz3, sz4, sz5, sz6, sz7, sz8, sz9, sz10, List.zip_nil_left, List.zip_cons_cons, R_exc, bS_exc, eq_self, ne_str,  tl_cold, tl_C, gl_tl,  rx_bad, all_bls, gl_KINDS, tu_lst, len_lst, len_tup, rc_lst,  Bool.false_eq_true, Bool.not_true, Bool.not_false, li_scr]
  exact (congrArg (fun r => R.bind r _) hl)
theorem cp_tr {n : Nat} {a b c : D} (ha : Vn 5 n a) (hb : Vn 5 n b) (hc : Vn 5 n c) (h1 : cpI a b ≤ 0) (h2 : cpI b c ≤ 0) : ¬ 0 < cpI a c := by
  unfold cpI at *
  cases e1 : oD a b with
  | gt => rw [e1] at h1; exact absurd h1 (by decide)
  | eq =>
    rw [oD_eq n ha hb e1]
    cases e2 : oD b c with
    | gt => rw [e2] at h2; exact absurd h2 (by decide)
    | eq => decide
    | lt => decide
  | lt =>
    cases e2 : oD b c with
    | gt => rw [e2] at h2; exact absurd h2 (by decide)
    | eq =>
      rw [← oD_eq n hb hc e2, e1]
      decide
    | lt =>
      rw [oD_tr n ha hb hc e1 e2]
      decide
theorem law_ok0 (ns : List Int) (hl : ns.length ≤ 63) : ∃ S', (mk3 T.sta T.tb 60).1.C "law" [.scr ns] [] [] = .ok (.bl true) S' := by
  obtain ⟨g, hg⟩ := begun_ok 58 ns hl
  have key : ∃ S', evSs dlaw.body (mk3 T.sta T.tb 59).1 [some (.scr ns), none, none, none, none, none, none, none, none, none] [] = .ok (.ret (.bl true)) S' := by
    unfold dlaw
    simp only [evSs, evS.eq_1, evS.eq_2, evS.eq_3, evS.eq_4, evS.eq_5, evS.eq_7, evS.eq_8, evS.eq_9, evS.eq_10, evE.eq_1, evE.eq_2, evE.eq_3, evE.eq_4, evE.eq_5, evE.eq_6, evE.eq_7, evE.eq_8, evE.eq_9, evE.eq_10, evE.eq_11, evE.eq_12, evE.eq_13, evE.eq_15, evE.eq_16, evE.eq_17, evE.eq_18, evE.eq_19, evE.eq_21, evE.eq_22, evE.eq_23, evL, evO, evC, R_ok, bS_ok, tk_cold, List.getElem?_cons_zero, List.getElem?_cons_succ, conD, List.set_cons_zero, List.set_cons_succ, Option.some.injEq, eq_int, ix_great, ix_rest, ix_turn, ix_cells, se_rest, se_turn, po_great, ne_great, ne_eq, reduceCtorEq, not_true_eq_false, not_false_eq_true, decide_true, decide_false, rc_great, le_st, it_lst, it_tup, ad_int, su_int, lt_int, gt_int, ge_int, le_int, in_int, in_bl, evI, Int.reduceEq, Int.reduceLT, Int.reduceLE, isi_non_bool, isi_non_int, isi_non_str, isi_non_tuple, isi_non_is, is_non, isi_bl_bool, isi_bl_int, isi_bl_str, isi_bl_tuple, isi_bl_is, is_bl, isi_int_bool, isi_int_int, isi_int_str, isi_int_tuple, isi_int_is, is_int, isi_str_bool, isi_str_int, isi_str_str, isi_str_tuple, isi_str_is, is_str, isi_tup_bool, isi_tup_int, isi_tup_str, isi_tup_tuple, isi_tup_is, is_tup, isi_lst_bool, isi_lst_int, isi_lst_str, isi_lst_tuple, isi_lst_is, is_lst, isi_dct_bool, isi_dct_int, isi_dct_str, isi_dct_tuple, isi_dct_is, is_dct, gl_bool, gl_int, gl_str, gl_tuple, ↓reduceIte, sz0, sz1, sz2, sz3, sz4, sz5, sz6, sz7, sz8, sz9, sz10, List.zip_nil_left, List.zip_cons_cons, R_exc, bS_exc, eq_self, ne_str,  tl_cold, tl_C, gl_tl,  rx_bad, all_bls, gl_KINDS, tu_lst, len_lst, len_tup, rc_lst,  Bool.false_eq_true, Bool.not_true, Bool.not_false, hg]
    generalize hq : evS (Sm.loop _ _ _) _ _ _ = q
    obtain ⟨s2, S2, rfl, p⟩ := loop_invN (P := fun m e S => ∃ s, S = stO ns s [] ∧ 0 ≤ s.u ∧ s.u + 100 * (m : Int) ≤ 600 ∧ ∃ x2 x3 x4 x5 x6 x7 x8 x9, e = [some (.scr ns), some (.ref 1), x2, x3, x4, x5, x6, x7, x8, x9]) (ds := rngL 0 6) hq (tk_cold 59) (by simp only [evSs, evS.eq_1, evS.eq_2, evS.eq_3, evS.eq_4, evS.eq_5, evS.eq_7, evS.eq_8, evS.eq_9, evS.eq_10, evE.eq_1, evE.eq_2, evE.eq_3, evE.eq_4, evE.eq_5, evE.eq_6, evE.eq_7, evE.eq_8, evE.eq_9, evE.eq_10, evE.eq_11, evE.eq_12, evE.eq_13, evE.eq_15, evE.eq_16, evE.eq_17, evE.eq_18, evE.eq_19, evE.eq_21, evE.eq_22, evE.eq_23, evL, evO, evC, R_ok, bS_ok, tk_cold, List.getElem?_cons_zero, List.getElem?_cons_succ, conD, List.set_cons_zero, List.set_cons_succ, Option.some.injEq, eq_int, ix_great, ix_rest, ix_turn, ix_cells, se_rest, se_turn, po_great, ne_great, ne_eq, reduceCtorEq, not_true_eq_false, not_false_eq_true, decide_true, decide_false, rc_great, le_st, it_lst, it_tup, ad_int, su_int, lt_int, gt_int, ge_int, le_int, in_int, in_bl, evI, Int.reduceEq, Int.reduceLT, Int.reduceLE, isi_non_bool, isi_non_int, isi_non_str, isi_non_tuple, isi_non_is, is_non, isi_bl_bool, isi_bl_int, isi_bl_str, isi_bl_tuple, isi_bl_is, is_bl, isi_int_bool, isi_int_int, isi_int_str, isi_int_tuple, isi_int_is, is_int, isi_str_bool, isi_str_int, isi_str_str, isi_str_tuple, isi_str_is, is_str, isi_tup_bool, isi_tup_int, isi_tup_str, isi_tup_tuple, isi_tup_is, is_tup, isi_lst_bool, isi_lst_int, isi_lst_str, isi_lst_tuple, isi_lst_is, is_lst, isi_dct_bool, isi_dct_int, isi_dct_str, isi_dct_tuple, isi_dct_is, is_dct, gl_bool, gl_int, gl_str, gl_tuple, ↓reduceIte, sz0, sz1, sz2, sz3, sz4, sz5, sz6, sz7, sz8, sz9, sz10, List.zip_nil_left, List.zip_cons_cons, R_exc, bS_exc, eq_self, ne_str,  tl_cold, tl_C, gl_tl,  rx_bad, all_bls, gl_KINDS, tu_lst, len_lst, len_tup, rc_lst,  Bool.false_eq_true, Bool.not_true, Bool.not_false, ]; rfl) (by
      rintro d hd m e S ⟨s, rfl, h0, hu, x2, x3, x4, x5, x6, x7, x8, x9, rfl⟩
      refine ⟨_, rfl, ?_⟩
      simp only [evSs, evS.eq_1, evS.eq_2, evS.eq_3, evS.eq_4, evS.eq_5, evS.eq_7, evS.eq_8, evS.eq_9, evS.eq_10, evE.eq_1, evE.eq_2, evE.eq_3, evE.eq_4, evE.eq_5, evE.eq_6, evE.eq_7, evE.eq_8, evE.eq_9, evE.eq_10, evE.eq_11, evE.eq_12, evE.eq_13, evE.eq_15, evE.eq_16, evE.eq_17, evE.eq_18, evE.eq_19, evE.eq_21, evE.eq_22, evE.eq_23, evL, evO, evC, R_ok, bS_ok, tk_cold, List.getElem?_cons_zero, List.getElem?_cons_succ, conD, List.set_cons_zero, List.set_cons_succ, Option.some.injEq, eq_int, ix_great, ix_rest, ix_turn, ix_cells, se_rest, se_turn, po_great, ne_great, ne_eq, reduceCtorEq, not_true_eq_false, not_false_eq_true, decide_true, decide_false, rc_great, le_st, it_lst, it_tup, ad_int, su_int, lt_int, gt_int, ge_int, le_int, in_int, in_bl, evI, Int.reduceEq, Int.reduceLT, Int.reduceLE, isi_non_bool, isi_non_int, isi_non_str, isi_non_tuple, isi_non_is, is_non, isi_bl_bool, isi_bl_int, isi_bl_str, isi_bl_tuple, isi_bl_is, is_bl, isi_int_bool, isi_int_int, isi_int_str, isi_int_tuple, isi_int_is, is_int, isi_str_bool, isi_str_int, isi_str_str, isi_str_tuple, isi_str_is, is_str, isi_tup_bool, isi_tup_int, isi_tup_str, isi_tup_tuple, isi_tup_is, is_tup, isi_lst_bool, isi_lst_int, isi_lst_str, isi_lst_tuple, isi_lst_is, is_lst, isi_dct_bool, isi_dct_int, isi_dct_str, isi_dct_tuple, isi_dct_is, is_dct, gl_bool, gl_int, gl_str, gl_tuple, ↓reduceIte, sz0, sz1, sz2, sz3, sz4, sz5, sz6, sz7, sz8, sz9, sz10, List.zip_nil_left, List.zip_cons_cons, R_exc, bS_exc, eq_self, ne_str,  tl_cold, tl_C, gl_tl,  rx_bad, all_bls, gl_KINDS, tu_lst, len_lst, len_tup, rc_lst,  Bool.false_eq_true, Bool.not_true, Bool.not_false, ]
      clear hq
      generalize hq : Sta.C _ (Str.ofString "_law_value") _ _ _ = q
      obtain ⟨f0, s1, hf0, u1, v1, rfl⟩ := value_q ns (n := 3) (by omega) rfl hq rfl h0 (by rw [show cst 3 = 30 from rfl]; omega)
      rw [show cst 3 = 30 from rfl] at u1
      simp only [evSs, evS.eq_1, evS.eq_2, evS.eq_3, evS.eq_4, evS.eq_5, evS.eq_7, evS.eq_8, evS.eq_9, evS.eq_10, evE.eq_1, evE.eq_2, evE.eq_3, evE.eq_4, evE.eq_5, evE.eq_6, evE.eq_7, evE.eq_8, evE.eq_9, evE.eq_10, evE.eq_11, evE.eq_12, evE.eq_13, evE.eq_15, evE.eq_16, evE.eq_17, evE.eq_18, evE.eq_19, evE.eq_21, evE.eq_22, evE.eq_23, evL, evO, evC, R_ok, bS_ok, tk_cold, List.getElem?_cons_zero, List.getElem?_cons_succ, conD, List.set_cons_zero, List.set_cons_succ, Option.some.injEq, eq_int, ix_great, ix_rest, ix_turn, ix_cells, se_rest, se_turn, po_great, ne_great, ne_eq, reduceCtorEq, not_true_eq_false, not_false_eq_true, decide_true, decide_false, rc_great, le_st, it_lst, it_tup, ad_int, su_int, lt_int, gt_int, ge_int, le_int, in_int, in_bl, evI, Int.reduceEq, Int.reduceLT, Int.reduceLE, isi_non_bool, isi_non_int, isi_non_str, isi_non_tuple, isi_non_is, is_non, isi_bl_bool, isi_bl_int, isi_bl_str, isi_bl_tuple, isi_bl_is, is_bl, isi_int_bool, isi_int_int, isi_int_str, isi_int_tuple, isi_int_is, is_int, isi_str_bool, isi_str_int, isi_str_str, isi_str_tuple, isi_str_is, is_str, isi_tup_bool, isi_tup_int, isi_tup_str, isi_tup_tuple, isi_tup_is, is_tup, isi_lst_bool, isi_lst_int, isi_lst_str, isi_lst_tuple, isi_lst_is, is_lst, isi_dct_bool, isi_dct_int, isi_dct_str, isi_dct_tuple, isi_dct_is, is_dct, gl_bool, gl_int, gl_str, gl_tuple, ↓reduceIte, sz0, sz1, sz2, sz3, sz4, sz5, sz6, sz7, sz8, sz9, sz10, List.zip_nil_left, List.zip_cons_cons, R_exc, bS_exc, eq_self, ne_str,  tl_cold, tl_C, gl_tl,  rx_bad, all_bls, gl_KINDS, tu_lst, len_lst, len_tup, rc_lst,  Bool.false_eq_true, Bool.not_true, Bool.not_false, ]
      clear hq
      obtain ⟨p0, s2, hp0, u2, v2, hpk⟩ := pick_q ns (k := 59) (s := s1) (E := []) (ds := [.int 0, .int 0, .int 0, .int 6]) (by omega) rfl (by decide) (by decide) (by intro d hd; simp only [List.mem_cons, List.not_mem_nil, or_false] at hd; rcases hd with rfl | rfl | rfl | rfl <;> rfl) (by omega) (by omega)
      have hz : ∃ z : Int, p0 = .int z ∧ (z = 0 ∨ z = 6) := by
        simp only [List.mem_cons, List.not_mem_nil, or_false] at hp0
        rcases hp0 with rfl | rfl | rfl | rfl
        · exact ⟨_, rfl, .inl rfl⟩
        · exact ⟨_, rfl, .inl rfl⟩
        · exact ⟨_, rfl, .inl rfl⟩
        · exact ⟨_, rfl, .inr rfl⟩
      obtain ⟨z, rfl, hz⟩ := hz
      have hlen : (rngL 0 z.toNat).length = z.toNat := by simp [rngL]
      generalize hq : evS (Sm.loop (.nm 4) _ _) _ _ _ = q
      obtain ⟨e3, S3, rfl, p⟩ := loop_invN (P := fun m e S => S = stO ns s2 [] ∧ m ≤ 6 ∧ ∃ f x4, Vn 2 (9 - m) f ∧ e = [some (.scr ns), some (.ref 1), some d, some f, x4, x5, x6, x7, x8, x9]) (ds := rngL 0 z.toNat) hq (tk_cold 59)
        (by simp only [evSs, evS.eq_1, evS.eq_2, evS.eq_3, evS.eq_4, evS.eq_5, evS.eq_7, evS.eq_8, evS.eq_9, evS.eq_10, evE.eq_1, evE.eq_2, evE.eq_3, evE.eq_4, evE.eq_5, evE.eq_6, evE.eq_7, evE.eq_8, evE.eq_9, evE.eq_10, evE.eq_11, evE.eq_12, evE.eq_13, evE.eq_15, evE.eq_16, evE.eq_17, evE.eq_18, evE.eq_19, evE.eq_21, evE.eq_22, evE.eq_23, evL, evO, evC, R_ok, bS_ok, tk_cold, List.getElem?_cons_zero, List.getElem?_cons_succ, conD, List.set_cons_zero, List.set_cons_succ, Option.some.injEq, eq_int, ix_great, ix_rest, ix_turn, ix_cells, se_rest, se_turn, po_great, ne_great, ne_eq, reduceCtorEq, not_true_eq_false, not_false_eq_true, decide_true, decide_false, rc_great, le_st, it_lst, it_tup, ad_int, su_int, lt_int, gt_int, ge_int, le_int, in_int, in_bl, evI, Int.reduceEq, Int.reduceLT, Int.reduceLE, isi_non_bool, isi_non_int, isi_non_str, isi_non_tuple, isi_non_is, is_non, isi_bl_bool, isi_bl_int, isi_bl_str, isi_bl_tuple, isi_bl_is, is_bl, isi_int_bool, isi_int_int, isi_int_str, isi_int_tuple, isi_int_is, is_int, isi_str_bool, isi_str_int, isi_str_str, isi_str_tuple, isi_str_is, is_str, isi_tup_bool, isi_tup_int, isi_tup_str, isi_tup_tuple, isi_tup_is, is_tup, isi_lst_bool, isi_lst_int, isi_lst_str, isi_lst_tuple, isi_lst_is, is_lst, isi_dct_bool, isi_dct_int, isi_dct_str, isi_dct_tuple, isi_dct_is, is_dct, gl_bool, gl_int, gl_str, gl_tuple, ↓reduceIte, sz0, sz1, sz2, sz3, sz4, sz5, sz6, sz7, sz8, sz9, sz10, List.zip_nil_left, List.zip_cons_cons, R_exc, bS_exc, eq_self, ne_str,  tl_cold, tl_C, gl_tl,  rx_bad, all_bls, gl_KINDS, tu_lst, len_lst, len_tup, rc_lst,  Bool.false_eq_true, Bool.not_true, Bool.not_false, hpk, show small62 z = true by unfold small62; simp; omega]) (by
          rintro d' hd' m e S ⟨rfl, hm, f, x4, hf, rfl⟩
          refine ⟨_, rfl, ?_⟩
          simp only [evSs, evS.eq_1, evS.eq_2, evS.eq_3, evS.eq_4, evS.eq_5, evS.eq_7, evS.eq_8, evS.eq_9, evS.eq_10, evE.eq_1, evE.eq_2, evE.eq_3, evE.eq_4, evE.eq_5, evE.eq_6, evE.eq_7, evE.eq_8, evE.eq_9, evE.eq_10, evE.eq_11, evE.eq_12, evE.eq_13, evE.eq_15, evE.eq_16, evE.eq_17, evE.eq_18, evE.eq_19, evE.eq_21, evE.eq_22, evE.eq_23, evL, evO, evC, R_ok, bS_ok, tk_cold, List.getElem?_cons_zero, List.getElem?_cons_succ, conD, List.set_cons_zero, List.set_cons_succ, Option.some.injEq, eq_int, ix_great, ix_rest, ix_turn, ix_cells, se_rest, se_turn, po_great, ne_great, ne_eq, reduceCtorEq, not_true_eq_false, not_false_eq_true, decide_true, decide_false, rc_great, le_st, it_lst, it_tup, ad_int, su_int, lt_int, gt_int, ge_int, le_int, in_int, in_bl, evI, Int.reduceEq, Int.reduceLT, Int.reduceLE, isi_non_bool, isi_non_int, isi_non_str, isi_non_tuple, isi_non_is, is_non, isi_bl_bool, isi_bl_int, isi_bl_str, isi_bl_tuple, isi_bl_is, is_bl, isi_int_bool, isi_int_int, isi_int_str, isi_int_tuple, isi_int_is, is_int, isi_str_bool, isi_str_int, isi_str_str, isi_str_tuple, isi_str_is, is_str, isi_tup_bool, isi_tup_int, isi_tup_str, isi_tup_tuple, isi_tup_is, is_tup, isi_lst_bool, isi_lst_int, isi_lst_str, isi_lst_tuple, isi_lst_is, is_lst, isi_dct_bool, isi_dct_int, isi_dct_str, isi_dct_tuple, isi_dct_is, is_dct, gl_bool, gl_int, gl_str, gl_tuple, ↓reduceIte, sz0, sz1, sz2, sz3, sz4, sz5, sz6, sz7, sz8, sz9, sz10, List.zip_nil_left, List.zip_cons_cons, R_exc, bS_exc, eq_self, ne_str,  tl_cold, tl_C, gl_tl,  rx_bad, all_bls, gl_KINDS, tu_lst, len_lst, len_tup, rc_lst,  Bool.false_eq_true, Bool.not_true, Bool.not_false, ]
          exact ⟨_, _, rfl, rfl, by omega, .tup [f], _, by
            obtain ⟨i, hi⟩ : ∃ i, 9 - m = i + 1 := ⟨9 - m - 1, by omega⟩
            rw [hi]
            refine .inr ⟨_, rfl, by simp, fun e he => ?_⟩
            rw [List.mem_singleton.mp he]
            exact hf.up (by omega) (by omega), rfl⟩) ⟨rfl, by rw [hlen]; omega, f0, x4, hf0.up (by omega) (by rw [hlen]; omega), rfl⟩
      obtain ⟨rfl, _, f, y4, hf, rfl⟩ := p
      clear hq
      obtain ⟨g1, s3, hg1, u3, v3, hn⟩ := near_ok ns 9 (k := 59) (by omega) hf s2 [] rfl (by omega) (by omega)
      obtain ⟨g2, s4, hg2, u4, v4, hw⟩ := value_ok ns 2 (k := 59) (by omega) s3 [] rfl (by omega) (by rw [show cst 2 = 14 from rfl]; omega)
      rw [show cst 2 = 14 from rfl] at u4
      have hw : (mk3 T.sta T.tb 59).1.C "_law_value" [.ref 1, .int 2] [] (stO ns s3 []) = .ok g2 (stO ns s4 []) := hw
      simp only [evSs, evS.eq_1, evS.eq_2, evS.eq_3, evS.eq_4, evS.eq_5, evS.eq_7, evS.eq_8, evS.eq_9, evS.eq_10, evE.eq_1, evE.eq_2, evE.eq_3, evE.eq_4, evE.eq_5, evE.eq_6, evE.eq_7, evE.eq_8, evE.eq_9, evE.eq_10, evE.eq_11, evE.eq_12, evE.eq_13, evE.eq_15, evE.eq_16, evE.eq_17, evE.eq_18, evE.eq_19, evE.eq_21, evE.eq_22, evE.eq_23, evL, evO, evC, R_ok, bS_ok, tk_cold, List.getElem?_cons_zero, List.getElem?_cons_succ, conD, List.set_cons_zero, List.set_cons_succ, Option.some.injEq, eq_int, ix_great, ix_rest, ix_turn, ix_cells, se_rest, se_turn, po_great, ne_great, ne_eq, reduceCtorEq, not_true_eq_false, not_false_eq_true, decide_true, decide_false, rc_great, le_st, it_lst, it_tup, ad_int, su_int, lt_int, gt_int, ge_int, le_int, in_int, in_bl, evI, Int.reduceEq, Int.reduceLT, Int.reduceLE, isi_non_bool, isi_non_int, isi_non_str, isi_non_tuple, isi_non_is, is_non, isi_bl_bool, isi_bl_int, isi_bl_str, isi_bl_tuple, isi_bl_is, is_bl, isi_int_bool, isi_int_int, isi_int_str, isi_int_tuple, isi_int_is, is_int, isi_str_bool, isi_str_int, isi_str_str, isi_str_tuple, isi_str_is, is_str, isi_tup_bool, isi_tup_int, isi_tup_str, isi_tup_tuple, isi_tup_is, is_tup, isi_lst_bool, isi_lst_int, isi_lst_str, isi_lst_tuple, isi_lst_is, is_lst, isi_dct_bool, isi_dct_int, isi_dct_str, isi_dct_tuple, isi_dct_is, is_dct, gl_bool, gl_int, gl_str, gl_tuple, ↓reduceIte, sz0, sz1, sz2, sz3, sz4, sz5, sz6, sz7, sz8, sz9, sz10, List.zip_nil_left, List.zip_cons_cons, R_exc, bS_exc, eq_self, ne_str,  tl_cold, tl_C, gl_tl,  rx_bad, all_bls, gl_KINDS, tu_lst, len_lst, len_tup, rc_lst,  Bool.false_eq_true, Bool.not_true, Bool.not_false, hn, hw, setAll]
      have F : Vn 5 10 f := hf.up (by omega) (by omega)
      have G1 : Vn 5 10 g1 := hg1
      have G2 : Vn 5 10 g2 := hg2.up (by omega) (by omega)
      have cl := st_Cl ns s4 [] rfl
      generalize hq : evS (Sm.loop (.nm 5) _ _) _ _ _ = q
      obtain ⟨e5, S5, rfl, p⟩ := loop_inv (P := fun e S => S = stO ns s4 [] ∧ ∃ x5, e = [some (.scr ns), some (.ref 1), some d, some f, y4, x5, x6, x7, some g1, some g2]) (ds := [f, g1, g2]) hq (tk_cold 59) (by simp only [evSs, evS.eq_1, evS.eq_2, evS.eq_3, evS.eq_4, evS.eq_5, evS.eq_7, evS.eq_8, evS.eq_9, evS.eq_10, evE.eq_1, evE.eq_2, evE.eq_3, evE.eq_4, evE.eq_5, evE.eq_6, evE.eq_7, evE.eq_8, evE.eq_9, evE.eq_10, evE.eq_11, evE.eq_12, evE.eq_13, evE.eq_15, evE.eq_16, evE.eq_17, evE.eq_18, evE.eq_19, evE.eq_21, evE.eq_22, evE.eq_23, evL, evO, evC, R_ok, bS_ok, tk_cold, List.getElem?_cons_zero, List.getElem?_cons_succ, conD, List.set_cons_zero, List.set_cons_succ, Option.some.injEq, eq_int, ix_great, ix_rest, ix_turn, ix_cells, se_rest, se_turn, po_great, ne_great, ne_eq, reduceCtorEq, not_true_eq_false, not_false_eq_true, decide_true, decide_false, rc_great, le_st, it_lst, it_tup, ad_int, su_int, lt_int, gt_int, ge_int, le_int, in_int, in_bl, evI, Int.reduceEq, Int.reduceLT, Int.reduceLE, isi_non_bool, isi_non_int, isi_non_str, isi_non_tuple, isi_non_is, is_non, isi_bl_bool, isi_bl_int, isi_bl_str, isi_bl_tuple, isi_bl_is, is_bl, isi_int_bool, isi_int_int, isi_int_str, isi_int_tuple, isi_int_is, is_int, isi_str_bool, isi_str_int, isi_str_str, isi_str_tuple, isi_str_is, is_str, isi_tup_bool, isi_tup_int, isi_tup_str, isi_tup_tuple, isi_tup_is, is_tup, isi_lst_bool, isi_lst_int, isi_lst_str, isi_lst_tuple, isi_lst_is, is_lst, isi_dct_bool, isi_dct_int, isi_dct_str, isi_dct_tuple, isi_dct_is, is_dct, gl_bool, gl_int, gl_str, gl_tuple, ↓reduceIte, sz0, sz1, sz2, sz3, sz4, sz5, sz6, sz7, sz8, sz9, sz10, List.zip_nil_left, List.zip_cons_cons, R_exc, bS_exc, eq_self, ne_str,  tl_cold, tl_C, gl_tl,  rx_bad, all_bls, gl_KINDS, tu_lst, len_lst, len_tup, rc_lst,  Bool.false_eq_true, Bool.not_true, Bool.not_false, ]) (by
        rintro d' hd' e S ⟨rfl, y5, rfl⟩
        refine ⟨_, rfl, ?_⟩
        have hd : Vn 5 10 d' := by
          simp only [List.mem_cons, List.not_mem_nil, or_false] at hd'
          rcases hd' with rfl | rfl | rfl <;> assumption
        have w := hd.wn (by omega)
        simp only [evSs, evS.eq_1, evS.eq_2, evS.eq_3, evS.eq_4, evS.eq_5, evS.eq_7, evS.eq_8, evS.eq_9, evS.eq_10, evE.eq_1, evE.eq_2, evE.eq_3, evE.eq_4, evE.eq_5, evE.eq_6, evE.eq_7, evE.eq_8, evE.eq_9, evE.eq_10, evE.eq_11, evE.eq_12, evE.eq_13, evE.eq_15, evE.eq_16, evE.eq_17, evE.eq_18, evE.eq_19, evE.eq_21, evE.eq_22, evE.eq_23, evL, evO, evC, R_ok, bS_ok, tk_cold, List.getElem?_cons_zero, List.getElem?_cons_succ, conD, List.set_cons_zero, List.set_cons_succ, Option.some.injEq, eq_int, ix_great, ix_rest, ix_turn, ix_cells, se_rest, se_turn, po_great, ne_great, ne_eq, reduceCtorEq, not_true_eq_false, not_false_eq_true, decide_true, decide_false, rc_great, le_st, it_lst, it_tup, ad_int, su_int, lt_int, gt_int, ge_int, le_int, in_int, in_bl, evI, Int.reduceEq, Int.reduceLT, Int.reduceLE, isi_non_bool, isi_non_int, isi_non_str, isi_non_tuple, isi_non_is, is_non, isi_bl_bool, isi_bl_int, isi_bl_str, isi_bl_tuple, isi_bl_is, is_bl, isi_int_bool, isi_int_int, isi_int_str, isi_int_tuple, isi_int_is, is_int, isi_str_bool, isi_str_int, isi_str_str, isi_str_tuple, isi_str_is, is_str, isi_tup_bool, isi_tup_int, isi_tup_str, isi_tup_tuple, isi_tup_is, is_tup, isi_lst_bool, isi_lst_int, isi_lst_str, isi_lst_tuple, isi_lst_is, is_lst, isi_dct_bool, isi_dct_int, isi_dct_str, isi_dct_tuple, isi_dct_is, is_dct, gl_bool, gl_int, gl_str, gl_tuple, ↓reduceIte, sz0, sz1, sz2, sz3, sz4, sz5, sz6, sz7, sz8, sz9, sz10, List.zip_nil_left, List.zip_cons_cons, R_exc, bS_exc, eq_self, ne_str,  tl_cold, tl_C, gl_tl,  rx_bad, all_bls, gl_KINDS, tu_lst, len_lst, len_tup, rc_lst,  Bool.false_eq_true, Bool.not_true, Bool.not_false, kind_ok (k := 59) (by omega) hd (ds := [d']) (kws := []) rfl rfl _ cl, kind_ok (k := 59) (by omega) hd (ds := []) (kws := [("value", d')]) rfl rfl _ cl, lkind_ok (k := 59) (by omega) hd (stO ns s4 []),
          isv_ok 10 (k := 59) (by omega) w.1 (ds := [d']) (kws := []) rfl rfl _ cl, isv_ok 10 (k := 59) (by omega) w.1 (ds := []) (kws := [("thing", d')]) rfl rfl _ cl, w.2, isnot_bb]
        exact ⟨_, _, rfl, rfl, _, rfl⟩) ⟨rfl, _, rfl⟩
      obtain ⟨rfl, y5, rfl⟩ := p
      clear hq
      simp only [evSs, evS.eq_1, evS.eq_2, evS.eq_3, evS.eq_4, evS.eq_5, evS.eq_7, evS.eq_8, evS.eq_9, evS.eq_10, evE.eq_1, evE.eq_2, evE.eq_3, evE.eq_4, evE.eq_5, evE.eq_6, evE.eq_7, evE.eq_8, evE.eq_9, evE.eq_10, evE.eq_11, evE.eq_12, evE.eq_13, evE.eq_15, evE.eq_16, evE.eq_17, evE.eq_18, evE.eq_19, evE.eq_21, evE.eq_22, evE.eq_23, evL, evO, evC, R_ok, bS_ok, tk_cold, List.getElem?_cons_zero, List.getElem?_cons_succ, conD, List.set_cons_zero, List.set_cons_succ, Option.some.injEq, eq_int, ix_great, ix_rest, ix_turn, ix_cells, se_rest, se_turn, po_great, ne_great, ne_eq, reduceCtorEq, not_true_eq_false, not_false_eq_true, decide_true, decide_false, rc_great, le_st, it_lst, it_tup, ad_int, su_int, lt_int, gt_int, ge_int, le_int, in_int, in_bl, evI, Int.reduceEq, Int.reduceLT, Int.reduceLE, isi_non_bool, isi_non_int, isi_non_str, isi_non_tuple, isi_non_is, is_non, isi_bl_bool, isi_bl_int, isi_bl_str, isi_bl_tuple, isi_bl_is, is_bl, isi_int_bool, isi_int_int, isi_int_str, isi_int_tuple, isi_int_is, is_int, isi_str_bool, isi_str_int, isi_str_str, isi_str_tuple, isi_str_is, is_str, isi_tup_bool, isi_tup_int, isi_tup_str, isi_tup_tuple, isi_tup_is, is_tup, isi_lst_bool, isi_lst_int, isi_lst_str, isi_lst_tuple, isi_lst_is, is_lst, isi_dct_bool, isi_dct_int, isi_dct_str, isi_dct_tuple, isi_dct_is, is_dct, gl_bool, gl_int, gl_str, gl_tuple, ↓reduceIte, sz0, sz1, sz2, sz3, sz4, sz5, sz6, sz7, sz8, sz9, sz10, List.zip_nil_left, List.zip_cons_cons, R_exc, bS_exc, eq_self, ne_str,  tl_cold, tl_C, gl_tl,  rx_bad, all_bls, gl_KINDS, tu_lst, len_lst, len_tup, rc_lst,  Bool.false_eq_true, Bool.not_true, Bool.not_false, ]
      generalize hq : evS (Sm.loop (.nm 6) _ _) _ _ _ = q
      obtain ⟨e6, S6, rfl, p⟩ := loop_inv (P := fun e S => S = stO ns s4 [] ∧ ∃ x6, e = [some (.scr ns), some (.ref 1), some d, some f, y4, y5, x6, x7, some g1, some g2]) (ds := [.tup [f, g1], .tup [g1, g2], .tup [f, g2], .tup [f, f]]) hq (tk_cold 59) (by simp only [evSs, evS.eq_1, evS.eq_2, evS.eq_3, evS.eq_4, evS.eq_5, evS.eq_7, evS.eq_8, evS.eq_9, evS.eq_10, evE.eq_1, evE.eq_2, evE.eq_3, evE.eq_4, evE.eq_5, evE.eq_6, evE.eq_7, evE.eq_8, evE.eq_9, evE.eq_10, evE.eq_11, evE.eq_12, evE.eq_13, evE.eq_15, evE.eq_16, evE.eq_17, evE.eq_18, evE.eq_19, evE.eq_21, evE.eq_22, evE.eq_23, evL, evO, evC, R_ok, bS_ok, tk_cold, List.getElem?_cons_zero, List.getElem?_cons_succ, conD, List.set_cons_zero, List.set_cons_succ, Option.some.injEq, eq_int, ix_great, ix_rest, ix_turn, ix_cells, se_rest, se_turn, po_great, ne_great, ne_eq, reduceCtorEq, not_true_eq_false, not_false_eq_true, decide_true, decide_false, rc_great, le_st, it_lst, it_tup, ad_int, su_int, lt_int, gt_int, ge_int, le_int, in_int, in_bl, evI, Int.reduceEq, Int.reduceLT, Int.reduceLE, isi_non_bool, isi_non_int, isi_non_str, isi_non_tuple, isi_non_is, is_non, isi_bl_bool, isi_bl_int, isi_bl_str, isi_bl_tuple, isi_bl_is, is_bl, isi_int_bool, isi_int_int, isi_int_str, isi_int_tuple, isi_int_is, is_int, isi_str_bool, isi_str_int, isi_str_str, isi_str_tuple, isi_str_is, is_str, isi_tup_bool, isi_tup_int, isi_tup_str, isi_tup_tuple, isi_tup_is, is_tup, isi_lst_bool, isi_lst_int, isi_lst_str, isi_lst_tuple, isi_lst_is, is_lst, isi_dct_bool, isi_dct_int, isi_dct_str, isi_dct_tuple, isi_dct_is, is_dct, gl_bool, gl_int, gl_str, gl_tuple, ↓reduceIte, sz0, sz1, sz2, sz3, sz4, sz5, sz6, sz7, sz8, sz9, sz10, List.zip_nil_left, List.zip_cons_cons, R_exc, bS_exc, eq_self, ne_str,  tl_cold, tl_C, gl_tl,  rx_bad, all_bls, gl_KINDS, tu_lst, len_lst, len_tup, rc_lst,  Bool.false_eq_true, Bool.not_true, Bool.not_false, ]) (by
        rintro d' hd' e S ⟨rfl, y6, rfl⟩
        refine ⟨_, rfl, ?_⟩
        have hd : ∃ a b, d' = .tup [a, b] ∧ Vn 5 10 a ∧ Vn 5 10 b := by
          simp only [List.mem_cons, List.not_mem_nil, or_false] at hd'
          rcases hd' with rfl | rfl | rfl | rfl <;> exact ⟨_, _, rfl, by assumption, by assumption⟩
        obtain ⟨a, b, rfl, ha, hb⟩ := hd
        simp only [evSs, evS.eq_1, evS.eq_2, evS.eq_3, evS.eq_4, evS.eq_5, evS.eq_7, evS.eq_8, evS.eq_9, evS.eq_10, evE.eq_1, evE.eq_2, evE.eq_3, evE.eq_4, evE.eq_5, evE.eq_6, evE.eq_7, evE.eq_8, evE.eq_9, evE.eq_10, evE.eq_11, evE.eq_12, evE.eq_13, evE.eq_15, evE.eq_16, evE.eq_17, evE.eq_18, evE.eq_19, evE.eq_21, evE.eq_22, evE.eq_23, evL, evO, evC, R_ok, bS_ok, tk_cold, List.getElem?_cons_zero, List.getElem?_cons_succ, conD, List.set_cons_zero, List.set_cons_succ, Option.some.injEq, eq_int, ix_great, ix_rest, ix_turn, ix_cells, se_rest, se_turn, po_great, ne_great, ne_eq, reduceCtorEq, not_true_eq_false, not_false_eq_true, decide_true, decide_false, rc_great, le_st, it_lst, it_tup, ad_int, su_int, lt_int, gt_int, ge_int, le_int, in_int, in_bl, evI, Int.reduceEq, Int.reduceLT, Int.reduceLE, isi_non_bool, isi_non_int, isi_non_str, isi_non_tuple, isi_non_is, is_non, isi_bl_bool, isi_bl_int, isi_bl_str, isi_bl_tuple, isi_bl_is, is_bl, isi_int_bool, isi_int_int, isi_int_str, isi_int_tuple, isi_int_is, is_int, isi_str_bool, isi_str_int, isi_str_str, isi_str_tuple, isi_str_is, is_str, isi_tup_bool, isi_tup_int, isi_tup_str, isi_tup_tuple, isi_tup_is, is_tup, isi_lst_bool, isi_lst_int, isi_lst_str, isi_lst_tuple, isi_lst_is, is_lst, isi_dct_bool, isi_dct_int, isi_dct_str, isi_dct_tuple, isi_dct_is, is_dct, gl_bool, gl_int, gl_str, gl_tuple, ↓reduceIte, sz0, sz1, sz2, sz3, sz4, sz5, sz6, sz7, sz8, sz9, sz10, List.zip_nil_left, List.zip_cons_cons, R_exc, bS_exc, eq_self, ne_str,  tl_cold, tl_C, gl_tl,  rx_bad, all_bls, gl_KINDS, tu_lst, len_lst, len_tup, rc_lst,  Bool.false_eq_true, Bool.not_true, Bool.not_false, ixp0, ixp1, pair_ok (k := 59) (by omega) ha hb (by omega) _ cl]
        exact ⟨_, _, rfl, rfl, _, rfl⟩) ⟨rfl, _, rfl⟩
      obtain ⟨rfl, y6, rfl⟩ := p
      clear hq
      have c1 := cmp_ok (k := 59) (by omega) F G1 (by omega) (ds := [f, g1]) (kws := []) rfl rfl _ cl
      have c2 := cmp_ok (k := 59) (by omega) G1 G2 (by omega) (ds := [g1, g2]) (kws := []) rfl rfl _ cl
      have c3 := cmp_ok (k := 59) (by omega) F G2 (by omega) (ds := [f, g2]) (kws := []) rfl rfl _ cl
      have tr := cp_tr F G1 G2
      have fcl : ∀ {m : Nat}, f.closed m = true := hf.cl
      have wf := F.wn (by omega)
      have d0 : ∀ e : En, evE (mk3 T.sta T.tb 59).1 (.dct false [] .nil) e (stO ns s4 []) = .ok (.dct [] []) (stO ns s4 []) := fun e => dct0 _ e _ cl
      have d1 : ∀ x6 x7 : Option D, evE (mk3 T.sta T.tb 59).1 (.dct false ["a"] (.cons (.var 3) .nil)) [some (.scr ns), some (.ref 1), some d, some f, y4, y5, x6, x7, some g1, some g2] (stO ns s4 []) = .ok (.dct [.inr "a"] [f]) (stO ns s4 []) := fun x6 x7 => dct1 _ 3 f _ _ cl fcl rfl
      have fin : ∃ S', (∃ s, S' = stO ns s [] ∧ s4.u ≤ s.u ∧ s.u ≤ s4.u + 1) ∧ True := ⟨_, ⟨s4, rfl, by omega, by omega⟩, trivial⟩
      obtain ⟨o, s5, ho, u5, v5, hop⟩ := pick_q ns (k := 59) (s := s4) (E := []) (ds := [.lst [], .lst [f], .dct [] [], .dct [.inr "a"] [f], .tup [f, .lst []], .tup [.tup [], .tup [.dct [] []]], .lst [.tup []]]) (by omega) rfl (by simp) (by simp) (by intro d hd; simp only [List.mem_cons, List.not_mem_nil, or_false] at hd; rcases hd with rfl | rfl | rfl | rfl | rfl | rfl | rfl <;> rfl) (by omega) (by omega)
      have hodd : Wn 11 o ∧ isv o = false ∧ o.closed 0 = true := by
        simp only [List.mem_cons, List.not_mem_nil, or_false] at ho
        rcases ho with rfl | rfl | rfl | rfl | rfl | rfl | rfl
        · exact ⟨.inl rfl, rfl, rfl⟩
        · exact ⟨.inl rfl, rfl, by rw [D.closed, closedL, fcl]; rfl⟩
        · exact ⟨.inl rfl, rfl, rfl⟩
        · exact ⟨.inl rfl, rfl, by rw [D.closed, closedL, fcl]; rfl⟩
        · refine ⟨.inr ⟨_, rfl, by simp, fun e he => ?_⟩, by rw [isv, isvL, isvL, isv, wf.2]; rfl, by rw [D.closed, closedL, fcl]; rfl⟩
          simp only [List.mem_cons, List.not_mem_nil, or_false] at he
          rcases he with rfl | rfl
          · exact wf.1
          · exact .inl rfl
        · refine ⟨.inr ⟨_, rfl, by simp, fun e he => ?_⟩, rfl, rfl⟩
          simp only [List.mem_cons, List.not_mem_nil, or_false] at he
          rcases he with rfl | rfl
          · exact .inr ⟨_, rfl, by simp, fun e he => absurd he List.not_mem_nil⟩
          · refine .inr ⟨_, rfl, by simp, fun e he => ?_⟩
            rw [List.mem_singleton.mp he]
            exact .inl rfl
        · exact ⟨.inl rfl, rfl, rfl⟩
      have wf11 : Wn 11 f := (F.up (w := 5) (v := 5) (by omega) (by omega : 10 ≤ 11)).wn (by omega) |>.1
      have hodd2 := odd_ok (n := 11) (k := 59) (by omega) hodd.1 hodd.2.1 wf11 hodd.2.2 fcl (stO ns s5 []) (st_Cl ns s5 [] rfl)
      by_cases q1 : cpI f g1 ≤ 0
      · by_cases q2 : cpI g1 g2 ≤ 0
        · have q3 := tr q1 q2
          simp only [evSs, evS.eq_1, evS.eq_2, evS.eq_3, evS.eq_4, evS.eq_5, evS.eq_7, evS.eq_8, evS.eq_9, evS.eq_10, evE.eq_1, evE.eq_2, evE.eq_3, evE.eq_4, evE.eq_5, evE.eq_6, evE.eq_7, evE.eq_8, evE.eq_9, evE.eq_10, evE.eq_11, evE.eq_12, evE.eq_13, evE.eq_15, evE.eq_16, evE.eq_17, evE.eq_18, evE.eq_19, evE.eq_21, evE.eq_22, evE.eq_23, evL, evO, evC, R_ok, bS_ok, tk_cold, List.getElem?_cons_zero, List.getElem?_cons_succ, conD, List.set_cons_zero, List.set_cons_succ, Option.some.injEq, eq_int, ix_great, ix_rest, ix_turn, ix_cells, se_rest, se_turn, po_great, ne_great, ne_eq, reduceCtorEq, not_true_eq_false, not_false_eq_true, decide_true, decide_false, rc_great, le_st, it_lst, it_tup, ad_int, su_int, lt_int, gt_int, ge_int, le_int, in_int, in_bl, evI, Int.reduceEq, Int.reduceLT, Int.reduceLE, isi_non_bool, isi_non_int, isi_non_str, isi_non_tuple, isi_non_is, is_non, isi_bl_bool, isi_bl_int, isi_bl_str, isi_bl_tuple, isi_bl_is, is_bl, isi_int_bool, isi_int_int, isi_int_str, isi_int_tuple, isi_int_is, is_int, isi_str_bool, isi_str_int, isi_str_str, isi_str_tuple, isi_str_is, is_str, isi_tup_bool, isi_tup_int, isi_tup_str, isi_tup_tuple, isi_tup_is, is_tup, isi_lst_bool, isi_lst_int, isi_lst_str, isi_lst_tuple, isi_lst_is, is_lst, isi_dct_bool, isi_dct_int, isi_dct_str, isi_dct_tuple, isi_dct_is, is_dct, gl_bool, gl_int, gl_str, gl_tuple, ↓reduceIte, sz0, sz1, sz2, sz3, sz4, sz5, sz6, sz7, sz8, sz9, sz10, List.zip_nil_left, List.zip_cons_cons, R_exc, bS_exc, eq_self, ne_str,  tl_cold, tl_C, gl_tl,  rx_bad, all_bls, gl_KINDS, tu_lst, len_lst, len_tup, rc_lst,  Bool.false_eq_true, Bool.not_true, Bool.not_false, c1, c2, c3, show decide (cpI f g1 ≤ 0) = true from decide_eq_true q1, show decide (cpI g1 g2 ≤ 0) = true from decide_eq_true q2, show decide (0 < cpI f g2) = false from decide_eq_false q3, d0, d1, hop, hodd2]
          exact ⟨_, _, rfl, s5, rfl, by omega, by omega, _, _, _, _, _, _, _, _, rfl⟩
        · simp only [evSs, evS.eq_1, evS.eq_2, evS.eq_3, evS.eq_4, evS.eq_5, evS.eq_7, evS.eq_8, evS.eq_9, evS.eq_10, evE.eq_1, evE.eq_2, evE.eq_3, evE.eq_4, evE.eq_5, evE.eq_6, evE.eq_7, evE.eq_8, evE.eq_9, evE.eq_10, evE.eq_11, evE.eq_12, evE.eq_13, evE.eq_15, evE.eq_16, evE.eq_17, evE.eq_18, evE.eq_19, evE.eq_21, evE.eq_22, evE.eq_23, evL, evO, evC, R_ok, bS_ok, tk_cold, List.getElem?_cons_zero, List.getElem?_cons_succ, conD, List.set_cons_zero, List.set_cons_succ, Option.some.injEq, eq_int, ix_great, ix_rest, ix_turn, ix_cells, se_rest, se_turn, po_great, ne_great, ne_eq, reduceCtorEq, not_true_eq_false, not_false_eq_true, decide_true, decide_false, rc_great, le_st, it_lst, it_tup, ad_int, su_int, lt_int, gt_int, ge_int, le_int, in_int, in_bl, evI, Int.reduceEq, Int.reduceLT, Int.reduceLE, isi_non_bool, isi_non_int, isi_non_str, isi_non_tuple, isi_non_is, is_non, isi_bl_bool, isi_bl_int, isi_bl_str, isi_bl_tuple, isi_bl_is, is_bl, isi_int_bool, isi_int_int, isi_int_str, isi_int_tuple, isi_int_is, is_int, isi_str_bool, isi_str_int, isi_str_str, isi_str_tuple, isi_str_is, is_str, isi_tup_bool, isi_tup_int, isi_tup_str, isi_tup_tuple, isi_tup_is, is_tup, isi_lst_bool, isi_lst_int, isi_lst_str, isi_lst_tuple, isi_lst_is, is_lst, isi_dct_bool, isi_dct_int, isi_dct_str, isi_dct_tuple, isi_dct_is, is_dct, gl_bool, gl_int, gl_str, gl_tuple, ↓reduceIte, sz0, sz1, sz2, sz3, sz4, sz5, sz6, sz7, sz8, sz9, sz10, List.zip_nil_left, List.zip_cons_cons, R_exc, bS_exc, eq_self, ne_str,  tl_cold, tl_C, gl_tl,  rx_bad, all_bls, gl_KINDS, tu_lst, len_lst, len_tup, rc_lst,  Bool.false_eq_true, Bool.not_true, Bool.not_false, c1, c2, c3, show decide (cpI f g1 ≤ 0) = true from decide_eq_true q1, show decide (cpI g1 g2 ≤ 0) = false from decide_eq_false q2, d0, d1, hop, hodd2]
          exact ⟨_, _, rfl, s5, rfl, by omega, by omega, _, _, _, _, _, _, _, _, rfl⟩
      · simp only [evSs, evS.eq_1, evS.eq_2, evS.eq_3, evS.eq_4, evS.eq_5, evS.eq_7, evS.eq_8, evS.eq_9, evS.eq_10, evE.eq_1, evE.eq_2, evE.eq_3, evE.eq_4, evE.eq_5, evE.eq_6, evE.eq_7, evE.eq_8, evE.eq_9, evE.eq_10, evE.eq_11, evE.eq_12, evE.eq_13, evE.eq_15, evE.eq_16, evE.eq_17, evE.eq_18, evE.eq_19, evE.eq_21, evE.eq_22, evE.eq_23, evL, evO, evC, R_ok, bS_ok, tk_cold, List.getElem?_cons_zero, List.getElem?_cons_succ, conD, List.set_cons_zero, List.set_cons_succ, Option.some.injEq, eq_int, ix_great, ix_rest, ix_turn, ix_cells, se_rest, se_turn, po_great, ne_great, ne_eq, reduceCtorEq, not_true_eq_false, not_false_eq_true, decide_true, decide_false, rc_great, le_st, it_lst, it_tup, ad_int, su_int, lt_int, gt_int, ge_int, le_int, in_int, in_bl, evI, Int.reduceEq, Int.reduceLT, Int.reduceLE, isi_non_bool, isi_non_int, isi_non_str, isi_non_tuple, isi_non_is, is_non, isi_bl_bool, isi_bl_int, isi_bl_str, isi_bl_tuple, isi_bl_is, is_bl, isi_int_bool, isi_int_int, isi_int_str, isi_int_tuple, isi_int_is, is_int, isi_str_bool, isi_str_int, isi_str_str, isi_str_tuple, isi_str_is, is_str, isi_tup_bool, isi_tup_int, isi_tup_str, isi_tup_tuple, isi_tup_is, is_tup, isi_lst_bool, isi_lst_int, isi_lst_str, isi_lst_tuple, isi_lst_is, is_lst, isi_dct_bool, isi_dct_int, isi_dct_str, isi_dct_tuple, isi_dct_is, is_dct, gl_bool, gl_int, gl_str, gl_tuple, ↓reduceIte, sz0, sz1, sz2, sz3, sz4, sz5, sz6, sz7, sz8, sz9, sz10, List.zip_nil_left, List.zip_cons_cons, R_exc, bS_exc, eq_self, ne_str,  tl_cold, tl_C, gl_tl,  rx_bad, all_bls, gl_KINDS, tu_lst, len_lst, len_tup, rc_lst,  Bool.false_eq_true, Bool.not_true, Bool.not_false, c1, c2, c3, show decide (cpI f g1 ≤ 0) = false from decide_eq_false q1, d0, d1, hop, hodd2]
        exact ⟨_, _, rfl, s5, rfl, by omega, by omega, _, _, _, _, _, _, _, _, rfl⟩) ⟨⟨g, 0, 0⟩, rfl, Int.le_refl _, (show (0 : Int) + 100 * ((6 : Nat) : Int) ≤ 600 by decide), none, none, none, none, none, none, none, none, rfl⟩
    obtain ⟨s, rfl, _, _, x2, x3, x4, x5, x6, x7, x8, x9, rfl⟩ := p
    simp only [evSs, evS.eq_1, evS.eq_2, evS.eq_3, evS.eq_4, evS.eq_5, evS.eq_7, evS.eq_8, evS.eq_9, evS.eq_10, evE.eq_1, evE.eq_2, evE.eq_3, evE.eq_4, evE.eq_5, evE.eq_6, evE.eq_7, evE.eq_8, evE.eq_9, evE.eq_10, evE.eq_11, evE.eq_12, evE.eq_13, evE.eq_15, evE.eq_16, evE.eq_17, evE.eq_18, evE.eq_19, evE.eq_21, evE.eq_22, evE.eq_23, evL, evO, evC, R_ok, bS_ok, tk_cold, List.getElem?_cons_zero, List.getElem?_cons_succ, conD, List.set_cons_zero, List.set_cons_succ, Option.some.injEq, eq_int, ix_great, ix_rest, ix_turn, ix_cells, se_rest, se_turn, po_great, ne_great, ne_eq, reduceCtorEq, not_true_eq_false, not_false_eq_true, decide_true, decide_false, rc_great, le_st, it_lst, it_tup, ad_int, su_int, lt_int, gt_int, ge_int, le_int, in_int, in_bl, evI, Int.reduceEq, Int.reduceLT, Int.reduceLE, isi_non_bool, isi_non_int, isi_non_str, isi_non_tuple, isi_non_is, is_non, isi_bl_bool, isi_bl_int, isi_bl_str, isi_bl_tuple, isi_bl_is, is_bl, isi_int_bool, isi_int_int, isi_int_str, isi_int_tuple, isi_int_is, is_int, isi_str_bool, isi_str_int, isi_str_str, isi_str_tuple, isi_str_is, is_str, isi_tup_bool, isi_tup_int, isi_tup_str, isi_tup_tuple, isi_tup_is, is_tup, isi_lst_bool, isi_lst_int, isi_lst_str, isi_lst_tuple, isi_lst_is, is_lst, isi_dct_bool, isi_dct_int, isi_dct_str, isi_dct_tuple, isi_dct_is, is_dct, gl_bool, gl_int, gl_str, gl_tuple, ↓reduceIte, sz0, sz1, sz2, sz3, sz4, sz5, sz6, sz7, sz8, sz9, sz10, List.zip_nil_left, List.zip_cons_cons, R_exc, bS_exc, eq_self, ne_str,  tl_cold, tl_C, gl_tl,  rx_bad, all_bls, gl_KINDS, tu_lst, len_lst, len_tup, rc_lst,  Bool.false_eq_true, Bool.not_true, Bool.not_false, ]
    exact ⟨_, rfl⟩
  obtain ⟨S', hS⟩ := key
  refine ⟨S'.take 0, C_succ (k := 59) (d := dlaw) rfl rfl (r_df (ds' := [.scr ns]) (S' := []) rfl rfl hS ?_)⟩
  show (if ((top 0 S' (.bl true)).closed 0 && (S'.take 0).all (O.closed 0)) = true then R.ok (top 0 S' (.bl true)) (S'.take 0) else R.ok (.bl true) S') = _
  rfl
end K01

set_option Elab.async false
set_option linter.all false
set_option maxRecDepth 100000
set_option maxHeartbeats 0
namespace K01
open PySem Fw
theorem plain : ∀ ns : List Int, ns.length ≤ 63 → (∀ z ∈ ns, Builtin.Int.intBits z ≤ 1048576) → ∃ S', (mk3 T.sta T.tb 60).1.C "law" [.scr ns] [] [] = .ok (.bl true) S' := fun ns hl _ => law_ok0 ns hl
end K01
open PySem PySem.W PySem.Calls PyProof.Rows
theorem PySem.Challenge.cw_calltakers_k01_values_ordered_holds : PySem.Challenge.rw_calltakers_k01_values_ordered.Holds := by
  w_on; o_law
  refine HandSHeadRun.head_any (r := K01.Rw) (q := view K01.Rw.prog [26]) (H := K01.hk) (ob := K01.ob) (M := 20000) (loose := ["__name__", "TakerError", "BadValue", "BadPattern", "BadCall", "KINDS", "is_value", "rank", "is_same", "need_value", "kind_of", "same", "compare", "_law_begun", "_law_mixed", "_law_take", "_law_pick", "_law_value", "_law_kind", "_law_rank", "_law_near", "_law_refused", "_law_pair_right", "_law_odd_right"]) (d := HandSHeadRun.topDef K01.Rw.prog 26) (kwd := []) K01.ob_eq
    (by kernel_rfl) (fun s => by kernel_rfl) K01.run (by kernel_rfl) (by kernel_rfl) (by kernel_rfl) (by rfl) (by first | assumption | decide +kernel) (by decide +kernel) ⟨rfl, rfl, rfl, rfl, rfl, by decide +kernel⟩ ?hw ?hc
  case hw => w_witness2
  case hc =>
    refine Fw.walk_fw (l := PySem.Challenge.rw_calltakers_k01_values_ordered) (n := 63) (k := 60) rfl (by decide) (by kernel_rfl) ⟨rfl, by decide, by decide⟩ ?F
    intro w mg fa h Y G hmg0
    obtain ⟨K, KX, c⟩ := Y
    have hmg : mg ("law" : PySem.Str) = some (.ref fa) := by
      have e : (HandSHeadRun.topDef K01.Rw.prog 26).name = ("law" : PySem.Str) := by kernel_rfl
      rw [← e]
      exact hmg0
    exact Fw.LawIn.law_ok K01.still K01.binds KX G c hmg (by decide +kernel) K01.plain

