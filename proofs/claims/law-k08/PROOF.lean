import PyProof.Rows.All
import HandS.ForMost
import HandS.Exc
import HandS.ExcOwn
import HandS.TryOnly
import HandS.Lambda
import KE.LtData
import KE.DataEq
import HandS.TupAny
import HandS.TupLe
import HandS.Style
import HandS.TupMul
import PyProof.ReprRoads
import KE.KExcSuper
import HandS.ExcInit
import HandS.ExcValue
import HandS.Nested
import HandS.ExcIs
import HandS.ExcField
import HandS.Comp
import HandS.IsInst
import HandS.WordsDict
import HandS.Iter
import HandS.Small
import HandS.EndBits
import HandS.EndTab
import HandS.Head0
import HandS.Head1
import HandS.Head2
import HandS.HeadEnd
import HandS.HeadHook1
import HandS.HeadHook2
import HandS.HeadHook3
import HandS.HeadHook4
import HandS.HeadWalk
import PyProof.ExcBaseAll.ValueError
import PySem.Challenge.RW_calltakers_k08_errors_apart
set_option Elab.async false
set_option linter.all false
set_option maxRecDepth 100000
set_option maxHeartbeats 1000000
namespace Fw
open PySem PySem.Spec PyProof.Rows L2

/-! data as the proofs see it: no addresses -/
inductive D where
  | non | bl (b : Bool) | int (i : Int) | str (x : Str) | ty (n : String)
  | glo (x : Str)
  | scr (ns : List Int)
  | ref (l : Nat)
  | tup (ds : List D) | lst (ds : List D)
  | dct (ks : List Key) (ds : List D)
  | obj (C : Str) (ks : List Str) (ds : List D)
  | err (C : Str) (ks : List Str) (ds : List D)
instance : Inhabited D := ⟨.non⟩
/-- a thing that may be changed, at a place of the store -/
inductive O where
  | lst (ds : List D)
  | dct (ks : List Key) (ds : List D)
  | ins (C : Str) (ks : List Str) (ds : List D)
abbrev Sto := List O
abbrev En := List (Option D)
structure Xc where
  C : Str
  ks : List Str
  ds : List D
inductive R (α : Type) where
  | ok (a : α) (S : Sto)
  | exc (x : Xc) (S : Sto)
  | bad
def R.bind {α β : Type} (r : R α) (k : α → Sto → R β) : R β := match r with
  | .ok a S => k a S
  | .exc x S => .exc x S
  | .bad => .bad

mutual
def D.closed (n : Nat) : D → Bool
  | .ref l => decide (l < n)
  | .tup ds => closedL n ds
  | .lst ds => closedL n ds
  | .dct _ ds => closedL n ds
  | .obj _ _ ds => closedL n ds
  | .err _ _ ds => closedL n ds
  | .non => true | .bl _ => true | .int _ => true | .str _ => true | .ty _ => true | .glo _ => true | .scr _ => true
def closedL (n : Nat) : List D → Bool
  | [] => true
  | d :: ds => d.closed n && closedL n ds
end
def O.closed (n : Nat) : O → Bool
  | .lst ds => closedL n ds
  | .dct _ ds => closedL n ds
  | .ins _ _ ds => closedL n ds

/-! how data lies in the heap -/
structure Wd where
  K : PySem.W.Frag
  mg : Str → Option Value
  T : List (Addr × Str)
/-- the tables of code objects that a text's closures ask for -/
class Tb where
  T : List (Addr × Str)
abbrev Rho := Nat → Addr
/-- not a place of the store -/
def Fz (n : Nat) (r : Rho) (a : Addr) : Prop := ∀ l, l < n → a ≠ r l
def KTup (K : PySem.W.Frag) (a : Addr) (xs : List V) : Prop :=
  ∃ (o : Obj) (its : Array Value) (n : Nat), K.lookup a = some o ∧ o.cls = .type "tuple" ∧ o.data = .seq its n ∧ its.size ≤ sizeLine ∧ Vals xs its.toList
def FT (K : PySem.W.Frag) (n : Nat) (r : Rho) (H : Hp) (a : Addr) (xs : List V) : Prop := (Rd H a (.tup xs) ∧ Fz n r a) ∨ KTup K a xs
def FL (n : Nat) (r : Rho) (H : Hp) (a : Addr) (xs : List V) : Prop := H a = some (.lst xs) ∧ Fz n r a
/-- the script: read alone -/
def FS (K : PySem.W.Frag) (n : Nat) (r : Rho) (H : Hp) (a : Addr) (xs : List V) : Prop := (Rd H a (.lst xs) ∧ Fz n r a) ∨
  ∃ (o : Obj) (its : Array Value) (n : Nat), K.lookup a = some o ∧ o.cls = .type "list" ∧ o.dict = none ∧ o.data = .seq its n ∧ its.size ≤ sizeLine ∧ Vals xs its.toList
theorem FS.sq {K : PySem.W.Frag} {n : Nat} {r : Rho} {H : Hp} {a : Addr} {xs : List V} (h : FS K n r H a xs) : SqL K H a xs := h.elim (fun q => .inl q.1) .inr
theorem FT.sq {K : PySem.W.Frag} {n : Nat} {r : Rho} {H : Hp} {a : Addr} {xs : List V} (h : FT K n r H a xs) : SqT K H a xs := h.elim (fun q => .inl q.1) .inr
theorem FL.sq {K : PySem.W.Frag} {n : Nat} {r : Rho} {H : Hp} {a : Addr} {xs : List V} (h : FL n r H a xs) : SqL K H a xs := .inl (.inl h.1)

/-- an exception that stands -/
def ErO (a : Addr) (cls : Value) (d : Option Addr) : HO := .ext fun h => ∃ (oe : Obj) (vs : Array Value), h.get? a = some oe ∧ Zc cls d oe ∧ oe.data = .fields vs
mutual
def Rep (W : Wd) (n : Nat) (r : Rho) (H : Hp) : D → V → Prop
  | .non, v => v = .non
  | .bl b, v => v = .bl b
  | .int i, v => v = .int i
  | .str x, v => v = .str x
  | .ty t, v => v = .ty t
  | .glo x, v => ∃ a, v = .ref a ∧ W.mg x = some (.ref a)
  | .scr ns, v => ∃ a, v = .ref a ∧ FS W.K n r H a (ns.map V.int)
  | .ref l, v => l < n ∧ v = .ref (r l)
  | .tup ds, v => ∃ a vs, v = .ref a ∧ FT W.K n r H a vs ∧ RepL W n r H ds vs
  | .lst ds, v => ∃ a vs, v = .ref a ∧ FL n r H a vs ∧ RepL W n r H ds vs
  | .dct ks ds, v => ∃ a kvs, v = .ref a ∧ H a = some (.dK kvs) ∧ Fz n r a ∧ kvs.map Prod.fst = ks ∧ RepL W n r H ds (kvs.map Prod.snd)
  | .obj C ks ds, v => ∃ a c dx fs, v = .ref a ∧ W.mg C = some (.ref c) ∧ H a = some (.ins c dx fs) ∧ Fz n r a ∧ fs.map Prod.fst = ks ∧ RepL W n r H ds (fs.map Prod.snd)
  | .err C ks ds, v => ∃ a c dd, v = .ref a ∧ W.mg C = some (.ref c) ∧ H a = some (ErO a (.ref c) dd) ∧ Fz n r a ∧ ((ks = [] ∧ ds = [] ∧ dd = none) ∨ ∃ d fs, dd = some d ∧ H d = some (.xd fs) ∧ Fz n r d ∧ fs.map Prod.fst = ks ∧ RepL W n r H ds (fs.map Prod.snd) ∧ ks ≠ [])
def RepL (W : Wd) (n : Nat) (r : Rho) (H : Hp) : List D → List V → Prop
  | [], vs => vs = []
  | d :: ds, vs => ∃ v q, vs = v :: q ∧ Rep W n r H d v ∧ RepL W n r H ds q
end
def ORep (W : Wd) (n : Nat) (r : Rho) (H : Hp) (a : Addr) : O → Prop
  | .lst ds => ∃ vs, H a = some (.lst vs) ∧ RepL W n r H ds vs
  | .dct ks ds => ∃ kvs, H a = some (.dK kvs) ∧ kvs.map Prod.fst = ks ∧ RepL W n r H ds (kvs.map Prod.snd)
  | .ins C ks ds => ∃ c dx fs, W.mg C = some (.ref c) ∧ H a = some (.ins c dx fs) ∧ fs.map Prod.fst = ks ∧ RepL W n r H ds (fs.map Prod.snd)
structure Emb (W : Wd) (S : Sto) (r : Rho) (H : Hp) : Prop where
  inj : ∀ l l', l < S.length → l' < S.length → r l = r l' → l = l'
  at_ : ∀ l o, S[l]? = some o → ORep W S.length r H (r l) o
  tabs : LamX.Tabs W.T H
def RepE (W : Wd) (n : Nat) (r : Rho) (H : Hp) (s : En) (t : L2.St) : Prop :=
  s.length = t.length ∧ ∀ (i : Nat) d, s[i]? = some (some d) → ∃ v, t[i]? = some (some v) ∧ Rep W n r H d v
def XRep (W : Wd) (n : Nat) (r : Rho) (H : Hp) (x : Xc) (cls : Value) (dd : Option Addr) : Prop :=
  ∃ c, W.mg x.C = some (.ref c) ∧ cls = .ref c ∧ ((x.ks = [] ∧ dd = none) ∨ ∃ d fs, dd = some d ∧ H d = some (.xd fs) ∧ Fz n r d ∧ fs.map Prod.fst = x.ks ∧ RepL W n r H x.ds (fs.map Prod.snd) ∧ x.ks ≠ [])

/-! one state behind another -/
structure Stp (n : Nat) (r : Rho) (H : Hp) (n' : Nat) (r' : Rho) (H' : Hp) : Prop where
  le : n ≤ n'
  eq : ∀ l, l < n → r' l = r l
  fz : ∀ a o, H a = some o → Fz n r a → (∀ ps, o ≠ .tbl ps) → H' a = some o ∧ Fz n' r' a
theorem Stp.refl (n : Nat) (r : Rho) (H : Hp) : Stp n r H n r H := ⟨Nat.le_refl _, fun _ _ => rfl, fun _ _ h f _ => ⟨h, f⟩⟩
theorem Stp.trans {n n1 n2 : Nat} {r r1 r2 : Rho} {H H1 H2 : Hp} (a : Stp n r H n1 r1 H1) (b : Stp n1 r1 H1 n2 r2 H2) : Stp n r H n2 r2 H2 :=
  ⟨Nat.le_trans a.le b.le, fun l h => (b.eq l (Nat.lt_of_lt_of_le h a.le)).trans (a.eq l h), fun c o h f t => let ⟨h1, f1⟩ := a.fz c o h f t; b.fz c o h1 f1 t⟩
section
variable {W : Wd} {n n' : Nat} {r r' : Rho} {H H' : Hp}
theorem Stp.rd (s : Stp n r H n' r' H') {a : Addr} {u : HO} (h : Rd H a u) (f : Fz n r a) (t : ∀ ps, u ≠ .tbl ps) : Rd H' a u ∧ Fz n' r' a := by
  rcases h with h | ⟨o, h⟩
  · exact ⟨.inl (s.fz a _ h f t).1, (s.fz a _ h f t).2⟩
  · have q := s.fz a _ h f (fun ps e => by cases e)
    exact ⟨.inr ⟨o, q.1⟩, q.2⟩
mutual
theorem Rep.stp (s : Stp n r H n' r' H') : ∀ (d : D) (v : V), Rep W n r H d v → Rep W n' r' H' d v
  | .non, _, h => by unfold Rep at *; exact h
  | .bl _, _, h => by unfold Rep at *; exact h
  | .int _, _, h => by unfold Rep at *; exact h
  | .str _, _, h => by unfold Rep at *; exact h
  | .ty _, _, h => by unfold Rep at *; exact h
  | .glo _, _, h => by unfold Rep at *; exact h
  | .scr ns, _, h => by
    unfold Rep at *
    obtain ⟨a, e, f⟩ := h
    refine ⟨a, e, ?_⟩
    rcases f with ⟨f1, f2⟩ | f
    · exact .inl (s.rd f1 f2 fun ps e => by cases e)
    · exact .inr f
  | .ref l, _, h => by
    unfold Rep at *
    exact ⟨Nat.lt_of_lt_of_le h.1 s.le, by rw [s.eq l h.1]; exact h.2⟩
  | .tup ds, _, h => by
    unfold Rep at *
    obtain ⟨a, vs, e, f, q⟩ := h
    refine ⟨a, vs, e, ?_, RepL.stp s ds vs q⟩
    rcases f with ⟨f1, f2⟩ | f
    · exact .inl (s.rd f1 f2 fun ps e => by cases e)
    · exact .inr f
  | .lst ds, _, h => by
    unfold Rep at *
    obtain ⟨a, vs, e, f, q⟩ := h
    exact ⟨a, vs, e, s.fz a _ f.1 f.2 (fun ps e => by cases e), RepL.stp s ds vs q⟩
  | .dct ks ds, _, h => by
    unfold Rep at *
    obtain ⟨a, kvs, e, f1, f2, k, q⟩ := h
    have z := s.fz a _ f1 f2 fun ps e => by cases e
    exact ⟨a, kvs, e, z.1, z.2, k, RepL.stp s ds _ q⟩
  | .obj C ks ds, _, h => by
    unfold Rep at *
    obtain ⟨a, c, dx, fs, e, m, f1, f2, k, q⟩ := h
    have z := s.fz a _ f1 f2 fun ps e => by cases e
    exact ⟨a, c, dx, fs, e, m, z.1, z.2, k, RepL.stp s ds _ q⟩
  | .err C ks ds, _, h => by
    unfold Rep at *
    obtain ⟨a, c, dd, e, m, f1, f2, q⟩ := h
    have z := s.fz a _ f1 f2 fun ps e => by cases (show HO.ext _ = HO.tbl ps from e)
    refine ⟨a, c, dd, e, m, z.1, z.2, ?_⟩
    rcases q with q | ⟨d, fs, e1, g1, g2, g3, g4, g5⟩
    · exact .inl q
    · have z := s.fz d _ g1 g2 fun ps e => by cases e
      exact .inr ⟨d, fs, e1, z.1, z.2, g3, RepL.stp s ds _ g4, g5⟩
theorem RepL.stp (s : Stp n r H n' r' H') : ∀ (ds : List D) (vs : List V), RepL W n r H ds vs → RepL W n' r' H' ds vs
  | [], _, h => by unfold RepL at *; exact h
  | d :: ds, _, h => by
    unfold RepL at *
    obtain ⟨v, q, e, h1, h2⟩ := h
    exact ⟨v, q, e, Rep.stp s d v h1, RepL.stp s ds q h2⟩
end
theorem RepE.stp (s : Stp n r H n' r' H') {e : En} {t : L2.St} (h : RepE W n r H e t) : RepE W n' r' H' e t :=
  ⟨h.1, fun i d q => let ⟨v, a, b⟩ := h.2 i d q; ⟨v, a, Rep.stp s d v b⟩⟩
theorem XRep.stp (s : Stp n r H n' r' H') {x : Xc} {cls : Value} {dd : Option Addr} (h : XRep W n r H x cls dd) : XRep W n' r' H' x cls dd := by
  obtain ⟨c, h1, h2, h3⟩ := h
  refine ⟨c, h1, h2, ?_⟩
  rcases h3 with h3 | ⟨d, fs, e, h4, h5, h6, h7, h8⟩
  · exact .inl h3
  · have z := s.fz d _ h4 h5 fun ps e => by cases e
    exact .inr ⟨d, fs, e, z.1, z.2, h6, RepL.stp s _ _ h7, h8⟩

theorem RepL.length : ∀ {ds : List D} {vs : List V}, RepL W n r H ds vs → vs.length = ds.length
  | [], _, h => by unfold RepL at h; rw [h]; rfl
  | d :: ds, _, h => by
    unfold RepL at h
    obtain ⟨v, q, e, _, h2⟩ := h
    rw [e, List.length_cons, List.length_cons, RepL.length h2]
theorem RepL.get : ∀ {ds : List D} {vs : List V} {i : Nat} {d : D}, RepL W n r H ds vs → ds[i]? = some d → ∃ v, vs[i]? = some v ∧ Rep W n r H d v
  | [], _, _, _, _, e => by simp at e
  | d :: ds, _, 0, _, h, e => by
    unfold RepL at h
    obtain ⟨v, q, e1, h1, _⟩ := h
    simp at e
    subst e e1
    exact ⟨v, rfl, h1⟩
  | d :: ds, _, i + 1, _, h, e => by
    unfold RepL at h
    obtain ⟨v, q, e1, _, h2⟩ := h
    subst e1
    obtain ⟨u, a, b⟩ := RepL.get (i := i) h2 (by simpa using e)
    exact ⟨u, by simpa using a, b⟩
theorem RepL.append : ∀ {ds es : List D} {vs us : List V}, RepL W n r H ds vs → RepL W n r H es us → RepL W n r H (ds ++ es) (vs ++ us)
  | [], _, _, _, h, g => by unfold RepL at h; rw [h]; exact g
  | d :: ds, _, _, _, h, g => by
    unfold RepL at h
    obtain ⟨v, q, e1, h1, h2⟩ := h
    rw [e1, List.cons_append, List.cons_append, RepL]
    exact ⟨v, _, rfl, h1, RepL.append h2 g⟩
theorem RepL.take : ∀ {ds : List D} {vs : List V} (k : Nat), RepL W n r H ds vs → RepL W n r H (ds.take k) (vs.take k)
  | _, _, 0, _ => by simp [RepL]
  | [], _, k + 1, h => by unfold RepL at h; rw [h]; simp [RepL]
  | d :: ds, _, k + 1, h => by
    unfold RepL at h
    obtain ⟨v, q, e1, h1, h2⟩ := h
    rw [e1, List.take_succ_cons, List.take_succ_cons, RepL]
    exact ⟨v, _, rfl, h1, RepL.take k h2⟩
theorem RepL.drop : ∀ {ds : List D} {vs : List V} (k : Nat), RepL W n r H ds vs → RepL W n r H (ds.drop k) (vs.drop k)
  | _, _, 0, h => h
  | [], _, k + 1, h => by unfold RepL at h; rw [h]; simp [RepL]
  | d :: ds, _, k + 1, h => by
    unfold RepL at h
    obtain ⟨v, q, e1, h1, h2⟩ := h
    rw [e1]
    exact RepL.drop k h2
theorem RepL.one {d : D} {v : V} (h : Rep W n r H d v) : RepL W n r H [d] [v] := by
  rw [RepL]
  exact ⟨v, [], rfl, h, by rw [RepL]⟩
theorem RepL.cons {d : D} {v : V} {ds : List D} {vs : List V} (h : Rep W n r H d v) (t : RepL W n r H ds vs) : RepL W n r H (d :: ds) (v :: vs) := by
  rw [RepL]
  exact ⟨v, vs, rfl, h, t⟩
theorem RepL.nil : RepL W n r H [] [] := by rw [RepL]
theorem RepL.set : ∀ {ds : List D} {vs : List V} {d : D} {v : V} (i : Nat), RepL W n r H ds vs → Rep W n r H d v → RepL W n r H (ds.set i d) (vs.set i v)
  | [], _, _, _, _, h, _ => by unfold RepL at h; rw [h]; simp [RepL]
  | e :: ds, _, _, _, 0, h, g => by
    unfold RepL at h
    obtain ⟨v, q, e1, _, h2⟩ := h
    rw [e1]
    exact RepL.cons g h2
  | e :: ds, _, _, _, i + 1, h, g => by
    unfold RepL at h
    obtain ⟨v, q, e1, h1, h2⟩ := h
    rw [e1]
    exact RepL.cons h1 (RepL.set i h2 g)
theorem RepE.set {e : En} {t : L2.St} {d : D} {v : V} (h : RepE W n r H e t) (i : Nat) (g : Rep W n r H d v) : RepE W n r H (e.set i (some d)) (t.set i (some v)) := by
  refine ⟨by simpa using h.1, fun j d' q => ?_⟩
  by_cases hj : i = j
  · subst hj
    by_cases hl : i < e.length
    · rw [List.getElem?_set_self hl] at q
      have q' := Option.some.inj (Option.some.inj q)
      subst q'
      exact ⟨v, by rw [List.getElem?_set_self (by rw [← h.1]; exact hl)], g⟩
    · rw [List.getElem?_eq_none (by simpa using hl)] at q
      cases q
  · rw [List.getElem?_set_ne hj] at q
    obtain ⟨u, a, b⟩ := h.2 j d' q
    exact ⟨u, by rw [List.getElem?_set_ne hj]; exact a, b⟩
theorem RepE.get {e : En} {t : L2.St} (h : RepE W n r H e t) {i : Nat} {d : D} (q : e[i]? = some (some d)) : ∃ v, t[i]? = some (some v) ∧ Rep W n r H d v := h.2 i d q

/-! what an end leaves, for every way in which it can lie -/
def Out {α : Type} (W : Wd) (n : Nat) (r : Rho) (H : Hp) (G : α → Sto → Rho → Hp → Prop) (X : Xc → Sto → Rho → Hp → Prop) : R α → Prop
  | .ok a S' => ∀ r' H', Stp n r H S'.length r' H' → Emb W S' r' H' → G a S' r' H'
  | .exc x S' => ∀ r' H', Stp n r H S'.length r' H' → Emb W S' r' H' → X x S' r' H'
  | .bad => False
theorem Out.bind {α β : Type} {G : β → Sto → Rho → Hp → Prop} {X : Xc → Sto → Rho → Hp → Prop} {x : R α} {k : α → Sto → R β} (h : Out W n r H G X (x.bind k)) :
    Out W n r H (fun a S1 r1 H1 => Out W S1.length r1 H1 G X (k a S1)) X x := by
  cases x with
  | ok a S' =>
    intro r' H' s e
    have h' : Out W n r H G X (k a S') := h
    generalize k a S' = y at *
    cases y with
    | ok b S2 => exact fun r2 H2 s2 e2 => h' r2 H2 (s.trans s2) e2
    | exc x S2 => exact fun r2 H2 s2 e2 => h' r2 H2 (s.trans s2) e2
    | bad => exact h'
  | exc x S' => exact h
  | bad => exact h
theorem Out.imp {α : Type} {G G' : α → Sto → Rho → Hp → Prop} {X X' : Xc → Sto → Rho → Hp → Prop} {x : R α} (h : Out W n r H G X x)
    (g : ∀ a S' r' H', Stp n r H S'.length r' H' → Emb W S' r' H' → G a S' r' H' → G' a S' r' H') (k : ∀ a S' r' H', Stp n r H S'.length r' H' → Emb W S' r' H' → X a S' r' H' → X' a S' r' H') : Out W n r H G' X' x := by
  cases x with
  | ok a S' => exact fun r' H' s e => g a S' r' H' s e (h r' H' s e)
  | exc x S' => exact fun r' H' s e => k x S' r' H' s e (h r' H' s e)
  | bad => exact h
end

/-! the heap grows by a thing that is no place of the store -/
theorem fz_new {n : Nat} {r : Rho} {H : Hp} {W : Wd} {S : Sto} (e : Emb W S r H) {p : Addr} (hp : H p = none) : Fz S.length r p := fun l hl q => by
  have h := e.at_ l S[l] (by rw [List.getElem?_eq_getElem hl])
  rw [← q] at h
  cases o : S[l] with
  | lst ds => rw [o] at h; obtain ⟨_, h, _⟩ := h; rw [hp] at h; cases h
  | dct ks ds => rw [o] at h; obtain ⟨_, h, _⟩ := h; rw [hp] at h; cases h
  | ins C ks ds => rw [o] at h; obtain ⟨_, _, _, _, h, _⟩ := h; rw [hp] at h; cases h
theorem stp_new {n : Nat} {r : Rho} {H : Hp} {p : Addr} {o : HO} (hp : H p = none) : Stp n r H n r (upd H p o) :=
  ⟨Nat.le_refl _, fun _ _ => rfl, fun a o' h f _ => ⟨by rw [upd_ne (ne_of_none h hp)]; exact h, f⟩⟩
theorem ORep.stp {W : Wd} {n n' : Nat} {r r' : Rho} {H H' : Hp} {a : Addr} (s : Stp n r H n' r' H') : ∀ {o : O}, ORep W n r H a o → (∀ u, H a = some u → H' a = some u) → ORep W n' r' H' a o
  | .lst _, ⟨vs, h, q⟩, k => ⟨vs, k _ h, RepL.stp s _ _ q⟩
  | .dct _ _, ⟨kvs, h, e, q⟩, k => ⟨kvs, k _ h, e, RepL.stp s _ _ q⟩
  | .ins _ _ _, ⟨c, dx, fs, m, h, e, q⟩, k => ⟨c, dx, fs, m, k _ h, e, RepL.stp s _ _ q⟩
theorem tabs_new {T : List (Addr × Str)} {H : Hp} {p : Addr} {o : HO} (t : LamX.Tabs T H) (hp : H p = none) : LamX.Tabs T (upd H p o) := t.ext fun b u h => by rw [upd_ne (ne_of_none h hp)]; exact h
def Tame (o : HO) : Prop := (∀ ps, o ≠ .tbl ps) ∧ ∀ φ, o ≠ .ext φ
theorem tabs_set {T : List (Addr × Str)} {H : Hp} {a : Addr} {o u : HO} (t : LamX.Tabs T H) (ha : H a = some o) (k : Tame o) : LamX.Tabs T (upd H a u) := by
  intro p hp
  obtain ⟨ps, h1, h2, h3⟩ := t p hp
  have n1 : p.1 ≠ a := fun z => by
    rw [z, ha] at h1
    exact k.1 _ (Option.some.inj h1)
  refine ⟨ps, by rw [upd_ne n1]; exact h1, h2, fun pos cv hc => ?_⟩
  obtain ⟨c, e1, e2⟩ := h3 pos cv hc
  refine ⟨c, e1, ?_⟩
  have n2 : c ≠ a := fun z => by
    rw [z, ha] at e2
    exact k.2 _ (Option.some.inj e2)
  rw [upd_ne n2]
  exact e2
theorem orep_tame {W : Wd} {n : Nat} {r : Rho} {H : Hp} {a : Addr} : ∀ {o : O}, ORep W n r H a o → ∃ u, H a = some u ∧ Tame u
  | .lst _, ⟨vs, h, q⟩ => ⟨_, h, fun _ z => (by cases z), fun _ z => (by cases z)⟩
  | .dct _ _, ⟨kvs, h, _, q⟩ => ⟨_, h, fun _ z => (by cases z), fun _ z => (by cases z)⟩
  | .ins _ _ _, ⟨c, dx, fs, _, h, _, q⟩ => ⟨_, h, fun _ z => (by cases z), fun _ z => (by cases z)⟩
theorem emb_new {W : Wd} {S : Sto} {r : Rho} {H : Hp} {p : Addr} {o : HO} (e : Emb W S r H) (hp : H p = none) : Emb W S r (upd H p o) :=
  ⟨e.inj, fun l q h => (e.at_ l q h).stp (stp_new hp) fun u hu => by rw [upd_ne (ne_of_none hu hp)]; exact hu, tabs_new e.tabs hp⟩
/-- .. by a new place of the store -/
def rput (r : Rho) (n : Nat) (p : Addr) : Rho := fun l => if l = n then p else r l
theorem rput_old {r : Rho} {n l : Nat} {p : Addr} (h : l < n) : rput r n p l = r l := if_neg (Nat.ne_of_lt h)
theorem rput_new {r : Rho} {n : Nat} {p : Addr} : rput r n p n = p := if_pos rfl
theorem stp_put {n : Nat} {r : Rho} {H : Hp} {p : Addr} {o : HO} (hp : H p = none) : Stp n r H (n + 1) (rput r n p) (upd H p o) :=
  ⟨Nat.le_succ _, fun l h => rput_old h, fun a o' h f _ => ⟨by rw [upd_ne (ne_of_none h hp)]; exact h, fun l hl => by
    by_cases q : l = n
    · subst q; rw [rput_new]; exact ne_of_none h hp
    · rw [rput_old (by omega)]; exact f l (by omega)⟩⟩
theorem emb_put {W : Wd} {S : Sto} {r : Rho} {H : Hp} {p : Addr} {u : HO} {o : O} (e : Emb W S r H) (hp : H p = none) (ho : ORep W (S.length + 1) (rput r S.length p) (upd H p u) p o) : Emb W (S ++ [o]) (rput r S.length p) (upd H p u) := by
  have fz := fz_new (n := S.length) e hp
  refine ⟨fun l l' h1 h2 q => ?_, fun l o' h => ?_, tabs_new e.tabs hp⟩
  · rw [List.length_append, List.length_singleton] at h1 h2
    by_cases e1 : l = S.length
    · by_cases e2 : l' = S.length
      · rw [e1, e2]
      · rw [e1, rput_new, rput_old (by omega)] at q
        exact absurd q (fz l' (by omega))
    · by_cases e2 : l' = S.length
      · rw [e2, rput_new, rput_old (by omega)] at q
        exact absurd q.symm (fz l (by omega))
      · rw [rput_old (by omega), rput_old (by omega)] at q
        exact e.inj l l' (by omega) (by omega) q
  · rw [List.length_append, List.length_singleton]
    by_cases hl : l < S.length
    · rw [List.getElem?_append_left hl] at h
      rw [rput_old hl]
      exact (e.at_ l o' h).stp (stp_put hp) fun u hu => by rw [upd_ne (ne_of_none hu hp)]; exact hu
    · have e1 : l = S.length := by
        have h2 := (List.getElem?_eq_some_iff.mp h).1
        rw [List.length_append, List.length_singleton] at h2
        omega
      subst e1
      rw [List.getElem?_append_right (Nat.le_refl _), Nat.sub_self] at h
      have e2 : o = o' := by simpa using h
      subst e2
      rw [rput_new]
      exact ho
/-- .. a place of the store is changed -/
theorem stp_set {W : Wd} {S : Sto} {r : Rho} {H : Hp} {l : Nat} {u : HO} (hl : l < S.length) : Stp S.length r H S.length r (upd H (r l) u) :=
  ⟨Nat.le_refl _, fun _ _ => rfl, fun a o h f _ => ⟨by rw [upd_ne (f l hl)]; exact h, f⟩⟩
theorem emb_set {W : Wd} {S : Sto} {r : Rho} {H : Hp} {l : Nat} {u : HO} {o : O} (e : Emb W S r H) (hl : l < S.length) (ho : ORep W S.length r (upd H (r l) u) (r l) o) : Emb W (S.set l o) r (upd H (r l) u) := by
  obtain ⟨u0, t1, t2⟩ := orep_tame (e.at_ l _ (List.getElem?_eq_getElem hl))
  refine ⟨fun a b h1 h2 q => e.inj a b (by simpa using h1) (by simpa using h2) q, fun a o' h => ?_, tabs_set e.tabs t1 t2⟩
  rw [List.length_set]
  by_cases q : l = a
  · subst q
    rw [List.getElem?_set_self hl] at h
    cases h
    exact ho
  · rw [List.getElem?_set_ne q] at h
    have ha : a < S.length := (List.getElem?_eq_some_iff.mp h).1
    exact (e.at_ a o' h).stp (stp_set (W := W) hl) fun u hu => by rw [upd_ne (fun z => q (e.inj _ _ hl ha z.symm))]; exact hu
end Fw

set_option Elab.async false
set_option linter.all false
set_option maxRecDepth 100000
set_option maxHeartbeats 4000000
/-! tuples and lists by their first different items, where the items behind may be of any kinds -/
namespace Fw
open PySem PySem.SeqAt PySem.PyData
open AutoSeq1 (wpAny_loadPart')
open MeetsSeq MeetsSeq2 MeetsSeq3 SeqRoads2
abbrev SeqO (c : String) (d : Option Addr) (xs : Array Value) (n : Nat) (q : Array (Option Value)) : Obj := { cls := .type c, dict := d, data := .seq xs n, slots := q }
/-- what the order of two rows of items leans on: only the first difference is asked -/
def LtIt (A : Around) (s : Shared) (us vs : Array Value) (e r : Nat → Bool) : Prop :=
  (∀ (j : Nat) (p : j < us.size) (q : j < vs.size), EqAt A.in1 s us[j] vs[j] (e j)) ∧
  ∀ (j : Nat) (p : j < us.size) (q : j < vs.size), (∀ i, i < j → e i = true) → e j = false → RcLt A.in1 s us[j] vs[j] (r j)
def ltRes (us vs : Array Value) (e r : Nat → Bool) : Bool := firstLt e r (decide (us.size < vs.size)) (List.range (min us.size vs.size))
theorem ltT_at (l b : Addr) (us vs : Array Value) (n m : Nat) (d1 d2 : Option Addr) (q1 q2 : Array (Option Value)) (e r : Nat → Bool) :
    Meets (Builtin.«tuple.__lt__» ⟨[.ref l, .ref b], []⟩)
      (fun A R s => s.heap.get? l = some (SeqO "tuple" d1 us n q1) ∧ s.heap.get? b = some (SeqO "tuple" d2 vs m q2) ∧ LtIt A s us vs e r ∧ R (.ok (.ret (.bool (ltRes us vs e r)))) s) :=
  .of_wp fun prog w A R s h => by
    obtain ⟨hp, g, d, tk, os⟩ := s
    obtain ⟨hl, hb, ⟨he, hr⟩, h⟩ := h
    have tt := AutoSeq1.sub_tuple_tuple
    have zl : (us.toList.zip vs.toList).length = min us.size vs.size := by simp
    unfold ltRes at h
    wp_walk using wpAny_loadPart' hl, wpAny_loadPart' hb, wpAny_forIn_list _ (fun more c s' => c.1 = Option.none ∧ s' = ⟨hp, g, d, tk, os⟩ ∧ ∃ i, more = (us.toList.zip vs.toList).drop i ∧ (∀ i', i' < i → e i' = true) ∧
      R (.ok (.ret (.bool (firstLt e r (decide (us.size < vs.size)) ((List.range (min us.size vs.size)).drop i))))) ⟨hp, g, d, tk, os⟩) _
    case turn =>
      rintro ⟨y, x⟩ more c s' ⟨hc, rfl, i, hz, ha, hR⟩
      have lt0 : i < (us.toList.zip vs.toList).length := by
        rcases Nat.lt_or_ge i (us.toList.zip vs.toList).length with q | q
        · exact q
        · rw [List.drop_of_length_le q] at hz
          cases hz
      have lm : i < min us.size vs.size := zl ▸ lt0
      have l1 : i < us.size := Nat.lt_of_lt_of_le lm (Nat.min_le_left _ _)
      have l2 : i < vs.size := Nat.lt_of_lt_of_le lm (Nat.min_le_right _ _)
      rw [List.drop_eq_getElem_cons lt0] at hz
      injection hz with zyx zr
      have ey : y = us[i] := by
        have := congrArg Prod.fst zyx
        simpa using this
      have ex : x = vs[i] := by
        have := congrArg Prod.snd zyx
        simpa using this
      subst ey ex
      have dr : (List.range (min us.size vs.size)).drop i = i :: (List.range (min us.size vs.size)).drop (i + 1) := by simp [List.drop_eq_getElem_cons, lm]
      rw [dr] at hR
      refine wpAny_bind (he i l1 l2 prog w _ _ ?_)
      cases hy : e i with
      | true =>
        rw [firstLt_yes hy] at hR
        wp_walk
        refine ⟨rfl, rfl, i + 1, zr, fun j hj => ?_, hR⟩
        by_cases ej : j = i
        · rw [ej, hy]
        · exact ha j (by omega)
      | false =>
        rw [firstLt_no hy] at hR
        have hrr := fun E Q q => hr i l1 l2 ha hy prog w E Q q
        repeat (first | with_reducible refine wpAny_bind (hrr _ _ ?_) | wp_step)
        exact ⟨_, rfl, hR⟩
    case fin =>
      rintro ⟨c1, c2⟩ s' ⟨hc, rfl, i, hz, ha, hR⟩
      simp only at hc
      subst hc
      have ge : min us.size vs.size ≤ i := by
        rcases Nat.lt_or_ge i (us.toList.zip vs.toList).length with q | q
        · rw [List.drop_eq_getElem_cons q] at hz
          cases hz
        · exact zl ▸ q
      rw [List.drop_of_length_le (by simpa using ge)] at hR
      wp_walk
      exact ⟨_, rfl, by simpa [Builtin.Tuple.tupleCompareSizes, firstLt] using hR⟩
    case h => exact ⟨rfl, rfl, 0, rfl, fun _ q => absurd q (Nat.not_lt_zero _), by simpa using h⟩

theorem ltL_loop (l b : Addr) (us vs : Array Value) (n m : Nat) (d1 d2 : Option Addr) (q1 q2 : Array (Option Value)) (e r : Nat → Bool) (k : Nat) :
    ∀ i : Nat, min us.size vs.size - i = k → (∀ i', i' < i → e i' = true) → Meets (Builtin.«list.__eq__.loop» ⟨[.ref l, .ref b, rawInt i, rawInt 0], []⟩)
      (fun A R s => s.heap.get? l = some (SeqO "list" d1 us n q1) ∧ s.heap.get? b = some (SeqO "list" d2 vs m q2) ∧ LtIt A s us vs e r ∧
        R (.ok (.ret (.bool (firstLt e r (decide (us.size < vs.size)) ((List.range (min us.size vs.size)).drop i))))) s) := by
  induction k with
  | zero =>
    intro i hk ha prog w A R s h
    obtain ⟨hp, g, d, tk, os⟩ := s
    obtain ⟨hl, hb, hi, h⟩ := h
    have dr : (List.range (min us.size vs.size)).drop i = [] := by
      simp
      omega
    rw [dr] at h
    wp_walk using wpAny_loadPart' hl, wpAny_loadPart' hb
    by_cases p : us.size ≤ i
    · have n1 : us[((i : Nat) : Int).toNat]? = Option.none := by
        simp
        omega
      rw [n1]
      wp_walk using wpAny_loadPart' hl, wpAny_loadPart' hb
      exact h
    · have lt0 : i < us.size := by omega
      have s1 : us[((i : Nat) : Int).toNat]? = some us[i] := by simp [lt0]
      have n2 : vs[((i : Nat) : Int).toNat]? = Option.none := by
        simp
        omega
      rw [s1, n2]
      wp_walk using wpAny_loadPart' hl, wpAny_loadPart' hb
      exact h
  | succ k ih =>
    intro i hk ha prog w A R s h
    obtain ⟨hp, g, d, tk, os⟩ := s
    obtain ⟨hl, hb, ⟨he, hr⟩, h⟩ := h
    wp_walk using wpAny_loadPart' hl, wpAny_loadPart' hb
    have lm : i < min us.size vs.size := by omega
    have l1 : i < us.size := Nat.lt_of_lt_of_le lm (Nat.min_le_left _ _)
    have l2 : i < vs.size := Nat.lt_of_lt_of_le lm (Nat.min_le_right _ _)
    have s1 : us[((i : Nat) : Int).toNat]? = some us[i] := by simp [l1]
    have s2 : vs[((i : Nat) : Int).toNat]? = some vs[i] := by simp [l2]
    have dr : (List.range (min us.size vs.size)).drop i = i :: (List.range (min us.size vs.size)).drop (i + 1) := by simp [List.drop_eq_getElem_cons, lm]
    have ec : ((i : Int) + 1) = ((i + 1 : Nat) : Int) := by
      push_cast
      rfl
    rw [dr] at h
    rw [s1, s2]
    refine wpAny_bind (he i l1 l2 prog w _ _ ?_)
    cases hy : e i with
    | true =>
      rw [firstLt_yes hy] at h
      wp_walk
      rw [ec]
      have ha' : ∀ i', i' < i + 1 → e i' = true := fun j hj => by
        by_cases ej : j = i
        · rw [ej, hy]
        · exact ha j (by omega)
      refine ⟨plainId_quiet plain_eq_loop _, codeAny_builtin entry_eq_loop ?_⟩
      rw [Around.under_plainId plain_eq_loop _]
      exact ih (i + 1) (by omega) ha' prog w A R _ ⟨hl, hb, ⟨he, hr⟩, h⟩
    | false =>
      rw [firstLt_no hy] at h
      wp_walk using wpAny_loadPart' hl, wpAny_loadPart' hb
      rw [s1, s2]
      have hrr := fun E Q q => hr i l1 l2 ha hy prog w E Q q
      repeat (first | with_reducible refine wpAny_bind (hrr _ _ ?_) | wp_step)
      exact h
theorem ltL_at (l b : Addr) (us vs : Array Value) (n m : Nat) (d1 d2 : Option Addr) (q1 q2 : Array (Option Value)) (e r : Nat → Bool) :
    Meets (Builtin.«list.__lt__» ⟨[.ref l, .ref b], []⟩)
      (fun A R s => s.heap.get? l = some (SeqO "list" d1 us n q1) ∧ s.heap.get? b = some (SeqO "list" d2 vs m q2) ∧ LtIt A s us vs e r ∧ R (.ok (.ret (.bool (ltRes us vs e r)))) s) := by
  intro prog w A R s h
  obtain ⟨hp, g, d, tk, os⟩ := s
  obtain ⟨hl, hb, hi, h⟩ := h
  have tt := AutoSeq1.sub_list_list
  wp_walk using wpAny_loadPart' hl, wpAny_loadPart' hb
  refine ⟨plainId_quiet plain_eq_loop _, codeAny_builtin entry_eq_loop ?_⟩
  rw [Around.under_plainId plain_eq_loop _]
  exact ltL_loop l b us vs n m d1 d2 q1 q2 e r _ 0 rfl (fun _ q => absurd q (Nat.not_lt_zero _)) prog w A R _ ⟨hl, hb, hi, by simpa [ltRes] using h⟩

theorem lt_tups {A : Around} {s : Shared} {l b : Addr} {us vs : Array Value} {e r : Nat → Bool} (hl : s.heap.IsTuple l us) (hb : s.heap.IsTuple b vs) (hu : A.units < cLine) (hi : LtIt A s us vs e r) :
    RcLt A s (.ref l) (.ref b) (ltRes us vs e r) := fun prog w E Q h => by
  obtain ⟨⟨c1, d1, t1, q1⟩, ho, hc, n, hd⟩ := id hl
  obtain ⟨⟨c2, d2, t2, q2⟩, ho2, hc2, m, hd2⟩ := id hb
  simp only at hc hd hc2 hd2
  subst hc hd hc2 hd2
  refine richCompare_meets_room (op := .Lt) ⟨_, ho, rfl⟩ ⟨_, ho2, rfl⟩ F.slot_tuple_lt F.entry_tuple_lt (F.args_tuple_lt_2 _ _) (ltT_at l b us vs n m d1 d2 q1 q2 e r) ⟨ho, ho2, hi, ?_⟩ hu
  show Value.bool (ltRes us vs e r) ≠ Value.notImplemented ∧ Q (.bool (ltRes us vs e r)) s
  exact ⟨(fun x => nomatch x), h⟩
theorem lt_lsts {A : Around} {s : Shared} {l b : Addr} {us vs : Array Value} {e r : Nat → Bool} (hl : s.heap.IsList l us) (hb : s.heap.IsList b vs) (hu : A.units < cLine) (hi : LtIt A s us vs e r) :
    RcLt A s (.ref l) (.ref b) (ltRes us vs e r) := fun prog w E Q h => by
  obtain ⟨⟨c1, d1, t1, q1⟩, ho, hc, n, hd⟩ := id hl
  obtain ⟨⟨c2, d2, t2, q2⟩, ho2, hc2, m, hd2⟩ := id hb
  simp only at hc hd hc2 hd2
  subst hc hd hc2 hd2
  refine richCompare_meets_room (op := .Lt) ⟨_, ho, rfl⟩ ⟨_, ho2, rfl⟩ F.slot_list_lt F.entry_list_lt (F.args_list_lt_2 _ _) (ltL_at l b us vs n m d1 d2 q1 q2 e r) ⟨ho, ho2, hi, ?_⟩ hu
  show Value.bool (ltRes us vs e r) ≠ Value.notImplemented ∧ Q (.bool (ltRes us vs e r)) s
  exact ⟨(fun x => nomatch x), h⟩

mutual
/-- a < b, where Python has an answer -/
def ltP : PyData → PyData → Option Bool
  | .int a, .int b => some (decide (a < b))
  | .bool a, .bool b => some (decide (PyProof.Rows.b2i a < PyProof.Rows.b2i b))
  | .str a, .str b => some (decide (a.cps.toList < b.cps.toList))
  | .tuple xs, .tuple ys => ltPL xs ys
  | .list xs, .list ys => ltPL xs ys
  | _, _ => none
def ltPL : List PyData → List PyData → Option Bool
  | [], [] => some false
  | [], _ :: _ => some true
  | _ :: _, [] => some false
  | x :: xs, y :: ys => if eqv x y = true then ltPL xs ys else ltP x y
end
theorem firstLt_ltPL {r : Nat → Bool} : ∀ (xs ys : List PyData) (o : Nat) {e : Nat → Bool} {k : Bool}, ltPL xs ys = some k → (∀ j, j < min xs.length ys.length → e (o + j) = pairEq xs ys j) →
    (∀ j, j < min xs.length ys.length → (∀ i, i < j → pairEq xs ys i = true) → pairEq xs ys j = false → ltP (xs.getD j .none) (ys.getD j .none) = some (r (o + j))) →
    firstLt e r (decide (xs.length < ys.length)) ((List.range (min xs.length ys.length)).map (o + ·)) = k
  | [], [], o, e, k, h, _, _ => by
    rw [ltPL] at h
    cases h
    rfl
  | [], y :: ys, o, e, k, h, _, _ => by
    rw [ltPL] at h
    cases h
    simp [firstLt]
  | x :: xs, [], o, e, k, h, _, _ => by
    rw [ltPL] at h
    cases h
    simp [firstLt]
  | x :: xs, y :: ys, o, e, k, h, he, hr => by
    rw [ltPL] at h
    have em : min (x :: xs).length (y :: ys).length = min xs.length ys.length + 1 := by
      simp only [List.length_cons]
      omega
    have ed : decide ((x :: xs).length < (y :: ys).length) = decide (xs.length < ys.length) := by simp
    rw [em, ed, List.range_succ_eq_map, List.map_cons, List.map_map]
    have e0 := he 0 (by omega)
    have p0 : pairEq (x :: xs) (y :: ys) 0 = eqv x y := rfl
    rw [p0] at e0
    by_cases c : eqv x y = true
    · rw [if_pos c] at h
      rw [firstLt_yes (by rw [e0, c])]
      have ih := firstLt_ltPL xs ys (o + 1) (e := e) h (fun j hj => by
        have z := he (j + 1) (by omega)
        rw [show o + 1 + j = o + (j + 1) by omega, z]
        rfl) (fun j hj ha hn => by
        have z := hr (j + 1) (by omega) (fun i hi => by
          cases i with
          | zero => exact c
          | succ i => exact ha i (by omega)) hn
        rw [show o + 1 + j = o + (j + 1) by omega]
        exact z)
      have ef : (List.range (min xs.length ys.length)).map ((fun x => o + x) ∘ Nat.succ) = (List.range (min xs.length ys.length)).map (fun x => o + 1 + x) := by
        apply List.map_congr_left
        intro a _
        show o + (a + 1) = o + 1 + a
        omega
      rw [ef]
      exact ih
    · have c' : eqv x y = false := by simpa using c
      rw [if_neg c] at h
      rw [firstLt_no (by rw [e0, c'])]
      have z := hr 0 (by omega) (fun i hi => absurd hi (Nat.not_lt_zero _)) c'
      have z' : ltP x y = some (r (o + 0)) := z
      rw [h] at z'
      exact (Option.some.inj z').symm
mutual
theorem lt_reads : ∀ (da db : PyData) (k : Bool) (A : Around) (s : Shared) (a b : Value) (as bs : List Addr), Reads s.heap a da as → Reads s.heap b db bs → da.plain = true → db.plain = true → ltP da db = some k →
    A.units + min da.depth db.depth < cLine → RcLt A s a b k
  | .none, db, k, _, _, _, _, _, _, _, _, _, _, h, _ => by cases db <;> cases h
  | .dict _, db, k, _, _, _, _, _, _, _, _, _, _, h, _ => by cases db <;> cases h
  | .bool x, db, k, A, s, a, b, as, bs, ra, rb, _, _, h, _ => by
    cases db with
    | bool y =>
      cases ra
      cases rb
      rw [ltP] at h
      intro prog w E Q q
      rw [← Option.some.inj h] at q
      exact PyProof.Rows.lt_bool q
    | _ => cases h
  | .int x, db, k, A, s, a, b, as, bs, ra, rb, _, _, h, _ => by
    cases db with
    | int y =>
      cases ra
      cases rb
      rw [ltP] at h
      intro prog w E Q q
      rw [← Option.some.inj h] at q
      exact P.lt_int q
    | _ => cases h
  | .str x, db, k, A, s, a, b, as, bs, ra, rb, _, _, h, _ => by
    cases db with
    | str y =>
      cases ra
      cases rb
      rw [ltP] at h
      intro prog w E Q q
      rw [← Option.some.inj h] at q
      exact P.lt_str q
    | _ => cases h
  | .tuple xs, db, k, A, s, a, b, as, bs, ra, rb, pa, pb, h, hu => by
    cases db with
    | tuple ys =>
      rw [ltP] at h
      cases ra with
      | @tuple l o us n _ as1 h1 h2 h3 h4 =>
        cases rb with
        | @tuple l' o' vs n' _ bs1 k1 k2 k3 k4 =>
          obtain ⟨r, hr, e⟩ := lt_readsAll xs ys k A.in1 s us.toList vs.toList as bs h4 k4 pa pb h (room_in hu)
          have sz1 : us.size = xs.length := by simpa using ReadsAll.length _ _ _ h4
          have sz2 : vs.size = ys.length := by simpa using ReadsAll.length _ _ _ k4
          have z := lt_tups (e := pairEq xs ys) (r := r) (A := A) ⟨_, h1, h2, _, h3⟩ ⟨_, k1, k2, _, k3⟩ (room_here hu) ⟨fun j p q => by
            have t := eqAt_plainAll xs ys A.in1 s us.toList vs.toList _ _ h4 k4 pa pb (room_in hu) j (by simpa using p) (by simpa using q)
            simpa using t, fun j p q ha hn => by
            have t := hr j (by simpa using p) (by simpa using q) ha hn
            simpa using t⟩
          unfold ltRes at z
          rw [sz1, sz2] at z
          rw [e] at z
          exact z
    | _ => cases h
  | .list xs, db, k, A, s, a, b, as, bs, ra, rb, pa, pb, h, hu => by
    cases db with
    | list ys =>
      rw [ltP] at h
      cases ra with
      | @list l o us n _ as1 h1 h2 h3 h4 =>
        cases rb with
        | @list l' o' vs n' _ bs1 k1 k2 k3 k4 =>
          obtain ⟨r, hr, e⟩ := lt_readsAll xs ys k A.in1 s us.toList vs.toList _ _ h4 k4 pa pb h (room_in hu)
          have sz1 : us.size = xs.length := by simpa using ReadsAll.length _ _ _ h4
          have sz2 : vs.size = ys.length := by simpa using ReadsAll.length _ _ _ k4
          have z := lt_lsts (e := pairEq xs ys) (r := r) (A := A) ⟨_, h1, h2, _, h3⟩ ⟨_, k1, k2, _, k3⟩ (room_here hu) ⟨fun j p q => by
            have t := eqAt_plainAll xs ys A.in1 s us.toList vs.toList _ _ h4 k4 pa pb (room_in hu) j (by simpa using p) (by simpa using q)
            simpa using t, fun j p q ha hn => by
            have t := hr j (by simpa using p) (by simpa using q) ha hn
            simpa using t⟩
          unfold ltRes at z
          rw [sz1, sz2] at z
          rw [e] at z
          exact z
    | _ => cases h
theorem lt_readsAll : ∀ (xs ys : List PyData) (k : Bool) (A : Around) (s : Shared) (us vs : List Value) (as bs : List Addr), ReadsAll s.heap us xs as → ReadsAll s.heap vs ys bs → plainAll xs = true → plainAll ys = true → ltPL xs ys = some k →
    A.units + min (depthAll xs) (depthAll ys) < cLine →
    ∃ r : Nat → Bool, (∀ j (p : j < us.length) (q : j < vs.length), (∀ i, i < j → pairEq xs ys i = true) → pairEq xs ys j = false → RcLt A s us[j] vs[j] (r j)) ∧
      firstLt (pairEq xs ys) r (decide (xs.length < ys.length)) (List.range (min xs.length ys.length)) = k
  | [], [], k, A, s, _, _, _, _, ra, rb, _, _, h, _ => by
    rw [ltPL] at h
    cases h
    cases ra
    exact ⟨fun _ => false, fun j p => absurd p (Nat.not_lt_zero _), rfl⟩
  | [], y :: ys, k, A, s, _, _, _, _, ra, rb, _, _, h, _ => by
    rw [ltPL] at h
    cases h
    cases ra
    exact ⟨fun _ => false, fun j p => absurd p (Nat.not_lt_zero _), by simp [firstLt]⟩
  | x :: xs, [], k, A, s, _, _, _, _, ra, rb, _, _, h, _ => by
    rw [ltPL] at h
    cases h
    cases rb
    exact ⟨fun _ => false, fun j p q => absurd q (Nat.not_lt_zero _), by simp [firstLt]⟩
  | x :: xs, y :: ys, k, A, s, _, _, _, _, ra, rb, pa, pb, h, hu => by
    rw [ltPL] at h
    cases ra with
    | cons r0 rs =>
      cases rb with
      | cons r0' rs' =>
        have px : plain x = true ∧ plainAll xs = true := by simpa [plainAll] using pa
        have py : plain y = true ∧ plainAll ys = true := by simpa [plainAll] using pb
        by_cases c : eqv x y = true
        · rw [if_pos c] at h
          obtain ⟨r, hr, e⟩ := lt_readsAll xs ys k A s _ _ _ _ rs rs' px.2 py.2 h (room_tail hu)
          refine ⟨fun j => r (j - 1), fun j p q ha hn => ?_, ?_⟩
          · cases j with
            | zero =>
              have hn' : eqv x y = false := hn
              rw [c] at hn'
              cases hn'
            | succ j =>
              exact hr j (Nat.lt_of_succ_lt_succ p) (Nat.lt_of_succ_lt_succ q) (fun i hi => ha (i + 1) (by omega)) hn
          · have em : min (x :: xs).length (y :: ys).length = min xs.length ys.length + 1 := by
              simp only [List.length_cons]
              omega
            have ed : decide ((x :: xs).length < (y :: ys).length) = decide (xs.length < ys.length) := by simp
            rw [em, ed, List.range_succ_eq_map, firstLt_yes (show pairEq (x :: xs) (y :: ys) 0 = true from c), ← e]
            rw [W.firstLt_map]
            rfl
        · have c' : eqv x y = false := by simpa using c
          rw [if_neg c] at h
          refine ⟨fun _ => k, fun j p q ha hn => ?_, ?_⟩
          · cases j with
            | zero => exact lt_reads x y k A s _ _ _ _ r0 r0' px.1 py.1 h (room_head hu)
            | succ j =>
              have z : eqv x y = true := ha 0 (by omega)
              rw [c'] at z
              cases z
          · have em : min (x :: xs).length (y :: ys).length = min xs.length ys.length + 1 := by
              simp only [List.length_cons]
              omega
            rw [em, List.range_succ_eq_map, firstLt_no (show pairEq (x :: xs) (y :: ys) 0 = false from c')]
end
end Fw

set_option Elab.async false
set_option linter.all false
set_option maxRecDepth 100000
set_option maxHeartbeats 2000000
namespace Fw
open PySem PySem.Spec PyProof.Rows L2

/-- what stands at a place, if it is a list or a dict, in its stead -/
def flat (S : Sto) : D → D
  | .ref l => match S[l]? with
    | some (.lst ds) => .lst ds
    | some (.dct ks ds) => .dct ks ds
    | _ => .ref l
  | d => d
mutual
def toPy : D → Option PyData
  | .non => some .none
  | .bl b => some (.bool b)
  | .int i => some (.int i)
  | .str x => some (.str x)
  | .tup ds => (toPyL ds).map PyData.tuple
  | .lst ds => (toPyL ds).map PyData.list
  | .ty _ => none | .glo _ => none | .scr _ => none | .ref _ => none | .dct _ _ => none | .obj _ _ _ => none | .err _ _ _ => none
def toPyL : List D → Option (List PyData)
  | [] => some []
  | d :: ds => (toPy d).bind fun p => (toPyL ds).map fun q => p :: q
end
/-- as Rep, but a list or a dict may be a place's -/
def RepF (W : Wd) (n : Nat) (r : Rho) (H : Hp) : D → V → Prop
  | .lst ds, v => ∃ a vs, v = .ref a ∧ H a = some (.lst vs) ∧ RepL W n r H ds vs
  | .dct ks ds, v => ∃ a kvs, v = .ref a ∧ H a = some (.dK kvs) ∧ kvs.map Prod.fst = ks ∧ RepL W n r H ds (kvs.map Prod.snd)
  | d, v => Rep W n r H d v
theorem Rep.toF {W : Wd} {n : Nat} {r : Rho} {H : Hp} : ∀ {d : D} {v : V}, Rep W n r H d v → RepF W n r H d v
  | .lst ds, _, h => by
    rw [Rep] at h
    obtain ⟨a, vs, e, f, q⟩ := h
    exact ⟨a, vs, e, f.1, q⟩
  | .dct ks ds, _, h => by
    rw [Rep] at h
    obtain ⟨a, kvs, e, f, _, k, q⟩ := h
    exact ⟨a, kvs, e, f, k, q⟩
  | .non, _, h => h | .bl _, _, h => h | .int _, _, h => h | .str _, _, h => h | .ty _, _, h => h | .glo _, _, h => h
  | .scr _, _, h => h | .ref _, _, h => h | .tup _, _, h => h | .obj _ _ _, _, h => h | .err _ _ _, _, h => h
theorem flat_ok {W : Wd} {S : Sto} {r : Rho} {H : Hp} {d : D} {v : V} (e : Emb W S r H) (h : Rep W S.length r H d v) : RepF W S.length r H (flat S d) v := by
  cases d with
  | ref l =>
    have h0 := h
    rw [Rep] at h
    obtain ⟨hl, ev⟩ := h
    show RepF W S.length r H (match S[l]? with
      | some (.lst ds) => .lst ds
      | some (.dct ks ds) => .dct ks ds
      | _ => .ref l) v
    cases q : S[l]? with
    | none => exact h0
    | some o =>
      have z := e.at_ l o q
      cases o with
      | lst ds =>
        obtain ⟨vs, z1, z2⟩ := z
        exact ⟨_, vs, ev, z1, z2⟩
      | dct ks ds =>
        obtain ⟨kvs, z1, z2, z3⟩ := z
        exact ⟨_, kvs, ev, z1, z2, z3⟩
      | ins C ks ds => exact h0
  | _ => exact h.toF
section
variable {W : Wd} {n : Nat} {r : Rho} {H : Hp}
mutual
theorem dp_of : ∀ (d : D) (v : V) (p : PyData), Rep W n r H d v → toPy d = some p → Dp W.K H v p
  | .non, _, _, h, e => by
    rw [Rep] at h
    rw [toPy] at e
    cases e
    rw [h]
    exact .non
  | .bl b, _, _, h, e => by
    rw [Rep] at h
    rw [toPy] at e
    cases e
    rw [h]
    exact .bl b
  | .int b, _, _, h, e => by
    rw [Rep] at h
    rw [toPy] at e
    cases e
    rw [h]
    exact .int b
  | .str b, _, _, h, e => by
    rw [Rep] at h
    rw [toPy] at e
    cases e
    rw [h]
    exact .str b
  | .tup ds, _, _, h, e => by
    rw [Rep] at h
    obtain ⟨a, vs, ev, f, q⟩ := h
    rw [toPy, Option.map_eq_some_iff] at e
    obtain ⟨ps, e1, e2⟩ := e
    rw [ev, ← e2]
    exact .tup f.sq (dpL_of ds vs ps q e1)
  | .lst ds, _, _, h, e => by
    rw [Rep] at h
    obtain ⟨a, vs, ev, f, q⟩ := h
    rw [toPy, Option.map_eq_some_iff] at e
    obtain ⟨ps, e1, e2⟩ := e
    rw [ev, ← e2]
    exact .lst f.sq (dpL_of ds vs ps q e1)
  | .ty _, _, _, _, e => by rw [toPy] at e; cases e
  | .glo _, _, _, _, e => by rw [toPy] at e; cases e
  | .scr _, _, _, _, e => by rw [toPy] at e; cases e
  | .ref _, _, _, _, e => by rw [toPy] at e; cases e
  | .dct _ _, _, _, _, e => by rw [toPy] at e; cases e
  | .obj _ _ _, _, _, _, e => by rw [toPy] at e; cases e
  | .err _ _ _, _, _, _, e => by rw [toPy] at e; cases e
theorem dpL_of : ∀ (ds : List D) (vs : List V) (ps : List PyData), RepL W n r H ds vs → toPyL ds = some ps → DpAll W.K H vs ps
  | [], _, _, h, e => by
    rw [RepL] at h
    rw [toPyL] at e
    cases e
    rw [h]
    exact .nil
  | d :: ds, _, _, h, e => by
    rw [RepL] at h
    obtain ⟨v, q, ev, h1, h2⟩ := h
    rw [toPyL, Option.bind_eq_some_iff] at e
    obtain ⟨p, e1, e2⟩ := e
    rw [Option.map_eq_some_iff] at e2
    obtain ⟨ps, e3, e4⟩ := e2
    rw [ev, ← e4]
    exact .cons (dp_of d v p h1 e1) (dpL_of ds q ps h2 e3)
end
theorem dpF_of : ∀ {d : D} {v : V} {p : PyData}, RepF W n r H d v → toPy d = some p → Dp W.K H v p
  | .lst ds, _, _, ⟨a, vs, ev, f, q⟩, e => by
    rw [toPy, Option.map_eq_some_iff] at e
    obtain ⟨ps, e1, e2⟩ := e
    rw [ev, ← e2]
    exact .lst (.inl (.inl f)) (dpL_of ds vs ps q e1)
  | .dct _ _, _, _, _, e => by rw [toPy] at e; cases e
  | .non, v, p, h, e => dp_of _ v p h e | .bl _, v, p, h, e => dp_of _ v p h e | .int _, v, p, h, e => dp_of _ v p h e
  | .str _, v, p, h, e => dp_of _ v p h e | .ty _, v, p, h, e => dp_of _ v p h e | .glo _, v, p, h, e => dp_of _ v p h e
  | .scr _, v, p, h, e => dp_of _ v p h e | .ref _, v, p, h, e => dp_of _ v p h e | .tup _, v, p, h, e => dp_of _ v p h e | .obj _ _ _, v, p, h, e => dp_of _ v p h e | .err _ _ _, v, p, h, e => dp_of _ v p h e
end
mutual
theorem toPy_plain : ∀ (d : D) (p : PyData), toPy d = some p → p.plain = true
  | .non, _, e => by rw [toPy] at e; cases e; rfl
  | .bl _, _, e => by rw [toPy] at e; cases e; rfl
  | .int _, _, e => by rw [toPy] at e; cases e; rfl
  | .str _, _, e => by rw [toPy] at e; cases e; rfl
  | .tup ds, _, e => by
    rw [toPy, Option.map_eq_some_iff] at e
    obtain ⟨ps, e1, e2⟩ := e
    rw [← e2, PyData.plain]
    exact toPyL_plain ds ps e1
  | .lst ds, _, e => by
    rw [toPy, Option.map_eq_some_iff] at e
    obtain ⟨ps, e1, e2⟩ := e
    rw [← e2, PyData.plain]
    exact toPyL_plain ds ps e1
  | .ty _, _, e => by rw [toPy] at e; cases e
  | .glo _, _, e => by rw [toPy] at e; cases e
  | .scr _, _, e => by rw [toPy] at e; cases e
  | .ref _, _, e => by rw [toPy] at e; cases e
  | .dct _ _, _, e => by rw [toPy] at e; cases e
  | .obj _ _ _, _, e => by rw [toPy] at e; cases e
  | .err _ _ _, _, e => by rw [toPy] at e; cases e
theorem toPyL_plain : ∀ (ds : List D) (ps : List PyData), toPyL ds = some ps → PyData.plainAll ps = true
  | [], _, e => by rw [toPyL] at e; cases e; rfl
  | d :: ds, _, e => by
    rw [toPyL, Option.bind_eq_some_iff] at e
    obtain ⟨p, e1, e2⟩ := e
    rw [Option.map_eq_some_iff] at e2
    obtain ⟨ps, e3, e4⟩ := e2
    rw [← e4, PyData.plainAll, toPy_plain d p e1, toPyL_plain ds ps e3]
    rfl
end

/-! operators -/
def smallF (i : Int) : Bool := decide (-(2 ^ 64) < i) && decide (i < 2 ^ 64)
def bin1 : Operator → D → D → Sto → R D
  | .Add, .int i, .int j, S => .ok (.int (i + j)) S
  | .Add, .str x, .str y, S => if x.length + y.length ≤ sizeLine then .ok (.str (x ++ y)) S else .bad
  | .Add, .tup a, .tup b, S => if a.length + b.length ≤ sizeLine then .ok (.tup (a ++ b)) S else .bad
  | .Add, .lst a, .lst b, S => if a.length + b.length ≤ sizeLine then .ok (.lst (a ++ b)) S else .bad
  | .Sub, .int i, .int j, S => .ok (.int (i - j)) S
  | .Mult, .int i, .int j, S => if (smallF i || smallF j) = true then .ok (.int (i * j)) S else .bad
  | .Mult, .lst a, .int k, S => if -1000 ≤ k ∧ k ≤ 1000 ∧ a.length ≤ 1000 then .ok (.lst (List.replicate k.toNat a).flatten) S else .bad
  | .FloorDiv, .int i, .int j, S => if 0 < j ∧ j < 1073741824 then .ok (.int (i / j)) S else .bad
  | .Mod, .int i, .int j, S => if 0 < j then .ok (.int (i % j)) S else .bad
  | .Pow, .int i, .int j, S => if 0 ≤ j ∧ j ≤ 1000 ∧ smallF i = true then .ok (.int (i ^ j.toNat)) S else .bad
  | _, _, _, _ => .bad
def binD (o : Operator) (x y : D) (S : Sto) : R D := bin1 o (flat S x) (flat S y) S
def eqD (x y : D) : Option Bool := (toPy x).bind fun p => (toPy y).bind fun q => if min p.depth q.depth ≤ 60 then some (PyData.eqv p q) else none
def ltD (x y : D) : Option Bool := (toPy x).bind fun p => (toPy y).bind fun q => if min p.depth q.depth ≤ 60 then ltP p q else none
def keyD : D → Option Key
  | .int i => some (.inl i)
  | .str x => some (.inr x)
  | _ => none
def dgetD : List Key → List D → Key → Option D
  | k :: ks, d :: ds, q => if k = q then some d else dgetD ks ds q
  | _, _, _ => none
def inD (x y : D) : Option Bool := match y with
  | .lst ds => (toPy x).bind fun p => (toPyL ds).bind fun qs => if p.depth ≤ 60 then some (qs.any fun q => PyData.eqv q p) else none
  | .tup ds => (toPy x).bind fun p => (toPyL ds).bind fun qs => if p.depth ≤ 60 then some (qs.any fun q => PyData.eqv q p) else none
  | .dct ks ds => (keyD x).map fun k => (dgetD ks ds k).isSome
  | .str z => (match x with
    | .str w => if w.cps.size = 1 then some (decide (w.cps.getD 0 0 ∈ z.cps.toList)) else none
    | _ => none)
  | _ => none
def isD (x y : D) : Option Bool := match x, y with
  | .non, .non => some true
  | .bl a, .bl b => some (decide (a = b))
  | .bl _, .non => some false | .int _, .non => some false | .str _, .non => some false | .tup _, .non => some false | .lst _, .non => some false
  | .dct _ _, .non => some false | .obj _ _ _, .non => some false | .ref _, .non => some false | .glo _, .non => some false
  | _, _ => none
def cmp1 (o : CmpOp) (x y : D) : Option Bool := match o with
  | .Eq => eqD x y
  | .NotEq => (eqD x y).map not
  | .Lt => ltD x y
  | .LtE => (match x, y with
    | .int i, .int j => some (decide (i ≤ j))
    | _, _ => none)
  | .Gt => (match x, y with
    | .int i, .int j => some (decide (j < i))
    | _, _ => none)
  | .GtE => (match x, y with
    | .int i, .int j => some (decide (j ≤ i))
    | _, _ => none)
  | .Is => isD x y
  | .IsNot => (isD x y).map not
  | .In => inD x y
  | .NotIn => (inD x y).map not
def cmpD (o : CmpOp) (x y : D) (S : Sto) : R D := match cmp1 o (flat S x) (flat S y) with
  | some b => .ok (.bl b) S
  | none => .bad
end Fw

set_option Elab.async false
set_option linter.all false
set_option maxRecDepth 100000
set_option maxHeartbeats 2000000
namespace Fw
open PySem PySem.Spec PyProof.Rows L2
variable [Tb]
abbrev Wo (X : Cx) : Wd := ⟨X.K, X.mg, Tb.T⟩
/-- units enough -/
def RU (k : Nat) (A : Around) : Prop := A.units + 16 * k + 200 < cLine
/-- the wish, told by data -/
abbrev Gv (X : Cx) (Q : VK) : D → Sto → Rho → Hp → Prop := fun d S r H => ∀ v, Rep (Wo X) S.length r H d v → Q v H
abbrev Xn : Xc → Sto → Rho → Hp → Prop := fun _ _ _ _ => False
def rD2 (X : Cx) (f : D → D → Sto → R D) : R2 := fun x y H Q => ∃ E S r dx dy, Emb (Wo X) S r H ∧ Rep (Wo X) S.length r H dx x ∧ Rep (Wo X) S.length r H dy y ∧ Out (Wo X) S.length r H (Gv X Q) E (f dx dy S)
section
variable {X : Cx} {S : Sto} {r : Rho} {H : Hp} {Q : VK} {E : Xc → Sto → Rho → Hp → Prop}
theorem out_same {α : Type} {W : Wd} {a : α} {G : α → Sto → Rho → Hp → Prop} (e : Emb W S r H) (h : Out W S.length r H G E (.ok a S)) : G a S r H := h r H (Stp.refl _ _ _) e
theorem out_v {d : D} {v : V} (e : Emb (Wo X) S r H) (h : Out (Wo X) S.length r H (Gv X Q) E (.ok d S)) (g : Rep (Wo X) S.length r H d v) : Q v H := out_same e h v g
theorem out_tup {ds : List D} {vs : List V} {p : Addr} (e : Emb (Wo X) S r H) (h : Out (Wo X) S.length r H (Gv X Q) E (.ok (.tup ds) S)) (g : RepL (Wo X) S.length r H ds vs) (hp : H p = none) : Q (.ref p) (upd H p (.tup vs)) := by
  refine h r _ (stp_new hp) (emb_new e hp) _ ?_
  rw [Rep]
  exact ⟨p, vs, rfl, .inl ⟨.inl upd_same, fz_new (n := S.length) e hp⟩, RepL.stp (stp_new hp) ds vs g⟩
theorem out_lst {ds : List D} {vs : List V} {p : Addr} (e : Emb (Wo X) S r H) (h : Out (Wo X) S.length r H (Gv X Q) E (.ok (.lst ds) S)) (g : RepL (Wo X) S.length r H ds vs) (hp : H p = none) : Q (.ref p) (upd H p (.lst vs)) := by
  refine h r _ (stp_new hp) (emb_new e hp) _ ?_
  rw [Rep]
  exact ⟨p, vs, rfl, ⟨upd_same, fz_new (n := S.length) e hp⟩, RepL.stp (stp_new hp) ds vs g⟩
end
theorem RepL.nil_iff {W : Wd} {n : Nat} {r : Rho} {H : Hp} {ds : List D} {vs : List V} (h : RepL W n r H ds vs) : vs = [] ↔ ds = [] := by
  cases ds with
  | nil => rw [RepL] at h; simp [h]
  | cons d ds =>
    rw [RepL] at h
    obtain ⟨v, q, e, _⟩ := h
    simp [e]
theorem RepL.rep {W : Wd} {n : Nat} {r : Rho} {H : Hp} {ds : List D} {vs : List V} (h : RepL W n r H ds vs) : ∀ k : Nat, RepL W n r H (List.replicate k ds).flatten (List.replicate k vs).flatten
  | 0 => RepL.nil
  | k + 1 => by
    rw [List.replicate_succ, List.flatten_cons, List.replicate_succ, List.flatten_cons]
    exact RepL.append h (RepL.rep h k)
theorem smallF_iff {i : Int} (h : smallF i = true) : -(2 ^ 64) < i ∧ i < 2 ^ 64 := by
  unfold smallF at h
  simpa using h
theorem bin_ok {X : Cx} {k : Nat} (hr : RU k X.A) (o : Operator) : OpR X (binaryOp o) (rD2 X (binD o)) := by
  intro pins s σ H x y v u Q I rx ry ⟨E0, S, r, dx, dy, e, hx, hy, h⟩
  unfold binD at h
  have fx := flat_ok e hx
  have fy := flat_ok e hy
  generalize flat S dx = cx at fx h
  generalize flat S dy = cy at fy h
  unfold bin1 at h
  split at h
  · simp only [RepF, Rep] at fx fy
    subst fx fy
    exact op_add pins s σ H _ _ v u Q I rx ry ⟨_, _, rfl, rfl, out_v e h (by rw [Rep])⟩
  · simp only [RepF, Rep] at fx fy
    subst fx fy
    split at h
    · rename_i hz
      exact op_add_str pins s σ H _ _ v u Q I rx ry ⟨_, _, rfl, rfl, hz, out_v e h (by rw [Rep])⟩
    · exact h.elim
  · rename_i as bs
    simp only [RepF, Rep] at fx fy
    obtain ⟨a, vs, rfl, f1, g1⟩ := fx
    obtain ⟨b, ws, rfl, f2, g2⟩ := fy
    split at h
    · rename_i hz
      refine op_catA pins s σ H _ _ v u Q I rx ry ⟨a, b, vs, ws, rfl, rfl, f1.sq, f2.sq, by rw [g1.length, g2.length]; exact hz, fun q => ?_, fun q1 q2 => ?_, fun q1 q2 p hp => ?_⟩
      · have e1 := g1.nil_iff.mp q
        subst e1
        refine out_v e h ?_
        rw [Rep]
        exact ⟨b, ws, rfl, f2, by simpa using g2⟩
      · have e1 := g2.nil_iff.mp q2
        subst e1
        refine out_v e h ?_
        rw [Rep]
        exact ⟨a, vs, rfl, f1, by simpa using g1⟩
      · exact out_tup e h (RepL.append g1 g2) hp
    · exact h.elim
  · rename_i as bs
    obtain ⟨a, vs, rfl, f1, g1⟩ := fx
    obtain ⟨b, ws, rfl, f2, g2⟩ := fy
    split at h
    · rename_i hz
      refine op_cat pins s σ H _ _ v u Q I rx ry ⟨a, b, vs, ws, rfl, rfl, f1, f2, by rw [g1.length, g2.length]; exact hz, fun p hp => ?_⟩
      exact out_lst e h (RepL.append g1 g2) hp
    · exact h.elim
  · simp only [RepF, Rep] at fx fy
    subst fx fy
    exact op_sub pins s σ H _ _ v u Q I rx ry ⟨_, _, rfl, rfl, out_v e h (by rw [Rep])⟩
  · simp only [RepF, Rep] at fx fy
    subst fx fy
    split at h
    · rename_i hz
      rw [Bool.or_eq_true] at hz
      exact op_mul pins s σ H _ _ v u Q I rx ry ⟨_, _, rfl, rfl, hz.elim (fun z => .inl (smallF_iff z)) (fun z => .inr (smallF_iff z)), out_v e h (by rw [Rep])⟩
    · exact h.elim
  · rename_i as kk
    obtain ⟨a, vs, rfl, f1, g1⟩ := fx
    simp only [RepF, Rep] at fy
    subst fy
    split at h
    · rename_i hz
      obtain ⟨z1, z2, z3⟩ := hz
      have hl := g1.length
      refine op_rep pins s σ H _ _ v u Q I rx ry ⟨a, kk, vs, rfl, rfl, f1, by omega, by omega, ?_, fun p hp => ?_⟩
      · have q1 : vs.length * kk.toNat ≤ 1000 * 1000 := Nat.mul_le_mul (by omega) (by omega)
        have q2 : (1000 * 1000 : Nat) ≤ sizeLine := by decide
        exact Nat.le_trans q1 q2
      · exact out_lst e h (g1.rep _) hp
    · exact h.elim
  · simp only [RepF, Rep] at fx fy
    subst fx fy
    split at h
    · rename_i hz
      exact op_fdiv pins s σ H _ _ v u Q I rx ry ⟨_, _, rfl, rfl, hz, out_v e h (by rw [Rep])⟩
    · exact h.elim
  · simp only [RepF, Rep] at fx fy
    subst fx fy
    split at h
    · rename_i hz
      exact op_mod pins s σ H _ _ v u Q I rx ry ⟨_, _, rfl, rfl, hz, out_v e h (by rw [Rep])⟩
    · exact h.elim
  · rename_i i j
    simp only [RepF, Rep] at fx fy
    subst fx fy
    split at h
    · rename_i hz
      obtain ⟨z1, z2, z3⟩ := hz
      have zz := smallF_iff z3
      exact op_pow pins s σ H _ _ v u Q I rx ry ⟨_, _, rfl, rfl, ⟨z1, by omega, by omega⟩, out_v e h (by rw [Rep])⟩
    · exact h.elim
  · exact h.elim

/-! comparisons -/
theorem RepF.inv_int {W : Wd} {n : Nat} {r : Rho} {H : Hp} {i : Int} {v : V} (h : RepF W n r H (.int i) v) : v = .int i := by
  simp only [RepF, Rep] at h
  exact h
section
variable {X : Cx} {pins : List (Addr × Obj)} {σ : L2.St} {H : Hp} {s : Shared} {n : Nat} {r : Rho} {cx cy : D} {x y : V} {v u : Value} {k : Nat} {E : Value → Shared → Prop}
theorem room60 {A : Around} {k : Nat} (hr : RU k A) {a b : Nat} (h : min a b ≤ 60) : A.units + min a b < cLine := by
  unfold RU at hr
  omega
theorem reads_of (I : Inv X pins σ H s) (h : RepF (Wo X) n r H cx x) {p : PyData} (e : toPy cx = some p) (rx : RelV x v) : ∃ as, Reads s.heap v p as := Dp.reads I p x v (dpF_of h e) rx
theorem eq_ok (hr : RU k X.A) (I : Inv X pins σ H s) (hx : RepF (Wo X) n r H cx x) (hy : RepF (Wo X) n r H cy y) (rx : RelV x v) (ry : RelV y u) {b : Bool} (h : eqD cx cy = some b) {Q : Value → Shared → Prop} (q : Q (.bool b) s) :
    wpAny (model X.prog X.w) X.A (compareOp .Eq v u) Q E s := by
  unfold eqD at h
  rw [Option.bind_eq_some_iff] at h
  obtain ⟨p, e1, h⟩ := h
  rw [Option.bind_eq_some_iff] at h
  obtain ⟨p', e2, h⟩ := h
  split at h
  · rename_i hd
    obtain ⟨as, ra⟩ := reads_of I hx e1 rx
    obtain ⟨bs, rb⟩ := reads_of I hy e2 ry
    exact PySem.SeqAt.eq_plain ra rb (toPy_plain _ _ e1) (toPy_plain _ _ e2) (room60 hr hd) (by rw [Option.some.inj h]; exact q)
  · cases h
theorem ne_ok (hr : RU k X.A) (I : Inv X pins σ H s) (hx : RepF (Wo X) n r H cx x) (hy : RepF (Wo X) n r H cy y) (rx : RelV x v) (ry : RelV y u) {b : Bool} (h : eqD cx cy = some b) {Q : Value → Shared → Prop} (q : Q (.bool (!b)) s) :
    wpAny (model X.prog X.w) X.A (compareOp .NotEq v u) Q E s := by
  unfold eqD at h
  rw [Option.bind_eq_some_iff] at h
  obtain ⟨p, e1, h⟩ := h
  rw [Option.bind_eq_some_iff] at h
  obtain ⟨p', e2, h⟩ := h
  split at h
  · rename_i hd
    obtain ⟨as, ra⟩ := reads_of I hx e1 rx
    obtain ⟨bs, rb⟩ := reads_of I hy e2 ry
    exact PySem.SeqAt.ne_plain ra rb (toPy_plain _ _ e1) (toPy_plain _ _ e2) (room60 hr hd) (by rw [Option.some.inj h]; exact q)
  · cases h
theorem lt_ok (hr : RU k X.A) (I : Inv X pins σ H s) (hx : RepF (Wo X) n r H cx x) (hy : RepF (Wo X) n r H cy y) (rx : RelV x v) (ry : RelV y u) {b : Bool} (h : ltD cx cy = some b) {Q : Value → Shared → Prop} (q : Q (.bool b) s) :
    wpAny (model X.prog X.w) X.A (compareOp .Lt v u) Q E s := by
  unfold ltD at h
  rw [Option.bind_eq_some_iff] at h
  obtain ⟨p, e1, h⟩ := h
  rw [Option.bind_eq_some_iff] at h
  obtain ⟨p', e2, h⟩ := h
  split at h
  · rename_i hd
    obtain ⟨as, ra⟩ := reads_of I hx e1 rx
    obtain ⟨bs, rb⟩ := reads_of I hy e2 ry
    exact lt_reads p p' b _ _ v u as bs ra rb (toPy_plain _ _ e1) (toPy_plain _ _ e2) h (room60 hr hd) X.prog X.w _ _ q
  · cases h
theorem kv_rd {ks : List Key} {ds : List D} {kvs : List (Key × V)} (hk : kvs.map Prod.fst = ks) (h : RepL (Wo X) n r H ds (kvs.map Prod.snd)) (q : Key) :
    match dgetD ks ds q with
    | some d => ∃ v, valV kvs q = some v ∧ Rep (Wo X) n r H d v
    | none => valV kvs q = none := by
  induction kvs generalizing ks ds with
  | nil =>
    rw [List.map_nil] at hk
    subst hk
    cases ds <;> exact valV_nil
  | cons p rest ih =>
    rw [List.map_cons] at hk
    subst hk
    cases ds with
    | nil => rw [RepL] at h; cases h
    | cons d ds =>
      rw [List.map_cons, RepL] at h
      obtain ⟨v, q', e, h1, h2⟩ := h
      injection e with e1 e2
      subst e1 e2
      by_cases c : p.1 = q
      · rw [dgetD, if_pos c]
        exact ⟨p.2, valV_pos c, h1⟩
      · rw [dgetD, if_neg c, valV_neg c]
        exact ih rfl h2
theorem key_ok {d : D} {q : Key} (h : keyD d = some q) (g : RepF (Wo X) n r H d x) : x = kV q := by
  unfold keyD at h
  split at h
  · cases h
    simp only [RepF, Rep] at g
    exact g
  · cases h
    simp only [RepF, Rep] at g
    exact g
  · cases h
theorem in_ok (hr : RU k X.A) (I : Inv X pins σ H s) (hx : RepF (Wo X) n r H cx x) (hy : RepF (Wo X) n r H cy y) (rx : RelV x v) (ry : RelV y u) {b : Bool} (h : inD cx cy = some b) {Q : VK} (q : Q (.bl b) H) :
    wpAny (model X.prog X.w) X.A (compareOp .In v u) (EP X pins σ Q) E s ∧ ∀ Q' : VK, Q' (.bl (!b)) H → wpAny (model X.prog X.w) X.A (compareOp .NotIn v u) (EP X pins σ Q') E s := by
  have hr2 : X.A.units + 16 * k + 200 < cLine := hr
  unfold inD at h
  split at h
  · rename_i ds
    rw [Option.bind_eq_some_iff] at h
    obtain ⟨p, e1, h⟩ := h
    rw [Option.bind_eq_some_iff] at h
    obtain ⟨ps, e2, h⟩ := h
    split at h
    · rename_i hd
      obtain ⟨as, ra⟩ := reads_of I hx e1 rx
      obtain ⟨bs, rb⟩ := reads_of I hy (p := .list ps) (by rw [toPy, e2]; rfl) ry
      have e3 := Option.some.inj h
      exact ⟨PySem.SeqAt.in_list_data rb ra (toPyL_plain _ _ e2) (toPy_plain _ _ e1) (by omega) ⟨.bl b, H, I, by rw [e3]; rfl, q⟩,
        fun Q' q' => PySem.SeqAt.notIn_list_data rb ra (toPyL_plain _ _ e2) (toPy_plain _ _ e1) (by omega) ⟨.bl (!b), H, I, by rw [e3]; rfl, q'⟩⟩
    · cases h
  · rename_i ds
    rw [Option.bind_eq_some_iff] at h
    obtain ⟨p, e1, h⟩ := h
    rw [Option.bind_eq_some_iff] at h
    obtain ⟨ps, e2, h⟩ := h
    split at h
    · rename_i hd
      obtain ⟨as, ra⟩ := reads_of I hx e1 rx
      obtain ⟨bs, rb⟩ := reads_of I hy (p := .tuple ps) (by rw [toPy, e2]; rfl) ry
      have e3 := Option.some.inj h
      exact ⟨PySem.SeqAt.in_tuple_data rb ra (toPyL_plain _ _ e2) (toPy_plain _ _ e1) (by omega) ⟨.bl b, H, I, by rw [e3]; rfl, q⟩,
        fun Q' q' => PySem.SeqAt.notIn_tuple_data rb ra (toPyL_plain _ _ e2) (toPy_plain _ _ e1) (by omega) ⟨.bl (!b), H, I, by rw [e3]; rfl, q'⟩⟩
    · cases h
  · rename_i ks ds
    obtain ⟨a, kvs, rfl, hH, hk, g⟩ := hy
    rw [Option.map_eq_some_iff] at h
    obtain ⟨kk, e1, e2⟩ := h
    have ex := key_ok e1 hx
    subst ex
    cases ry
    have z := kv_rd hk g kk
    have eb : (valV kvs kk).isSome = b := by
      rw [← e2]
      cases c : dgetD ks ds kk with
      | none =>
        rw [c] at z
        rw [z]
        rfl
      | some d =>
        rw [c] at z
        obtain ⟨w, z, _⟩ := z
        rw [z]
        rfl
    exact ⟨d_in (by omega) I (DGet.k hH) rx fun s' I' => ⟨.bl b, H, I', by rw [eb]; rfl, q⟩, fun Q' q' => d_notIn (by omega) I (DGet.k hH) rx fun s' I' => ⟨.bl (!b), H, I', by rw [eb]; rfl, q'⟩⟩
  · rename_i z
    split at h
    · rename_i w
      split at h
      · rename_i h1
        simp only [RepF, Rep] at hx hy
        subst hx hy
        have ew : w = ⟨#[w.cps.getD 0 0]⟩ := by
          obtain ⟨a⟩ := w
          congr 1
          apply Array.ext
          · simpa using h1
          · intro i h2 h3
            have h1' : a.size = 1 := h1
            have : i = 0 := by omega
            subst this
            simp [Array.getD, h2]
        have e3 := Option.some.inj h
        obtain ⟨tk, rfl⟩ := rx
        obtain ⟨tk', rfl⟩ := ry
        rw [ew]
        exact ⟨PyProof.Rows.in_str (fin_bl I q (by rw [← e3]; exact (PySem.StrLaws.found_one z _).symm)),
          fun Q' q' => PyProof.Rows.notIn_str (fin_bl I q' (by rw [← e3]; exact congrArg Bool.not (PySem.StrLaws.found_one z _).symm))⟩
      · cases h
    · cases h
  · cases h
end
theorem repF_non {W : Wd} {n : Nat} {r : Rho} {H : Hp} : ∀ {d : D} {x : V}, RepF W n r H d x → x = .non → d = .non
  | .non, _, _, _ => rfl
  | .lst _, _, ⟨_, _, e, _⟩, z => by rw [e] at z; cases z
  | .dct _ _, _, ⟨_, _, e, _⟩, z => by rw [e] at z; cases z
  | .bl _, _, h, z => by
    have h : Rep W n r H (.bl _) _ := h
    rw [Rep, z] at h; cases h
  | .int _, _, h, z => by
    have h : Rep W n r H (.int _) _ := h
    rw [Rep, z] at h; cases h
  | .str _, _, h, z => by
    have h : Rep W n r H (.str _) _ := h
    rw [Rep, z] at h; cases h
  | .ty _, _, h, z => by
    have h : Rep W n r H (.ty _) _ := h
    rw [Rep, z] at h; cases h
  | .glo _, _, h, z => by
    have h : Rep W n r H (.glo _) _ := h
    rw [Rep, z] at h; obtain ⟨_, e, _⟩ := h; cases e
  | .scr _, _, h, z => by
    have h : Rep W n r H (.scr _) _ := h
    rw [Rep, z] at h; obtain ⟨_, e, _⟩ := h; cases e
  | .ref _, _, h, z => by
    have h : Rep W n r H (.ref _) _ := h
    rw [Rep, z] at h; cases h.2
  | .tup _, _, h, z => by
    have h : Rep W n r H (.tup _) _ := h
    rw [Rep, z] at h; obtain ⟨_, _, e, _⟩ := h; cases e
  | .obj _ _ _, _, h, z => by
    have h : Rep W n r H (.obj _ _ _) _ := h
    rw [Rep, z] at h; obtain ⟨_, _, _, _, e, _⟩ := h; cases e
theorem is_ok {X : Cx} {pins : List (Addr × Obj)} {σ : L2.St} {H : Hp} {s : Shared} {n : Nat} {r : Rho} {cx cy : D} {x y : V} {v u : Value} (I : Inv X pins σ H s) (hx : RepF (Wo X) n r H cx x) (hy : RepF (Wo X) n r H cy y) (rx : RelV x v) (ry : RelV y u)
    {b : Bool} (h : isD cx cy = some b) {Q : VK} (q : Q (.bl b) H) :
    wpAny (model X.prog X.w) X.A (compareOp .Is v u) (EP X pins σ Q) X.xe s ∧ ∀ Q' : VK, Q' (.bl (!b)) H → wpAny (model X.prog X.w) X.A (compareOp .IsNot v u) (EP X pins σ Q') X.xe s := by
  have nn : ∀ {x : V}, decide (x = .non) = b → RelV x v → y = .non → wpAny (model X.prog X.w) X.A (compareOp .Is v u) (EP X pins σ Q) X.xe s ∧ ∀ Q' : VK, Q' (.bl (!b)) H → wpAny (model X.prog X.w) X.A (compareOp .IsNot v u) (EP X pins σ Q') X.xe s :=
    fun {x} e r1 ey => ⟨op_isN pins s σ H x y v u Q I r1 ry ⟨ey, by rw [e]; exact q⟩, fun Q' q' => op_notN pins s σ H x y v u Q' I r1 ry ⟨ey, by rw [e]; exact q'⟩⟩
  unfold isD at h
  split at h
  · have zx : Rep (Wo X) n r H .non x := hx
    have zy : Rep (Wo X) n r H .non y := hy
    rw [Rep] at zx zy
    cases h
    exact nn (x := x) (by rw [zx]; rfl) rx zy
  · rename_i a c
    have zx : Rep (Wo X) n r H (.bl a) x := hx
    have zy : Rep (Wo X) n r H (.bl c) y := hy
    rw [Rep] at zx zy
    subst zx zy
    have e := Option.some.inj h
    exact ⟨op_is_bl pins s σ H _ _ v u Q I rx ry ⟨a, c, rfl, rfl, by rw [e]; exact q⟩, fun Q' q' => op_isnot_bl pins s σ H _ _ v u Q' I rx ry ⟨a, c, rfl, rfl, by rw [e]; exact q'⟩⟩
  all_goals first
    | cases h; done
    | (have hy' : y = .non := by
         have z : Rep (Wo X) n r H .non y := hy
         rw [Rep] at z
         exact z
       have hn : x ≠ .non := fun z => by
         have q' := repF_non hx z
         cases q'
       cases h
       exact nn (x := x) (decide_eq_false hn) rx hy')
theorem cmp_ok {X : Cx} {k : Nat} (hr : RU k X.A) (o : CmpOp) : OpR X (compareOp o) (rD2 X (cmpD o)) := by
  intro pins s σ H x y v u Q I rx ry ⟨E0, S, r, dx, dy, e, hx, hy, h⟩
  unfold cmpD at h
  have fx := flat_ok e hx
  have fy := flat_ok e hy
  generalize flat S dx = cx at fx h
  generalize flat S dy = cy at fy h
  split at h
  · rename_i b hb
    have q : Q (.bl b) H := out_v e h (by rw [Rep])
    have fin : ∀ {b' : Bool}, b' = b → EP X pins σ Q (.bool b') s := fun z => ⟨.bl b, H, I, by rw [z]; rfl, q⟩
    unfold cmp1 at hb
    split at hb
    · exact eq_ok hr I fx fy rx ry hb (fin rfl)
    · rw [Option.map_eq_some_iff] at hb
      obtain ⟨c, e1, e2⟩ := hb
      exact ne_ok hr I fx fy rx ry e1 (fin e2)
    · exact lt_ok hr I fx fy rx ry hb (fin rfl)
    · split at hb
      · have e1 := fx.inv_int
        have e2 := fy.inv_int
        subst e1 e2
        exact op_le pins s σ H _ _ v u Q I rx ry ⟨_, _, rfl, rfl, by dsimp only; rw [Option.some.inj hb]; exact q⟩
      · cases hb
    · split at hb
      · have e1 := fx.inv_int
        have e2 := fy.inv_int
        subst e1 e2
        exact op_gt pins s σ H _ _ v u Q I rx ry ⟨_, _, rfl, rfl, by dsimp only; rw [Option.some.inj hb]; exact q⟩
      · cases hb
    · split at hb
      · have e1 := fx.inv_int
        have e2 := fy.inv_int
        subst e1 e2
        exact op_ge pins s σ H _ _ v u Q I rx ry ⟨_, _, rfl, rfl, by dsimp only; rw [Option.some.inj hb]; exact q⟩
      · cases hb
    · exact (is_ok I fx fy rx ry hb q).1
    · rw [Option.map_eq_some_iff] at hb
      obtain ⟨c, e1, e2⟩ := hb
      have z := (is_ok (Q := fun _ _ => True) I fx fy rx ry e1 trivial).2 Q (by rw [e2]; exact q)
      exact z
    · exact (in_ok hr I fx fy rx ry hb q).1
    · rw [Option.map_eq_some_iff] at hb
      obtain ⟨c, e1, e2⟩ := hb
      have z := (in_ok (E := X.xe) (Q := fun _ _ => True) hr I fx fy rx ry e1 trivial).2 Q (by rw [e2]; exact q)
      exact z
  · exact h.elim
end Fw

set_option Elab.async false
set_option linter.all false
set_option maxRecDepth 100000
set_option maxHeartbeats 2000000
namespace Fw
open PySem PySem.Spec PyProof.Rows L2
/-! what repr reads: also dicts -/
def keyPy : Key → PyData
  | .inl i => .int i
  | .inr x => .str x
mutual
def toPyR : D → Option PyData
  | .non => some .none | .bl b => some (.bool b) | .int i => some (.int i) | .str x => some (.str x)
  | .tup ds => (toPyRL ds).map PyData.tuple
  | .lst ds => (toPyRL ds).map PyData.list
  | .dct ks ds => (toPyRL ds).bind fun ps => if ks.length = ps.length then some (PyData.dict ((ks.map keyPy).zip ps)) else none
  | .ty _ => none | .glo _ => none | .scr _ => none | .ref _ => none | .obj _ _ _ => none | .err _ _ _ => none
def toPyRL : List D → Option (List PyData)
  | [] => some []
  | d :: ds => (toPyR d).bind fun p => (toPyRL ds).map fun q => p :: q
end
section
variable {X : Cx} {pins : List (Addr × Obj)} {σ : L2.St} {H : Hp} {s : Shared} {n : Nat} {r : Rho} [Tb]
theorem keys_read {h : Heap} {P : Program} {w : World} : ∀ {es : List DictEntry} {vs : List (Key × Value)}, Pairs (mixKind P w) es vs → ReadsAll h (es.map (·.key)) ((vs.map (·.1)).map keyPy) []
  | _, _, .nil => ReadsAll.nil
  | _, _, .cons (e := e) (kv := kv) h1 h2 h3 => by
    have q := keys_read (h := h) h3
    obtain ⟨k, u⟩ := kv
    have h1 : keyIs k e.key = true := h1
    rcases keyIs_shape h1 with ⟨i, t, rfl, e1⟩ | ⟨x, t, rfl, e1⟩
    · rw [List.map_cons, List.map_cons, List.map_cons, e1]
      exact ReadsAll.cons (as := []) (Reads.int i t) q
    · rw [List.map_cons, List.map_cons, List.map_cons, e1]
      exact ReadsAll.cons (as := []) (Reads.str x t) q
theorem vals_pairs {P : Program} {w : World} : ∀ {es : List DictEntry} {vs : List (Key × Value)} {kvs : List (Key × V)}, Pairs (mixKind P w) es vs → KV kvs vs → Vals (kvs.map (·.2)) (es.map (·.val)) ∧ kvs.map (·.1) = vs.map (·.1)
  | _, _, _, .nil, q => by
    cases q
    exact ⟨.nil, rfl⟩
  | _, _, _, .cons h1 h2 h3, q => by
    cases q with
    | cons a b =>
      obtain ⟨z1, z2⟩ := vals_pairs h3 b
      refine ⟨.cons (by have z := a.2; rw [← h2] at z; exact z) z1, ?_⟩
      rw [List.map_cons, List.map_cons, a.1, z2]
theorem zip_fst' {α β : Type} : ∀ {xs : List α} {ys : List β}, xs.length = ys.length → (xs.zip ys).map (·.1) = xs ∧ (xs.zip ys).map (·.2) = ys
  | [], [], _ => ⟨rfl, rfl⟩
  | x :: xs, y :: ys, h => by
    obtain ⟨a, b⟩ := zip_fst' (xs := xs) (ys := ys) (by simpa using h)
    exact ⟨by rw [List.zip_cons_cons, List.map_cons, a], by rw [List.zip_cons_cons, List.map_cons, b]⟩
  | [], y :: ys, h => by simp at h
  | x :: xs, [], h => by simp at h
mutual
theorem readsR (I : Inv X pins σ H s) (hm : H sysModules = none) : ∀ (d : D) (v : V) (u : Value) (p : PyData), Rep (Wo X) n r H d v → toPyR d = some p → L2.RelV v u → ∃ as, Reads s.heap u p as ∧ sysModules ∉ as
  | .non, _, _, _, h, e, ru => by
    rw [Rep] at h; subst h; rw [toPyR] at e; cases e; cases ru
    exact ⟨_, Reads.none, List.not_mem_nil⟩
  | .bl b, _, _, _, h, e, ru => by
    rw [Rep] at h; subst h; rw [toPyR] at e; cases e; cases ru
    exact ⟨_, Reads.bool b, List.not_mem_nil⟩
  | .int i, _, _, _, h, e, ru => by
    rw [Rep] at h; subst h; rw [toPyR] at e; cases e; obtain ⟨t, rfl⟩ := ru
    exact ⟨_, Reads.int i t, List.not_mem_nil⟩
  | .str i, _, _, _, h, e, ru => by
    rw [Rep] at h; subst h; rw [toPyR] at e; cases e; obtain ⟨t, rfl⟩ := ru
    exact ⟨_, Reads.str i t, List.not_mem_nil⟩
  | .tup ds, _, _, _, h, e, ru => by
    rw [Rep] at h
    rw [toPyR, Option.map_eq_some_iff] at e
    obtain ⟨a, vs, rfl, f, q⟩ := h
    obtain ⟨ps, e1, rfl⟩ := e
    cases ru
    obtain ⟨its, rv, ⟨o, ho, hc, n, hd⟩, _⟩ := I.tuple f.sq
    obtain ⟨as, z1, z2⟩ := readsRL I hm ds vs _ ps q e1 rv
    exact ⟨_, Reads.tuple ho hc hd z1, z2⟩
  | .lst ds, _, _, _, h, e, ru => by
    rw [Rep] at h
    rw [toPyR, Option.map_eq_some_iff] at e
    obtain ⟨a, vs, rfl, f, q⟩ := h
    obtain ⟨ps, e1, rfl⟩ := e
    cases ru
    obtain ⟨its, rv, ⟨o, n, ho, hc, _, hd⟩, _⟩ := I.list (f.sq (K := X.K))
    obtain ⟨as, z1, z2⟩ := readsRL I hm ds vs _ ps q e1 rv
    refine ⟨_, Reads.list ho hc hd z1, fun z => ?_⟩
    rcases List.mem_cons.mp z with z | z
    · have y := f.1
      rw [← z, hm] at y
      cases y
    · exact z2 z
  | .dct ks ds, _, _, _, h, e, ru => by
    rw [Rep] at h
    rw [toPyR, Option.bind_eq_some_iff] at e
    obtain ⟨a, kvs, rfl, f1, f2, k, q⟩ := h
    obtain ⟨ps, e1, e2⟩ := e
    split at e2
    · rename_i hl
      cases e2
      cases ru
      have ob : ObjOk X.prog X.w H s.heap a (.dK kvs) := I.hok a _ f1
      obtain ⟨_, hns, vs, kv, o, es, ep, ho, hx, hd, _, hp, _⟩ := ob
      obtain ⟨rv, ek⟩ := vals_pairs hp kv
      obtain ⟨bs, z1, z2⟩ := readsRL I hm ds _ _ ps q e1 rv
      have zz := zip_fst' (xs := ks.map keyPy) (ys := ps) (by rw [List.length_map]; exact hl)
      have kr := keys_read (h := s.heap) hp
      rw [← ek, k] at kr
      refine ⟨_, Reads.dict (kvs := (ks.map keyPy).zip ps) ho hx.1 hd (by rw [zz.1]; exact kr) (by rw [zz.2]; exact z1), fun z => ?_⟩
      rcases List.mem_cons.mp (by simpa using z) with z | z
      · rw [← z] at hns
        simp at hns
      · exact z2 z
    · cases e2
  | .ty _, _, _, _, _, e, _ => by rw [toPyR] at e; cases e
  | .glo _, _, _, _, _, e, _ => by rw [toPyR] at e; cases e
  | .scr _, _, _, _, _, e, _ => by rw [toPyR] at e; cases e
  | .ref _, _, _, _, _, e, _ => by rw [toPyR] at e; cases e
  | .obj _ _ _, _, _, _, _, e, _ => by rw [toPyR] at e; cases e
  | .err _ _ _, _, _, _, _, e, _ => by rw [toPyR] at e; cases e
theorem readsRL (I : Inv X pins σ H s) (hm : H sysModules = none) : ∀ (ds : List D) (vs : List V) (us : List Value) (ps : List PyData), RepL (Wo X) n r H ds vs → toPyRL ds = some ps → Vals vs us → ∃ as, ReadsAll s.heap us ps as ∧ sysModules ∉ as
  | [], _, _, _, h, e, ru => by
    rw [RepL] at h; subst h; rw [toPyRL] at e; cases e; cases ru
    exact ⟨_, ReadsAll.nil, List.not_mem_nil⟩
  | d :: ds, _, _, _, h, e, ru => by
    rw [RepL] at h
    rw [toPyRL, Option.bind_eq_some_iff] at e
    obtain ⟨v, q, rfl, h1, h2⟩ := h
    obtain ⟨p, e1, e2⟩ := e
    rw [Option.map_eq_some_iff] at e2
    obtain ⟨ps, e3, rfl⟩ := e2
    cases ru with
    | cons r1 r2 =>
      obtain ⟨as, z1, z2⟩ := readsR I hm d v _ p h1 e1 r1
      obtain ⟨bs, z3, z4⟩ := readsRL I hm ds q _ ps h2 e3 r2
      exact ⟨_, ReadsAll.cons z1 z3, fun z => (List.mem_append.mp z).elim z2 z4⟩
end
theorem toPyRL_len : ∀ {ds : List D} {ps : List PyData}, toPyRL ds = some ps → ps.length = ds.length
  | [], _, e => by rw [toPyRL] at e; cases e; rfl
  | d :: ds, _, e => by
    rw [toPyRL, Option.bind_eq_some_iff] at e
    obtain ⟨p, e1, e2⟩ := e
    rw [Option.map_eq_some_iff] at e2
    obtain ⟨ps, e3, rfl⟩ := e2
    rw [List.length_cons, List.length_cons, toPyRL_len e3]
end
end Fw

set_option Elab.async false
set_option linter.all false
set_option maxRecDepth 100000
set_option maxHeartbeats 4000000
namespace Fw
open PySem PySem.Spec PyProof.Rows L2
/-! an exception as a value -/
theorem erO_ok {P : Program} {w : World} {H : Hp} {h : Heap} {a : Addr} {cls : Value} {d : Option Addr} {oe : Obj} {vs : Array Value} (e : h.get? a = some oe) (z : Zc cls d oe) (q : oe.data = .fields vs) : ObjOk P w H h a (ErO a cls d) :=
  ⟨⟨oe, vs, e, z, q⟩, ⟨oe, e⟩, fun _ _ ⟨o, v, q, r⟩ k => ⟨o, v, k o q, r⟩⟩
theorem pe_of_mk {X : Cx} {e : Expr} {t : L2.St → Hp → XK → Prop} (h : PMk X e t) : PE X e (fun σ H Q => t σ H fun cls d H1 => ∀ a, H1 a = none → Q (.ref a) (upd H1 a (ErO a cls d))) := by
  refine ⟨fun pins s σ H Q I q => wpAny_mono (h pins s σ H _ I q) (fun u s1 hu => ?_) fun _ _ x => x⟩
  obtain ⟨a, oe, vs, sI, H1, cls, d, rfl, J, k, hne, ha, hz, hd, h1, na, os, ag, r, q⟩ := hu
  exact ⟨.ref a, upd H1 a (ErO a cls d), J.call' (ch := []) os (Un.laidN k hne na) (J.hok.laidN k na (erO_ok ha hz hd)) ag (fun b z => nomatch z), rfl, q a na⟩
/-! super().__init__(arg); self.f = f -/
section
open PySem.W
variable {prog : Program} {w : World} {A : Around} {E : Value → Shared → Prop} {K : PySem.W.Frag}
/-- the call of the method wrapper of an exception that is being made -/
theorem call_wrap {X : Cx} {pins : List (Addr × Obj)} {σ : L2.St} {H : Hp} {s : Shared} {a C u : Addr} {rest : List Value} {Q : Value → Shared → Prop} (T : OexC X.K C) (I : Inv X pins σ H s) (e : H a = some (exo a C none)) (hu : s.heap.get? u = some (kxs_mw "ValueError.__init__" a)) (hz : rest.length ≤ sizeLine)
    (h : ∀ s', Inv X pins σ H s' → Q .none s') : wpAny (model X.prog X.w) X.A (call (.ref u) rest) Q E s := by
  obtain ⟨nm, q, N, bs, bm, sn, sub, ab, col, dd, k0, k1, k2, k3, k5, hC, hbm⟩ := T.cls
  obtain ⟨t1, ho⟩ := exo_at I.hok e
  have hCh := I.kIn _ _ hC
  have FB := F.excBase_ValueError
  obtain ⟨hp, g, d, t, os⟩ := s
  refine wpAny_call (codeAny_of_tree ?_)
  show wpAny _ X.A.in1 (callAny (.ref u) ⟨rest, []⟩) _ _ _
  simp only [callAny]
  refine wpAny_bind (wpAny_load hu ?_)
  simp only [kxs_mw, show (Value.type "method-wrapper" == Value.type "method" || Value.type "method-wrapper" == Value.type "builtin_function_or_method" || Value.type "method-wrapper" == Value.type "method-wrapper") = true by decide, if_true]
  refine KFB.if_so (by decide) ?_
  refine wpAny_bind (check_bound_init FB.toExcCallFacts hCh ho rfl ?_)
  refine wpAny_bind (wpAny_pure (wpAny_pure ?_))
  refine ⟨plainId_quiet FB.init.plain _, codeAny_builtin FB.initEntry ?_⟩
  refine exc_init_tree (cls := .ref C) (t0 := t1) (dv := none) (c2 := .none) (c3 := .none) (b4 := .bool false) ho hz fun h' k hx _ => ?_
  have J := I.write (t' := t) (x := a) (e := a) (o := exo a C none) (by rw [e]; exact True.intro) (.inl rfl) k ⟨_, hx⟩ (exo_ok hx)
  have eu : upd H a (exo a C none) = H := by
    funext b
    by_cases hb : b = a
    · rw [hb, upd_same, e]
    · rw [upd_ne hb]
  rw [eu] at J
  exact h _ J
abbrev supC (arg : Expr) (p : Nat → Pos) : Expr := .Call (.Attribute (.Call (.Name "super" (p 0)) [] [] (p 1)) "__init__" (p 2)) [arg] [] (p 3)
abbrev supB (f : Str) (arg : Expr) (p : Nat → Pos) : List Stmt := [.Expr (supC arg p) (p 4), .Assign [.Attribute (.Name "self" (p 5)) f (p 6)] (.Name f (p 7)) (p 8)]
theorem sup_ev {arg : Expr} {p : Nat → Pos} (hs : ∀ env, starEach [arg] env = (false, eval arg env) :: starEach [] env) (hl : ((p 2).endLine == (p 3).line) = true) (env : Env) : eval (supC arg p) env = (do
      let ov ← attributeBase (.Call (.Name "super" (p 0)) [] [] (p 1)) "__init__" env (eval (.Call (.Name "super" (p 0)) [] [] (p 1)) env)
      standAt (p 2).atName
      let (f, first) ← holding [ov] (getMethod ov "__init__" (do return (← importBound (.Call (.Name "super" (p 0)) [] [] (p 1)) env).getD true))
      callWith (p 3) f first (backTo (p 3) (starEach [arg] env)) []) := by
  have e : eval (supC arg p) env = (do
      let ov ← attributeBase (.Call (.Name "super" (p 0)) [] [] (p 1)) "__init__" env (eval (.Call (.Name "super" (p 0)) [] [] (p 1)) env)
      standAt (p 2).atName
      methodCall (.Call (.Name "super" (p 0)) [] [] (p 1)) "__init__" (p 2) (p 3) env ov 1 (backTo (p 3) (starEach [arg] env)) (backToKw (p 3) (keywordEach [] env))) := rfl
  rw [e]
  refine congrArg _ (funext fun ov => congrArg _ (funext fun _ => ?_))
  have few : methodCallForm 1 (backTo (p 3) (starEach [arg] env)) (backToKw (p 3) (keywordEach [] env)) = true := by rw [hs]; rfl
  unfold methodCall methodCallPos
  rw [few, hl]
  refine congrArg _ (funext fun x => ?_)
  simp only [Bool.not_true, Bool.or_true, if_true, pure_bind]
  rfl
def supN (f : Str) : List Str := ["self", f, "__class__"]
abbrev supF (name qual : Str) (params : Arguments) (body : List Stmt) (scope : Scope) (cc cda : Addr) : NdefX.NF := ⟨name, qual, params, body, scope, [("__class__", cc)], cda⟩
abbrev supX (CX : CXT) (P : Program) (w : World) (K : PySem.W.Frag) (mg : Str → Option Value) (base : Heap) (f : Str) (F : NdefX.NF) (f1 : Addr) (A : Around) (outer : List Env) (s : Shared) (H : Hp) (E : XK) : Cx :=
  (NdefX.ncx CX P w K mg base (supN f) F f1 A outer s H E).tr [] (fun _ _ => False)
theorem init_run {CX : CXT} {P : Program} {w : World} {mg : Str → Option Value} {base : Heap} {C f1 cc cda : Addr} {name qual f : Str} {params : Arguments} {scope : Scope} {dV kV doc pm ct oc ccl cl : Value} {an od cdd cld : Option Addr} {osl ccs csl : Array (Option Value)}
    {vs0 : Array Value} {file : Str} {tf : Tok} {cdC : ClassData} {ar : Arg} {arg : Expr} {p : Nat → Pos} (T : OexC K C)
    (lk : K.lookup f1 = some ⟨oc, od, .func (ksFn name qual params (supB f arg p) scope dV kV doc pm an (.ref cda) ct cc), osl⟩) (hcd : codeIn K (.ref cda) qual = true)
    (lcda : K.lookup cda = some ⟨ccl, cdd, .fields vs0, ccs⟩) (hvs : vs0[2]? = some (.str file tf)) (hfile : ((P.main.file : Str) == file) = true) (htop : (P.main.scope.names.lookup ("super" : Str)).isSome = false)
    (lcc : K.lookup cc = some ⟨cl, cld, .cell (some (.ref C)), csl⟩) (hcl : clsIn K C = some cdC) (hsub : mroIn K C (.ref C) = some true) (ho3 : nsIn K cStatics "thirdparty.any" = some none)
    (hsup : ks_superIn K C C "__init__" = some (some (.builtin "ValueError.__init__"))) (hVE : subIn K (.ref C) (.type "ValueError") = some true) (hno : findIn K (.ref C) f = some none)
    (S : NdefX.NScope (supN f) ["self", f] ["__class__"] scope) (hks : scope.names.lookup ("super" : Str) = some .globalImplicit) (hp : (params.posonlyargs ++ params.args).head? = some ar) (har : ar.arg = "self") (hm : mg "super" = none)
    (hd1 : (f == ("__debug__" : Str)) = false) (hd2 : (f == ("__classdict__" : Str)) = false)
    (hst : ∀ env, starEach [arg] env = (false, eval arg env) :: starEach [] env) (hl : ((p 2).endLine == (p 3).line) = true) (hsw : ∀ env, swapsWith (supC arg p) none (p 4).line env = pure false)
    {A : Around} {outer : List Env} {s : Shared} {H : Hp} {args : Args} {u : Value} {v : V} {Q : VK} {E : XK} {a : Addr} (hr : Room 1 A) (e0 : Env0 P w K mg base A outer s H) (ea : H a = some (exo a C none))
    (hb : BindsTo s (ksFn name qual params (supB f arg p) scope dV kV doc pm an (.ref cda) ct cc) args [("self", .ref a), (f, u)]) (rv : RelV v u)
    (harg : ∃ te, PE (supX CX P w K mg base f (supF name qual params (supB f arg p) scope cc cda) f1 A outer s H E) arg te ∧ te (NdefX.startF (supN f) [.ref a, v] [none]) H (fun y H1 => [y].length = 1 ∧ H1 a = some (exo a C none) ∧ ∀ dx, H1 dx = none → dx ≠ a → Q .non (upd (upd H1 dx (exd dx [(f, v)])) a (exo a C (some dx))))) :
    codeAny (model P w) A (.call (.ref f1) args) (CR CX outer P w H s Q E) s := by
  have KX : K.In s.heap := e0.mod.kin.keeps fun b o e => (e0.bs b o e).1
  have lim : s.heap.NoLimit := e0.mod.nolimit.keeps fun b o e => (e0.bs b o e).1
  have Hc : H cc = none := (e0.bs _ _ (e0.mod.kin _ _ lcc)).2
  have hr0 := hr.deeper (NdefX.envF (supF name qual params (supB f arg p) scope cc cda) f1 s.heap.objs.size)
  refine codeAny_call_function hr.depth (KX _ _ lk) rfl S.co S.gen rfl (codeRec_of KX hcd) (hb _ _ _ _ ?_)
  refine wpAny_newFunctionEnv S.nocell (fun ⟨n, _⟩ hy => S.par n ?_) (fun h₁ hns hsb => ⟨lim.fresh _ hsb, ?_⟩) S.kind
  · simp only [List.mem_cons, List.not_mem_nil, or_false, Prod.mk.injEq] at hy
    rcases hy with ⟨rfl, _⟩ | ⟨rfl, _⟩ <;> simp
  refine ks_codeAny_funcAt ?_
  have kp : ∀ b o, s.heap.get? b = some o → h₁.get? b = some o := fun b o e => hsb.extBut b o (Nat.ne_of_lt (Heap.lt_size e)) (Heap.get?_push_of_some _ e)
  have CA : NdefX.CellsAt (supF name qual params (supB f arg p) scope cc cda).cl ["__class__"] [none] s.heap H := by
    refine ⟨rfl, fun y c e => ?_, fun x y c e1 e2 => ?_, fun i y e => ?_⟩
    · have e := PySem.mem_of_lookup e
      simp only [supF, List.mem_cons, List.not_mem_nil, or_false, Prod.mk.injEq] at e
      rw [e.2]
      exact ⟨Hc, _, _, KX _ _ lcc, rfl⟩
    · have e1 := PySem.mem_of_lookup e1
      have e2 := PySem.mem_of_lookup e2
      simp only [supF, List.mem_cons, List.not_mem_nil, or_false, Prod.mk.injEq] at e1 e2
      rw [e1.1, e2.1]
    · cases i with
      | zero =>
        cases e
        exact ⟨cc, rfl, fun v z => nomatch z⟩
      | succ i => simp at e
  have I : Inv (NdefX.ncx CX P w K mg base (supN f) (supF name qual params (supB f arg p) scope cc cda) f1 A outer s H E) [] (NdefX.startF (supN f) [.ref a, v] [none]) H { s with heap := h₁, toks := s.toks + [(("self" : Str), Value.ref a), (f, u)].length } :=
    NdefX.inv_startN (ps := ["self", f]) (us := [.ref a, u]) S hr.hd e0 rfl (.cons rfl (.cons rv .nil)) CA hns kp
  have I := I.toTry (fun _ _ => False)
  obtain ⟨te, hPE, hte⟩ := harg
  refine ks_wpAt_mono (Q := fun fl s' => fl = .next ∧ ∃ σ' H', Inv (supX CX P w K mg base f (supF name qual params (supB f arg p) scope cc cda) f1 A outer s H E) [] σ' H' s' ∧ Q .non H') (E := fun _ _ => False) ?_ (fun fl s' hs => ?_) (fun e s' z => z.elim)
  · have hkc : scope.names.lookup ("__class__" : Str) = some .free := S.frk _ (by simp)
    have hself : scope.names.lookup ("self" : Str) = some .local := S.par _ (by simp)
    have fself : f ≠ "self" := fun z => by
      have q := S.nd
      unfold supN at q
      rw [z] at q
      simp at q
    obtain ⟨nm0, q0, N0, bs0, bm0, sn0, sub0, ab0, col0, dd0, k0, k1, k2, k3, k5, hC0, hbm0⟩ := T.cls
    refine ks_wpAt_execs_cons (ks_wpAt_Expr_any (ks_wpAt_MethodCall (pl := _) (ks_wpAt_super_base hks hkc rfl rfl (kp _ _ (KX _ _ lk)) rfl hp rfl (kp _ _ (KX _ _ lcda)) rfl hvs hfile htop ?_) (sup_ev hst hl _)) I.quiet (hsw _))
    obtain ⟨mb, b1, b2⟩ := I.mod.blt
    refine ks_loadName_global S.kind hks (Calls.loadGlobal_builtin (I.mod.glob.keeps I.bk) hm (by have z := b1.keeps I.bk; rw [← I.ok.blt] at z; exact z) ((b2 _ (by decide)).trans (by decide +kernel)) ⟨rfl, ?_⟩)
    refine wpAny_loadName_free S.kind hkc rfl ⟨_, kp _ _ (KX _ _ lcc), rfl⟩ ?_
    rw [har]
    refine wpAny_loadName_local S.kind hself hns (NdefX.zip_look (ps := ["self", f]) (us := [.ref a, u]) (i := 0) (by simp [Ne.symm fself]) rfl rfl) ?_
    have hCh := I.kIn _ _ hC0
    obtain ⟨t1, ho⟩ := exo_at I.hok ea
    refine ks_wpAny_isType_cls hCh rfl ⟨rfl, ?_⟩
    refine ks_wpAny_call_super hCh rfl ho rfl (fun c z => nomatch z) (looks_mroIn I.kIn hsub) fun h2 hso k2 => ?_
    have I1 := I.kept (t' := s.toks + [(("self" : Str), Value.ref a), (f, u)].length) k2
    obtain ⟨t2, ho2⟩ := exo_at I1.hok ea
    have IA : InstAt h2 a _ C none := ⟨ho2, rfl, rfl, trivial⟩
    have hcl2 : clsIn K C = some cdC := hcl
    unfold ks_superIn at hsup
    rw [hcl] at hsup
    refine kxs_getMethod kxs_ValueError hso (looks_opaque I1.kIn ho3) (l₀ := cdC.mro) (fun A Q E s k q => wpAny_bind ((looks_clsIn I1.kIn hcl) A _ E s k (wpAny_pure q))) rfl I1.kIn hsup (IA.type.andThen (looks_subIn I1.kIn hVE)) (ks_ne I1.kIn IA hcl) rfl ?_
    have k3 : ∀ b o, h2.get? b = some o → (h2.push (kxs_mw "ValueError.__init__" a)).get? b = some o := fun b o e => Heap.get?_push_of_some _ e
    have hu : (h2.push (kxs_mw "ValueError.__init__" a)).get? h2.objs.size = some (kxs_mw "ValueError.__init__" a) := Heap.get?_push_at rfl rfl
    have I2 := I1.kept (t' := s.toks + [(("self" : Str), Value.ref a), (f, u)].length + 1) k3
    have I3 : Inv (supX CX P w K mg base f (supF name qual params (supB f arg p) scope cc cda) f1 A outer s H E) [(h2.objs.size, kxs_mw "ValueError.__init__" a)] _ H _ := I2.pins_of (pins' := [(h2.objs.size, kxs_mw "ValueError.__init__" a)]) fun p hp => by
      cases List.mem_singleton.mp hp
      refine ⟨hu, I1.hok.fresh (Nat.le_refl _), fun z => ?_, I1.nofs (Nat.le_refl _), fun v z => nomatch z⟩
      obtain ⟨_, ⟨oL, _, _, hL, _⟩, _⟩ := I1.loc
      have z2 := Heap.lt_size hL
      rw [← z] at z2
      exact absurd z2 (Nat.lt_irrefl _)
    have ha : PA (supX CX P w K mg base f (supF name qual params (supB f arg p) scope cc cda) f1 A outer s H E) [arg] (tCons te tNil) := pa_cons hPE pa_nil (hst _)
    have hrun := ha.run (p 3) _ _ _ _ (fun vs H1 => vs.length = 1 ∧ H1 a = some (exo a C none) ∧ ∀ dx, H1 dx = none → dx ≠ a → Q .non (upd (upd H1 dx (exd dx [(f, v)])) a (exo a C (some dx)))) I3 hte
    rw [hst] at hrun
    rw [hst]
    refine kxs_callWith (i := "ValueError.__init__") (x := a) rfl (Calls.evalArgs_plain ?_)
    refine wpAny_mono hrun (fun us s4 hh => ?_) (fun _ _ z => z.elim)
    obtain ⟨vs4, H4, I4, r4, n4, ea4, q4⟩ := hh
    refine ⟨(I4.pin _ (List.mem_append_right _ List.mem_cons_self)).1, ?_⟩
    have l4 : us.length ≤ sizeLine := by
      rw [← r4.length, n4, sizeLine_eq]
      omega
    refine call_wrap T I4 ea4 (I4.pin _ (List.mem_append_right _ List.mem_cons_self)).1 l4 fun s5 I5 => ?_
    have I5 := I5.pins_of (pins' := []) fun p hp => nomatch hp
    refine wpAt_of_wpAny ?_
    have v0 : Vis scope "self" := .inl hself
    have v1 : Vis scope f := .inl (S.par _ (by simp))
    have st2 : PSs (supX CX P w K mg base f (supF name qual params (supB f arg p) scope cc cda) f1 A outer s H E) [.Assign [.Attribute (.Name "self" (p 5)) f (p 6)] (.Name f (p 7)) (p 8)] _ :=
      pss_one (ps_ost (pe_var (i := 0) rfl v0 (by decide) (by decide)) (pe_var (i := 1) rfl v1 hd1 hd2))
    refine wpAny_mono (st2.run [] _ _ _ { nx := fun _ H' => Q .non H', rt := fun _ _ => False } I5 ?_) (fun fl s6 h6 => ?_) (fun _ _ z => z.elim)
    · refine ⟨v, rfl, .ref a, rfl, a, C, rfl, T, hno, .inl ⟨ea4, q4⟩⟩
    · cases fl with
      | next => exact ⟨rfl, h6⟩
      | ret u => obtain ⟨_, _, _, _, _, z⟩ := h6; exact z.elim
      | brk => obtain ⟨_, _, _, z⟩ := h6; exact z.elim
      | cont => obtain ⟨_, _, _, z⟩ := h6; exact z.elim
  · obtain ⟨rfl, σ', H', J, q⟩ := hs
    exact ⟨.non, H', J.os, J.bare, J.base, J.hok, rfl, q⟩
end
end Fw

set_option Elab.async false
set_option linter.all false
set_option maxRecDepth 100000
set_option maxHeartbeats 4000000
namespace Fw
open PySem PySem.Spec PyProof.Rows L2
theorem peJ {X : Cx} {e : Expr} {t t' : TE} (h : PE X e t) (g : ∀ σ H Q, t' σ H Q → t σ H Q) : PE X e t' := ⟨fun pins s σ H Q I q => h.run pins s σ H Q I (g σ H Q q)⟩
theorem repr_anyR {prog : Program} {w : World} {A : Around} {E : Value → Shared → Prop} {s : Shared} {Q : Value → Shared → Prop} {v : Value} {p : PyData} {as : List Addr} (rd : Reads s.heap v p as) (nd : sysModules ∉ as) (hs : p.showable = true) (hg : A.guards = some []) (hu : A.units + (p.depth + 1) < cLine) (hz : p.shown.length ≤ sizeLine)
    (q : ∀ h' u tk, (∀ b o, s.heap.get? b = some o → h'.get? b = some o) → Q (.str p.shown u) { s with heap := h', toks := tk }) : wpAny (model prog w) A (call (.builtin "repr") [v]) Q E s := by
  have hr : ∀ {a : Addr}, Reads s.heap (.ref a) p as → wpAny (model prog w) A (call (.builtin "repr") [.ref a]) Q E s := fun r2 =>
    repr_of_reads' r2 hs (fun _ => nd) hg hu (fun _ _ z => z) q hz
  have same : ∀ u tk, Q (.str p.shown u) { s with toks := tk } := fun u tk => q s.heap u tk fun _ _ z => z
  cases p with
  | none => cases rd with
    | none => exact P.repr_of_none (same _ _)
  | bool b => cases rd with
    | bool => exact P.repr_of_bool (by have z := same s.toks (s.toks + 1); cases b <;> exact z)
  | int i => cases rd with
    | int => exact P.repr_of_int (of_decide_eq_true hs) (same _ _)
  | str x => cases rd with
    | str => exact P.repr_of_str (same _ _) hz
  | list xs => cases rd with
    | list h1 h2 h3 h4 => exact hr (.list h1 h2 h3 h4)
  | tuple xs => cases rd with
    | tuple h1 h2 h3 h4 => exact hr (.tuple h1 h2 h3 h4)
  | dict kvs => cases rd with
    | dict h1 h2 h3 h4 h5 => exact hr (.dict h1 h2 h3 h4 h5)
section
variable [Tb] {X : Cx}
def shows (p : PyData) : Bool := p.showable && (decide (p.depth ≤ 60) && decide (p.shown.length ≤ sizeLine))
/-- v is data that repr shows as p -/
def Shw (X : Cx) (H : Hp) (v : V) (p : PyData) : Prop := ∃ n r d, Rep (Wo X) n r H d v ∧ toPyR d = some p
def rShow (X : Cx) : List V → Hp → VK → Prop := fun xs H Q => ∃ v p, xs = [v] ∧ Shw X H v p ∧ shows p = true ∧ Q (.str p.shown) H
theorem repr_show (gd : X.A.guards = some []) (un : X.A.units + 64 < cLine) (sm : ∃ o, X.K.lookup sysModules = some o) : CallR X (.builtin "repr") (rShow X) := by
  intro pins s σ H vs us Q I rv ⟨v, p, e, ⟨n, r, d, hd, hp⟩, hs, q⟩
  subst e
  obtain ⟨o, ho⟩ := sm
  have hm : H sysModules = none := (I.bs _ _ (I.ok.mod.kin _ _ ho)).2
  obtain ⟨u, rfl, ru⟩ := vals1 rv
  obtain ⟨as, rd, nm⟩ := readsR I hm d v u p hd hp ru
  unfold shows at hs
  simp only [Bool.and_eq_true, decide_eq_true_eq] at hs
  obtain ⟨c1, c2, c3⟩ := hs
  exact repr_anyR rd nm c1 gd (by omega) c3 fun h' u' tk kp => ⟨.str p.shown, H, I.kept (t' := tk) kp, ⟨_, rfl⟩, q⟩
/-- "m" + repr(f), a name in slot 1 -/
abbrev supA (m f : Str) (q : Nat → Pos) (j : Nat) : Expr := .BinOp (.Constant (.str m) j (q 0)) .Add (.Call (.Name "repr" (q 1)) [.Name f (q 2)] [] (q 3)) (q 4)
theorem pe_supA {m f : Str} {q : Nat → Pos} {i j : Nat} (gd : X.A.guards = some []) (un : X.A.units + 64 < cLine) (sm : ∃ o, X.K.lookup sysModules = some o) (hg : Gl X "repr") (hm : X.mg "repr" = none) (hi : X.N[i]? = some f) (hv : Vis X.env.scope f) (hd1 : (f == ("__debug__" : Str)) = false) (hd2 : (f == ("__classdict__" : Str)) = false) :
    PE X (supA m f q j) (fun σ H Q => ∃ v p, σ[i]? = some (some v) ∧ Shw X H v p ∧ shows p = true ∧ m.length + p.shown.length ≤ sizeLine ∧ Q (.str (m ++ p.shown)) H) := by
  refine peJ (pe_op op_add_str pe_str (pe_callB (repr_show gd un sm) hg hm (by decide +kernel) (pa_cons (pe_var hi hv hd1 hd2) pa_nil) (by decide) (by decide) rfl rfl)) fun σ H Q ⟨v, p, e1, e2, e3, e4, e5⟩ => ?_
  exact ⟨v, e1, v, p, rfl, e2, e3, m, p.shown, rfl, rfl, e4, e5⟩
end
/-- what the text says of an error class C with __init__(self, f): super().__init__("m" + repr(f)); self.f = f -/
structure SupC (P : Program) (K : PySem.W.Frag) (mg : Str → Option Value) (C : Addr) (f m : Str) : Prop where
  T : OexC K C
  no : PySem.W.findIn K (.ref C) f = some none
  sy : ∃ o, K.lookup sysModules = some o
  mr : mg "repr" = none
  ms : mg "super" = none
  ex : ∃ (f1 cc cda : Addr) (name qual : Str) (params : Arguments) (scope : Scope) (dV kV doc pm ct oc ccl cl : Value) (an od cdd cld : Option Addr) (osl ccs csl : Array (Option Value)) (vs0 : Array Value) (file : Str) (tf : Tok) (cdC : ClassData) (ar : Arg) (p q : Nat → Pos) (j : Nat),
    PySem.W.findIn K (.ref C) "__init__" = some (some (.ref f1)) ∧ PySem.W.typeIn K (.ref f1) = some (.type "function") ∧
    K.lookup f1 = some ⟨oc, od, .func (PySem.W.ksFn name qual params (supB f (supA m f q j) p) scope dV kV doc pm an (.ref cda) ct cc), osl⟩ ∧ PySem.W.codeIn K (.ref cda) qual = true ∧
    K.lookup cda = some ⟨ccl, cdd, .fields vs0, ccs⟩ ∧ vs0[2]? = some (.str file tf) ∧ ((P.main.file : Str) == file) = true ∧ (P.main.scope.names.lookup ("super" : Str)).isSome = false ∧
    K.lookup cc = some ⟨cl, cld, .cell (some (.ref C)), csl⟩ ∧ PySem.W.clsIn K C = some cdC ∧ PySem.W.mroIn K C (.ref C) = some true ∧ PySem.W.nsIn K cStatics "thirdparty.any" = some none ∧
    PySem.W.ks_superIn K C C "__init__" = some (some (.builtin "ValueError.__init__")) ∧ PySem.W.subIn K (.ref C) (.type "ValueError") = some true ∧
    NdefX.NScope (supN f) ["self", f] ["__class__"] scope ∧ scope.names.lookup ("super" : Str) = some .globalImplicit ∧ scope.names.lookup ("repr" : Str) = some .globalImplicit ∧ (params.posonlyargs ++ params.args).head? = some ar ∧ ar.arg = "self" ∧
    (f == ("__debug__" : Str)) = false ∧ (f == ("__classdict__" : Str)) = false ∧ ((p 2).endLine == (p 3).line) = true ∧
    ∀ a u : Value, bindArgs (PySem.W.ksFn name qual params (supB f (supA m f q j) p) scope dV kV doc pm an (.ref cda) ct cc) ⟨[a, u], []⟩ = pure [(("self" : Str), a), (f, u)] ∧
      bindArgs (PySem.W.ksFn name qual params (supB f (supA m f q j) p) scope dV kV doc pm an (.ref cda) ct cc) ⟨[a], [(f, u)]⟩ = pure [(("self" : Str), a), (f, u)]
theorem under_guards {A : Around} (C : Addr) (us : List Value) (kw : List (Str × Value)) (h : A.guards = some []) : (A.under (.builtin "type.__call__" ⟨.ref C :: us, kw⟩)).guards = some [] := by
  first | exact h | simpa [Around.under] using h
theorem deeper_gd {A : Around} {env : Env} (h : A.guards = some []) : (A.deeper env).guards = some [] := by
  first | exact h | simpa [Around.deeper] using h
section
variable [Tb] {X : Cx}
/-- C(e), the error made -/
theorem pmk_sup {x f m : Str} {C : Addr} {e : Expr} {te : TE} {p pos : Pos} (T : SupC X.prog X.K X.mg C f m) (gd : X.A.guards = some []) (hr : Room 2 X.A) (hg : Gl X x) (hm : X.mg x = some (.ref C)) (he : PE X e te)
    (hdb : (x == ("__debug__" : Str)) = false) (hs : starEach [e] X.env = (false, eval e X.env) :: starEach [] X.env) :
    PMk X (.Call (.Name x p) [e] [] pos) (fun σ H Q => te σ H fun v H1 => ∃ pd, Shw X H1 v pd ∧ shows pd = true ∧ m.length + pd.shown.length ≤ sizeLine ∧ ∀ d, H1 d = none → Q (.ref C) (some d) (upd H1 d (.xd [(f, v)]))) := by
  intro pins s σ H Q I h
  have TT := T.T
  obtain ⟨nm, q, N, bs, bm, sn, sub, ab, col, dd, k0, k1, k2, k3, k5, hC, hbm⟩ := T.T.cls
  obtain ⟨f1, cc, cda, name, qual, params, scope, dV, kV, doc, pm, ct, oc, ccl, cl, an, od, cdd, cld, osl, ccs, csl, vs0, file, tf, cdC, ar, pp, qq, j, iC, tI, lk, hcd, lcda, hvs, hfile, htop, lcc, hcl, hsub, ho3, hsup, hVE, S, hks, hkr, hp, har, hd1, hd2, hl, hbind⟩ := T.ex
  refine wpAny_Call_Name_kw (ld_glob I hg hm ?_ hdb)
  refine PySem.W.callWith_K (h₀ := X.base) I.ok.mod.kin T.T.kC (thn ((pa_cons he pa_nil hs).run pos pins s σ H (fun vs H1 => match vs with
    | [v] => ∃ pd, Shw X H1 v pd ∧ shows pd = true ∧ m.length + pd.shown.length ≤ sizeLine ∧ ∀ d, H1 d = none → Q (.ref C) (some d) (upd H1 d (.xd [(f, v)]))
    | _ => False) I h) fun us s1 ⟨vs, H1, I1, r1, q1⟩ => ⟨I1.kIn, ?_⟩) hs rfl
  obtain ⟨v, rfl⟩ : ∃ v, vs = [v] := by
    match vs, q1 with
    | [v], _ => exact ⟨v, rfl⟩
  obtain ⟨pd, sh, shs, hz, q1⟩ := q1
  obtain ⟨u, rfl, ru⟩ := vals1 r1
  show wpAny _ _ (call (.ref C) [u]) _ _ _
  obtain ⟨hp1, g, dr, tk, os⟩ := s1
  have hsz : hp1.objs.size ≤ hp1.objs.size + 1 := Nat.le_succ _
  have hn : H1 (hp1.objs.size + 1) = none := I1.hok.fresh hsz
  have kk : ∀ b o, hp1.get? b = some o → ((hp1.push (PySem.W.kdv_tup [u])).push (PySem.HandSPX.excO C hp1.objs.size)).get? b = some o := fun b o e => Heap.get?_push_of_some _ (Heap.get?_push_of_some _ e)
  have hget : ((hp1.push (PySem.W.kdv_tup [u])).push (PySem.HandSPX.excO C hp1.objs.size)).get? (hp1.objs.size + 1) = some (PySem.HandSPX.excO C hp1.objs.size) := by heap_get
  have I2 : Inv X pins σ (upd H1 (hp1.objs.size + 1) (exo (hp1.objs.size + 1) C none)) ⟨(hp1.push (PySem.W.kdv_tup [u])).push (PySem.HandSPX.excO C hp1.objs.size), g, dr, tk, os⟩ :=
    I1.laid (t' := tk) (a := hp1.objs.size + 1) (o := exo (hp1.objs.size + 1) C none) (h' := (hp1.push (PySem.W.kdv_tup [u])).push (PySem.HandSPX.excO C hp1.objs.size)) kk hsz (exo_ok hget)
  have gd2 := under_guards C [u] [] gd
  have hr2 := hr.make C [u] []
  refine wpAny_call (PySem.HandSPX.call_own F.excBase_ValueError (fun Y => PySem.HandSPX.refsVE_contains Y bm hbm) (I1.kIn _ _ hC) (PySem.W.looks_findIn I1.kIn iC) (fun self => PySem.W.bind_fn I1.kIn self tI) (by rw [sizeLine_eq]; show 1 ≤ _; omega)
    (codeAny_mono (init_run (CX := L2.CX X.prog X.w) (Q := fun y H2 => y = .non ∧ ∃ dx, H2 = upd (upd (upd H1 (hp1.objs.size + 1) (exo (hp1.objs.size + 1) C none)) dx (exd dx [(f, v)])) (hp1.objs.size + 1) (exo (hp1.objs.size + 1) C (some dx)) ∧ upd H1 (hp1.objs.size + 1) (exo (hp1.objs.size + 1) C none) dx = none ∧ dx ≠ hp1.objs.size + 1) (E := fun _ _ _ => False) (a := hp1.objs.size + 1) TT lk hcd lcda hvs hfile htop lcc hcl hsub ho3 hsup hVE T.no S hks hp har T.ms hd1 hd2 (fun _ => rfl) hl (fun _ => rfl) hr2 (I2.env0.make C [u] []) upd_same (.of_eq (hbind _ _).1) ru ?_) fun r s' hq' => ?_))
  · refine ⟨_, pe_supA (i := 1) (deeper_gd gd2) (by have := (hr2.deeper (NdefX.envF (supF name qual params (supB f (supA m f qq j) pp) scope cc cda) f1 ((hp1.push (PySem.W.kdv_tup [u])).push (PySem.HandSPX.excO C hp1.objs.size)).objs.size)).units; exact this) T.sy hkr T.mr rfl (.inl (S.par _ (by simp))) hd1 hd2, ?_⟩
    obtain ⟨n, r, d, hrep, hpd⟩ := sh
    exact ⟨v, pd, rfl, ⟨n, r, d, Rep.stp (stp_new hn) _ _ hrep, hpd⟩, shs, hz, rfl, upd_same, fun dx h1 h2 => ⟨rfl, dx, rfl, h1, h2⟩⟩
  · cases r with
    | error er =>
      obtain ⟨_, _, _, _, _, _, _, _, _, _, _, _, z⟩ := hq'
      exact z.elim
    | ok fl =>
      cases fl with
      | ret u2 =>
        obtain ⟨v2, H2, os2, bare2, un2, hok2, rv, rfl, dx, rfl, hd, hda⟩ := hq'
        obtain ⟨h2, g2, d2, t2, os'⟩ := s'
        have hd1' : H1 dx = none := by rw [upd_ne hda] at hd; exact hd
        refine ⟨rv, mk_end (raises_own TT.exC TT.tyC) I1 hsz kk un2 hok2 os2 bare2 upd_same (by rw [upd_ne hda, upd_same]) hd1' ?_⟩
        have e : upd (del (upd (upd (upd H1 (hp1.objs.size + 1) (exo (hp1.objs.size + 1) C none)) dx (exd dx [(f, v)])) (hp1.objs.size + 1) (exo (hp1.objs.size + 1) C (some dx))) (hp1.objs.size + 1)) dx (.xd [(f, v)]) = upd H1 dx (.xd [(f, v)]) := by
          funext b
          by_cases h1 : b = dx
          · rw [h1, upd_same, upd_same]
          · rw [upd_ne h1, upd_ne h1]
            by_cases h2 : b = hp1.objs.size + 1
            · rw [h2, del_same, hn]
            · rw [del_ne h2, upd_ne h2, upd_ne h1, upd_ne h2]
        rw [e]
        exact q1 dx hd1'
      | next => exact False.elim hq'
      | brk => exact False.elim hq'
      | cont => exact False.elim hq'
end
end Fw

set_option Elab.async false
set_option linter.all false
set_option maxRecDepth 100000
set_option maxHeartbeats 1000000
namespace Fw
open PySem PySem.Spec PyProof.Rows L2
open PySem.W in
/-- an error's class, asked by isinstance: with or without a dict -/
theorem err_class {prog : Program} {w : World} {A : Around} {E : Value → Shared → Prop} {s : Shared} {K : Frag} {x D : Addr} {ox : Obj} {od : Option Obj} {Q : Option Value → Shared → Prop} (T : ExcC K D) (X : K.In s.heap) (I : InstAt s.heap x ox D od)
    (h : Q (some (.ref D)) { s with toks := s.toks + 1 }) : wpAny (model prog w) A (getAttr? (.ref x) "__class__") Q E s := by
  have hf : findObj K D od "__class__" = some (.bind (.builtin "getset_descriptor.__get__") (.builtin "object.__class__")) := by
    obtain ⟨cd, hc, _⟩ := any_some T.hd
    unfold findObj
    rw [hc, Option.bind_some, T.ha, Option.bind_some]
    simp [T.hn, T.ht]
  cases s with
  | mk hp g d t os =>
  have l0 := I.type (M := model prog w)
  have l3 := looks_find (M := model prog w) X I hf
  have sb : Looks (model prog w) hp (isInstance (.ref x) (.type "BaseException")) true := l0.andThen (looks_subIn X T.hs)
  unfold getAttr? getAttrBy? getAttrBy
  refine wpAny_bind (wpAny_mkText (wpAny_bind (wpAny_attempt (wpAny_holding (wpAny_bind (l0.at (wpAny_bind ((looks_findIn (M := model prog w) X T.hg).at ?_))))))))
  show wpAny _ _ (if (onTheHeap (Value.ref D) && Value.builtin "BaseException.__getattribute__" == Value.builtin "object.__getattribute__") = true then _ else _) _ _ _
  rw [show (Value.builtin "BaseException.__getattribute__" == Value.builtin "object.__getattribute__") = false by decide +kernel, Bool.and_false, if_neg Bool.false_ne_true]
  unfold getAttrByItsOwn hookBefore
  refine wpAny_bind ?_
  rw [if_pos (show onTheHeap (Value.ref D) = true from rfl)]
  refine (looks_findIn (M := model prog w) X T.hk).at (wpAny_bind (wpAny_attempt (wpAny_holding ?_)))
  unfold callGetattribute
  rw [show (false && onTheHeap (Value.builtin "BaseException.__getattribute__")) = false from rfl, if_neg Bool.false_ne_true]
  unfold boundAndCalled
  rw [PySem.F.excAttr_ValueError.ga.bind (.ref x)]
  refine wpAny_bind (wpAny_pure ?_)
  show wpAny _ _ (call (.builtin "BaseException.__getattribute__") [.ref x, .str "__class__" t]) _ _ _
  refine wpAny_call (codeAny_call_builtin PySem.F.excAttr_ValueError.ga.plain PySem.F.entry_bexc_ga
    (@PySem.W.check_slot (model prog w) _ _ ⟨hp, g, d, t + 1, os⟩ "BaseException.__getattribute__" "BaseException" "__getattribute__" (.ref x) [.str "__class__" t] [] _ (by decide +kernel) (by decide +kernel) sb (PySem.F.args_bexc_ga (.ref x) (.str "__class__" t)) ?_))
  unfold Builtin.«object.__getattribute__»
  refine wpAny_bind (wpAny_of_eq (a := ((Value.ref x : Value), [Value.str "__class__" t])) (by first | rfl | (simp only [slotArgs]; rfl)) (wpAny_bind (wpAny_pure (wpAny_bind (l0.at (wpAny_bind (l3.at ?_)))))))
  show wpAny _ _ (holding [Value.builtin "object.__class__"] (call (.builtin "getset_descriptor.__get__") [.builtin "object.__class__", .ref x, .ref D]) >>= ret) _ _ _
  refine wpAny_bind (wpAny_holding (wpAny_call (class_get (s := ⟨hp, g, d, t + 1, os⟩) X I T.hm (wpAny_pure ?_))))
  show wpAny _ _ (handedOut (.ref D)) _ _ _
  rw [handedOut_of (v := .ref D) rfl]
  first
    | exact wpAny_pure (wpAny_pure h)
    | exact wpAny_pure h
    | exact wpAny_pure (wpAny_bind (wpAny_pure (wpAny_pure h)))
open PySem.W in
theorem kitx_err {K : Frag} {x D : Addr} {ox : Obj} {od : Option Obj} (T : ExcC K D) : KitX K (.ref x) (.ref D) (fun h => InstAt h x ox D od) := by
  have cl : ∃ c' d' cd sl, K.lookup D = some ⟨c', d', .cls cd, sl⟩ := by
    obtain ⟨cd, hc, _⟩ := any_some T.hd
    unfold clsIn at hc
    split at hc
    · exact ⟨_, _, _, _, by assumption⟩
    · cases hc
  obtain ⟨c', d', cd, sl, ho⟩ := cl
  refine ⟨fun _ _ _ I => I.type, fun _ _ X _ => fun A' Q' E' s' k q => ?_, fun h tp dd its n sl X htp => ?_, fun X I k => err_class T X I k⟩
  · unfold isType loadHead
    exact wpAny_bind (wpAny_loadPart (k _ _ (X _ _ ho)) (wpAny_pure q))
  · refine Bool.eq_false_iff.mpr fun q => ?_
    have e : D = tp := Value.ref.inj (beq_iff_eq.mp q)
    rw [← e, X _ _ ho] at htp
    cases htp
end Fw

set_option Elab.async false
set_option linter.all false
set_option maxRecDepth 100000
set_option maxHeartbeats 1000000
namespace PySem
namespace HandSPX
open PySem.W PySem.Spec PySem.Calls PyProof.Rows
section
variable {M : Model} {A : Around} {E : Value → Shared → Prop} {h : Heap} {g : Array GenState} {d : Drawn} {t : Nat} {os : OsState} {prog : Program} {w : World} {R : Result → Shared → Prop}
variable {nm q : Str} {C N : Addr} {bs bm bmB : List Value} {hdct : Bool} {sn : List Str} {sub : List Value} {ab : Bool} {col : Option Bool} {dd : Option Addr} {k0 k1 k2 k3 k5 : Option Value} {B newId initId : String}
theorem kwF_check (F : ExcBaseFacts B newId initId bmB) (hT : ∀ X : String, bm.contains (.type X) = bmB.contains (.type X)) {kw : List (Str × Value)} {Q : Unit → Shared → Prop}
    (hC : h.get? C = some (excClassObj nm q C N bs bm hdct sn sub ab col dd k0 k1 k2 k3 k5 newId)) (hq : Q () ⟨h, g, d, t, os⟩) : wpAny M A (checkBuiltinCall newId ⟨[.ref C], kw⟩) Q E ⟨h, g, d, t, os⟩ := by
  have c1 : (Value.ref C :: bm).contains (.type B) = true := by rw [List.contains_cons, hT, F.hasB, Bool.or_true]
  have c2 := F.noStar
  simp only [checkBuiltinCall, F.newKind, F.newSplit, F.newRow]
  repeat (first | refine wpAny_loadPart_at hC ?_ | (refine wpAny_isSubtype_exc hC ?_; rw [c1]) | refine wpAny_staticBase_exc hC ?_ | refine wpAny_madeBy_exc hC ?_ | simp only [bne_self_eq_false, Bool.false_eq_true, if_false] | wp_step)
  exact hq
theorem kwF_new (F : ExcBaseFacts B newId initId bmB) (hT : ∀ X : String, bm.contains (.type X) = bmB.contains (.type X)) {kw : List (Str × Value)}
    (hC : h.get? C = some (excClassObj nm q C N bs bm hdct sn sub ab col dd k0 k1 k2 k3 k5 newId)) (hq : R (.ok (.ret (.ref (h.objs.size + 1)))) ⟨(h.push (W.kdv_tup [])).push (excO C h.objs.size), g, d, t, os⟩) :
    codeAny (model prog w) A (.builtin newId ⟨[.ref C], kw⟩) R ⟨h, g, d, t, os⟩ := by
  have c0 := F.ends
  have c1 : (Value.ref C :: bm).contains (.type B) = true := by rw [List.contains_cons, hT, F.hasB, Bool.or_true]
  have c2 : (Value.ref C :: bm).contains (.type "AttributeError") = false := by rw [List.contains_cons, hT, F.noAttr]; rfl
  have c3 : (Value.ref C :: bm).contains (.type "NameError") = false := by rw [List.contains_cons, hT, F.noName]; rfl
  have hz : ([] : List Value).length ≤ sizeLine := Nat.zero_le _
  refine codeAny_builtinAt F.entry (wpAt_bind ?_)
  show wpAt _ _ _ (stack >>= _) _ _ _
  refine wpAt_bind (wpAt_stack fun p below => wpAt_of_wpAny ?_)
  wp_walk
  refine wpAt_of_wpAny ?_
  rw [F.owner]
  repeat (first | with_reducible refine wpAny_madeHere_exc F.canon hC ?_ | with_reducible refine wpAny_loadPart_at hC ?_ | (with_reducible refine wpAny_isSubtype_exc hC ?_; first | rw [c1] | rw [c2] | rw [c3]) | wp_step)
  show R _ _
  rw [Heap.size_push]
  exact hq
theorem kwF_type (F : ExcBaseFacts B newId initId bmB) (hT : ∀ X : String, bm.contains (.type X) = bmB.contains (.type X)) {kw : List (Str × Value)} {fI : Addr} {Q : Fin → Shared → Prop}
    (hC : h.get? C = some (excClassObj nm q C N bs bm hdct sn sub ab col dd k0 k1 k2 k3 k5 newId))
    (hi : W.Looks (model prog w) h (typeLookup (.ref C) "__init__") (some (.ref fI))) (hb : ∀ self, W.Looks (model prog w) h (bindSpecial (.ref fI) self) (.ref fI, [self]))
    (hq : codeAny (model prog w) A (.call (.ref fI) ⟨[.ref (h.objs.size + 1)], kw⟩) (fun r s' => match r with | .ok (.ret v) => v = .none ∧ Q (.done (.ret (.ref (h.objs.size + 1)))) s' | .ok _ => False | .error e => E e s') ⟨(h.push (W.kdv_tup [])).push (excO C h.objs.size), g, d, t, os⟩) :
    wpAny (model prog w) A (Builtin.«type.__call__» ⟨[.ref C], kw⟩) Q E ⟨h, g, d, t, os⟩ := by
  repeat (first | with_reducible refine wpAny_loadPart_at hC ?_ | with_reducible refine wpAny_madeBy_exc hC ?_ | wp_step)
  refine codeAny_call_builtin_code (Code.quiet_builtin _ F.quiet) (kwF_check F hT hC (kwF_new F hT hC ?_))
  show wpAny _ _ _ _ _ _
  have kp : ∀ b o, h.get? b = some o → ((h.push (W.kdv_tup [])).push (excO C h.objs.size)).get? b = some o := fun b o z => Heap.get?_push_of_some _ (Heap.get?_push_of_some _ z)
  have hC1 := kp _ _ hC
  have hg1 : ((h.push (W.kdv_tup [])).push (excO C h.objs.size)).get? (h.objs.size + 1) = some (excO C h.objs.size) := by heap_get
  have c4 : (Value.ref C :: bm).contains (.ref C) = true := by simp
  unfold isInstance
  repeat (first | with_reducible refine wpAny_loadPart_at hg1 ?_ | (with_reducible refine wpAny_isSubtype_exc hC1 ?_; rw [c4]) | wp_step)
  show wpAny _ _ (typeLookup (.ref C) _) _ _ _
  refine (hi.keeps kp).at (wpAny_holding (wpAny_bind (((hb (.ref (h.objs.size + 1))).keeps kp).at (wpAny_bind (wpAny_call (codeAny_mono hq fun r s' z => ?_))))))
  rcases r with e | (v | _ | _ | _) <;> first | exact z | exact z.elim | skip
  obtain ⟨rfl, z⟩ := z
  first
    | exact wpAny_pure (wpAny_pure z)
    | (wp_walk; exact z)
theorem kwF_call (F : ExcBaseFacts B newId initId bmB) (hT : ∀ X : String, bm.contains (.type X) = bmB.contains (.type X)) {kw : List (Str × Value)} {fI : Addr}
    (hC : h.get? C = some (excClassObj nm q C N bs bm hdct sn sub ab col dd k0 k1 k2 k3 k5 newId))
    (hi : W.Looks (model prog w) h (typeLookup (.ref C) "__init__") (some (.ref fI))) (hb : ∀ self, W.Looks (model prog w) h (bindSpecial (.ref fI) self) (.ref fI, [self]))
    (hq : codeAny (model prog w) (A.under (.builtin "type.__call__" ⟨[.ref C], kw⟩)) (.call (.ref fI) ⟨[.ref (h.objs.size + 1)], kw⟩) (W.InitBack (h.objs.size + 1) R) ⟨(h.push (W.kdv_tup [])).push (excO C h.objs.size), g, d, t, os⟩) :
    codeAny (model prog w) A (.call (.ref C) ⟨[], kw⟩) R ⟨h, g, d, t, os⟩ := by
  have e1 := tc_lookup
  have e2 := tc_bind (.ref C)
  have e3 : (⟨h, g, d, t, os⟩ : Shared).TypeIs (.ref C) "type" := ⟨_, hC, rfl⟩
  refine codeAny_of_tree ?_
  show wpAny _ _ (callAny (.ref C) _) _ _ _
  repeat (any_goals (first | assumption | with_reducible refine wpAny_loadPart_at hC ?_ | wp_step))
  refine ⟨rfl, codeAny_call_builtin_at (Code.quiet_builtin _ (by decide +kernel)) entry_typeCall (wpAny_check_type_call_sub hC (kwF_type F hT hC hi hb (codeAny_mono hq fun r s' z => ?_)))⟩
  rcases r with e | (v | _ | _ | _) <;> exact z
end
end HandSPX
end PySem

set_option Elab.async false
set_option linter.all false
set_option maxRecDepth 100000
set_option maxHeartbeats 2000000
namespace Fw
open PySem PySem.Spec PyProof.Rows L2

/-! the text, as the proofs read it -/
inductive Tg where
  | nm (i : Nat)
  | tp (ts : List Tg)
mutual
inductive Ex where
  | var (i : Nat)
  | glo (x : Str)
  | con (c : Const)
  | bin (o : Operator) (a b : Ex)
  | neg (a : Ex)
  | cmp (o : CmpOp) (a b : Ex)
  | cmp2 (o p : CmpOp) (a b c : Ex)
  | and (a b : Ex) | or (a b : Ex) | not (a : Ex)
  | ite (c a b : Ex)
  | tup (es : Es)
  | lst (m : Bool) (es : Es)
  | dct (m : Bool) (ks : List Str) (es : Es)
  | idx (a b : Ex)
  | sl (a : Ex) (lo hi : Op)
  | call (f : Str) (es : Es) (ks : List Str) (kes : Es)
  | bi (f : Str) (es : Es)
  | mt (a : Ex) (m : Str) (es : Es)
  | lc (m : Bool) (own : List (Str × Nat)) (tg : Tg) (it : It1) (c : Op) (e : Ex)
  | lam (f : Str) (e : Ex)
  | isE (i : Nat) (c : Ex)
  | fldE (i : Nat) (f : Str)
  | act (i : Nat)
  | err0 (C m : Str)
  | err1 (C : Str) (e : Ex)
  | errK (C f : Str) (e : Ex)
  | att (a : Ex) (f : Str)
inductive Es where
  | nil
  | cons (e : Ex) (r : Es)
inductive Op where
  | no
  | yes (e : Ex)
inductive It1 where
  | ex (e : Ex)
  | rng (a : Ex)
  | rng2 (a b : Ex)
  | enm (a : Ex)
end
/-- a program's text, as calls see it: the names that may be called, the module's constants, the built-ins that stand, isinstance between classes, what calls do -/
structure Nms where
  /-- names that may be called -/
  T : List Str
  /-- built-ins that stand -/
  F : List Str
  /-- defs that take a closure -/
  LT : List Str
  /-- own classes that clauses name -/
  CN : List Str
structure Sta where
  nm : Nms
  G : Str → Option D
  I : Sum String Str → Sum String Str → Option Bool
  C : Str → List D → List (Str × D) → Sto → R D
  /-- classes whose instances are data -/
  IC : List Str
  /-- except's question, the class of an error against a clause's -/
  EI : Str → Str → Option Bool
  /-- own error classes without __init__ that are raised -/
  RX : List Str
  /-- error classes -/
  EC : List Str
  /-- fields of errors that are read -/
  XF : List (Str × Str)
  /-- own error classes whose __init__ keeps its argument: the field, the message -/
  RI : Str → Option (Str × Str)
  /-- there is room for such an __init__ -/
  rm : Bool
  /-- defs that take a closure, and what they do with it -/
  L : Str → (Sto → R D) → Sto → R D
  /-- closures may be made here -/
  lam : Bool
  /-- in an except suite: the slot of the error, the error -/
  hot : Option (Option Nat × Xc)
  /-- the slot of a closure, and what it does -/
  thk : Option (Nat × (Sto → R D))

def Sta.inner (t : Sta) : Sta := { t with lam := false, hot := none, thk := none }
/-- within a comprehension -/
def Sta.blk (t : Sta) : Sta := { t with lam := false, hot := none, thk := none }
/-- not in an except suite -/
def Sta.cold {α : Type} (t : Sta) (r : R α) : R α := if t.hot.isNone then r else .bad
def conD : Const → Option D
  | .none => some .non
  | .bool b => some (.bl b)
  | .int i => some (.int i)
  | .str x => some (.str x)
  | _ => none
/-! names -/
def visB (sc : Scope) (x : Str) : Bool := match sc.names.lookup x with
  | some .local => true
  | some .cell => true
  | some .free => true
  | _ => false
def glB (sc : Scope) (x : Str) : Bool := decide (sc.names.lookup x = some .globalImplicit)
def nmB (x : Str) : Bool := !(x == ("__debug__" : Str)) && (!(x == ("__classdict__" : Str)) && !decide (x = "__name__"))
def locB (sc : Scope) (x : Str) : Bool := decide (sc.names.lookup x = some .local) || decide (sc.names.lookup x = some .cell)
/-! small tables -/
def atD (ds : List D) (i : Int) : Option D := atI ds i
def idxD (x y : D) (S : Sto) : R D := match flat S x, y with
  | .lst ds, .int i => (match atI ds i with
    | some d => .ok d S
    | none => .bad)
  | .tup ds, .int i => (match atI ds i with
    | some d => .ok d S
    | none => .bad)
  | .str z, .int i => if z.length ≤ sizeLine then (match atI z.cps.toList i with
    | some c => .ok (.str ⟨#[c]⟩) S
    | none => .bad) else .bad
  | .dct ks ds, y => (match keyD y with
    | some k => (match dgetD ks ds k with
      | some d => .ok d S
      | none => .bad)
    | none => .bad)
  | _, _ => .bad
def cutD {α : Type} (xs : List α) (lo hi : Option Int) : List α := (xs.drop (HT.sIx xs.length 0 lo)).take (HT.sIx xs.length xs.length hi - HT.sIx xs.length 0 lo)
def slD (x : D) (lo hi : Option Int) (S : Sto) : R D := match flat S x with
  | .lst ds => .ok (.lst (cutD ds lo hi)) S
  | .tup ds => .ok (.tup (cutD ds lo hi)) S
  | _ => .bad
/-- the things that a walk comes to, and the place whose list they are -/
def itD (S : Sto) : D → R (List D × Option Nat)
  | .lst ds => .ok (ds, none) S
  | .tup ds => .ok (ds, none) S
  | .scr ns => .ok (ns.map .int, none) S
  | .str x => .ok (x.cps.toList.map fun c => .str ⟨#[c]⟩, none) S
  | .ref l => (match S[l]? with
    | some (.lst ds) => .ok (ds, some l) S
    | _ => .bad)
  | _ => .bad
def rngL (lo : Int) (n : Nat) : List D := (List.range n).map fun i => .int (lo + ((i : Nat) : Int))
def small62 (i : Int) : Bool := decide (-(2 ^ 62) ≤ i) && decide (i < 2 ^ 62)
def okW (S : Sto) (ds : List D) : Option Nat → Prop
  | none => True
  | some l => S[l]? = some (.lst ds)
mutual
/-- the same data, by a look -/
def dEq : D → D → Bool
  | .non, .non => true
  | .bl a, .bl b => a == b
  | .int a, .int b => decide (a = b)
  | .str a, .str b => decide (a = b)
  | .ty a, .ty b => decide (a = b)
  | .glo a, .glo b => decide (a = b)
  | .scr a, .scr b => decide (a = b)
  | .ref a, .ref b => decide (a = b)
  | .tup a, .tup b => dEqL a b
  | .lst a, .lst b => dEqL a b
  | .dct k a, .dct l b => decide (k = l) && dEqL a b
  | .obj C k a, .obj E l b => decide (C = E) && (decide (k = l) && dEqL a b)
  | .err C k a, .err E l b => decide (C = E) && (decide (k = l) && dEqL a b)
  | _, _ => false
def dEqL : List D → List D → Bool
  | [], [] => true
  | x :: xs, y :: ys => dEq x y && dEqL xs ys
  | _, _ => false
end
mutual
theorem dEq_ok : ∀ x y : D, dEq x y = true → x = y
  | .non, y, h => by cases y <;> first | rfl | (simp [dEq] at h)
  | .bl a, y, h => by
    cases y with
    | bl b => simp [dEq] at h; rw [h]
    | _ => simp [dEq] at h
  | .int a, y, h => by
    cases y with
    | int b => simp [dEq] at h; rw [h]
    | _ => simp [dEq] at h
  | .str a, y, h => by
    cases y with
    | str b => simp [dEq] at h; rw [h]
    | _ => simp [dEq] at h
  | .ty a, y, h => by
    cases y with
    | ty b => simp [dEq] at h; rw [h]
    | _ => simp [dEq] at h
  | .glo a, y, h => by
    cases y with
    | glo b => simp [dEq] at h; rw [h]
    | _ => simp [dEq] at h
  | .scr a, y, h => by
    cases y with
    | scr b => simp [dEq] at h; rw [h]
    | _ => simp [dEq] at h
  | .ref a, y, h => by
    cases y with
    | ref b => simp [dEq] at h; rw [h]
    | _ => simp [dEq] at h
  | .tup a, y, h => by
    cases y with
    | tup b => rw [dEq] at h; rw [dEqL_ok a b h]
    | _ => simp [dEq] at h
  | .lst a, y, h => by
    cases y with
    | lst b => rw [dEq] at h; rw [dEqL_ok a b h]
    | _ => simp [dEq] at h
  | .dct k a, y, h => by
    cases y with
    | dct l b =>
      rw [dEq, Bool.and_eq_true] at h
      rw [dEqL_ok a b h.2, of_decide_eq_true h.1]
    | _ => simp [dEq] at h
  | .obj C k a, y, h => by
    cases y with
    | obj E l b =>
      rw [dEq, Bool.and_eq_true, Bool.and_eq_true] at h
      rw [dEqL_ok a b h.2.2, of_decide_eq_true h.1, of_decide_eq_true h.2.1]
    | _ => simp [dEq] at h
  | .err C k a, y, h => by
    cases y with
    | err E l b =>
      rw [dEq, Bool.and_eq_true, Bool.and_eq_true] at h
      rw [dEqL_ok a b h.2.2, of_decide_eq_true h.1, of_decide_eq_true h.2.1]
    | _ => simp [dEq] at h
theorem dEqL_ok : ∀ x y : List D, dEqL x y = true → x = y
  | [], y, h => by cases y <;> first | rfl | (simp [dEqL] at h)
  | x :: xs, y, h => by
    cases y with
    | nil => simp [dEqL] at h
    | cons y ys =>
      rw [dEqL, Bool.and_eq_true] at h
      rw [dEq_ok x y h.1, dEqL_ok xs ys h.2]
end
def okB (S : Sto) (ds : List D) : Option Nat → Bool
  | none => true
  | some l => (match S[l]? with
    | some (.lst es) => dEqL es ds
    | _ => false)
theorem okB_ok {S : Sto} {ds : List D} {w : Option Nat} (h : okB S ds w = true) : okW S ds w := by
  cases w with
  | none => trivial
  | some l =>
    have h : (match S[l]? with
      | some (.lst es) => dEqL es ds
      | _ => false) = true := h
    show S[l]? = some (.lst ds)
    cases hq : S[l]? with
    | none => rw [hq] at h; cases h
    | some o =>
      rw [hq] at h
      cases o with
      | lst es =>
        have z := dEqL_ok es ds h
        rw [z]
      | dct _ _ => cases h
      | ins _ _ _ => cases h
mutual
def tgD : Tg → D → En → Option En
  | .nm i, d, s => some (s.set i (some d))
  | .tp ts, .tup ds, s => tgL ts ds s
  | .tp _, _, _ => none
def tgL : List Tg → List D → En → Option En
  | [], [], s => some s
  | t :: ts, d :: ds, s => (tgD t d s).bind fun s' => tgL ts ds s'
  | _, _, _ => none
end
mutual
def slT : Tg → List Nat
  | .nm i => [i]
  | .tp ts => slTs ts
def slTs : List Tg → List Nat
  | [] => []
  | t :: ts => slT t ++ slTs ts
end
def slotsIn (tg : Tg) (own : List (Str × Nat)) : Bool := (slT tg).all fun i => decide (i ∈ own.map (·.2))
def wipeD (s : En) : List Nat → En
  | [] => s
  | v :: vs => (wipeD s vs).set v none
/-! what built-ins do -/
def tyD : D → Sto → Option (Sum String Str)
  | .non, _ => some (.inl "NoneType")
  | .bl _, _ => some (.inl "bool")
  | .int _, _ => some (.inl "int")
  | .str _, _ => some (.inl "str")
  | .tup _, _ => some (.inl "tuple")
  | .lst _, _ => some (.inl "list")
  | .scr _, _ => none
  | .dct _ _, _ => some (.inl "dict")
  | .obj C _ _, _ => some (.inr C)
  | .err C _ _, _ => some (.inr C)
  | .ref l, S => (match S[l]? with
    | some (.lst _) => some (.inl "list")
    | some (.dct _ _) => some (.inl "dict")
    | some (.ins C _ _) => some (.inr C)
    | none => none)
  | .ty _, _ => none
  | .glo _, _ => none
def clsD : D → Option (Sum String Str)
  | .ty n => some (.inl n)
  | .glo C => some (.inr C)
  | _ => none
def isiL (I : Sum String Str → Sum String Str → Option Bool) (a : Sum String Str) : List D → Option Bool
  | [] => some false
  | c :: cs => (clsD c).bind fun b => (I a b).bind fun r => if r = true then some true else isiL I a cs
def inrOk (IC : List Str) : Sum String Str → Bool
  | .inl _ => true
  | .inr C => decide (C ∈ IC)
def okTy (IC EC : List Str) (x : D) (a : Sum String Str) : Bool := match x with
  | .err C _ _ => decide (C ∈ EC)
  | _ => inrOk IC a
def isiD (IC EC : List Str) (I : Sum String Str → Sum String Str → Option Bool) (x c : D) (S : Sto) : Option Bool := (tyD x S).bind fun a => if okTy IC EC x a = true then (match c with
  | .tup cs => isiL I a cs
  | c => (clsD c).bind fun b => I a b) else none
def isiX (I : Sum String Str → Sum String Str → Option Bool) (C : Str) : D → Option Bool
  | .tup cs => isiL I (.inr C) cs
  | c => (clsD c).bind fun b => I (.inr C) b
def lookD : List Str → List D → Str → Option D
  | k :: ks, d :: ds, f => if f == k then some d else lookD ks ds f
  | _, _, _ => none
def blsD : List D → Option (List Bool)
  | [] => some []
  | .bl b :: ds => (blsD ds).map fun bs => b :: bs
  | _ :: _ => none
def biD (t : Sta) (f : Str) (ds : List D) (S : Sto) : R D :=
  if f = "len" then (match ds with
    | [d] => (match flat S d with
      | .lst es => .ok (.int es.length) S
      | .tup es => .ok (.int es.length) S
      | .scr ns => .ok (.int ns.length) S
      | .str x => if x.length ≤ sizeLine then .ok (.int x.length) S else .bad
      | _ => .bad)
    | _ => .bad)
  else if f = "isinstance" then (match ds with
    | [x, c] => (match isiD t.IC t.EC t.I x c S with
      | some b => .ok (.bl b) S
      | none => .bad)
    | _ => .bad)
  else if f = "int" then (match ds with
    | [.int i] => .ok (.int i) S
    | [.bl b] => .ok (.int (b2i b)) S
    | _ => .bad)
  else if f = "bool" then (match ds with
    | [.int i] => .ok (.bl (i != 0)) S
    | [.bl b] => .ok (.bl b) S
    | _ => .bad)
  else if f = "list" then (match ds with
    | [d] => (match flat S d with
      | .lst es => .ok (.lst es) S
      | .tup es => .ok (.lst es) S
      | .scr ns => .ok (.lst (ns.map .int)) S
      | _ => .bad)
    | _ => .bad)
  else if f = "tuple" then (match ds with
    | [d] => (match flat S d with
      | .lst es => .ok (.tup es) S
      | .tup es => .ok (.tup es) S
      | _ => .bad)
    | _ => .bad)
  else if f = "repr" then (match ds with
    | [d] => (match toPyR (flat S d) with
      | some p => if shows p = true then .ok (.str p.shown) S else .bad
      | none => .bad)
    | _ => .bad)
  else if f = "all" then t.cold (match ds with
    | [d] => (match flat S d with
      | .lst es => (match blsD es with
        | some bs => .ok (.bl (bs.all id)) S
        | none => .bad)
      | _ => .bad)
    | _ => .bad)
  else if f = "any" then t.cold (match ds with
    | [d] => (match flat S d with
      | .lst es => (match blsD es with
        | some bs => .ok (.bl (bs.any id)) S
        | none => .bad)
      | _ => .bad)
    | _ => .bad)
  else .bad
def putO (l : Nat) (o : O) (d : D) (S : Sto) : R D := .ok d (S.set l o)
/-- x.index(y): the first place that is equal -/
def fstEq (p : PyData) : List PyData → Nat → Option Nat
  | [], _ => none
  | q :: qs, i => if PyData.eqv q p = true then some i else fstEq p qs (i + 1)
def isStrD : D → Bool
  | .str _ => true
  | _ => false
def eqStrD (y : Str) : D → Bool
  | .str z => decide (z = y)
  | _ => false
def mtNames : List Str := ["append", "pop", "index"]
def isLstD : D → Bool
  | .lst _ => true
  | _ => false
def rcvB (m : Str) (x : D) : Bool := isLstD x
def mtD (m : Str) (x : D) (ds : List D) (S : Sto) : R D :=
  if m = "append" then (match x, ds with
    | .ref l, [d] => (match S[l]? with
      | some (.lst es) => if es.length < sizeLine then putO l (.lst (es ++ [d])) .non S else .bad
      | _ => .bad)
    | _, _ => .bad)
  else if m = "pop" then (match x, ds with
    | .ref l, [.int i] => (match S[l]? with
      | some (.lst es) => (match es, i with
        | e :: r, 0 => putO l (.lst r) e S
        | _, _ => .bad)
      | _ => .bad)
    | _, _ => .bad)
  else if m = "index" then (match flat S x, ds with
    | .lst es, [.str y] => (match es.findIdx? (eqStrD y) with
      | some j => if es.all isStrD then .ok (.int j) S else .bad
      | none => .bad)
    | _, _ => .bad)
  else .bad

/-- a comprehension's turns: the list stands at place n -/
def lcGo (n : Nat) (all : List D) (w : Option Nat) (st : D → Sto → R (Option D)) : List D → Sto → R Unit
  | [], S => if okB S all w = true then .ok () S else .bad
  | d :: r, S => if okB S all w = true then (st d S).bind fun o S1 => (match o with
    | none => lcGo n all w st r S1
    | some y => (match S1[n]? with
      | some (.lst acc) => if acc.length < sizeLine then lcGo n all w st r (S1.set n (.lst (acc ++ [y]))) else .bad
      | _ => .bad)) else .bad
/-- an exception here is not carried -/
def noX {α : Type} : R α → R α
  | .exc _ _ => .bad
  | r => r
/-- what stands at the last place n of the store is a value from now on -/
def thaw (n : Nat) (S : Sto) : R D := if S.length = n + 1 then (match S[n]? with
  | some (.lst ds) => if closedL n ds && (S.take n).all (O.closed n) then .ok (.lst ds) (S.take n) else .bad
  | some (.dct ks ds) => if closedL n ds && (S.take n).all (O.closed n) then .ok (.dct ks ds) (S.take n) else .bad
  | _ => .bad) else .bad
/-- can the message of such an error be made? -/
def errOk (m : Str) (d : D) : Bool := match toPyR d with
  | some p => shows p && decide (m.length + p.shown.length ≤ sizeLine)
  | none => false
def errF (t : Sta) (C : Str) : Option (Str × Str) := if t.rm = true then t.RI C else none
def attD (t : Sta) (x : D) (f : Str) (S : Sto) : R D := match x with
  | .err C ks ds => if (C, f) ∈ t.XF ∧ C ∈ t.EC then (match lookD ks ds f with
    | some d => .ok d S
    | none => .bad) else .bad
  | _ => .bad
def enmL : Nat → List D → List D
  | _, [] => []
  | i, d :: ds => .tup [.int ((i : Nat) : Int), d] :: enmL (i + 1) ds
/-- enumerate walks a list -/
def enmD (S : Sto) : D → R (List D × Option Nat)
  | .lst ds => .ok (enmL 0 ds, none) S
  | _ => .bad
mutual
def evE (t : Sta) : Ex → En → Sto → R D
  | .var i, s, S => match s[i]? with
    | some (some d) => .ok d S
    | _ => .bad
  | .glo x, _, S => match t.G x with
    | some d => .ok d S
    | none => .bad
  | .con c, _, S => match conD c with
    | some d => .ok d S
    | none => .bad
  | .bin o a b, s, S => (evE t a s S).bind fun x S1 => (evE t b s S1).bind fun y S2 => binD o x y S2
  | .neg a, s, S => (evE t a s S).bind fun x S1 => match x with
    | .int i => .ok (.int (-i)) S1
    | _ => .bad
  | .cmp o a b, s, S => (evE t a s S).bind fun x S1 => (evE t b s S1).bind fun y S2 => cmpD o x y S2
  | .cmp2 o p a b c, s, S => (evE t a s S).bind fun x S1 => (evE t b s S1).bind fun y S2 => (cmpD o x y S2).bind fun r S3 => match r with
    | .bl true => (evE t c s S3).bind fun z S4 => cmpD p y z S4
    | .bl false => .ok (.bl false) S3
    | _ => .bad
  | .and a b, s, S => (evE t a s S).bind fun x S1 => match x with
    | .bl true => evE t b s S1
    | .bl false => .ok (.bl false) S1
    | _ => .bad
  | .or a b, s, S => (evE t a s S).bind fun x S1 => match x with
    | .bl true => .ok (.bl true) S1
    | .bl false => evE t b s S1
    | _ => .bad
  | .not a, s, S => (evE t a s S).bind fun x S1 => match x with
    | .bl b => .ok (.bl (!b)) S1
    | _ => .bad
  | .ite c a b, s, S => (evE t c s S).bind fun x S1 => match x with
    | .bl true => evE t a s S1
    | .bl false => evE t b s S1
    | _ => .bad
  | .tup es, s, S => (evL t es s S).bind fun ds S1 => if ds.length ≤ sizeLine then .ok (.tup ds) S1 else .bad
  | .lst m es, s, S => (evL t es s S).bind fun ds S1 => if ds.length ≤ sizeLine then (if m then .ok (.ref S1.length) (S1 ++ [.lst ds]) else .ok (.lst ds) S1) else .bad
  | .dct m ks es, s, S => (evL t es s (S ++ [.dct [] []])).bind fun ds S1 => match S1[S.length]? with
    | some (.dct [] []) => (if m then .ok (.ref S.length) (S1.set S.length (.dct (ks.map Sum.inr) ds)) else thaw S.length (S1.set S.length (.dct (ks.map Sum.inr) ds)))
    | _ => .bad
  | .idx a b, s, S => (evE t a s S).bind fun x S1 => (evE t b s S1).bind fun y S2 => idxD x y S2
  | .sl a lo hi, s, S => (evE t a s S).bind fun x S1 => (evO t lo s S1).bind fun l S2 => (evO t hi s S2).bind fun h S3 => slD x l h S3
  | .call f es ks kes, s, S => (evL t es s S).bind fun ds S1 => (evL t kes s S1).bind fun qs S2 => t.cold (t.C f ds (ks.zip qs) S2)
  | .bi f es, s, S => (evL t es s S).bind fun ds S1 => biD t f ds S1
  | .mt a m es, s, S => (evE t a s S).bind fun x S1 => if rcvB m (flat S1 x) = true then ((evL t es s S1).bind fun ds S2 => mtD m x ds S2) else .bad
  | .lam f e, s, S => t.cold (if t.lam then t.L f (fun S1 => evE t.inner e s S1) S else .bad)
  | .isE i c, s, S => match t.hot with
    | some (some j, x) => if i = j ∧ x.ks = [] then ((evE t c s S).bind fun y S1 => match isiX t.I x.C y with
      | some b => .ok (.bl b) S1
      | none => .bad) else .bad
    | _ => .bad
  | .fldE i f, _, S => match t.hot with
    | some (some j, x) => if i = j ∧ (x.C, f) ∈ t.XF then (match lookD x.ks x.ds f with
      | some d => .ok d S
      | none => .bad) else .bad
    | _ => .bad
  | .act i, _, S => match t.thk with
    | some (j, th) => if i = j then t.cold (th S) else .bad
    | none => .bad
  | .err0 C _, _, S => t.cold (if C ∈ t.RX then .ok (.err C [] []) S else .bad)
  | .err1 C e, s, S => t.cold (match errF t C with
    | some (f, m) => (evE t e s S).bind fun d S1 => if errOk m d = true then .ok (.err C [f] [d]) S1 else .bad
    | none => .bad)
  | .errK C g e, s, S => t.cold (match errF t C with
    | some (f, m) => if g = f then (evE t e s S).bind fun d S1 => if errOk m d = true then .ok (.err C [f] [d]) S1 else .bad else .bad
    | none => .bad)
  | .att a f, s, S => (evE t a s S).bind fun x S1 => attD t x f S1
  | .lc m own tg it c e, s, S => t.cold <| (evI t it s S).bind fun ds S1 => (lcGo S1.length ds.1 ds.2 (fun d S2 => match tgD tg d (wipeD s (own.map (·.2))) with
    | none => .bad
    | some s2 => noX ((evC t.blk c s2 S2).bind fun b S3 => if b = true then (evE t.blk e s2 S3).bind fun y S4 => .ok (some y) S4 else .ok none S3)) ds.1 (S1 ++ [.lst []])).bind fun _ S5 => if m then .ok (.ref S1.length) S5 else thaw S1.length S5
def evL (t : Sta) : Es → En → Sto → R (List D)
  | .nil, _, S => .ok [] S
  | .cons e r, s, S => (evE t e s S).bind fun d S1 => (evL t r s S1).bind fun ds S2 => .ok (d :: ds) S2
def evO (t : Sta) : Op → En → Sto → R (Option Int)
  | .no, _, S => .ok none S
  | .yes e, s, S => (evE t e s S).bind fun d S1 => match d with
    | .int i => .ok (some i) S1
    | _ => .bad
def evC (t : Sta) : Op → En → Sto → R Bool
  | .no, _, S => .ok true S
  | .yes e, s, S => (evE t e s S).bind fun d S1 => match d with
    | .bl b => .ok b S1
    | _ => .bad
def evI (t : Sta) : It1 → En → Sto → R (List D × Option Nat)
  | .ex e, s, S => (evE t e s S).bind fun d S1 => itD S1 d
  | .rng a, s, S => (evE t a s S).bind fun d S1 => match d with
    | .int j => if small62 j = true then .ok (rngL 0 j.toNat, none) S1 else .bad
    | _ => .bad
  | .rng2 a b, s, S => (evE t a s S).bind fun d S1 => (evE t b s S1).bind fun c S2 => match d, c with
    | .int i, .int j => if (small62 i && small62 j) = true then .ok (rngL i (j - i).toNat, none) S2 else .bad
    | _, _ => .bad
  | .enm a, s, S => (evE t a s S).bind fun d S1 => enmD S1 d
end

/-! does a text stand for this one? -/
def biNames : List Str := ["len", "isinstance", "int", "bool", "list", "tuple", "repr", "all", "any"]
def kwOk (ks : List Str) (kws : List Keyword) : Bool := decide (kws.map (·.arg) = ks.map some)
/-- o.m(..): no super() -/
def baseB : Expr → Bool
  | .Call _ [] [] _ => false
  | _ => true
def notSl : Expr → Bool
  | .Slice _ _ _ _ => false
  | _ => true
def notStar : Expr → Bool
  | .Starred _ _ => false
  | _ => true
def conSet : Expr → Bool
  | .Set _ _ _ => false
  | _ => true
def isTupE : Expr → Bool
  | .Tuple _ _ _ => true
  | _ => false
mutual
def ckT (cl : Bool) (N : List Str) (sc : Scope) : Tg → Expr → Bool
  | .nm i, e => match e with
    | .Name x _ => decide (N[i]? = some x) && (decide (sc.names.lookup x = some .local) || (cl && decide (sc.names.lookup x = some .cell)))
    | _ => false
  | .tp ts, e => match e with
    | .Tuple es _ _ => ckTs cl N sc ts es
    | _ => false
def ckTs (cl : Bool) (N : List Str) (sc : Scope) : List Tg → List Expr → Bool
  | [], es => es.isEmpty
  | t :: ts, es => match es with
    | e :: r => notStar e && (ckT cl N sc t e && ckTs cl N sc ts r)
    | [] => false
end
def noArgs : Arguments → Bool
  | ⟨[], [], none, [], [], none, []⟩ => true
  | _ => false
def inner (sc scope : Scope) : Scope := relS scope sc
mutual
def ckE (t : Nms) (N : List Str) : Scope → Ex → Expr → Bool
  | sc, .var i, e => match e with
    | .Name x _ => decide (N[i]? = some x) && (visB sc x && nmB x)
    | _ => false
  | sc, .glo y, e => match e with
    | .Name x _ => decide (x = y) && (glB sc x && nmB x)
    | _ => false
  | _, .con c, e => match e with
    | .Constant c' _ _ => decide (c' = c) && (conD c).isSome
    | _ => false
  | sc, .bin o a b, e => match e with
    | .BinOp l p r _ => decide (p = o) && (ckE t N sc a l && ckE t N sc b r)
    | _ => false
  | sc, .neg a, e => match e with
    | .UnaryOp p x _ => decide (p = .USub) && ckE t N sc a x
    | _ => false
  | sc, .cmp o a b, e => match e with
    | .Compare l [p] [r] _ => decide (p = o) && (conSet r && (ckE t N sc a l && ckE t N sc b r))
    | _ => false
  | sc, .cmp2 o q a b c, e => match e with
    | .Compare l [p, p2] [r, r2] _ => decide (p = o) && (decide (p2 = q) && (conSet r2 && (ckE t N sc a l && (ckE t N sc b r && ckE t N sc c r2))))
    | _ => false
  | sc, .and a b, e => match e with
    | .BoolOp p [x, y] _ => decide (p = .And) && (ckE t N sc a x && ckE t N sc b y)
    | .BoolOp p (x :: y :: z :: r) q => decide (p = .And) && (ckE t N sc a x && ckE t N sc b (.BoolOp p (y :: z :: r) q))
    | _ => false
  | sc, .or a b, e => match e with
    | .BoolOp p [x, y] _ => decide (p = .Or) && (ckE t N sc a x && ckE t N sc b y)
    | .BoolOp p (x :: y :: z :: r) q => decide (p = .Or) && (ckE t N sc a x && ckE t N sc b (.BoolOp p (y :: z :: r) q))
    | _ => false
  | sc, .not a, e => match e with
    | .UnaryOp p x _ => decide (p = .Not) && ckE t N sc a x
    | _ => false
  | sc, .ite c a b, e => match e with
    | .IfExp x y z _ => ckE t N sc c x && (ckE t N sc a y && ckE t N sc b z)
    | _ => false
  | sc, .tup es, e => match e with
    | .Tuple xs _ _ => ckL t N sc es xs
    | _ => false
  | sc, .lst _ es, e => match e with
    | .List xs _ => ckL t N sc es xs
    | _ => false
  | sc, .dct _ ks es, e => match e with
    | .Dict keys vals _ => decide (ks.length ≤ 15) && (decide (ks.Nodup) && ckD t N sc ks es keys vals)
    | _ => false
  | sc, .idx a b, e => match e with
    | .Subscript x y _ => notSl y && (ckE t N sc a x && ckE t N sc b y)
    | _ => false
  | sc, .sl a lo hi, e => match e with
    | .Subscript x (.Slice l h none _) _ => ckE t N sc a x && (ckO t N sc lo l && ckO t N sc hi h)
    | _ => false
  | sc, .call f es ks kes, e => match e with
    | .Call (.Name x _) xs kws _ => decide (x = f) && (glB sc x && (nmB x && (decide (f ∈ t.T) && (ckL t N sc es xs && (kwOk ks kws && ckL t N sc kes (kws.map (·.value)))))))
    | _ => false
  | sc, .bi f es, e => match e with
    | .Call (.Name x _) (y :: xs) [] _ => decide (x = f) && (glB sc x && (nmB x && (decide (f ∈ biNames) && (decide (f ∈ t.F) && ckL t N sc es (y :: xs)))))
    | _ => false
  | sc, .mt a m es, e => match e with
    | .Call (.Attribute o m' apos) (y :: xs) [] pos => decide (m' = m) && (decide (m ∈ mtNames) && (baseB o && ((apos.endLine == pos.line) && (decide (xs.length < 20) && (ckE t N sc a o && ckL t N sc es (y :: xs))))))
    | _ => false
  | sc, .lam f e, x => match x with
    | .Call (.Name y _) [.Lambda params body scope _] [] _ => decide (y = f) && (glB sc y && (nmB y && (decide (f ∈ t.LT) && (noArgs params && (LamX.lamSB sc scope && ckE t N scope e body)))))
    | _ => false
  | sc, .isE i c, x => match x with
    | .Call (.Name f _) [.Name y _, b] [] _ => decide (f = "isinstance") && (glB sc f && (decide (f ∈ t.F) && (decide (N[i]? = some y) && (visB sc y && (nmB y && (notStar b && ckE t N sc c b))))))
    | _ => false
  | sc, .fldE i f, x => match x with
    | .Attribute (.Name y _) g _ => decide (g = f) && (decide (N[i]? = some y) && (visB sc y && nmB y))
    | _ => false
  | sc, .act i, x => match x with
    | .Call (.Name y _) [] [] _ => decide (N[i]? = some y) && (visB sc y && nmB y)
    | _ => false
  | sc, .err0 C m, x => match x with
    | .Call (.Name y _) [.Constant (.str m') _ _] [] _ => decide (y = C) && (decide (m' = m) && (glB sc y && nmB y))
    | _ => false
  | sc, .err1 C e, x => match x with
    | .Call (.Name y _) [b] [] _ => decide (y = C) && (glB sc y && (nmB y && (notStar b && ckE t N sc e b)))
    | _ => false
  | sc, .errK C f e, x => match x with
    | .Call (.Name y _) [] kws _ => decide (y = C) && (glB sc y && (nmB y && (kwOk [f] kws && (match kws.map (·.value) with
      | [v] => notStar v && ckE t N sc e v
      | _ => false))))
    | _ => false
  | sc, .att a f, x => match x with
    | .Attribute b g _ => decide (g = f) && (baseB b && ckE t N sc a b)
    | _ => false
  | sc, .lc _ own tg it c e, x => match x with
    | .ListComp elt [⟨tgt, iter, ifs, 0⟩] scope _ => blkC N sc scope own && (ckT false N (inner sc scope) tg tgt && (slotsIn tg own && (ckI t N sc it tgt iter && (conSet iter && (ckIf t N (inner sc scope) c ifs && ckE t N (inner sc scope) e elt)))))
    | _ => false
def ckL (t : Nms) (N : List Str) : Scope → Es → List Expr → Bool
  | _, .nil, xs => xs.isEmpty
  | sc, .cons e r, xs => match xs with
    | y :: ys => notStar y && (ckE t N sc e y && ckL t N sc r ys)
    | [] => false
def ckO (t : Nms) (N : List Str) : Scope → Op → Option Expr → Bool
  | _, .no, x => x.isNone
  | sc, .yes e, x => match x with
    | some y => ckE t N sc e y
    | none => false
def ckIf (t : Nms) (N : List Str) : Scope → Op → List Expr → Bool
  | _, .no, xs => xs.isEmpty
  | sc, .yes e, xs => match xs with
    | [y] => ckE t N sc e y
    | _ => false
def ckI (t : Nms) (N : List Str) : Scope → It1 → Expr → Expr → Bool
  | sc, .ex e, _, x => ckE t N sc e x
  | sc, .rng a, _, x => match x with
    | .Call (.Name f _) [y] [] _ => decide (f = "range") && (glB sc f && (decide (f ∈ t.F) && (notStar y && ckE t N sc a y)))
    | _ => false
  | sc, .rng2 a b, _, x => match x with
    | .Call (.Name f _) [y, z] [] _ => decide (f = "range") && (glB sc f && (decide (f ∈ t.F) && (notStar y && (notStar z && (ckE t N sc a y && ckE t N sc b z)))))
    | _ => false
  | sc, .enm a, tg, x => match x with
    | .Call (.Name f _) [y] [] _ => decide (f = "enumerate") && (isTupE tg && (glB sc f && (decide (f ∈ t.F) && (notStar y && ckE t N sc a y))))
    | _ => false
def ckD (t : Nms) (N : List Str) : Scope → List Str → Es → List (Option Expr) → List Expr → Bool
  | _, ks, .nil, keys, vals => ks.isEmpty && (keys.isEmpty && vals.isEmpty)
  | sc, ks, .cons e r, keys, vals => match ks, keys, vals with
    | k :: ks, some (.Constant (.str k') _ _) :: keys, v :: vals => decide (k' = k) && (ckE t N sc e v && ckD t N sc ks r keys vals)
    | _, _, _ => false
end
end Fw

set_option Elab.async false
set_option linter.all false
set_option maxRecDepth 100000
set_option maxHeartbeats 2000000
namespace Fw
open PySem PySem.Spec PyProof.Rows L2
variable [Tb]

/-- what a call of the def (or class) at fa does -/
def CallP (P : Program) (w : World) (K : PySem.W.Frag) (mg : Str → Option Value) (base : Heap) (k : Nat) (fa : Addr) (c : List D → List (Str × D) → Sto → R D) : Prop :=
  ∀ (A : Around) (outer : List Env) (s : Shared) (H : Hp) (us ws : List Value) (ks : List Str) (vs zs : List V) (Q : VK) (E : XK) (S : Sto) (r : Rho) (ds es : List D),
    Room k A → A.guards = some [] → Env0 P w K mg base A outer s H → Vals vs us → Vals zs ws → Emb ⟨K, mg, Tb.T⟩ S r H → RepL ⟨K, mg, Tb.T⟩ S.length r H ds vs → RepL ⟨K, mg, Tb.T⟩ S.length r H es zs → ks.length = es.length →
    Out ⟨K, mg, Tb.T⟩ S.length r H (fun d S' r' H' => ∀ v, Rep ⟨K, mg, Tb.T⟩ S'.length r' H' d v → Q v H') (fun x S' r' H' => ∀ cls dd, XRep ⟨K, mg, Tb.T⟩ S'.length r' H' x cls dd → E cls dd H') (c ds (ks.zip es) S) →
    codeAny (model P w) A (.call (.ref fa) ⟨us, ks.zip ws⟩) (CR (L2.CX P w) outer P w H s Q E) s
def clsAt (mg : Str → Option Value) : Sum String Str → Value → Prop
  | .inl n, u => u = .type n
  | .inr C, u => mg C = some u ∧ ∃ a, u = .ref a
/-- what is wished of an error, what the frame keeps -/
structure Wm where
  w : WX
  I : L2.St → Nat → Rho → Hp → Prop
  mono : ∀ σ n r H n' r' H', Stp n r H n' r' H' → I σ n r H → I σ n' r' H'
  fix : List Nat
  keep : ∀ σ σ' n r H, (∀ i ∈ fix, σ'[i]? = σ[i]?) → I σ n r H → I σ' n r H
def Wm.of (w : WX) : Wm := ⟨w, fun _ _ _ _ => True, fun _ _ _ _ _ _ _ _ h => h, [], fun _ _ _ _ _ _ h => h⟩
structure EnvR (Wx : Wd) (W : Wm) (n : Nat) (r : Rho) (H : Hp) (e : En) (σ : L2.St) : Prop where
  rep : RepE Wx n r H e σ
  inv : W.I σ n r H
theorem EnvR.stp {Wx : Wd} {W : Wm} {n n' : Nat} {r r' : Rho} {H H' : Hp} {e : En} {σ : L2.St} (h : EnvR Wx W n r H e σ) (s : Stp n r H n' r' H') : EnvR Wx W n' r' H' e σ := ⟨h.rep.stp s, W.mono _ _ _ _ _ _ _ s h.inv⟩
theorem EnvR.get {Wx : Wd} {W : Wm} {n : Nat} {r : Rho} {H : Hp} {e : En} {σ : L2.St} (h : EnvR Wx W n r H e σ) {i : Nat} {d : D} (q : e[i]? = some (some d)) : ∃ v, σ[i]? = some (some v) ∧ Rep Wx n r H d v := h.rep.get q
def GE (X : Cx) (W : Wm) (σ : L2.St) : Xc → Sto → Rho → Hp → Prop := fun x S r H => ∀ cls dd, XRep (Wo X) S.length r H x cls dd → W.w cls dd σ H
def tA {α : Type} (X : Cx) (W : Wm) (f : En → Sto → R α) (G : α → Sto → Rho → Hp → Prop) : L2.St → Hp → Prop := fun σ H =>
  ∃ S r e, Emb (Wo X) S r H ∧ EnvR (Wo X) W S.length r H e σ ∧ Out (Wo X) S.length r H G (GE X W σ) (f e S)
def tE (X : Cx) (W : Wm) (f : En → Sto → R D) : TE := fun σ H Q => tA X W f (Gv X Q) σ H
def tT (X : Cx) (W : Wm) (f : En → Sto → R D) : TT := fun σ H Q => tA X W f (fun d S r H => ∃ b, d = .bl b ∧ Q b H) σ H
def tL (X : Cx) (W : Wm) (f : En → Sto → R (List D)) : TA := fun σ H Q => tA X W f (fun ds S r H => ∀ vs, RepL (Wo X) S.length r H ds vs → Q vs H) σ H
def tO (X : Cx) (W : Wm) (f : En → Sto → R (Option Int)) : TO := fun σ H Q => tA X W f (fun o S r H => Q o H) σ H
/-- a closure at f, made behind the state s0 (the abstract heap H0) under the frames outer: it may be called from now on, and does th -/
structure ThkP (P : Program) (w : World) (K : PySem.W.Frag) (mg : Str → Option Value) (base : Heap) (k : Nat) (outer : List Env) (s0 : Shared) (H0 : Hp) (f c' : Addr) (q : Str) (e : En) (σ : L2.St) (th : Sto → R D) : Prop where
  fn : ∀ h' H', Un (frs outer) [] H0 H' s0.heap h' → PySem.W.FnAt f h'
  run : ∀ (A' : Around) (outer' : List Env) (s' : Shared) (H' : Hp) (S' : Sto) (r' : Rho) (Q' : VK) (E' : XK), Room k A' → A'.guards = some [] → Env0 P w K mg base A' outer' s' H' →
      Un (frs outer) [] H0 H' s0.heap s'.heap → Emb ⟨K, mg, Tb.T⟩ S' r' H' → RepE ⟨K, mg, Tb.T⟩ S'.length r' H' e σ → H' c' = some (LamX.CodeO c' q) →
      Out ⟨K, mg, Tb.T⟩ S'.length r' H' (fun d S' r' H' => ∀ v, Rep ⟨K, mg, Tb.T⟩ S'.length r' H' d v → Q' v H') (fun x S' r' H' => ∀ cls dd, XRep ⟨K, mg, Tb.T⟩ S'.length r' H' x cls dd → E' cls dd H') (th S') →
      codeAny (model P w) A' (.call (.ref f) ⟨[], []⟩) (CR (L2.CX P w) outer' P w H' s' Q' E') s'
/-- what a def that takes a closure does with it -/
def LamP (P : Program) (w : World) (K : PySem.W.Frag) (mg : Str → Option Value) (base : Heap) (k : Nat) (g : Addr) (L : (Sto → R D) → Sto → R D) : Prop :=
  ∀ (A : Around) (outer : List Env) (s : Shared) (H : Hp) (f c' : Addr) (q : Str) (e : En) (σ : L2.St) (th : Sto → R D) (Q : VK) (E : XK) (S : Sto) (r : Rho),
    Room (k + 2) A → A.guards = some [] → Env0 P w K mg base A outer s H → Emb ⟨K, mg, Tb.T⟩ S r H → RepE ⟨K, mg, Tb.T⟩ S.length r H e σ → H c' = some (LamX.CodeO c' q) → Fz S.length r c' →
    ThkP P w K mg base (k + 1) outer s H f c' q e σ th →
    Out ⟨K, mg, Tb.T⟩ S.length r H (fun d S' r' H' => ∀ v, Rep ⟨K, mg, Tb.T⟩ S'.length r' H' d v → Q v H') (fun x S' r' H' => ∀ cls dd, XRep ⟨K, mg, Tb.T⟩ S'.length r' H' x cls dd → E cls dd H') (L th S) →
    codeAny (model P w) A (.call (.ref g) ⟨[.ref f], []⟩) (CR (L2.CX P w) outer P w H s Q E) s
structure InsC (K : PySem.W.Frag) (c : Addr) : Prop where
  cl : Cls K c
  ha : PySem.W.findIn K (.ref c) "__class__" = some (some (.builtin "object.__class__"))
  hn : PySem.W.specialIn K (.builtin "object.__class__") "__get__" = some (some (.builtin "getset_descriptor.__get__"))
  ht : PySem.W.takesIn K (.builtin "object.__class__") = some true
  hm : PySem.W.mroIn K c (.type "object") = some true
structure SOk (P : Program) (w : World) (K : PySem.W.Frag) (mg : Str → Option Value) (base : Heap) (t : Sta) (k : Nat) : Prop where
  call : ∀ f, f ∈ t.nm.T → ∃ fa, mg f = some (.ref fa) ∧ PySem.W.keepIn K (.ref fa) = true ∧ CallP P w K mg base k fa (t.C f)
  con : ∀ x d, t.G x = some d → ∃ u v, (mg x = some u ∨ (mg x = none ∧ bootBuiltins x = some u)) ∧ RelV v u ∧ ∀ n r H, Rep ⟨K, mg, Tb.T⟩ n r H d v
  free : ∀ x, x ∈ t.nm.F → mg x = none
  ins : ∀ C c, C ∈ t.IC → mg C = some (.ref c) → InsC K c
  xf : ∀ C c g, (C, g) ∈ t.XF → mg C = some (.ref c) → PySem.W.findIn K (.ref c) g = some none
  exm : ∀ C x b, t.EI C x = some b → ∀ c d, mg C = some (.ref c) → mg x = some (.ref d) → PySem.W.exmOne K (.ref c) (.ref d) = some b
  cn : ∀ x, x ∈ t.nm.CN → ∃ c, mg x = some (.ref c)
  rx : ∀ C, C ∈ t.RX → ∃ c, mg C = some (.ref c) ∧ PySem.W.keepIn K (.ref c) = true ∧ PySem.W.subIn K (.ref c) (.type "BaseException") = some true ∧ PySem.W.typeIn K (.ref c) = some (.type "type") ∧
    ∃ (B newId initId : String) (bmB : List Value), ExcBaseFacts B newId initId bmB ∧ PySem.W.excIn K c bmB newId = true
  exc : ∀ C c, mg C = some (.ref c) → C ∈ t.EC → ExcC K c ∧ XfC K c
  lamf : ∀ f, f ∈ t.nm.LT → ∃ fa, mg f = some (.ref fa) ∧ PySem.W.keepIn K (.ref fa) = true ∧ LamP P w K mg base k fa (t.L f)
  isi : ∀ a b r, t.I a b = some r → ∀ u v, clsAt mg a u → clsAt mg b v → PySem.W.kitOne K u v = some r
  ri : ∀ C f m, t.RI C = some (f, m) → ∃ c, mg C = some (.ref c) ∧ SupC P K mg c f m
  sy : ∃ o, K.lookup sysModules = some o
  rm : t.rm = true → 2 ≤ k
structure Good (t : Sta) (k : Nat) (N : List Str) (sc : Scope) (X : Cx) (W : Wm) : Prop where
  hN : X.N = N
  hs : X.env.scope = sc
  nd : N.Nodup
  un : RU k X.A
  gd : X.A.guards = some []
  ok : SOk X.prog X.w X.K X.mg X.base t k
  cold : t.hot = none → X.calm = true ∧ Room k X.A ∧ Takes X W.w
  hot : ∀ i x, t.hot = some (some i, x) → ∃ (X0 : Cx) (a c : Addr) (oe : Obj) (dd : Option Addr) (pn : List (Addr × Obj)), X = X0.suite a ((a, oe) :: pn) ∧ Zc (.ref c) dd oe ∧ (∃ vs, oe.data = .fields vs) ∧ ExcC X.K c ∧ XfC X.K c ∧ X.mg x.C = some (.ref c) ∧
    ∀ σ n r H, W.I σ n r H → σ[i]? = some (some (.ref a)) ∧ XRep (Wo X) n r H x (.ref c) dd
  lam : t.hot = none → t.lam = true → Room (k + 2) X.A ∧ ∃ c P, LamX.TabB X.base X.mg c P ∧ X.env.code = .ref c ∧ (P, X.env.qual ++ "<lambda>") ∈ Tb.T ∧ ∀ p ∈ (Tb.T : List (Addr × Str)), p.1 = P → p.2 = X.env.qual ++ "<lambda>"
  thk : ∀ i th, t.hot = none → t.thk = some (i, th) → ∃ (f c' : Addr) (q : Str) (e0 : En) (σ0 : L2.St), (X.ex = [] ∧ ∃ j, Room j X.A ∧ ThkP X.prog X.w X.K X.mg X.base j X.outer X.s_0 X.H_0 f c' q e0 σ0 th) ∧
    ∀ σ n r H, W.I σ n r H → σ[i]? = some (some (.ref f)) ∧ RepE (Wo X) n r H e0 σ0 ∧ H c' = some (LamX.CodeO c' q)
/-- one part, then the rest -/
theorem on_seq {α β : Type} {X : Cx} {W : Wm} {f : En → Sto → R α} {k : α → Sto → R β} {G : β → Sto → Rho → Hp → Prop} {G' : α → Sto → Rho → Hp → Prop} {σ : L2.St} {S : Sto} {r : Rho} {H : Hp} {e : En}
    (emb : Emb (Wo X) S r H) (he : EnvR (Wo X) W S.length r H e σ) (o : Out (Wo X) S.length r H G (GE X W σ) ((f e S).bind k))
    (hk : ∀ a S1 r1 H1, Stp S.length r H S1.length r1 H1 → Emb (Wo X) S1 r1 H1 → EnvR (Wo X) W S1.length r1 H1 e σ → Out (Wo X) S1.length r1 H1 G (GE X W σ) (k a S1) → G' a S1 r1 H1) : tA X W f G' σ H :=
  ⟨S, r, e, emb, he, o.bind.imp (fun a S1 r1 H1 st em q => hk a S1 r1 H1 st em (he.stp st) q) fun _ _ _ _ _ _ q => q⟩
/-- .. the last part -/
theorem on_last {α : Type} {X : Cx} {W : Wm} {f : En → Sto → R α} {G G' : α → Sto → Rho → Hp → Prop} {σ : L2.St} {S : Sto} {r : Rho} {H : Hp} {e : En}
    (emb : Emb (Wo X) S r H) (he : EnvR (Wo X) W S.length r H e σ) (o : Out (Wo X) S.length r H G (GE X W σ) (f e S))
    (hk : ∀ a S1 r1 H1, Stp S.length r H S1.length r1 H1 → Emb (Wo X) S1 r1 H1 → G a S1 r1 H1 → G' a S1 r1 H1) : tA X W f G' σ H :=
  ⟨S, r, e, emb, he, o.imp hk fun _ _ _ _ _ _ q => q⟩
theorem peI {X : Cx} {e : Expr} {t t' : TE} (h : PE X e t) (g : ∀ σ H Q, t' σ H Q → t σ H Q) : PE X e t' := ⟨fun pins s σ H Q I q => h.run pins s σ H Q I (g σ H Q q)⟩
theorem ptI {X : Cx} {e : Expr} {t t' : TT} (h : PT X e t) (g : ∀ σ H Q, t' σ H Q → t σ H Q) : PT X e t' := ⟨fun pins s σ H Q I q => h.run pins s σ H Q I (g σ H Q q)⟩
theorem pwI {X : Cx} {e : Expr} {t t' : TT} (h : PW X e t) (g : ∀ σ H Q, t' σ H Q → t σ H Q) : PW X e t' := ⟨fun wh pins s σ H Q I q => h.run wh pins s σ H Q I (g σ H Q q)⟩
theorem paI {X : Cx} {e : List Expr} {t t' : TA} (h : PA X e t) (g : ∀ σ H Q, t' σ H Q → t σ H Q) : PA X e t' := ⟨fun p pins s σ H Q I q => h.run p pins s σ H Q I (g σ H Q q)⟩
/-- a test, whatever the whole is where it is one of and, or -/
def PTw (X : Cx) : Expr → TT → Prop
  | .BoolOp o es p, t => PW X (.BoolOp o es p) t
  | e, t => PT X e t
theorem PTw.pt {X : Cx} {e : Expr} {t : TT} (h : PTw X e t) : PT X e t := by
  cases e <;> first | exact PW.pt h | exact h
theorem PTw.of {X : Cx} {e : Expr} {t : TT} (h : PT X e t) (hb : ∀ o es p, e ≠ .BoolOp o es p) : PTw X e t := by
  cases e <;> first | exact absurd rfl (hb _ _ _) | exact h
theorem tT_of {X : Cx} {W : Wm} {f : En → Sto → R D} {σ : L2.St} {H : Hp} {Q : Bool → Hp → Prop} (h : tT X W f σ H Q) : tB (tE X W f) σ H Q := by
  obtain ⟨S, r, e, emb, he, o⟩ := h
  refine ⟨S, r, e, emb, he, o.imp (fun d S1 r1 H1 st em q v hv => ?_) fun _ _ _ _ _ _ q => q⟩
  obtain ⟨b, rfl, q⟩ := q
  rw [Rep] at hv
  exact ⟨b, hv, q⟩

section
variable {X : Cx} {W : Wm} {t : Sta} {k : Nat} {N : List Str} {sc : Scope} {a b c : Expr} {f g h : En → Sto → R D} {pos : Pos}
theorem vis_of {x : Str} (h : visB sc x = true) : Vis sc x := by
  unfold visB at h
  unfold Vis
  split at h <;> first | (rename_i e; rw [e]; simp; done) | cases h
theorem c_var (G : Good t k N sc X W) {i : Nat} {x : Str} (hi : N[i]? = some x) (hv : visB sc x = true) (hn : nmB x = true) : PE X (.Name x pos) (tE X W (fun s S => match s[i]? with
    | some (some d) => .ok d S
    | _ => .bad)) := by
  unfold nmB at hn
  simp only [Bool.and_eq_true, Bool.not_eq_true', decide_eq_false_iff_not] at hn
  refine peI (pe_var (i := i) (by rw [G.hN]; exact hi) (by rw [G.hs]; exact vis_of hv) hn.1 hn.2.1) fun σ H Q ⟨S, r, e, emb, he, o⟩ => ?_
  dsimp only at o
  split at o
  · rename_i d hd
    obtain ⟨v, h1, h2⟩ := he.get hd
    exact ⟨v, h1, out_v emb o h2⟩
  · exact o.elim
theorem gl_of (G : Good t k N sc X W) {x : Str} (h : glB sc x = true) : Gl X x := by
  unfold Gl Env.kindOf
  rw [G.hs]
  exact of_decide_eq_true h
theorem c_glo (G : Good t k N sc X W) {x : Str} (hg : glB sc x = true) (hn : nmB x = true) : PE X (.Name x pos) (tE X W (fun _ S => match t.G x with
    | some d => .ok d S
    | none => .bad)) := by
  unfold nmB at hn
  simp only [Bool.and_eq_true, Bool.not_eq_true', decide_eq_false_iff_not] at hn
  cases hd : t.G x with
  | none => exact ⟨fun _ _ _ _ _ _ ⟨_, _, _, _, _, o⟩ => o.elim⟩
  | some d =>
    obtain ⟨u, v, h1, h2, h3⟩ := G.ok.con x d hd
    rcases h1 with h1 | ⟨h1, h4⟩
    · exact peI (pe_glob (gl_of G hg) h1 h2 hn.1) fun σ H Q ⟨S, r, e, emb, he, o⟩ => out_v emb o (h3 _ _ _)
    · exact peI (pe_bltn (gl_of G hg) h1 h4 h2 hn.2.2 hn.1) fun σ H Q ⟨S, r, e, emb, he, o⟩ => out_v emb o (h3 _ _ _)
theorem c_con {c : Const} {j : Nat} : PE X (.Constant c j pos) (tE X W (fun _ S => match conD c with
    | some d => .ok d S
    | none => .bad)) := by
  cases c with
  | none => exact peI pe_non fun σ H Q ⟨S, r, e, emb, he, o⟩ => out_v emb o (by rw [Rep])
  | bool b => exact peI pe_bl fun σ H Q ⟨S, r, e, emb, he, o⟩ => out_v emb o (by rw [Rep])
  | int b => exact peI pe_int fun σ H Q ⟨S, r, e, emb, he, o⟩ => out_v emb o (by rw [Rep])
  | str b => exact peI pe_str fun σ H Q ⟨S, r, e, emb, he, o⟩ => out_v emb o (by rw [Rep])
  | _ => exact ⟨fun _ _ _ _ _ _ ⟨_, _, _, _, _, o⟩ => o.elim⟩
theorem two {r2 : D → D → Sto → R D} {σ : L2.St} {H : Hp} {Q : VK} (h : tE X W (fun s S => (f s S).bind fun x S1 => (g s S1).bind fun y S2 => r2 x y S2) σ H Q) : tOp (rD2 X r2) (tE X W f) (tE X W g) σ H Q := by
  obtain ⟨S, r, e, emb, he, o⟩ := h
  refine on_seq emb he o fun x S1 r1 H1 st1 emb1 he1 o1 v hv => ?_
  refine on_seq emb1 he1 o1 fun y S2 r2 H2 st2 emb2 he2 o2 v2 hv2 => ?_
  exact ⟨_, S2, r2, x, y, emb2, Rep.stp st2 _ _ hv, hv2, o2⟩
theorem c_bin (G : Good t k N sc X W) {o : Operator} (ha : PE X a (tE X W f)) (hb : PE X b (tE X W g)) : PE X (.BinOp a o b pos) (tE X W (fun s S => (f s S).bind fun x S1 => (g s S1).bind fun y S2 => binD o x y S2)) :=
  peI (pe_op (bin_ok G.un o) ha hb) fun _ _ _ h => two h
theorem mark_of {o : CmpOp} {b : Expr} (h : conSet b = true) : behindInMarks o b = false := by
  cases b <;> first | rfl | cases h
theorem c_cmp (G : Good t k N sc X W) {o : CmpOp} (ha : PE X a (tE X W f)) (hb : PE X b (tE X W g)) (hs : conSet b = true) :
    PE X (.Compare a [o] [b] pos) (tE X W (fun s S => (f s S).bind fun x S1 => (g s S1).bind fun y S2 => cmpD o x y S2)) ∧
    PT X (.Compare a [o] [b] pos) (tT X W (fun s S => (f s S).bind fun x S1 => (g s S1).bind fun y S2 => cmpD o x y S2)) :=
  ⟨peI (pe_cmpR (cmp_ok G.un o) ha hb (mark_of hs)) fun _ _ _ h => two h, ptI (pt_cmpR (cmp_ok G.un o) ha hb (mark_of hs)) fun _ _ _ h => two (tT_of h)⟩
theorem last_of {o p : CmpOp} {b c : Expr} (h : conSet c = true) : lastMarks [o, p] [b, c] = false := mark_of (o := p) h
theorem three {o p : CmpOp} {σ : L2.St} {H : Hp} {Q : VK} (hx : tE X W (fun s S => (f s S).bind fun x S1 => (g s S1).bind fun y S2 => (cmpD o x y S2).bind fun r S3 => match r with
    | .bl true => (h s S3).bind fun z S4 => cmpD p y z S4
    | .bl false => .ok (.bl false) S3
    | _ => .bad) σ H Q) : tChain (rD2 X (cmpD o)) (rD2 X (cmpD p)) (tE X W f) (tE X W g) (tE X W h) σ H Q := by
  obtain ⟨S, r, e, emb, he, oo⟩ := hx
  refine on_seq emb he oo fun x S1 r1 H1 st1 emb1 he1 o1 v hv => ?_
  refine on_seq emb1 he1 o1 fun y S2 r2 H2 st2 emb2 he2 o2 v2 hv2 => ?_
  refine ⟨GE X W σ, S2, r2, x, y, emb2, Rep.stp st2 _ _ hv, hv2, o2.bind.imp (fun q S3 r3 H3 st3 emb3 o3 z hz => ?_) fun _ _ _ _ _ _ q => q⟩
  split at o3
  · rw [Rep] at hz
    refine ⟨true, hz, ?_⟩
    refine iteT ?_
    refine on_seq emb3 (he2.stp st3) o3 fun z S4 r4 H4 st4 emb4 he4 o4 v4 hv4 => ?_
    exact ⟨_, S4, r4, y, z, emb4, Rep.stp (st3.trans st4) _ _ hv2, hv4, o4⟩
  · rw [Rep] at hz
    refine ⟨false, hz, ?_⟩
    refine iteF ?_
    exact out_v emb3 o3 (by rw [Rep])
  · exact o3.elim
theorem c_cmp2 (G : Good t k N sc X W) {o p : CmpOp} (ha : PE X a (tE X W f)) (hb : PE X b (tE X W g)) (hc : PE X c (tE X W h)) (hs : conSet c = true) :
    PE X (.Compare a [o, p] [b, c] pos) (tE X W (fun s S => (f s S).bind fun x S1 => (g s S1).bind fun y S2 => (cmpD o x y S2).bind fun r S3 => match r with
      | .bl true => (h s S3).bind fun z S4 => cmpD p y z S4
      | .bl false => .ok (.bl false) S3
      | _ => .bad)) ∧
    PT X (.Compare a [o, p] [b, c] pos) (tT X W (fun s S => (f s S).bind fun x S1 => (g s S1).bind fun y S2 => (cmpD o x y S2).bind fun r S3 => match r with
      | .bl true => (h s S3).bind fun z S4 => cmpD p y z S4
      | .bl false => .ok (.bl false) S3
      | _ => .bad)) :=
  ⟨peI (pe_chain (cmp_ok G.un o) (cmp_ok G.un p) ha hb hc (last_of hs)) fun _ _ _ h => three h, ptI (pt_chain (cmp_ok G.un o) (cmp_ok G.un p) ha hb hc (last_of hs)) fun _ _ _ h => three (tT_of h)⟩
/-- a value whose test is by its truth -/
def plainT (e : Expr) : Prop := ∀ env whole, isTrue e env whole = (do let v ← whole; standAt e.pos; holding [v] (truthy v))
theorem c_test (hp : plainT a) (ha : PE X a (tE X W f)) : PT X a (tT X W f) := ptI (pt_val ha (hp X.env)) fun _ _ _ h => tT_of h
abbrev andF (f g : En → Sto → R D) : En → Sto → R D := fun s S => (f s S).bind fun x S1 => match x with
  | .bl true => g s S1
  | .bl false => .ok (.bl false) S1
  | _ => .bad
abbrev orF (f g : En → Sto → R D) : En → Sto → R D := fun s S => (f s S).bind fun x S1 => match x with
  | .bl true => .ok (.bl true) S1
  | .bl false => g s S1
  | _ => .bad
theorem and_v {σ : L2.St} {H : Hp} {Q : VK} (hx : tE X W (andF f g) σ H Q) : tAndV (tE X W f) (tE X W g) σ H Q := by
  obtain ⟨S, r, e, emb, he, oo⟩ := hx
  refine on_seq emb he oo fun x S1 r1 H1 st1 emb1 he1 o1 v hv => ?_
  split at o1
  · rw [Rep] at hv
    refine ⟨true, hv, ?_⟩
    refine iteT ?_
    exact ⟨S1, r1, e, emb1, he1, o1⟩
  · rw [Rep] at hv
    refine ⟨false, hv, ?_⟩
    refine iteF ?_
    exact out_v emb1 o1 (by rw [Rep])
  · exact o1.elim
theorem or_v {σ : L2.St} {H : Hp} {Q : VK} (hx : tE X W (orF f g) σ H Q) : tOrV (tE X W f) (tE X W g) σ H Q := by
  obtain ⟨S, r, e, emb, he, oo⟩ := hx
  refine on_seq emb he oo fun x S1 r1 H1 st1 emb1 he1 o1 v hv => ?_
  split at o1
  · rw [Rep] at hv
    refine ⟨true, hv, ?_⟩
    refine iteT ?_
    exact out_v emb1 o1 (by rw [Rep])
  · rw [Rep] at hv
    refine ⟨false, hv, ?_⟩
    refine iteF ?_
    exact ⟨S1, r1, e, emb1, he1, o1⟩
  · exact o1.elim
theorem and_t {σ : L2.St} {H : Hp} {Q : Bool → Hp → Prop} (hx : tT X W (andF f g) σ H Q) : tAnd (tT X W f) (tT X W g) σ H Q := by
  obtain ⟨S, r, e, emb, he, oo⟩ := hx
  refine on_seq emb he oo fun x S1 r1 H1 st1 emb1 he1 o1 => ?_
  split at o1
  · refine ⟨true, rfl, ?_⟩
    refine iteT ?_
    exact ⟨S1, r1, e, emb1, he1, o1⟩
  · refine ⟨false, rfl, ?_⟩
    refine iteF ?_
    obtain ⟨b, e1, q⟩ := out_same emb1 o1
    cases e1
    exact q
  · exact o1.elim
theorem or_t {σ : L2.St} {H : Hp} {Q : Bool → Hp → Prop} (hx : tT X W (orF f g) σ H Q) : tOr (tT X W f) (tT X W g) σ H Q := by
  obtain ⟨S, r, e, emb, he, oo⟩ := hx
  refine on_seq emb he oo fun x S1 r1 H1 st1 emb1 he1 o1 => ?_
  split at o1
  · refine ⟨true, rfl, ?_⟩
    refine iteT ?_
    obtain ⟨b, e1, q⟩ := out_same emb1 o1
    cases e1
    exact q
  · refine ⟨false, rfl, ?_⟩
    refine iteF ?_
    exact ⟨S1, r1, e, emb1, he1, o1⟩
  · exact o1.elim
abbrev notF (f : En → Sto → R D) : En → Sto → R D := fun s S => (f s S).bind fun x S1 => match x with
  | .bl b => .ok (.bl (!b)) S1
  | _ => .bad
theorem c_not (ha : PE X a (tE X W f)) (ht : PT X a (tT X W f)) : PE X (.UnaryOp .Not a pos) (tE X W (notF f)) ∧ PT X (.UnaryOp .Not a pos) (tT X W (notF f)) := by
  refine ⟨peI (pe_not ha) fun σ H Q hx => ?_, ptI (pt_not ht) fun σ H Q hx => ?_⟩
  · obtain ⟨S, r, e, emb, he, oo⟩ := hx
    refine on_seq emb he oo fun x S1 r1 H1 st1 emb1 he1 o1 v hv => ?_
    split at o1
    · rw [Rep] at hv
      exact ⟨_, hv, out_v emb1 o1 (by rw [Rep])⟩
    · exact o1.elim
  · obtain ⟨S, r, e, emb, he, oo⟩ := hx
    refine on_seq emb he oo fun x S1 r1 H1 st1 emb1 he1 o1 => ?_
    split at o1
    · rename_i b
      obtain ⟨c, e1, q⟩ := out_same emb1 o1
      cases e1
      exact ⟨b, rfl, q⟩
    · exact o1.elim
theorem c_neg (ha : PE X a (tE X W f)) : PE X (.UnaryOp .USub a pos) (tE X W (fun s S => (f s S).bind fun x S1 => match x with
    | .int i => .ok (.int (-i)) S1
    | _ => .bad)) := by
  refine peI (pe_un un_neg ha) fun σ H Q hx => ?_
  obtain ⟨S, r, e, emb, he, oo⟩ := hx
  refine on_seq emb he oo fun x S1 r1 H1 st1 emb1 he1 o1 v hv => ?_
  split at o1
  · rw [Rep] at hv
    exact ⟨_, hv, out_v emb1 o1 (by rw [Rep])⟩
  · exact o1.elim
theorem c_ite (hc : PT X c (tT X W h)) (ha : PE X a (tE X W f)) (hb : PE X b (tE X W g)) : PE X (.IfExp c a b pos) (tE X W (fun s S => (h s S).bind fun x S1 => match x with
    | .bl true => f s S1
    | .bl false => g s S1
    | _ => .bad)) := by
  refine peI (pe_ifExp hc ha hb) fun σ H Q hx => ?_
  obtain ⟨S, r, e, emb, he, oo⟩ := hx
  refine on_seq emb he oo fun x S1 r1 H1 st1 emb1 he1 o1 => ?_
  split at o1
  · exact ⟨true, rfl, iteT ⟨S1, r1, e, emb1, he1, o1⟩⟩
  · exact ⟨false, rfl, iteF ⟨S1, r1, e, emb1, he1, o1⟩⟩
  · exact o1.elim
/-! lists of arguments, displays -/
theorem star_of {e : Expr} {es : List Expr} {env : Env} (h : notStar e = true) : starEach (e :: es) env = (false, eval e env) :: starEach es env := by
  cases e <;> first | rfl | cases h
theorem c_nil : PA X [] (tL X W (fun _ S => .ok [] S)) := paI pa_nil fun σ H Q ⟨S, r, e, emb, he, oo⟩ => out_same emb oo [] RepL.nil
theorem c_cons {es : List Expr} {fs : En → Sto → R (List D)} (hs : notStar a = true) (ha : PE X a (tE X W f)) (hb : PA X es (tL X W fs)) : PA X (a :: es) (tL X W (fun s S => (f s S).bind fun d S1 => (fs s S1).bind fun ds S2 => .ok (d :: ds) S2)) := by
  refine paI (pa_cons ha hb (star_of hs)) fun σ H Q hx => ?_
  obtain ⟨S, r, e, emb, he, oo⟩ := hx
  refine on_seq emb he oo fun x S1 r1 H1 st1 emb1 he1 o1 v hv => ?_
  refine on_seq emb1 he1 o1 fun xs S2 r2 H2 st2 emb2 he2 o2 vs hvs => ?_
  exact out_same emb2 o2 _ (RepL.cons (Rep.stp st2 _ _ hv) hvs)
theorem c_tup {es : List Expr} {fs : En → Sto → R (List D)} {j : Nat} (hb : PA X es (tL X W fs)) : PE X (.Tuple es j pos) (tE X W (fun s S => (fs s S).bind fun ds S1 => if ds.length ≤ sizeLine then .ok (.tup ds) S1 else .bad)) := by
  refine peI (pe_tup hb) fun σ H Q hx => ?_
  obtain ⟨S, r, e, emb, he, oo⟩ := hx
  refine on_seq emb he oo fun xs S1 r1 H1 st1 emb1 he1 o1 vs hvs => ?_
  split at o1
  · rename_i hz
    exact ⟨by rw [hvs.length]; exact hz, fun p hp => out_tup emb1 o1 hvs hp⟩
  · exact o1.elim
theorem out_put {S : Sto} {r : Rho} {H : Hp} {p : Addr} {u : HO} {ob : O} {G : D → Sto → Rho → Hp → Prop} {E : Xc → Sto → Rho → Hp → Prop} (emb : Emb (Wo X) S r H) (o : Out (Wo X) S.length r H G E (.ok (.ref S.length) (S ++ [ob]))) (hp : H p = none)
    (ho : ORep (Wo X) (S.length + 1) (rput r S.length p) (upd H p u) p ob) : G (.ref S.length) (S ++ [ob]) (rput r S.length p) (upd H p u) := by
  have st := stp_put (n := S.length) (r := r) (o := u) hp
  have hl : (S ++ [ob]).length = S.length + 1 := by simp
  exact o _ _ (by rw [hl]; exact st) (emb_put emb hp ho)
theorem c_lst {es : List Expr} {fs : En → Sto → R (List D)} {m : Bool} (hb : PA X es (tL X W fs)) : PE X (.List es pos) (tE X W (fun s S => (fs s S).bind fun ds S1 => if ds.length ≤ sizeLine then (if m then .ok (.ref S1.length) (S1 ++ [.lst ds]) else .ok (.lst ds) S1) else .bad)) := by
  refine peI (pe_lst hb) fun σ H Q hx => ?_
  obtain ⟨S, r, e, emb, he, oo⟩ := hx
  refine on_seq emb he oo fun xs S1 r1 H1 st1 emb1 he1 o1 vs hvs => ?_
  split at o1
  · rename_i hz
    refine ⟨by rw [hvs.length]; exact hz, fun p hp => ?_⟩
    cases m with
    | false => exact out_lst emb1 o1 hvs hp
    | true =>
      have z := out_put (u := .lst vs) emb1 o1 hp ⟨vs, upd_same, RepL.stp (stp_put hp) _ _ hvs⟩
      refine z _ ?_
      rw [Rep]
      exact ⟨by simp, by rw [rput_new]⟩
  · exact o1.elim
end
end Fw

set_option Elab.async false
set_option linter.all false
set_option maxRecDepth 100000
set_option maxHeartbeats 4000000
namespace Fw
open PySem PySem.Spec PyProof.Rows L2
variable [Tb]
/-! x[y] -/
theorem idx_ok {X : Cx} {k : Nat} (hr : RU k X.A) : IxR X (rD2 X idxD) := by
  intro value slice pins s σ H x y v u Q I rx ry ⟨E0, S, r, dx, dy, e, hx, hy, h⟩ hs
  unfold idxD at h
  have fx := flat_ok e hx
  generalize flat S dx = cx at fx h
  split at h
  · simp only [Rep] at hy
    subst hy
    obtain ⟨a, vs, rfl, f1, g1⟩ := fx
    split at h
    · rename_i ha
      unfold atI at ha
      obtain ⟨j, e1, e2⟩ := Option.bind_eq_some_iff.mp ha
      obtain ⟨w, e3, e4⟩ := g1.get e2
      exact ix_list value slice pins s σ H _ _ v u Q I rx ry ⟨a, vs, _, w, rfl, rfl, .inl (.inl f1), by unfold atI; rw [g1.length]; exact Option.bind_eq_some_iff.mpr ⟨j, e1, e3⟩, out_v e h e4⟩ hs
    · exact h.elim
  · simp only [Rep] at hy
    subst hy
    simp only [RepF, Rep] at fx
    obtain ⟨a, vs, rfl, f1, g1⟩ := fx
    split at h
    · rename_i ha
      unfold atI at ha
      obtain ⟨j, e1, e2⟩ := Option.bind_eq_some_iff.mp ha
      obtain ⟨w, e3, e4⟩ := g1.get e2
      exact ix_tup value slice pins s σ H _ _ v u Q I rx ry ⟨a, vs, _, w, rfl, rfl, f1.sq, by unfold atI; rw [g1.length]; exact Option.bind_eq_some_iff.mpr ⟨j, e1, e3⟩, out_v e h e4⟩ hs
    · exact h.elim
  · simp only [Rep] at hy
    subst hy
    simp only [RepF, Rep] at fx
    subst fx
    split at h
    · rename_i hz
      split at h
      · rename_i c hc
        exact ix_str value slice pins s σ H _ _ v u Q I rx ry ⟨_, _, c, rfl, rfl, hz, hc, out_v e h (by rw [Rep])⟩ hs
      · exact h.elim
    · exact h.elim
  · rename_i ks ds
    obtain ⟨a, kvs, rfl, f1, f2, g1⟩ := fx
    split at h
    · rename_i q hq
      have ek := key_ok hq hy.toF
      subst ek
      have z := kv_rd f2 g1 q
      split at h
      · rename_i d hd
        rw [hd] at z
        obtain ⟨w, z1, z2⟩ := z
        have dg : DGet H a (kV q) (some w) := z1 ▸ DGet.k f1
        obtain rfl : v = Value.ref a := rx
        have hu : X.A.units + 1 < cLine := by unfold RU at hr; omega
        exact tail_any (dict_typeIs I dg) PySem.F.slot_dict_getitem.lookup (d_getItem hu I dg ry fun w' s3 I3 rw' => ⟨w, H, I3, rw', out_v e h z2⟩) hs
      · exact h.elim
    · exact h.elim
  · exact h.elim
section
variable {X : Cx} {W : Wm} {t : Sta} {k : Nat} {N : List Str} {sc : Scope} {a b c : Expr} {f g h : En → Sto → R D} {pos : Pos}
theorem plain_ix {b : Expr} (h : notSl b = true) : PlainIx b := by
  cases b <;> first | (intro o i; rfl) | cases h
theorem c_idx (G : Good t k N sc X W) (hs : notSl b = true) (ha : PE X a (tE X W f)) (hb : PE X b (tE X W g)) : PE X (.Subscript a b pos) (tE X W (fun s S => (f s S).bind fun x S1 => (g s S1).bind fun y S2 => idxD x y S2)) :=
  peI (pe_ix (idx_ok G.un) ha hb (plain_ix hs)) fun _ _ _ h => two h
/-! x[lo:hi] -/
theorem c_no : PO X none (tO X W (fun _ S => .ok none S)) := ⟨fun pins s σ H Q I ⟨S, r, e, emb, he, o⟩ => po_none.run pins s σ H Q I (out_same emb o)⟩
theorem c_yes (ha : PE X a (tE X W f)) : PO X (some a) (tO X W (fun s S => (f s S).bind fun d S1 => match d with
    | .int i => .ok (some i) S1
    | _ => .bad)) := by
  refine ⟨fun pins s σ H Q I hx => (po_some ha).run pins s σ H Q I ?_⟩
  obtain ⟨S, r, e, emb, he, oo⟩ := hx
  refine on_seq emb he oo fun x S1 r1 H1 st1 emb1 he1 o1 v hv => ?_
  split at o1
  · rw [Rep] at hv
    exact ⟨_, hv, out_same emb1 o1⟩
  · exact o1.elim
def rSlD (X : Cx) : V → Option Int → Option Int → Hp → VK → Prop := fun x lo hi H Q => ∃ E S r dx, Emb (Wo X) S r H ∧ Rep (Wo X) S.length r H dx x ∧ Out (Wo X) S.length r H (Gv X Q) E (slD dx lo hi S)
theorem cut_rep {Wx : Wd} {n : Nat} {r : Rho} {H : Hp} {ds : List D} {vs : List V} (h : RepL Wx n r H ds vs) (lo hi : Option Int) : RepL Wx n r H (cutD ds lo hi) (cutV vs lo hi) := by
  unfold cutD cutV
  rw [h.length]
  exact RepL.take _ (RepL.drop _ h)
theorem sl_ok : SlR X (rSlD X) := by
  intro pins s σ H x v vl vu lo hi sl Q I rx hs pl pu ⟨E0, S, r, dx, e, hx, h⟩
  unfold slD at h
  have fx := flat_ok e hx
  generalize flat S dx = cx at fx h
  split at h
  · obtain ⟨a, vs, rfl, f1, g1⟩ := fx
    exact sl_list pins s σ H _ v vl vu lo hi sl Q I rx hs pl pu ⟨a, vs, rfl, .inl (.inl f1), fun p hp => out_lst e h (cut_rep g1 lo hi) hp⟩
  · simp only [RepF, Rep] at fx
    obtain ⟨a, vs, rfl, f1, g1⟩ := fx
    refine sl_tupA pins s σ H _ v vl vu lo hi sl Q I rx hs pl pu ⟨a, vs, rfl, f1.sq, fun hw => ?_, fun _ p hp => out_tup e h (cut_rep g1 lo hi) hp⟩
    refine out_v e h ?_
    rw [Rep]
    refine ⟨a, vs, rfl, f1, ?_⟩
    have e1 : cutV vs lo hi = vs := by
      unfold cutV
      rw [hw.1, hw.2]
      simp
    have z := cut_rep g1 lo hi
    rw [e1] at z
    exact z
  · exact h.elim
theorem c_sl {lo hi : Option Expr} {fl fh : En → Sto → R (Option Int)} {p2 : Pos} (ha : PE X a (tE X W f)) (hl : PO X lo (tO X W fl)) (hh : PO X hi (tO X W fh)) :
    PE X (.Subscript a (.Slice lo hi none p2) pos) (tE X W (fun s S => (f s S).bind fun x S1 => (fl s S1).bind fun l S2 => (fh s S2).bind fun h S3 => slD x l h S3)) := by
  refine peI (pe_slice sl_ok ha hl hh) fun σ H Q hx => ?_
  obtain ⟨S, r, e, emb, he, oo⟩ := hx
  refine on_seq emb he oo fun x S1 r1 H1 st1 emb1 he1 o1 v hv => ?_
  refine on_seq emb1 he1 o1 fun l S2 r2 H2 st2 emb2 he2 o2 => ?_
  refine on_seq emb2 he2 o2 fun hh S3 r3 H3 st3 emb3 he3 o3 => ?_
  exact ⟨_, S3, r3, x, emb3, Rep.stp (st2.trans st3) _ _ hv, o3⟩
/-! calls -/
def plainB (es : List Expr) : Bool := es.all notStar
theorem plain_any {es : List Expr} {env : Env} (h : plainB es = true) : (backTo pos (starEach es env)).any (·.1) = false := by
  induction es with
  | nil => rfl
  | cons e es ih =>
    unfold plainB at h
    rw [List.all_cons, Bool.and_eq_true] at h
    rw [star_of h.1]
    exact ih h.2
theorem plain_all {es : List Expr} {env : Env} (h : plainB es = true) : (backTo pos (starEach es env)).all (fun x => !x.1) = true := by
  induction es with
  | nil => rfl
  | cons e es ih =>
    unfold plainB at h
    rw [List.all_cons, Bool.and_eq_true] at h
    rw [star_of h.1]
    exact ih h.2
theorem kw_all : ∀ {kws : List Keyword} {ks : List Str} {env : Env}, kwOk ks kws = true → (backToKw pos (keywordEach kws env)).all (·.1.isSome) = true ∧ (backToKw pos (keywordEach kws env)).filterMap (·.1) = ks ∧ (backToKw pos (keywordEach kws env)).any (·.1.isNone) = false
  | [], ks, env, h => by
    unfold kwOk at h
    have h := of_decide_eq_true h
    cases ks with
    | nil => exact ⟨rfl, rfl, rfl⟩
    | cons => cases h
  | ⟨nm, v, p⟩ :: kws, [], env, h => by
    unfold kwOk at h
    have h := of_decide_eq_true h
    cases h
  | ⟨nm, v, p⟩ :: kws, x :: ks, env, h => by
    unfold kwOk at h
    have h := of_decide_eq_true h
    rw [List.map_cons, List.map_cons] at h
    injection h with h1 h2
    have h1 : nm = some x := h1
    subst h1
    obtain ⟨z1, z2, z3⟩ := kw_all (kws := kws) (ks := ks) (env := env) (by unfold kwOk; exact decide_eq_true h2)
    refine ⟨?_, ?_, ?_⟩
    · show ((some x).isSome && (backToKw pos (keywordEach kws env)).all (·.1.isSome)) = true
      rw [z1]
      rfl
    · show x :: (backToKw pos (keywordEach kws env)).filterMap (·.1) = x :: ks
      rw [z2]
    · show ((some x).isNone || (backToKw pos (keywordEach kws env)).any (·.1.isNone)) = false
      rw [z3]
      rfl
theorem pkI {kws : List Keyword} {t t' : TA} (h : PK X kws t) (g : ∀ σ H Q, t' σ H Q → t σ H Q) : PK X kws t' := ⟨fun p pins s σ H Q I q => h.run p pins s σ H Q I (g σ H Q q)⟩
theorem c_nilK : PK X [] (tL X W (fun _ S => .ok [] S)) := pkI pk_nil fun σ H Q ⟨S, r, e, emb, he, oo⟩ => out_same emb oo [] RepL.nil
theorem c_consK {kws : List Keyword} {nm : Option Str} {kp : Pos} {fs : En → Sto → R (List D)} (ha : PE X a (tE X W f)) (hb : PK X kws (tL X W fs)) : PK X (⟨nm, a, kp⟩ :: kws) (tL X W (fun s S => (f s S).bind fun d S1 => (fs s S1).bind fun ds S2 => .ok (d :: ds) S2)) := by
  refine pkI (pk_cons ha hb) fun σ H Q hx => ?_
  obtain ⟨S, r, e, emb, he, oo⟩ := hx
  refine on_seq emb he oo fun x S1 r1 H1 st1 emb1 he1 o1 v hv => ?_
  refine on_seq emb1 he1 o1 fun xs S2 r2 H2 st2 emb2 he2 o2 vs hvs => ?_
  exact out_same emb2 o2 _ (RepL.cons (Rep.stp st2 _ _ hv) hvs)
/-- the callee has come: it runs as it promised -/
theorem run_call (G : Good t k N sc X W) (hc : t.hot = none) {fa : Addr} {C : List D → List (Str × D) → Sto → R D} (cp : CallP X.prog X.w X.K X.mg X.base k fa C) {pins : List (Addr × Obj)} {σ : L2.St} {H : Hp} {s : Shared} {Q : VK} {us ws : List Value} {vs zs : List V} {ks : List Str} {S : Sto} {r : Rho} {ds es : List D}
    (I : Inv X pins σ H s) (rv : Vals vs us) (rz : Vals zs ws) (emb : Emb (Wo X) S r H) (h1 : RepL (Wo X) S.length r H ds vs) (h2 : RepL (Wo X) S.length r H es zs) (hl : ks.length = es.length)
    (o : Out (Wo X) S.length r H (Gv X Q) (GE X W σ) (C ds (ks.zip es) S)) : wpAny (model X.prog X.w) X.A (call (.ref fa) us (ks.zip ws)) (EP X pins σ Q) X.xe s := by
  obtain ⟨g1, g2, g3⟩ := G.cold hc
  refine wpAny_call (codeAny_mono (cp X.A X.stack s H us ws ks vs zs Q (fun cls dd H' => W.w cls dd σ H') S r ds es g2 G.gd I.env0 rv rz emb h1 h2 hl o) fun q s' hq => ?_)
  cases q with
  | error e => exact g3 e s' (XE.of_call I (fun cls d H' w => w) hq)
  | ok fl =>
    cases fl with
    | ret u => exact I.after hq
    | next => exact False.elim hq
    | brk => exact False.elim hq
    | cont => exact False.elim hq
theorem nil_args {M : Model} {A : Around} {E : Value → Shared → Prop} {s : Shared} {fv : Value} {kw : List (Option Str × Sem Value)} {Q : Args → Shared → Prop} (hall : kw.all (·.1.isSome) = true)
    (h : wpAny M A (spliced []) (fun vs s1 => wpAny M A (evalAll (kw.map (·.2))) (fun ws s2 => Q ⟨vs, (kw.filterMap (·.1)).zip ws⟩ s2) E s1) E s) : wpAny M A (evalArgs fv true [] kw) Q E s := by
  unfold evalArgs
  refine wpAny_bind ?_
  refine wpAny_mono h (fun us s1 h1 => ?_) fun _ _ z => z
  refine wpAny_bind (wpAny_pure (wpAny_holding ?_))
  simp only [hall, if_true]
  exact wpAny_bind (wpAny_mono h1 (fun ws s2 h2 => wpAny_bind (wpAny_pure (wpAny_pure h2))) fun _ _ z => z)
theorem c_call {x : Str} {p : Pos} {xs : List Expr} {kws : List Keyword} {ks : List Str} {fs gs : En → Sto → R (List D)} (G : Good t k N sc X W) (hg : glB sc x = true) (hn : nmB x = true) (hT : x ∈ t.nm.T) (hp : plainB xs = true) (hk : kwOk ks kws = true)
    (ha : PA X xs (tL X W fs)) (hb : PK X kws (tL X W gs)) (hlen : ∀ s S ds S', gs s S = .ok ds S' → ds.length = ks.length) :
    PE X (.Call (.Name x p) xs kws pos) (tE X W (fun s S => (fs s S).bind fun ds S1 => (gs s S1).bind fun qs S2 => t.cold (t.C x ds (ks.zip qs) S2))) := by
  unfold nmB at hn
  simp only [Bool.and_eq_true, Bool.not_eq_true', decide_eq_false_iff_not] at hn
  obtain ⟨fa, m1, m2, cp⟩ := G.ok.call x hT
  obtain ⟨k1, k2, k3⟩ := kw_all (pos := pos) (env := X.env) hk
  refine ⟨fun pins s σ H Q I hx => ?_⟩
  have last : ∀ {us ws : List Value} {vs zs : List V} {s2 : Shared} {H2 : Hp} {S2 : Sto} {r2 : Rho} {ds qs : List D}, Inv X pins σ H2 s2 → Vals vs us → Vals zs ws → Emb (Wo X) S2 r2 H2 → RepL (Wo X) S2.length r2 H2 ds vs → RepL (Wo X) S2.length r2 H2 qs zs → qs.length = ks.length →
      Out (Wo X) S2.length r2 H2 (Gv X Q) (GE X W σ) (t.cold (t.C x ds (ks.zip qs) S2)) → X.K.In s2.heap ∧ wpAny (model X.prog X.w) X.A (call (.ref fa) us (ks.zip ws)) (EP X pins σ Q) X.xe s2 := by
    intro us ws vs zs s2 H2 S2 r2 ds qs I2 rv rz emb h1 h2 hl o
    unfold Sta.cold at o
    split at o
    · rename_i hc
      exact ⟨I2.kIn, run_call G (by simpa using hc) cp I2 rv rz emb h1 h2 hl.symm o⟩
    · exact o.elim
  refine wpAny_Call_Name_kw (ld_glob I (gl_of G hg) m1 ?_ hn.1)
  have key : wpAny (model X.prog X.w) X.A (spliced (backTo pos (starEach xs X.env))) (fun us s1 => wpAny (model X.prog X.w) X.A (evalAll ((backToKw pos (keywordEach kws X.env)).map (·.2))) (fun ws s2 => X.K.In s2.heap ∧ wpAny (model X.prog X.w) X.A (call (.ref fa) us (ks.zip ws)) (EP X pins σ Q) X.xe s2) X.xe s1) X.xe s := by
    obtain ⟨S, r, e, emb, he, oo⟩ := hx
    refine thn (ha.run pos pins s σ H (fun vs H1 => ∃ ds S1 r1, RepL (Wo X) S1.length r1 H1 ds vs ∧ Emb (Wo X) S1 r1 H1 ∧ EnvR (Wo X) W S1.length r1 H1 e σ ∧ Out (Wo X) S1.length r1 H1 (Gv X Q) (GE X W σ) ((gs e S1).bind fun qs S2 => t.cold (t.C x ds (ks.zip qs) S2))) I (on_seq emb he oo fun ds S1 r1 H1 st1 emb1 he1 o1 vs hvs => ⟨ds, S1, r1, hvs, emb1, he1, o1⟩)) fun us s1 ⟨vs, H1, I1, rv, ds, S1, r1, hvs, emb1, he1, o1⟩ => ?_
    cases hq : gs e S1 with
    | bad => rw [hq] at o1; exact o1.elim
    | exc y S2 =>
      refine thn (hb.run pos pins s1 σ H1 (fun _ _ => False) I1 ⟨S1, r1, e, emb1, he1, ?_⟩) fun _ _ ⟨_, _, _, _, z⟩ => z.elim
      rw [hq] at o1 ⊢
      exact o1
    | ok qs S2 =>
      refine thn (hb.run pos pins s1 σ H1 (fun zs H2 => ∃ r2, RepL (Wo X) S2.length r2 H2 qs zs ∧ RepL (Wo X) S2.length r2 H2 ds vs ∧ Emb (Wo X) S2 r2 H2 ∧ Out (Wo X) S2.length r2 H2 (Gv X Q) (GE X W σ) (t.cold (t.C x ds (ks.zip qs) S2))) I1 ⟨S1, r1, e, emb1, he1, ?_⟩) fun ws s2 ⟨zs, H2, I2, rz, r2, hzs, hvs2, emb2, o2⟩ => ?_
      · have o1' := o1.bind
        rw [hq] at o1' ⊢
        exact fun r' H' st em vs' hvs' => ⟨r', hvs', RepL.stp st _ _ hvs, em, o1' r' H' st em⟩
      · exact last I2 rv rz emb2 hvs2 hzs (hlen _ _ _ _ hq) o2
  have hpl : ((backTo pos (starEach xs X.env)).any (·.1) || (backToKw pos (keywordEach kws X.env)).any (·.1.isNone)) = false := by
    rw [plain_any hp, k3]
    rfl
  refine PySem.W.callWith_of hpl (PySem.W.keeps_K m2) ?_
  cases xs with
  | nil =>
    refine nil_args k1 ?_
    rw [k2]
    exact key
  | cons y ys =>
    have hy : notStar y = true := by
      unfold plainB at hp
      rw [List.all_cons, Bool.and_eq_true] at hp
      exact hp.1
    have e1 : backTo pos (starEach (y :: ys) X.env) = (false, eval y X.env) :: backTo pos (starEach ys X.env) := by
      rw [star_of hy]
      rfl
    rw [e1] at key ⊢
    refine evalArgs_kw k1 ?_
    rw [k2]
    exact key
/-! isinstance -/
theorem tyX_of (G : Good t k N sc X W) {S : Sto} {r : Rho} {H : Hp} {d : D} {v : V} {y : Sum String Str} (emb : Emb (Wo X) S r H) (hd : Rep (Wo X) S.length r H d v) (h : tyD d S = some y) (hi : inrOk t.IC y = true) (hne : ∀ C ks ds, d ≠ .err C ks ds) : ∃ u, clsAt X.mg y u ∧ TyX X.K H v u := by
  have ins : ∀ {a : Addr} {C : Str} {c dx : Addr} {fs : List (Str × V)}, X.mg C = some (.ref c) → C ∈ t.IC → H a = some (.ins c dx fs) → ∃ u, clsAt X.mg (.inr C) u ∧ TyX X.K H (.ref a) u := fun {a C c dx fs} m hc e => by
    have z := G.ok.ins C c hc m
    exact ⟨.ref c, ⟨m, c, rfl⟩, .base (.ins e z.cl z.ha z.hn z.ht z.hm)⟩
  cases d with
  | non => rw [tyD] at h; cases h; rw [Rep] at hd; rw [hd]; exact ⟨_, rfl, .base .non⟩
  | bl b => rw [tyD] at h; cases h; rw [Rep] at hd; rw [hd]; exact ⟨_, rfl, .base (.bl b)⟩
  | int b => rw [tyD] at h; cases h; rw [Rep] at hd; rw [hd]; exact ⟨_, rfl, .base (.int b)⟩
  | str b => rw [tyD] at h; cases h; rw [Rep] at hd; rw [hd]; exact ⟨_, rfl, .base (.str b)⟩
  | ty n => rw [tyD] at h; cases h
  | glo n => rw [tyD] at h; cases h
  | scr n => rw [tyD] at h; cases h
  | tup ds =>
    rw [tyD] at h; cases h
    rw [Rep] at hd
    obtain ⟨a, vs, rfl, f, _⟩ := hd
    rcases f with ⟨f | ⟨o, f⟩, _⟩ | ⟨o, its, n, f, hc, _⟩
    · exact ⟨_, rfl, .base (.tup f)⟩
    · exact ⟨_, rfl, .fTuple f⟩
    · exact ⟨_, rfl, .kTuple f hc⟩
  | lst ds =>
    rw [tyD] at h; cases h
    rw [Rep] at hd
    obtain ⟨a, vs, rfl, f, _⟩ := hd
    exact ⟨_, rfl, .base (.lst f.1)⟩
  | dct ks ds =>
    rw [tyD] at h; cases h
    rw [Rep] at hd
    obtain ⟨a, kvs, rfl, f, _⟩ := hd
    exact ⟨_, rfl, .base (.dK f)⟩
  | obj C ks ds =>
    rw [tyD] at h; cases h
    rw [Rep] at hd
    obtain ⟨a, c, dx, fs, rfl, m, f, _⟩ := hd
    exact ins m (of_decide_eq_true hi) f
  | err C ks ds => exact absurd rfl (hne C ks ds)
  | ref l =>
    rw [tyD] at h
    rw [Rep] at hd
    obtain ⟨hl, rfl⟩ := hd
    cases q : S[l]? with
    | none => rw [q] at h; cases h
    | some o =>
      rw [q] at h
      have z := emb.at_ l o q
      cases o with
      | lst ds =>
        cases h
        obtain ⟨vs, z1, _⟩ := z
        exact ⟨_, rfl, .base (.lst z1)⟩
      | dct ks ds =>
        cases h
        obtain ⟨kvs, z1, _⟩ := z
        exact ⟨_, rfl, .base (.dK z1)⟩
      | ins C ks ds =>
        cases h
        obtain ⟨c, dx, fs, m, z1, _⟩ := z
        exact ins m (of_decide_eq_true hi) z1
theorem kit_ofD (G : Good t k N sc X W) {pins : List (Addr × Obj)} {σ : L2.St} {s : Shared} {S : Sto} {r : Rho} {H : Hp} {d : D} {v : V} {u : Value} {y : Sum String Str} (I : Inv X pins σ H s) (emb : Emb (Wo X) S r H) (hd : Rep (Wo X) S.length r H d v) (rv : L2.RelV v u) (h : tyD d S = some y)
    (hi : okTy t.IC t.EC d y = true) : ∃ (ty : Value) (P : Heap → Prop), clsAt X.mg y ty ∧ PySem.W.KitX X.K u ty P ∧ P s.heap ∧ u ≠ .builtin "__main__.__loader__#opaque" := by
  by_cases he : ∃ C ks ds, d = .err C ks ds
  · obtain ⟨C, ks, ds, rfl⟩ := he
    rw [tyD] at h
    cases h
    rw [Rep] at hd
    obtain ⟨a, c, dd, rfl, m, f1, _, f2⟩ := hd
    cases rv
    have hE := (G.ok.exc C c m (of_decide_eq_true hi)).1
    obtain ⟨⟨oe, vs, ho, hz, hv⟩, _, _⟩ := I.hok a _ f1
    rcases f2 with ⟨_, _, rfl⟩ | ⟨d, fs, rfl, g1, _⟩
    · exact ⟨.ref c, _, ⟨m, c, rfl⟩, kitx_err (ox := oe) (od := none) hE, ⟨ho, hz.1, by unfold PySem.W.notCls; rw [hv] <;> rfl, by rw [hz.2]; trivial⟩, fun z => nomatch z⟩
    · have hx : ObjOk X.prog X.w H s.heap d (.xd fs) := I.hok d _ g1
      obtain ⟨mA, hns, _⟩ := hx
      obtain ⟨od, hod, _⟩ := lookIn_ns hns
      exact ⟨.ref c, _, ⟨m, c, rfl⟩, kitx_err (ox := oe) (od := some od) hE, ⟨ho, hz.1, by unfold PySem.W.notCls; rw [hv] <;> rfl, by rw [hz.2]; exact hod⟩, fun z => nomatch z⟩
  · have hi2 : inrOk t.IC y = true := by
      cases d with
      | err C ks ds => exact absurd ⟨C, ks, ds, rfl⟩ he
      | _ => exact hi
    have e2 : ∀ C ks ds, d ≠ .err C ks ds := fun C ks ds z => he ⟨C, ks, ds, z⟩
    obtain ⟨ty, k1, k2⟩ := tyX_of G emb hd h hi2 e2
    obtain ⟨P, Z, p, hx⟩ := kit_of I rv k2
    exact ⟨ty, P, k1, Z, p, hx⟩
theorem cls_of {Wx : Wd} {n : Nat} {r : Rho} {H : Hp} {d : D} {v : V} {y : Sum String Str} (hd : Rep Wx n r H d v) (h : clsD d = some y) : ∃ u, clsAt Wx.mg y u ∧ ClsV v u := by
  unfold clsD at h
  split at h
  · cases h
    rw [Rep] at hd
    rw [hd]
    exact ⟨_, rfl, .ty _⟩
  · cases h
    rw [Rep] at hd
    obtain ⟨a, rfl, m⟩ := hd
    exact ⟨_, ⟨m, a, rfl⟩, .own a⟩
  · cases h
theorem kit_any {K : PySem.W.Frag} {mg : Str → Option Value} {Wx : Wd} (hm : Wx.mg = mg) {I : Sum String Str → Sum String Str → Option Bool} (hI : ∀ a b q, I a b = some q → ∀ u v, clsAt mg a u → clsAt mg b v → PySem.W.kitOne K u v = some q) {a : Sum String Str} {u : Value} (ha : clsAt mg a u) {n : Nat} {r : Rho} {H : Hp} :
    ∀ {cs : List D} {vs : List V} {us : List Value} {b : Bool}, RepL Wx n r H cs vs → Vals vs us → isiL I a cs = some b → PySem.W.kitAny K u us = some b
  | [], _, _, b, h, hv, e => by
    rw [RepL] at h
    rw [isiL] at e
    cases e
    subst h
    cases hv
    exact kitAny_nil
  | c :: cs, _, _, b, h, hv, e => by
    rw [RepL] at h
    obtain ⟨v, q, rfl, h1, h2⟩ := h
    rw [isiL, Option.bind_eq_some_iff] at e
    obtain ⟨y, e1, e2⟩ := e
    rw [Option.bind_eq_some_iff] at e2
    obtain ⟨p, e3, e4⟩ := e2
    obtain ⟨w, k1, k2⟩ := cls_of h1 e1
    rw [hm] at k1
    have z := hI _ _ _ e3 _ _ ha k1
    cases hv with
    | cons hv1 hv2 =>
      rw [k2.eq hv1]
      cases p with
      | true =>
        rw [if_pos rfl] at e4
        exact kitAny_cons z (fun q => nomatch q) fun _ => (Option.some.inj e4).symm
      | false =>
        rw [if_neg Bool.false_ne_true] at e4
        exact kitAny_cons z (fun _ => kit_any hm hI ha h2 hv2 e4) fun q => nomatch q
/-- a built-in's answer by data -/
def rL (X : Cx) (f : List D → Sto → R D) : List V → Hp → VK → Prop := fun vs H Q => ∃ E S r ds, Emb (Wo X) S r H ∧ RepL (Wo X) S.length r H ds vs ∧ Out (Wo X) S.length r H (Gv X Q) E (f ds S)
theorem RepL.inv1 {Wx : Wd} {n : Nat} {r : Rho} {H : Hp} {d : D} {vs : List V} (h : RepL Wx n r H [d] vs) : ∃ v, vs = [v] ∧ Rep Wx n r H d v := by
  rw [RepL] at h
  obtain ⟨v, q, e, h1, h2⟩ := h
  rw [RepL] at h2
  subst h2
  exact ⟨v, e, h1⟩
theorem RepL.inv2 {Wx : Wd} {n : Nat} {r : Rho} {H : Hp} {d c : D} {vs : List V} (h : RepL Wx n r H [d, c] vs) : ∃ v u, vs = [v, u] ∧ Rep Wx n r H d v ∧ Rep Wx n r H c u := by
  rw [RepL] at h
  obtain ⟨v, q, e, h1, h2⟩ := h
  obtain ⟨u, e2, h3⟩ := h2.inv1
  subst e2
  exact ⟨v, u, e, h1, h3⟩
def biIsi (t : Sta) (ds : List D) (S : Sto) : R D := match ds with
    | [x, c] => (match isiD t.IC t.EC t.I x c S with
      | some b => .ok (.bl b) S
      | none => .bad)
    | _ => .bad
theorem isi_ok (G : Good t k N sc X W) : CallR X (.builtin "isinstance") (rL X (biIsi t)) := by
  intro pins s σ H vs us Q I rv ⟨E0, S, r, ds, e, hds, h⟩
  unfold biIsi at h
  split at h
  · rename_i x c
    split at h
    · rename_i b hb
      obtain ⟨v, u, rfl, h1, h2⟩ := hds.inv2
      unfold isiD at hb
      obtain ⟨y, e1, e2⟩ := Option.bind_eq_some_iff.mp hb
      split at e2
      · rename_i hi
        have fin : Q (.bl b) H := out_v e h (by rw [Rep])
        obtain ⟨u1, u2, rfl, r1, r2⟩ := vals2 rv
        obtain ⟨ty, P, k1, Z, p, hx⟩ := kit_ofD G I e h1 r1 e1 hi
        cases c with
        | tup cs =>
          dsimp only at e2
          rw [Rep] at h2
          obtain ⟨a, ws, rfl, f, g1⟩ := h2
          cases (show u2 = Value.ref a from r2)
          obtain ⟨its, rw', ⟨o, q1, q2, n, q3⟩, _⟩ := I.tuple f.sq
          have ka := kit_any (Wx := Wo X) rfl G.ok.isi k1 g1 rw' e2
          obtain ⟨oc, od, dt, sl⟩ := o
          dsimp only at q2 q3
          subst q2 q3
          exact PySem.W.kia_tup Z I.kIn p q1 ka hx fun tk => ⟨.bl b, H, I.tok tk, rfl, fin⟩
        | ty n =>
          obtain ⟨y2, e3, e4⟩ := Option.bind_eq_some_iff.mp e2
          obtain ⟨w, k3, k4⟩ := cls_of h2 e3
          rw [k4.eq r2]
          exact PySem.W.kia_one Z I.kIn p (G.ok.isi _ _ _ e4 _ _ k1 k3) hx fun tk => ⟨.bl b, H, I.tok tk, rfl, fin⟩
        | glo n =>
          obtain ⟨y2, e3, e4⟩ := Option.bind_eq_some_iff.mp e2
          obtain ⟨w, k3, k4⟩ := cls_of h2 e3
          rw [k4.eq r2]
          exact PySem.W.kia_one Z I.kIn p (G.ok.isi _ _ _ e4 _ _ k1 k3) hx fun tk => ⟨.bl b, H, I.tok tk, rfl, fin⟩
        | _ => cases e2
      · cases e2
    · exact h.elim
  · exact h.elim
def biLen (ds : List D) (S : Sto) : R D := match ds with
    | [d] => (match flat S d with
      | .lst es => .ok (.int es.length) S
      | .tup es => .ok (.int es.length) S
      | .scr ns => .ok (.int ns.length) S
      | .str x => if x.length ≤ sizeLine then .ok (.int x.length) S else .bad
      | _ => .bad)
    | _ => .bad
theorem len_ok : CallR X (.builtin "len") (rL X biLen) := by
  intro pins s σ H vs us Q I rv ⟨E0, S, r, ds, e, hds, h⟩
  unfold biLen at h
  split at h
  · rename_i d
    obtain ⟨v, rfl, h1⟩ := hds.inv1
    have fx := flat_ok e h1
    generalize flat S d = cx at fx h
    split at h
    · obtain ⟨a, vs, rfl, f1, g1⟩ := fx
      exact call_len pins s σ H _ us Q I rv ⟨_, _, rfl, .inl ⟨vs, .inl (.inl f1), rfl⟩, out_v e h (by rw [Rep, g1.length])⟩
    · simp only [RepF, Rep] at fx
      obtain ⟨a, vs, rfl, f1, g1⟩ := fx
      exact call_len pins s σ H _ us Q I rv ⟨_, _, rfl, .inr ⟨vs, f1.sq, rfl⟩, out_v e h (by rw [Rep, g1.length])⟩
    · rename_i ns
      simp only [RepF, Rep] at fx
      obtain ⟨a, rfl, f1⟩ := fx
      exact call_len pins s σ H _ us Q I rv ⟨_, _, rfl, .inl ⟨_, f1.sq, rfl⟩, out_v e h (by rw [Rep, List.length_map])⟩
    · simp only [RepF, Rep] at fx
      subst fx
      split at h
      · rename_i hz
        exact call_len pins s σ H _ us Q I rv ⟨_, _, rfl, ⟨hz, rfl⟩, out_v e h (by rw [Rep])⟩
      · exact h.elim
    · exact h.elim
  · exact h.elim
def biInt (ds : List D) (S : Sto) : R D := match ds with
    | [.int i] => .ok (.int i) S
    | [.bl b] => .ok (.int (b2i b)) S
    | _ => .bad
theorem int_ok : CallR X (.type "int") (rL X biInt) := by
  intro pins s σ H vs us Q I rv ⟨E0, S, r, ds, e, hds, h⟩
  unfold biInt at h
  split at h
  · obtain ⟨v, rfl, h1⟩ := hds.inv1
    rw [Rep] at h1
    subst h1
    exact call_int1 pins s σ H _ us Q I rv (.inl ⟨_, rfl, out_v e h (by rw [Rep])⟩)
  · rename_i b
    obtain ⟨v, rfl, h1⟩ := hds.inv1
    rw [Rep] at h1
    subst h1
    exact call_int1 pins s σ H _ us Q I rv (.inr ⟨_, rfl, out_v e h (by rw [Rep]; cases b <;> rfl)⟩)
  · exact h.elim
def biBool (ds : List D) (S : Sto) : R D := match ds with
    | [.int i] => .ok (.bl (i != 0)) S
    | [.bl b] => .ok (.bl b) S
    | _ => .bad
theorem bool_ok : CallR X (.type "bool") (rL X biBool) := by
  intro pins s σ H vs us Q I rv ⟨E0, S, r, ds, e, hds, h⟩
  unfold biBool at h
  split at h
  · obtain ⟨v, rfl, h1⟩ := hds.inv1
    rw [Rep] at h1
    subst h1
    exact call_bool1 pins s σ H _ us Q I rv (.inl ⟨_, rfl, out_v e h (by rw [Rep])⟩)
  · rename_i b
    obtain ⟨v, rfl, h1⟩ := hds.inv1
    rw [Rep] at h1
    subst h1
    exact call_bool1 pins s σ H _ us Q I rv (.inr ⟨_, rfl, out_v e h (by rw [Rep])⟩)
  · exact h.elim
theorem ints_rep {Wx : Wd} {n : Nat} {r : Rho} {H : Hp} : ∀ ns : List Int, RepL Wx n r H (ns.map D.int) (ns.map V.int)
  | [] => RepL.nil
  | i :: ns => RepL.cons (by rw [Rep]) (ints_rep ns)
def biList (ds : List D) (S : Sto) : R D := match ds with
    | [d] => (match flat S d with
      | .lst es => .ok (.lst es) S
      | .tup es => .ok (.lst es) S
      | .scr ns => .ok (.lst (ns.map .int)) S
      | _ => .bad)
    | _ => .bad
theorem list_ok : CallR X (.type "list") (rL X biList) := by
  intro pins s σ H vs us Q I rv ⟨E0, S, r, ds, e, hds, h⟩
  unfold biList at h
  split at h
  · rename_i d
    obtain ⟨v, rfl, h1⟩ := hds.inv1
    have fx := flat_ok e h1
    generalize flat S d = cx at fx h
    split at h
    · obtain ⟨a, vs, rfl, f1, g1⟩ := fx
      exact call_list_of pins s σ H _ us Q I rv ⟨a, vs, rfl, .inl (.inl (.inl f1)), fun l hl => out_lst e h g1 hl⟩
    · simp only [RepF, Rep] at fx
      obtain ⟨a, vs, rfl, f1, g1⟩ := fx
      exact call_list_of pins s σ H _ us Q I rv ⟨a, vs, rfl, .inr f1.sq, fun l hl => out_lst e h g1 hl⟩
    · rename_i ns
      simp only [RepF, Rep] at fx
      obtain ⟨a, rfl, f1⟩ := fx
      exact call_list_of pins s σ H _ us Q I rv ⟨a, _, rfl, .inl f1.sq, fun l hl => out_lst e h (ints_rep ns) hl⟩
    · exact h.elim
  · exact h.elim
def biTup (ds : List D) (S : Sto) : R D := match ds with
    | [d] => (match flat S d with
      | .lst es => .ok (.tup es) S
      | .tup es => .ok (.tup es) S
      | _ => .bad)
    | _ => .bad
theorem tup_ok : CallR X (.type "tuple") (rL X biTup) := by
  intro pins s σ H vs us Q I rv ⟨E0, S, r, ds, e, hds, h⟩
  unfold biTup at h
  split at h
  · rename_i d
    obtain ⟨v, rfl, h1⟩ := hds.inv1
    have fx := flat_ok e h1
    generalize flat S d = cx at fx h
    split at h
    · obtain ⟨a, vs, rfl, f1, g1⟩ := fx
      exact call_tuple_of pins s σ H _ us Q I rv ⟨a, vs, rfl, .inl ⟨.inl (.inl f1), fun l hl => out_tup e h g1 hl⟩⟩
    · simp only [RepF, Rep] at fx
      obtain ⟨a, vs, rfl, f1, g1⟩ := fx
      exact call_tuple_of pins s σ H _ us Q I rv ⟨a, vs, rfl, .inr ⟨f1.sq, out_v e h (by rw [Rep]; exact ⟨a, vs, rfl, f1, g1⟩)⟩⟩
    · exact h.elim
  · exact h.elim
theorem bls_rep {Wx : Wd} {n : Nat} {r : Rho} {H : Hp} : ∀ {ds : List D} {bs : List Bool} {vs : List V}, blsD ds = some bs → RepL Wx n r H ds vs → vs = bs.map V.bl
  | [], bs, vs, h, g => by
    rw [blsD] at h
    cases h
    rw [RepL] at g
    exact g
  | d :: ds, bs, vs, h, g => by
    rw [RepL] at g
    obtain ⟨v, q, rfl, g1, g2⟩ := g
    cases d with
    | bl b =>
      rw [blsD, Option.map_eq_some_iff] at h
      obtain ⟨cs, h1, rfl⟩ := h
      rw [Rep] at g1
      rw [g1, bls_rep h1 g2]
      rfl
    | _ => simp [blsD] at h
def biAll (ds : List D) (S : Sto) : R D := match ds with
    | [d] => (match flat S d with
      | .lst es => (match blsD es with
        | some bs => .ok (.bl (bs.all id)) S
        | none => .bad)
      | _ => .bad)
    | _ => .bad
theorem all_ok (hc : X.calm = true) : CallR X (.builtin "all") (rL X biAll) := by
  intro pins s σ H vs us Q I rv ⟨E0, S, r, ds, e, hds, h⟩
  unfold biAll at h
  split at h
  · rename_i d
    obtain ⟨v, rfl, h1⟩ := hds.inv1
    have fx := flat_ok e h1
    generalize flat S d = cx at fx h
    split at h
    · obtain ⟨a, vs, rfl, f1, g1⟩ := fx
      split at h
      · rename_i bs hb
        exact cr_all hc pins s σ H _ us Q I rv ⟨a, bs, rfl, .inl (.inl (by rw [f1, bls_rep hb g1])), out_v e h (by rw [Rep])⟩
      · exact h.elim
    · exact h.elim
  · exact h.elim
def biAny (ds : List D) (S : Sto) : R D := match ds with
    | [d] => (match flat S d with
      | .lst es => (match blsD es with
        | some bs => .ok (.bl (bs.any id)) S
        | none => .bad)
      | _ => .bad)
    | _ => .bad
theorem any_ok (hc : X.calm = true) : CallR X (.builtin "any") (rL X biAny) := by
  intro pins s σ H vs us Q I rv ⟨E0, S, r, ds, e, hds, h⟩
  unfold biAny at h
  split at h
  · rename_i d
    obtain ⟨v, rfl, h1⟩ := hds.inv1
    have fx := flat_ok e h1
    generalize flat S d = cx at fx h
    split at h
    · obtain ⟨a, vs, rfl, f1, g1⟩ := fx
      split at h
      · rename_i bs hb
        exact cr_any hc pins s σ H _ us Q I rv ⟨a, bs, rfl, .inl (.inl (by rw [f1, bls_rep hb g1])), out_v e h (by rw [Rep])⟩
      · exact h.elim
    · exact h.elim
  · exact h.elim
end
end Fw

set_option Elab.async false
set_option linter.all false
set_option maxRecDepth 100000
set_option maxHeartbeats 4000000
namespace Fw
open PySem PySem.Spec PyProof.Rows L2
variable [Tb]
def biRepr (ds : List D) (S : Sto) : R D := match ds with
    | [d] => (match toPyR (flat S d) with
      | some p => if shows p = true then .ok (.str p.shown) S else .bad
      | none => .bad)
    | _ => .bad
section
variable {X : Cx} {W : Wm} {t : Sta} {k : Nat} {N : List Str} {sc : Scope} {a b c : Expr} {f g h : En → Sto → R D} {pos : Pos}
theorem readsF (hm : ∀ {pins : List (Addr × Obj)} {σ : L2.St} {H : Hp} {s : Shared}, Inv X pins σ H s → H sysModules = none) {pins : List (Addr × Obj)} {σ : L2.St} {H : Hp} {s : Shared} {n : Nat} {r : Rho} {d : D} {v : V} {u : Value} {p : PyData} (I : Inv X pins σ H s) (h : RepF (Wo X) n r H d v) (e : toPyR d = some p) (ru : L2.RelV v u) : ∃ as, Reads s.heap u p as ∧ sysModules ∉ as := by
  have m0 := hm I
  cases d with
  | lst ds =>
    obtain ⟨a, vs, rfl, f, q⟩ := h
    rw [toPyR, Option.map_eq_some_iff] at e
    obtain ⟨ps, e1, rfl⟩ := e
    cases ru
    obtain ⟨its, rv, ⟨o, n, ho, hc, _, hd⟩, _⟩ := I.list (xs := vs) (.inl (.inl f))
    obtain ⟨as, z1, z2⟩ := readsRL I m0 ds vs _ ps q e1 rv
    refine ⟨_, Reads.list ho hc hd z1, fun z => ?_⟩
    rcases List.mem_cons.mp z with z | z
    · rw [← z, m0] at f
      cases f
    · exact z2 z
  | dct ks ds =>
    obtain ⟨a, kvs, rfl, f1, k, q⟩ := h
    rw [toPyR, Option.bind_eq_some_iff] at e
    obtain ⟨ps, e1, e2⟩ := e
    split at e2
    · rename_i hl
      cases e2
      cases ru
      have ob : ObjOk X.prog X.w H s.heap a (.dK kvs) := I.hok a _ f1
      obtain ⟨_, hns, vs, kv, o, es, ep, ho, hx, hd, _, hp, _⟩ := ob
      obtain ⟨rv, ek⟩ := vals_pairs hp kv
      obtain ⟨bs, z1, z2⟩ := readsRL I m0 ds _ _ ps q e1 rv
      have zz := zip_fst' (xs := ks.map keyPy) (ys := ps) (by rw [List.length_map]; exact hl)
      have kr := keys_read (h := s.heap) hp
      rw [← ek, k] at kr
      refine ⟨_, Reads.dict (kvs := (ks.map keyPy).zip ps) ho hx.1 hd (by rw [zz.1]; exact kr) (by rw [zz.2]; exact z1), fun z => ?_⟩
      rcases List.mem_cons.mp (by simpa using z) with z | z
      · rw [← z] at hns
        simp at hns
      · exact z2 z
    · cases e2
  | _ => exact readsR I m0 _ v u p h e ru
theorem repr_ok (G : Good t k N sc X W) : CallR X (.builtin "repr") (rL X biRepr) := by
  intro pins s σ H vs us Q I rv ⟨E0, S, r, ds, e, hds, h⟩
  unfold biRepr at h
  split at h
  · rename_i d
    obtain ⟨v, rfl, h1⟩ := hds.inv1
    have fx := flat_ok e h1
    split at h
    · rename_i p hp
      split at h
      · rename_i hc
        obtain ⟨u, rfl, ru⟩ := vals1 rv
        obtain ⟨o, ho⟩ := G.ok.sy
        obtain ⟨as, rd, nm⟩ := readsF (fun J => (J.bs _ _ (J.ok.mod.kin _ _ ho)).2) I fx hp ru
        unfold shows at hc
        simp only [Bool.and_eq_true, decide_eq_true_eq] at hc
        obtain ⟨c1, c2, c3⟩ := hc
        have hu := G.un
        unfold RU at hu
        refine repr_anyR rd nm c1 G.gd (by omega) c3 fun h' u' tk kp => ?_
        exact ⟨.str p.shown, H, I.kept (t' := tk) kp, ⟨_, rfl⟩, out_v e h (by rw [Rep])⟩
      · exact h.elim
    · exact h.elim
  · exact h.elim
theorem bi_fin {x : Str} {id : String} {p : Pos} {y : Expr} {ys : List Expr} {fs : En → Sto → R (List D)} {B : List D → Sto → R D} (G : Good t k N sc X W) (hg : glB sc x = true) (hF : x ∈ t.nm.F) (hn : nmB x = true) (hp : plainB (y :: ys) = true) (ha : PA X (y :: ys) (tL X W fs))
    (hc : CallR X (.builtin id) (rL X B)) (hv : bootBuiltins x = some (.builtin id)) : PE X (.Call (.Name x p) (y :: ys) [] pos) (tE X W (fun s S => (fs s S).bind fun ds S1 => B ds S1)) := by
  unfold nmB at hn
  simp only [Bool.and_eq_true, Bool.not_eq_true', decide_eq_false_iff_not] at hn
  unfold plainB at hp
  rw [List.all_cons, Bool.and_eq_true] at hp
  refine peI (pe_callB hc (gl_of G hg) (G.ok.free x hF) hv ha hn.2.2 hn.1 (star_of hp.1) (plain_any hp.2)) fun σ H Q hx => ?_
  obtain ⟨S, r, e, emb, he, oo⟩ := hx
  refine on_seq emb he oo fun xs S1 r1 H1 st1 emb1 he1 o1 vs hvs => ?_
  exact ⟨_, S1, r1, xs, emb1, hvs, o1⟩
theorem bi_finT {x : Str} {T : String} {p : Pos} {y : Expr} {ys : List Expr} {fs : En → Sto → R (List D)} {B : List D → Sto → R D} (G : Good t k N sc X W) (hg : glB sc x = true) (hF : x ∈ t.nm.F) (hn : nmB x = true) (hp : plainB (y :: ys) = true) (ha : PA X (y :: ys) (tL X W fs))
    (hc : CallR X (.type T) (rL X B)) (hv : bootBuiltins x = some (.type T)) : PE X (.Call (.Name x p) (y :: ys) [] pos) (tE X W (fun s S => (fs s S).bind fun ds S1 => B ds S1)) := by
  unfold nmB at hn
  simp only [Bool.and_eq_true, Bool.not_eq_true', decide_eq_false_iff_not] at hn
  unfold plainB at hp
  rw [List.all_cons, Bool.and_eq_true] at hp
  refine peI (pe_callTy hc (gl_of G hg) (G.ok.free x hF) hv ha hn.2.2 hn.1 (star_of hp.1) (plain_any hp.2)) fun σ H Q hx => ?_
  obtain ⟨S, r, e, emb, he, oo⟩ := hx
  refine on_seq emb he oo fun xs S1 r1 H1 st1 emb1 he1 o1 vs hvs => ?_
  exact ⟨_, S1, r1, xs, emb1, hvs, o1⟩
theorem cold_ok {v : Value} {B : List D → Sto → R D} (h : t.hot = none → CallR X v (rL X B)) : CallR X v (rL X (fun ds S => t.cold (B ds S))) := by
  intro pins s σ H vs us Q I rv ⟨E0, S, r, ds, e, hds, o⟩
  unfold Sta.cold at o
  split at o
  · rename_i hh
    exact h (by simpa using hh) pins s σ H vs us Q I rv ⟨E0, S, r, ds, e, hds, o⟩
  · exact o.elim
theorem c_bi {x : Str} {p : Pos} {y : Expr} {ys : List Expr} {fs : En → Sto → R (List D)} (G : Good t k N sc X W) (hb : x ∈ biNames) (hg : glB sc x = true) (hF : x ∈ t.nm.F) (hn : nmB x = true) (hp : plainB (y :: ys) = true) (ha : PA X (y :: ys) (tL X W fs)) :
    PE X (.Call (.Name x p) (y :: ys) [] pos) (tE X W (fun s S => (fs s S).bind fun ds S1 => biD t x ds S1)) := by
  by_cases h1 : x = "len"
  · subst h1
    exact bi_fin G hg hF hn hp ha len_ok (by decide +kernel)
  by_cases h2 : x = "isinstance"
  · subst h2
    exact bi_fin G hg hF hn hp ha (isi_ok G) (by decide +kernel)
  by_cases h3 : x = "int"
  · subst h3
    exact bi_finT G hg hF hn hp ha int_ok (by decide +kernel)
  by_cases h4 : x = "bool"
  · subst h4
    exact bi_finT G hg hF hn hp ha bool_ok (by decide +kernel)
  by_cases h5 : x = "list"
  · subst h5
    exact bi_finT G hg hF hn hp ha list_ok (by decide +kernel)
  by_cases h6 : x = "tuple"
  · subst h6
    exact bi_finT G hg hF hn hp ha tup_ok (by decide +kernel)
  by_cases h7 : x = "repr"
  · subst h7
    exact bi_fin G hg hF hn hp ha (repr_ok G) (by decide +kernel)
  by_cases h8 : x = "all"
  · subst h8
    exact bi_fin G hg hF hn hp ha (cold_ok (t := t) fun hh => all_ok (G.cold hh).1) (by decide +kernel)
  by_cases h9 : x = "any"
  · subst h9
    exact bi_fin G hg hF hn hp ha (cold_ok (t := t) fun hh => any_ok (G.cold hh).1) (by decide +kernel)
  simp only [biNames, List.mem_cons, List.not_mem_nil, or_false] at hb
  exact absurd hb (by simp only [h1, h2, h3, h4, h5, h6, h7, h8, h9, or_self, not_false_eq_true])
/-! o.m(..) -/
def rM (X : Cx) (B : D → List D → Sto → R D) : V → List V → Hp → VK → Prop := fun x xs H Q => ∃ E S r d ds, Emb (Wo X) S r H ∧ Rep (Wo X) S.length r H d x ∧ RepL (Wo X) S.length r H ds xs ∧ Out (Wo X) S.length r H (Gv X Q) E (B d ds S)
theorem base_of {o : Expr} {m : Str} {env : Env} (h : baseB o = true) : attributeBase o m env (eval o env) = eval o env := by
  unfold attributeBase
  cases o with
  | Call f xs kws p =>
    cases xs with
    | nil =>
      cases kws with
      | nil => cases h
      | cons => cases f <;> rfl
    | cons => cases f <;> rfl
  | _ => rfl
theorem mt_fin {T id : String} {m : Str} {o y : Expr} {ys : List Expr} {apos : Pos} {fs : En → Sto → R (List D)} {B : D → List D → Sto → R D} (hb : baseB o = true) (hl : (apos.endLine == pos.line) = true) (h20 : ys.length < 20) (hp : plainB (y :: ys) = true) (ho : PE X o (tE X W f)) (ha : PA X (y :: ys) (tL X W fs))
    (pa : PlainAttrs T) (slot : Slot T m id) (hty : typeOf (.builtin id) = pure (.type "method_descriptor")) (hm : MtR X id (rM X B)) (rc : D → Bool)
    (hrc : ∀ {S : Sto} {r : Rho} {H : Hp} {d : D} {v : V}, Emb (Wo X) S r H → Rep (Wo X) S.length r H d v → rc (flat S d) = true → tyV X.K T v H) :
    PE X (.Call (.Attribute o m apos) (y :: ys) [] pos) (tE X W (fun s S => (f s S).bind fun x S1 => if rc (flat S1 x) = true then ((fs s S1).bind fun ds S2 => B x ds S2) else .bad)) := by
  have hp0 := hp
  unfold plainB at hp
  rw [List.all_cons, Bool.and_eq_true] at hp
  have few : ((backTo pos (starEach (y :: ys) X.env)).all (fun x => !x.1) && (backToKw pos (keywordEach [] X.env)).all (fun x => x.1.isSome) && decide ((y :: ys).length + ([] : List Keyword).length + (if ([] : List Keyword).isEmpty then 0 else 1) < 30)) = true := by
    rw [plain_all hp0, Bool.true_and, Bool.and_eq_true]
    refine ⟨rfl, decide_eq_true ?_⟩
    simp only [List.length_cons, List.length_nil, List.isEmpty_nil, if_true]
    omega
  refine peI (pe_bm pa slot hty hm ho ha (base_of hb) few hl (star_of hp.1) (plain_any hp.2)) fun σ H Q hx => ?_
  obtain ⟨S, r, e, emb, he, oo⟩ := hx
  refine on_seq emb he oo fun x S1 r1 H1 st1 emb1 he1 o1 v hv => ?_
  split at o1
  · rename_i hr
    refine ⟨hrc emb1 hv hr, ?_⟩
    refine on_seq emb1 he1 o1 fun xs S2 r2 H2 st2 emb2 he2 o2 vs hvs => ?_
    exact ⟨_, S2, r2, x, xs, emb2, Rep.stp st2 _ _ hv, hvs, o2⟩
  · exact o1.elim
theorem rc_list {S : Sto} {r : Rho} {H : Hp} {d : D} {v : V} (emb : Emb (Wo X) S r H) (hd : Rep (Wo X) S.length r H d v) (h : isLstD (flat S d) = true) : tyV X.K "list" v H := by
  have fx := flat_ok emb hd
  generalize flat S d = cx at fx h
  cases cx with
  | lst ds =>
    obtain ⟨a, vs, rfl, f1, _⟩ := fx
    exact .inl ⟨rfl, vs, .inl (.inl f1)⟩
  | _ => cases h
def mtApp (x : D) (ds : List D) (S : Sto) : R D := match x, ds with
    | .ref l, [d] => (match S[l]? with
      | some (.lst es) => if es.length < sizeLine then putO l (.lst (es ++ [d])) .non S else .bad
      | _ => .bad)
    | _, _ => .bad
theorem out_set {S : Sto} {r : Rho} {H : Hp} {l : Nat} {u : HO} {o : O} {d : D} {v : V} {Q : VK} {E : Xc → Sto → Rho → Hp → Prop} (e : Emb (Wo X) S r H) (hl : l < S.length) (h : Out (Wo X) S.length r H (Gv X Q) E (.ok d (S.set l o)))
    (ho : ORep (Wo X) S.length r (upd H (r l) u) (r l) o) (hd : Rep (Wo X) S.length r (upd H (r l) u) d v) : Q v (upd H (r l) u) := by
  have hz : (S.set l o).length = S.length := List.length_set
  exact h r _ (by rw [hz]; exact stp_set (W := Wo X) hl) (emb_set e hl ho) v (by rw [hz]; exact hd)
theorem app_ok2 : MtR X "list.append" (rM X mtApp) := by
  intro pins s σ H x xs v us Q I rx rv ⟨E0, S, r, d, ds, e, hd, hds, h⟩
  unfold mtApp at h
  split at h
  · rename_i l d
    split at h
    · rename_i es hq
      split at h
      · rename_i hz
        obtain ⟨y, rfl, hy⟩ := hds.inv1
        rw [Rep] at hd
        obtain ⟨hl, rfl⟩ := hd
        obtain ⟨vs, z1, z2⟩ := e.at_ l _ hq
        have st := stp_set (W := Wo X) (S := S) (r := r) (H := H) (l := l) (u := .lst (vs ++ [y])) hl
        refine mt_append pins s σ H _ _ v us Q I rx rv ⟨r l, vs, y, rfl, rfl, z1, by rw [z2.length]; exact hz, ?_⟩
        exact out_set e hl h ⟨_, upd_same, RepL.append (RepL.stp st _ _ z2) (RepL.one (Rep.stp st _ _ hy))⟩ (by rw [Rep])
      · exact h.elim
    · exact h.elim
  · exact h.elim
def mtPop (x : D) (ds : List D) (S : Sto) : R D := match x, ds with
    | .ref l, [.int i] => (match S[l]? with
      | some (.lst es) => (match es, i with
        | e :: r, 0 => putO l (.lst r) e S
        | _, _ => .bad)
      | _ => .bad)
    | _, _ => .bad
theorem pop_ok2 : MtR X "list.pop" (rM X mtPop) := by
  intro pins s σ H x xs v us Q I rx rv ⟨E0, S, r, d, ds, e, hd, hds, h⟩
  unfold mtPop at h
  split at h
  · rename_i l i
    split at h
    · rename_i es hq
      split at h
      · rename_i y ys
        obtain ⟨iv, rfl, hy⟩ := hds.inv1
        simp only [Rep] at hd hy
        obtain ⟨hl, rfl⟩ := hd
        subst hy
        obtain ⟨vs, z1, z2⟩ := e.at_ l _ hq
        rw [RepL] at z2
        obtain ⟨w, ws, rfl, z3, z4⟩ := z2
        have st := stp_set (W := Wo X) (S := S) (r := r) (H := H) (l := l) (u := .lst ws) hl
        refine mt_popAt pins s σ H _ _ v us Q I rx rv ⟨r l, w :: ws, 0, 0, w, rfl, rfl, z1, by omega, by omega, ?_, rfl, ?_⟩
        · rw [seqIndex_of (by omega) (by simp)]
          rfl
        · exact out_set e hl h ⟨_, upd_same, RepL.stp st _ _ z4⟩ (Rep.stp st _ _ z3)
      · exact h.elim
    · exact h.elim
  · exact h.elim
def mtIdx (x : D) (ds : List D) (S : Sto) : R D := match flat S x, ds with
    | .lst es, [.str y] => (match es.findIdx? (eqStrD y) with
      | some j => if es.all isStrD then .ok (.int j) S else .bad
      | none => .bad)
    | _, _ => .bad
theorem strs_rep {Wx : Wd} {n : Nat} {r : Rho} {H : Hp} : ∀ {ds : List D} {vs : List V}, RepL Wx n r H ds vs → ds.all isStrD = true → vs.all flatV = true ∧ ∀ (y : Str) (j : Nat) (z : V), vs[j]? = some z → ∃ d, ds[j]? = some d ∧ eqV z (.str y) = eqStrD y d
  | [], vs, h, _ => by
    rw [RepL] at h
    subst h
    exact ⟨rfl, fun y j z hz => by simp at hz⟩
  | d :: ds, vs, h, hs => by
    rw [RepL] at h
    obtain ⟨v, q, rfl, h1, h2⟩ := h
    rw [List.all_cons, Bool.and_eq_true] at hs
    obtain ⟨a1, a2⟩ := strs_rep h2 hs.2
    cases d with
    | str x =>
      rw [Rep] at h1
      subst h1
      refine ⟨by rw [List.all_cons, a1]; rfl, fun y j z hz => ?_⟩
      cases j with
      | zero =>
        have hz : V.str x = z := by simpa using hz
        subst hz
        refine ⟨_, rfl, ?_⟩
        show (x == y) = decide (x = y)
        by_cases hxy : x = y
        · subst hxy
          simp
        · rw [decide_eq_false hxy]
          simpa using hxy
      | succ j => exact a2 y j z (by simpa using hz)
    | _ => cases hs.1
theorem idx_ok2 : MtR X "list.index" (rM X mtIdx) := by
  intro pins s σ H x xs v us Q I rx rv ⟨E0, S, r, d, ds, e, hd, hds, h⟩
  unfold mtIdx at h
  have fx := flat_ok e hd
  generalize flat S d = cx at fx h
  split at h
  · rename_i es y
    obtain ⟨iv, rfl, hy⟩ := hds.inv1
    rw [Rep] at hy
    subst hy
    obtain ⟨a, vs, rfl, f1, g1⟩ := fx
    split at h
    · rename_i j hj
      split at h
      · rename_i hs
        obtain ⟨b1, b2⟩ := strs_rep g1 hs
        obtain ⟨hlt, c1, c2⟩ := List.findIdx?_eq_some_iff_getElem.mp hj
        obtain ⟨z, hz, _⟩ := g1.get (List.getElem?_eq_getElem hlt)
        obtain ⟨d1, e1, e2⟩ := b2 y j z hz
        rw [List.getElem?_eq_getElem hlt] at e1
        cases e1
        refine mt_index pins s σ H _ _ v us Q I rx rv ⟨a, vs, _, j, z, rfl, rfl, .inl (.inl f1), rfl, b1, hz, by rw [e2]; exact c1, fun m z' hm hz' => ?_, out_v e h (by rw [Rep])⟩
        obtain ⟨d2, e3, e4⟩ := b2 y m z' hz'
        rw [List.getElem?_eq_getElem (Nat.lt_trans hm hlt)] at e3
        cases e3
        rw [e4]
        simpa using c2 m hm
      · exact h.elim
    · exact h.elim
  · exact h.elim
theorem c_mt {m : Str} {o y : Expr} {ys : List Expr} {apos : Pos} {fs : En → Sto → R (List D)} (hk : m ∈ mtNames) (hb : baseB o = true) (hl : (apos.endLine == pos.line) = true) (h20 : ys.length < 20) (hp : plainB (y :: ys) = true) (ho : PE X o (tE X W f)) (ha : PA X (y :: ys) (tL X W fs)) :
    PE X (.Call (.Attribute o m apos) (y :: ys) [] pos) (tE X W (fun s S => (f s S).bind fun x S1 => if rcvB m (flat S1 x) = true then ((fs s S1).bind fun ds S2 => mtD m x ds S2) else .bad)) := by
  by_cases h1 : m = "append"
  · subst h1
    exact mt_fin hb hl h20 hp ho ha F.plainAttrs_list PySem.F.slot_list_append PySem.F.type_list_append app_ok2 isLstD rc_list
  by_cases h2 : m = "pop"
  · subst h2
    exact mt_fin hb hl h20 hp ho ha F.plainAttrs_list PySem.F.slot_list_pop PySem.F.type_list_pop pop_ok2 isLstD rc_list
  by_cases h3 : m = "index"
  · subst h3
    exact mt_fin hb hl h20 hp ho ha F.plainAttrs_list PySem.F.slot_list_index PySem.F.type_list_index idx_ok2 isLstD rc_list
  simp only [mtNames, List.mem_cons, List.not_mem_nil, or_false] at hk
  exact absurd hk (by simp only [h1, h2, h3, or_self, not_false_eq_true])
end
end Fw

set_option Elab.async false
set_option linter.all false
set_option maxRecDepth 100000
set_option maxHeartbeats 4000000
namespace Fw
open PySem PySem.Spec PyProof.Rows L2
section
variable [Tb] {X : Cx} {W : Wm} {t : Sta} {k : Nat} {N : List Str} {sc : Scope} {a b c : Expr} {fe : En → Sto → R D} {pos : Pos}
theorem sup_callK {pins : List (Addr × Obj)} {σ : L2.St} {H1 : Hp} {Q : XK} {s1 : Shared} {f m : Str} {C : Addr} {v : V} {u : Value} {pd : PyData} (T : SupC X.prog X.K X.mg C f m) (gd : X.A.guards = some []) (hr : Room 2 X.A) (I1 : Inv X pins σ H1 s1) (ru : L2.RelV v u) (sh : Shw X H1 v pd) (shs : shows pd = true) (hz : m.length + pd.shown.length ≤ sizeLine)
    (q1 : ∀ d, H1 d = none → Q (.ref C) (some d) (upd H1 d (.xd [(f, v)]))) : wpAny (model X.prog X.w) X.A (call (.ref C) [] [(f, u)]) (MkP X pins σ Q) X.xe s1 := by
  have TT := T.T
  obtain ⟨nm, q, N, bs, bm, sn, sub, ab, col, dd, k0, k1, k2, k3, k5, hC, hbm⟩ := T.T.cls
  obtain ⟨f1, cc, cda, name, qual, params, scope, dV, kV, doc, pm, ct, oc, ccl, cl, an, od, cdd, cld, osl, ccs, csl, vs0, file, tf, cdC, ar, pp, qq, j, iC, tI, lk, hcd, lcda, hvs, hfile, htop, lcc, hcl, hsub, ho3, hsup, hVE, S, hks, hkr, hp, har, hd1, hd2, hl, hbind⟩ := T.ex
  obtain ⟨hp1, g, dr, tk, os⟩ := s1
  have hsz : hp1.objs.size ≤ hp1.objs.size + 1 := Nat.le_succ _
  have hn : H1 (hp1.objs.size + 1) = none := I1.hok.fresh hsz
  have kk : ∀ b o, hp1.get? b = some o → ((hp1.push (PySem.W.kdv_tup [])).push (PySem.HandSPX.excO C hp1.objs.size)).get? b = some o := fun b o e => Heap.get?_push_of_some _ (Heap.get?_push_of_some _ e)
  have hget : ((hp1.push (PySem.W.kdv_tup [])).push (PySem.HandSPX.excO C hp1.objs.size)).get? (hp1.objs.size + 1) = some (PySem.HandSPX.excO C hp1.objs.size) := by heap_get
  have I2 : Inv X pins σ (upd H1 (hp1.objs.size + 1) (exo (hp1.objs.size + 1) C none)) ⟨(hp1.push (PySem.W.kdv_tup [])).push (PySem.HandSPX.excO C hp1.objs.size), g, dr, tk, os⟩ :=
    I1.laid (t' := tk) (a := hp1.objs.size + 1) (o := exo (hp1.objs.size + 1) C none) (h' := (hp1.push (PySem.W.kdv_tup [])).push (PySem.HandSPX.excO C hp1.objs.size)) kk hsz (exo_ok hget)
  have gd2 := under_guards C [] [(f, u)] gd
  have hr2 := hr.make C [] [(f, u)]
  refine wpAny_call (PySem.HandSPX.kwF_call F.excBase_ValueError (fun Y => PySem.HandSPX.refsVE_contains Y bm hbm) (I1.kIn _ _ hC) (PySem.W.looks_findIn I1.kIn iC) (fun self => PySem.W.bind_fn I1.kIn self tI) 
    (codeAny_mono (init_run (CX := L2.CX X.prog X.w) (Q := fun y H2 => y = .non ∧ ∃ dx, H2 = upd (upd (upd H1 (hp1.objs.size + 1) (exo (hp1.objs.size + 1) C none)) dx (exd dx [(f, v)])) (hp1.objs.size + 1) (exo (hp1.objs.size + 1) C (some dx)) ∧ upd H1 (hp1.objs.size + 1) (exo (hp1.objs.size + 1) C none) dx = none ∧ dx ≠ hp1.objs.size + 1) (E := fun _ _ _ => False) (a := hp1.objs.size + 1) TT lk hcd lcda hvs hfile htop lcc hcl hsub ho3 hsup hVE T.no S hks hp har T.ms hd1 hd2 (fun _ => rfl) hl (fun _ => rfl) hr2 (I2.env0.make C [] [(f, u)]) upd_same (.of_eq (hbind _ _).2) ru ?_) fun r s' hq' => ?_))
  · refine ⟨_, pe_supA (i := 1) (deeper_gd gd2) (by have := (hr2.deeper (NdefX.envF (supF name qual params (supB f (supA m f qq j) pp) scope cc cda) f1 ((hp1.push (PySem.W.kdv_tup [])).push (PySem.HandSPX.excO C hp1.objs.size)).objs.size)).units; exact this) T.sy hkr T.mr rfl (.inl (S.par _ (by simp))) hd1 hd2, ?_⟩
    obtain ⟨n, r, d, hrep, hpd⟩ := sh
    exact ⟨v, pd, rfl, ⟨n, r, d, Rep.stp (stp_new hn) _ _ hrep, hpd⟩, shs, hz, rfl, upd_same, fun dx h1 h2 => ⟨rfl, dx, rfl, h1, h2⟩⟩
  · cases r with
    | error er =>
      obtain ⟨_, _, _, _, _, _, _, _, _, _, _, _, z⟩ := hq'
      exact z.elim
    | ok fl =>
      cases fl with
      | ret u2 =>
        obtain ⟨v2, H2, os2, bare2, un2, hok2, rv, rfl, dx, rfl, hd, hda⟩ := hq'
        obtain ⟨h2, g2, d2, t2, os'⟩ := s'
        have hd1' : H1 dx = none := by rw [upd_ne hda] at hd; exact hd
        refine ⟨rv, mk_end (raises_own TT.exC TT.tyC) I1 hsz kk un2 hok2 os2 bare2 upd_same (by rw [upd_ne hda, upd_same]) hd1' ?_⟩
        have e : upd (del (upd (upd (upd H1 (hp1.objs.size + 1) (exo (hp1.objs.size + 1) C none)) dx (exd dx [(f, v)])) (hp1.objs.size + 1) (exo (hp1.objs.size + 1) C (some dx))) (hp1.objs.size + 1)) dx (.xd [(f, v)]) = upd H1 dx (.xd [(f, v)]) := by
          funext b
          by_cases h1 : b = dx
          · rw [h1, upd_same, upd_same]
          · rw [upd_ne h1, upd_ne h1]
            by_cases h2 : b = hp1.objs.size + 1
            · rw [h2, del_same, hn]
            · rw [del_ne h2, upd_ne h2, upd_ne h1, upd_ne h2]
        rw [e]
        exact q1 dx hd1'
      | next => exact False.elim hq'
      | brk => exact False.elim hq'
      | cont => exact False.elim hq'
theorem pmk_supK {x f m : Str} {C : Addr} {e : Expr} {te : TE} {p kp pos : Pos} (T : SupC X.prog X.K X.mg C f m) (gd : X.A.guards = some []) (hr : Room 2 X.A) (hg : Gl X x) (hm : X.mg x = some (.ref C)) (he : PE X e te) (hdb : (x == ("__debug__" : Str)) = false) :
    PMk X (.Call (.Name x p) [] [⟨some f, e, kp⟩] pos) (fun σ H Q => te σ H fun v H1 => ∃ pd, Shw X H1 v pd ∧ shows pd = true ∧ m.length + pd.shown.length ≤ sizeLine ∧ ∀ d, H1 d = none → Q (.ref C) (some d) (upd H1 d (.xd [(f, v)]))) := by
  intro pins s σ H Q I h
  have hk : kwOk [f] [⟨some f, e, kp⟩] = true := by unfold kwOk; simp
  obtain ⟨k1, k2, k3⟩ := kw_all (pos := pos) (env := X.env) hk
  refine wpAny_Call_Name_kw (ld_glob I hg hm ?_ hdb)
  have key := thn ((pk_cons (nm := some f) (kpos := kp) he pk_nil).run pos pins s σ H (fun vs H1 => match vs with
    | [v] => ∃ pd, Shw X H1 v pd ∧ shows pd = true ∧ m.length + pd.shown.length ≤ sizeLine ∧ ∀ d, H1 d = none → Q (.ref C) (some d) (upd H1 d (.xd [(f, v)]))
    | _ => False) I h) (Q' := fun ws s2 => X.K.In s2.heap ∧ wpAny (model X.prog X.w) X.A (call (.ref C) [] ([f].zip ws)) (MkP X pins σ Q) X.xe s2) fun us s1 ⟨vs, H1, I1, r1, q1⟩ => by
      obtain ⟨v, rfl⟩ : ∃ v, vs = [v] := by
        match vs, q1 with
        | [v], _ => exact ⟨v, rfl⟩
      obtain ⟨pd, sh, shs, hz, q1⟩ := q1
      obtain ⟨u, rfl, ru⟩ := vals1 r1
      exact ⟨I1.kIn, sup_callK T gd hr I1 ru sh shs hz q1⟩
  have hpl : ((backTo pos (starEach ([] : List Expr) X.env)).any (·.1) || (backToKw pos (keywordEach [⟨some f, e, kp⟩] X.env)).any (·.1.isNone)) = false := by
    rw [k3]
    rfl
  refine PySem.W.callWith_of hpl (PySem.W.keeps_K T.T.kC) (nil_args k1 (Calls.spliced_nil ?_))
  rw [k2]
  exact key
end
end Fw

set_option Elab.async false
set_option linter.all false
set_option maxRecDepth 100000
set_option maxHeartbeats 4000000
namespace Fw
open PySem PySem.Spec PyProof.Rows L2
variable [Tb]
section
variable {X : Cx} {W : Wm} {t : Sta} {k : Nat} {N : List Str} {sc : Scope} {a b c : Expr} {f g h : En → Sto → R D} {pos : Pos}
/-! the error of an except suite -/
def rIsX (X : Cx) (t : Sta) (x : Xc) (a : Addr) : List V → Hp → VK → Prop := fun vs H Q => ∃ E S r c cv, vs = [.ref a, cv] ∧ Emb (Wo X) S r H ∧ Rep (Wo X) S.length r H c cv ∧ Out (Wo X) S.length r H (Gv X Q) E (match isiX t.I x.C c with
      | some b => .ok (.bl b) S
      | none => .bad)
theorem isx_ok {X : Cx} {a D0 : Addr} {oe : Obj} {pn : List (Addr × Obj)} {x : Xc} (hI : ∀ a b q, t.I a b = some q → ∀ u v, clsAt X.mg a u → clsAt X.mg b v → PySem.W.kitOne X.K u v = some q) (C : ExcC X.K D0) (hz : Zc (.ref D0) none oe) (hf : ∃ vs, oe.data = .fields vs) (hm : X.mg x.C = some (.ref D0)) :
    CallR (X.suite a ((a, oe) :: pn)) (.builtin "isinstance") (rIsX (X.suite a ((a, oe) :: pn)) t x a) := by
  intro pins s σ H vs us Q I rv ⟨E0, S, r, c, cv, e1, e, hc, h⟩
  subst e1
  obtain ⟨u1, u2, rfl, r1, r2⟩ := vals2 rv
  cases (show u1 = Value.ref a from r1)
  obtain ⟨hget, _⟩ := I.pin (a, oe) (List.mem_append.mpr (.inl List.mem_cons_self))
  obtain ⟨fs, hv⟩ := hf
  have J : PySem.W.InstAt s.heap a oe D0 none := by
    obtain ⟨oc, od, oda, osl⟩ := oe
    obtain ⟨z1, z2⟩ := hz
    dsimp only at z1 z2 hv
    subst z1 z2 hv
    exact ⟨hget, rfl, rfl, trivial⟩
  have KX := PySem.W.handS_kitx_exc (x := a) (ox := oe) C.hg C.hk C.hs C.hd C.ha C.hn C.ht C.hm
  have k1 : clsAt X.mg (.inr x.C) (.ref D0) := ⟨hm, D0, rfl⟩
  split at h
  · rename_i b hb
    have fin : Q (.bl b) H := out_v e h (by rw [Rep])
    have one : ∀ {y : Sum String Str}, clsD c = some y → t.I (.inr x.C) y = some b → wpAny (model X.prog X.w) (X.suite a ((a, oe) :: pn)).A (call (.builtin "isinstance") [.ref a, u2]) (EP (X.suite a ((a, oe) :: pn)) pins σ Q) (X.suite a ((a, oe) :: pn)).xe s := fun {y} e3 e4 => by
      obtain ⟨w, k3, k4⟩ := cls_of hc e3
      have ew := k4.eq r2
      subst ew
      exact PySem.W.kia_one KX I.kIn J (hI _ _ _ e4 _ _ k1 k3) (fun z => nomatch z) fun tk => ⟨.bl b, H, I.kept (t' := tk) fun _ _ z => z, rfl, fin⟩
    unfold isiX at hb
    cases c with
    | tup cs =>
      dsimp only at hb
      rw [Rep] at hc
      obtain ⟨p, ws, rfl, f, g1⟩ := hc
      cases (show u2 = Value.ref p from r2)
      obtain ⟨its, rw', ⟨o, q1, q2, n, q3⟩, _⟩ := I.tuple f.sq
      have ka := kit_any (Wx := Wo (X.suite a ((a, oe) :: pn))) rfl hI k1 g1 rw' hb
      obtain ⟨oc, od, dt, sl⟩ := o
      dsimp only at q2 q3
      subst q2 q3
      exact PySem.W.kia_tup KX I.kIn J q1 ka (fun z => nomatch z) fun tk => ⟨.bl b, H, I.kept (t' := tk) fun _ _ z => z, rfl, fin⟩
    | ty n =>
      obtain ⟨y2, e3, e4⟩ := Option.bind_eq_some_iff.mp hb
      exact one e3 e4
    | glo n =>
      obtain ⟨y2, e3, e4⟩ := Option.bind_eq_some_iff.mp hb
      exact one e3 e4
    | _ => cases hb
  · exact h.elim
theorem nm_of {x : Str} (hn : nmB x = true) : (x == ("__debug__" : Str)) = false ∧ (x == ("__classdict__" : Str)) = false ∧ x ≠ "__name__" := by
  unfold nmB at hn
  simpa only [Bool.and_eq_true, Bool.not_eq_true', decide_eq_false_iff_not] using hn
theorem pe_bad {e : Expr} {F : En → Sto → R D} (h : ∀ s S, F s S = .bad) : PE X e (tE X W F) := ⟨fun pins s σ H Q I ⟨S, r, en, emb, he, o⟩ => by
  rw [h] at o
  exact o.elim⟩
theorem c_isE {i : Nat} {y : Str} {p1 p2 : Pos} (G : Good t k N sc X W) (hg : glB sc "isinstance" = true) (hF : ("isinstance" : Str) ∈ t.nm.F) (hi : N[i]? = some y) (hv : visB sc y = true) (hn : nmB y = true) (hs : notStar b = true) (hb : PE X b (tE X W f)) :
    PE X (.Call (.Name "isinstance" p1) [.Name y p2, b] [] pos) (tE X W (fun s S => match t.hot with
    | some (some j, x) => if i = j ∧ x.ks = [] then ((f s S).bind fun c S1 => match isiX t.I x.C c with
      | some b => .ok (.bl b) S1
      | none => .bad) else .bad
    | _ => .bad)) := by
  cases hh : t.hot with
  | none => exact pe_bad fun _ _ => rfl
  | some z =>
    obtain ⟨j0, x⟩ := z
    cases j0 with
    | none => exact pe_bad fun _ _ => rfl
    | some j =>
      by_cases hc : i = j ∧ x.ks = []
      · obtain ⟨rfl, hx⟩ := hc
        obtain ⟨X0, a, D0, oe, dd, pn, eX, hz, hf, hC, hXf, hm, hI⟩ := G.hot i x hh
        subst eX
        obtain ⟨n1, n2, n3⟩ := nm_of hn
        have hg2 := gl_of G hg
        have hvar := pe_var (X := X0.suite a ((a, oe) :: pn)) (pos := p2) (i := i) (x := y) (by rw [G.hN]; exact hi) (by rw [G.hs]; exact vis_of hv) n1 n2
        by_cases hdd : dd = none
        · subst hdd
          have hcall := isx_ok (X := X0) (t := t) (x := x) (pn := pn) (a := a) (D0 := D0) (oe := oe) G.ok.isi hC hz hf hm
          refine peI (pe_callB hcall hg2 (G.ok.free _ hF) (by decide +kernel) (pa_cons hvar (pa_cons hb pa_nil (star_of hs)) rfl) (by decide) (by decide) rfl (by rw [star_of hs]; rfl)) fun σ H Q hq => ?_
          obtain ⟨S, r, e, emb, he, oo⟩ := hq
          dsimp only at oo
          rw [if_pos (And.intro rfl hx)] at oo
          obtain ⟨hs1, _⟩ := hI _ _ _ _ he.inv
          refine ⟨_, hs1, ?_⟩
          refine on_seq emb he oo fun c S1 r1 H1 st1 emb1 he1 o1 v hv => ?_
          exact ⟨_, S1, r1, c, v, rfl, emb1, hv, o1⟩
        · refine ⟨fun pins s σ H Q I ⟨S, r, e, emb, he, oo⟩ => ?_⟩
          obtain ⟨_, hx2⟩ := hI _ _ _ _ he.inv
          obtain ⟨c, q1, q2, q3⟩ := hx2
          rcases q3 with ⟨_, q3⟩ | ⟨_, _, _, _, _, _, _, q3⟩
          · exact absurd q3 hdd
          · exact absurd hx q3
      · exact pe_bad fun _ _ => if_neg hc
theorem look_rep {Wx : Wd} {n : Nat} {r : Rho} {H : Hp} (g : Str) : ∀ {ks : List Str} {ds : List D} {fs : List (Str × V)} {d : D}, fs.map Prod.fst = ks → RepL Wx n r H ds (fs.map Prod.snd) → lookD ks ds g = some d → ∃ v, fs.lookup g = some v ∧ Rep Wx n r H d v
  | ks, ds, [], d, hk, hr, h => by
    rw [List.map_nil] at hk
    subst hk
    simp [lookD] at h
  | ks, ds, p :: fs, d, hk, hr, h => by
    rw [List.map_cons] at hk
    subst hk
    cases ds with
    | nil => rw [RepL] at hr; cases hr
    | cons e ds =>
      rw [List.map_cons, RepL] at hr
      obtain ⟨v, q, e1, h1, h2⟩ := hr
      injection e1 with e1 e2
      subst e1 e2
      rw [lookD] at h
      obtain ⟨p1, p2⟩ := p
      rw [List.lookup_cons]
      by_cases c : (g == p1) = true
      · rw [if_pos c] at h
        cases h
        rw [c]
        exact ⟨p2, rfl, h1⟩
      · rw [if_neg c] at h
        have c2 : (g == p1) = false := by simpa using c
        rw [c2]
        exact look_rep g rfl h2 h
theorem c_fldE {i : Nat} {y g : Str} {p1 : Pos} (G : Good t k N sc X W) (hi : N[i]? = some y) (hv : visB sc y = true) (hn : nmB y = true) :
    PE X (.Attribute (.Name y p1) g pos) (tE X W (fun _ S => match t.hot with
    | some (some j, x) => if i = j ∧ (x.C, g) ∈ t.XF then (match lookD x.ks x.ds g with
      | some d => .ok d S
      | none => .bad) else .bad
    | _ => .bad)) := by
  cases hh : t.hot with
  | none => exact pe_bad fun _ _ => rfl
  | some z =>
    obtain ⟨j0, x⟩ := z
    cases j0 with
    | none => exact pe_bad fun _ _ => rfl
    | some j =>
      by_cases hc : i = j ∧ (x.C, g) ∈ t.XF
      · obtain ⟨rfl, hxf⟩ := hc
        obtain ⟨X0, a, D0, oe, dd, pn, eX, hz, hf, hC, hXf, hm, hI⟩ := G.hot i x hh
        subst eX
        obtain ⟨n1, n2, n3⟩ := nm_of hn
        have hvar := pe_var (X := X0.suite a ((a, oe) :: pn)) (pos := p1) (i := i) (x := y) (by rw [G.hN]; exact hi) (by rw [G.hs]; exact vis_of hv) n1 n2
        refine peI (pe_xf hXf (G.ok.xf _ _ _ hxf hm) hz hf hvar) fun σ H Q hq => ?_
        obtain ⟨S, r, e, emb, he, oo⟩ := hq
        dsimp only at oo
        rw [if_pos (And.intro rfl hxf)] at oo
        obtain ⟨hs1, hx2⟩ := hI _ _ _ _ he.inv
        refine ⟨_, hs1, rfl, rfl, ?_⟩
        split at oo
        · rename_i d hd
          obtain ⟨c, q1, q2, q3⟩ := hx2
          rcases q3 with ⟨q3, _⟩ | ⟨d1, fs, q3, q4, q5, q6, q7, q8⟩
          · rw [q3] at hd
            simp [lookD] at hd
          · obtain ⟨v, l1, l2⟩ := look_rep g q6 q7 hd
            exact ⟨d1, fs, v, q3, q4, l1, out_v emb oo l2⟩
        · exact oo.elim
      · exact pe_bad fun _ _ => if_neg hc
/-! a closure is called -/
theorem c_act {i : Nat} {y : Str} {p1 : Pos} (G : Good t k N sc X W) (hi : N[i]? = some y) (hv : visB sc y = true) (hn : nmB y = true) : PE X (.Call (.Name y p1) [] [] pos) (tE X W (fun _ S => match t.thk with
    | some (j, th) => if i = j then t.cold (th S) else .bad
    | none => .bad)) := by
  cases hh : t.thk with
  | none => exact pe_bad fun _ _ => rfl
  | some z =>
    obtain ⟨j, th⟩ := z
    by_cases hc : i = j
    · subst hc
      cases ht : t.hot with
      | none =>
        obtain ⟨f, c', q, e0, σ0, ⟨hex, j, rj, T⟩, hI⟩ := G.thk i th ht hh
        obtain ⟨g1, g2, g3⟩ := G.cold ht
        obtain ⟨n1, n2, n3⟩ := nm_of hn
        refine ⟨fun pins s σ H Q I hx => ?_⟩
        obtain ⟨S, r, e, emb, he, oo⟩ := hx
        have oo : Out (Wo X) S.length r H (Gv X Q) (GE X W σ) (if i = i then t.cold (th S) else R.bad) := oo
        rw [if_pos rfl] at oo
        unfold Sta.cold at oo
        rw [ht] at oo
        obtain ⟨z1, z2, z3⟩ := hI _ _ _ _ he.inv
        refine wpAny_Call_Name_kw (thn ((pe_var (pos := p1) (i := i) (by rw [G.hN]; exact hi) (by rw [G.hs]; exact vis_of hv) n1 n2).run pins s σ H (fun v H1 => v = .ref f ∧ H1 = H) I ⟨.ref f, z1, rfl, rfl⟩) fun u s1 ⟨v, H1, I1, r1, q1⟩ => ?_)
        obtain ⟨ev, eH⟩ := q1
        subst ev eH
        obtain rfl : u = Value.ref f := r1
        have un : Un (frs X.outer) [] X.H_0 H1 X.s_0.heap s1.heap := by
          have b := I1.base
          rw [hex] at b
          exact b
        refine PySem.W.callWith_F0 (T.fn _ _ un) ?_
        refine wpAny_call (codeAny_mono (T.run X.A X.stack s1 H1 S r Q (fun cls dd H' => W.w cls dd σ H') rj G.gd I1.env0 un emb z2 z3 oo) fun qq s' hq => ?_)
        cases qq with
        | error e => exact g3 e s' (XE.of_call I1 (fun cls d H' w => w) hq)
        | ok fl =>
          cases fl with
          | ret u => exact I1.after hq
          | next => exact False.elim hq
          | brk => exact False.elim hq
          | cont => exact False.elim hq
      | some w =>
        refine pe_bad fun _ S => ?_
        show (if i = i then t.cold (th S) else R.bad) = R.bad
        rw [if_pos rfl]
        unfold Sta.cold
        rw [ht]
        rfl
    · exact pe_bad fun _ _ => if_neg hc
end
end Fw

set_option Elab.async false
set_option linter.all false
set_option maxRecDepth 100000
set_option maxHeartbeats 4000000
namespace Fw
open PySem PySem.Spec PyProof.Rows L2
variable [Tb]
/-! a place becomes a value -/
theorem fz_less {n m : Nat} {r : Rho} {a : Addr} (h : m ≤ n) (f : Fz n r a) : Fz m r a := fun l hl => f l (Nat.lt_of_lt_of_le hl h)
section
variable {W : Wd} {n m : Nat} {r : Rho} {H : Hp}
mutual
theorem Rep.less (hm : m ≤ n) : ∀ (d : D) (v : V), d.closed m = true → Rep W n r H d v → Rep W m r H d v
  | .non, _, _, h => by unfold Rep at *; exact h
  | .bl _, _, _, h => by unfold Rep at *; exact h
  | .int _, _, _, h => by unfold Rep at *; exact h
  | .str _, _, _, h => by unfold Rep at *; exact h
  | .ty _, _, _, h => by unfold Rep at *; exact h
  | .glo _, _, _, h => by unfold Rep at *; exact h
  | .scr ns, _, _, h => by
    unfold Rep at *
    obtain ⟨a, e, f⟩ := h
    refine ⟨a, e, ?_⟩
    rcases f with ⟨f1, f2⟩ | f
    · exact .inl ⟨f1, fz_less hm f2⟩
    · exact .inr f
  | .ref l, _, c, h => by
    unfold Rep at *
    unfold D.closed at c
    exact ⟨of_decide_eq_true c, h.2⟩
  | .tup ds, _, c, h => by
    unfold Rep at *
    unfold D.closed at c
    obtain ⟨a, vs, e, f, q⟩ := h
    refine ⟨a, vs, e, ?_, RepL.less hm ds vs c q⟩
    rcases f with ⟨f1, f2⟩ | f
    · exact .inl ⟨f1, fz_less hm f2⟩
    · exact .inr f
  | .lst ds, _, c, h => by
    unfold Rep at *
    unfold D.closed at c
    obtain ⟨a, vs, e, f, q⟩ := h
    exact ⟨a, vs, e, ⟨f.1, fz_less hm f.2⟩, RepL.less hm ds vs c q⟩
  | .dct ks ds, _, c, h => by
    unfold Rep at *
    unfold D.closed at c
    obtain ⟨a, kvs, e, f1, f2, k, q⟩ := h
    exact ⟨a, kvs, e, f1, fz_less hm f2, k, RepL.less hm ds _ c q⟩
  | .obj C ks ds, _, c, h => by
    unfold Rep at *
    unfold D.closed at c
    obtain ⟨a, c1, dx, fs, e, m1, f1, f2, k, q⟩ := h
    exact ⟨a, c1, dx, fs, e, m1, f1, fz_less hm f2, k, RepL.less hm ds _ c q⟩
  | .err C ks ds, _, c, h => by
    unfold Rep at *
    unfold D.closed at c
    obtain ⟨a, c1, dd, e, m1, f1, f2, q⟩ := h
    refine ⟨a, c1, dd, e, m1, f1, fz_less hm f2, ?_⟩
    rcases q with q | ⟨d, fs, e1, g1, g2, g3, g4, g5⟩
    · exact .inl q
    · exact .inr ⟨d, fs, e1, g1, fz_less hm g2, g3, RepL.less hm ds _ c g4, g5⟩
theorem RepL.less (hm : m ≤ n) : ∀ (ds : List D) (vs : List V), closedL m ds = true → RepL W n r H ds vs → RepL W m r H ds vs
  | [], _, _, h => by unfold RepL at *; exact h
  | d :: ds, _, c, h => by
    unfold RepL at *
    unfold closedL at c
    rw [Bool.and_eq_true] at c
    obtain ⟨v, q, e, h1, h2⟩ := h
    exact ⟨v, q, e, Rep.less hm d v c.1 h1, RepL.less hm ds q c.2 h2⟩
end
theorem ORep.less (hm : m ≤ n) {a : Addr} : ∀ {o : O}, o.closed m = true → ORep W n r H a o → ORep W m r H a o
  | .lst _, c, ⟨vs, h, q⟩ => ⟨vs, h, RepL.less hm _ _ c q⟩
  | .dct _ _, c, ⟨kvs, h, e, q⟩ => ⟨kvs, h, e, RepL.less hm _ _ c q⟩
  | .ins _ _ _, c, ⟨c1, dx, fs, m, h, e, q⟩ => ⟨c1, dx, fs, m, h, e, RepL.less hm _ _ c q⟩
theorem emb_take {S : Sto} (e : Emb W S r H) (hm : m ≤ S.length) (c : (S.take m).all (O.closed m) = true) : Emb W (S.take m) r H := by
  have hl : (S.take m).length = m := by rw [List.length_take]; omega
  refine ⟨fun l l' h1 h2 q => e.inj l l' (by rw [hl] at h1; omega) (by rw [hl] at h2; omega) q, fun l o q => ?_, e.tabs⟩
  rw [hl]
  have q2 : S[l]? = some o := by
    rw [List.getElem?_take] at q
    split at q
    · exact q
    · cases q
  exact (e.at_ l o q2).less hm (List.all_eq_true.mp c o (List.mem_of_getElem? q))
theorem stp_less {n' : Nat} {r' : Rho} {H' : Hp} (s : Stp n r H n' r' H') (h1 : n ≤ m) (h2 : m ≤ n') : Stp n r H m r' H' :=
  ⟨h1, s.eq, fun a o h f t => ⟨(s.fz a o h f t).1, fz_less h2 (s.fz a o h f t).2⟩⟩
theorem thaw_ok {S S' : Sto} {d : D} (e : Emb W S r H) (h : thaw n S = .ok d S') : S'.length = n ∧ n ≤ S.length ∧ Emb W S' r H ∧ Rep W n r H d (.ref (r n)) := by
  unfold thaw at h
  split at h
  · rename_i hl
    have hn : n ≤ S.length := by omega
    have fz : Fz n r (r n) := fun l hl2 q => by
      have z := e.inj n l (by omega) (by omega) q
      omega
    have lt : ∀ {c : List O → Bool}, (S.take n).length = n := fun {_} => by rw [List.length_take]; omega
    split at h
    · rename_i ds hq
      split at h
      · rename_i hc
        rw [Bool.and_eq_true] at hc
        cases h
        refine ⟨by rw [List.length_take]; omega, hn, emb_take e hn hc.2, ?_⟩
        obtain ⟨vs, z1, z2⟩ := e.at_ n _ hq
        rw [Rep]
        exact ⟨r n, vs, rfl, ⟨z1, fz⟩, RepL.less hn _ _ hc.1 z2⟩
      · cases h
    · rename_i ks ds hq
      split at h
      · rename_i hc
        rw [Bool.and_eq_true] at hc
        cases h
        refine ⟨by rw [List.length_take]; omega, hn, emb_take e hn hc.2, ?_⟩
        obtain ⟨kvs, z1, z2, z3⟩ := e.at_ n _ hq
        rw [Rep]
        exact ⟨r n, kvs, rfl, z1, fz, z2, RepL.less hn _ _ hc.1 z3⟩
      · cases h
    · cases h
  · cases h
theorem thaw_noexc {S S' : Sto} {x : Xc} (h : thaw n S = .exc x S') : False := by
  unfold thaw at h
  split at h
  · split at h
    · split at h <;> cases h
    · split at h <;> cases h
    · cases h
  · cases h
/-- the end of a display or a comprehension, whose object stands at place n -/
theorem out_thaw {X : Cx} {S0 S : Sto} {r0 : Rho} {H0 : Hp} {mu : Bool} {Q : VK} {E : Xc → Sto → Rho → Hp → Prop} (st : Stp S0.length r0 H0 S.length r H) (e : Emb (Wo X) S r H) (hn : S0.length = n) (hlt : n < S.length)
    (o : Out (Wo X) S0.length r0 H0 (Gv X Q) E (if mu then .ok (.ref n) S else thaw n S)) : Q (.ref (r n)) H := by
  cases mu with
  | true => exact o r H st e _ (by rw [Rep]; exact ⟨hlt, rfl⟩)
  | false =>
    have o : Out (Wo X) S0.length r0 H0 (Gv X Q) E (thaw n S) := o
    cases h : thaw n S with
    | ok d S' =>
      rw [h] at o
      obtain ⟨h1, h2, h3, h4⟩ := thaw_ok e h
      refine o r H ?_ h3 _ (by rw [h1]; exact h4)
      rw [h1]
      exact stp_less st (Nat.le_of_eq hn) h2
    | exc x S' => exact (thaw_noexc h).elim
    | bad => rw [h] at o; exact o.elim
end
/-! dict displays -/
section
variable {X : Cx} {W : Wm} {t : Sta} {k : Nat} {N : List Str} {sc : Scope} {a b c : Expr} {f g h : En → Sto → R D} {pos : Pos}
structure PDs (X : Cx) (W : Wm) (pos : Pos) (ks : List Str) (keys : List (Option Expr)) (vals : List Expr) (fs : En → Sto → R (List D)) (trs : List (TE × TE)) : Prop where
  pps : PPs X pos keys vals trs
  give : ∀ σ H Q, tA X W fs (fun ds S r H => ∀ vs, RepL (Wo X) S.length r H ds vs → Q ((ks.map V.str).zip vs) H) σ H → tPairs trs σ H Q
  some : keys.all (·.isSome) = true
  len : keys.length = vals.length
  kl : keys.length = ks.length
theorem d_nil : PDs X W pos [] [] [] (fun _ S => .ok [] S) [] := ⟨pps_nil, fun σ H Q ⟨S, r, e, emb, he, oo⟩ => out_same emb oo [] RepL.nil, rfl, rfl, rfl⟩
theorem d_cons {x : Str} {j : Nat} {p : Pos} {ks : List Str} {keys : List (Option Expr)} {vals : List Expr} {fs : En → Sto → R (List D)} {trs : List (TE × TE)} (ha : PE X a (tE X W f)) (hr : PDs X W pos ks keys vals fs trs) :
    PDs X W pos (x :: ks) (.some (.Constant (.str x) j p) :: keys) (a :: vals) (fun s S => (f s S).bind fun d S1 => (fs s S1).bind fun ds S2 => .ok (d :: ds) S2) ((tC (.str x), tE X W f) :: trs) := by
  refine ⟨pps_cons pe_str ha hr.pps, fun σ H Q hx => ?_, ?_, ?_, ?_⟩
  · obtain ⟨S, r, e, emb, he, oo⟩ := hx
    show tE X W f σ H fun y H2 => tPairs trs σ H2 fun ps H3 => Q ((V.str x, y) :: ps) H3
    refine on_seq emb he oo fun d S1 r1 H1 st1 emb1 he1 o1 v hv => hr.give _ _ _ ?_
    refine on_seq emb1 he1 o1 fun ds S2 r2 H2 st2 emb2 he2 o2 vs hvs => ?_
    exact out_same emb2 o2 _ (RepL.cons (Rep.stp st2 _ _ hv) hvs)
  · rw [List.all_cons, hr.some]
    rfl
  · rw [List.length_cons, List.length_cons, hr.len]
  · rw [List.length_cons, List.length_cons, hr.kl]
theorem merge_new : ∀ (more kvs : List (Key × V)), ((kvs ++ more).map Prod.fst).Nodup → mergeK kvs more = kvs ++ more
  | [], kvs, _ => by rw [List.append_nil]; rfl
  | p :: more, kvs, h => by
    have e : putK kvs p.1 p.2 = kvs ++ [p] := by
      unfold putK
      rw [if_neg]
      intro z
      obtain ⟨q, h1, h2⟩ := List.any_eq_true.mp z
      have h2 := of_decide_eq_true h2
      rw [List.map_append, List.nodup_append] at h
      exact h.2.2 q.1 (List.mem_map.mpr ⟨q, h1, rfl⟩) p.1 (by simp) h2
    show mergeK (putK kvs p.1 p.2) more = _
    rw [e, merge_new more (kvs ++ [p]) (by rw [List.append_assoc]; exact h), List.append_assoc]
    rfl
theorem zip_map1 : ∀ {ks : List Str} {vs : List V}, vs.length = ks.length → ((ks.map (Sum.inr : Str → Key)).zip vs).map Prod.fst = ks.map Sum.inr
  | [], [], _ => rfl
  | k :: ks, v :: vs, h => by
    rw [List.map_cons, List.zip_cons_cons, List.map_cons, zip_map1 (by simpa using h)]
  | [], v :: vs, h => by simp at h
  | k :: ks, [], h => by simp at h
theorem zip_map2 : ∀ {ks : List Str} {vs : List V}, vs.length = ks.length → ((ks.map (Sum.inr : Str → Key)).zip vs).map Prod.snd = vs
  | [], [], _ => rfl
  | k :: ks, v :: vs, h => by
    rw [List.map_cons, List.zip_cons_cons, List.map_cons, zip_map2 (by simpa using h)]
  | [], v :: vs, h => by simp at h
  | k :: ks, [], h => by simp at h
theorem zip_map3 : ∀ {ks : List Str} {vs : List V}, (ks.map V.str).zip vs = ((ks.map (Sum.inr : Str → Key)).zip vs).map fun kv => (kV kv.1, kv.2)
  | [], vs => by simp
  | k :: ks, [] => by simp
  | k :: ks, v :: vs => by
    rw [List.map_cons, List.map_cons, List.zip_cons_cons, List.zip_cons_cons, List.map_cons, zip_map3]
    rfl
theorem nodup_inr : ∀ {ks : List Str}, ks.Nodup → (ks.map (Sum.inr : Str → Key)).Nodup
  | [], _ => List.nodup_nil
  | k :: ks, h => by
    rw [List.nodup_cons] at h
    rw [List.map_cons, List.nodup_cons]
    refine ⟨fun z => ?_, nodup_inr h.2⟩
    obtain ⟨x, h1, h2⟩ := List.mem_map.mp z
    cases h2
    exact h.1 h1
def dctF (mu : Bool) (ks : List Str) (fs : En → Sto → R (List D)) : En → Sto → R D := fun s S => (fs s (S ++ [.dct [] []])).bind fun ds S1 => match S1[S.length]? with
    | some (.dct [] []) => (if mu then .ok (.ref S.length) (S1.set S.length (.dct (ks.map Sum.inr) ds)) else thaw S.length (S1.set S.length (.dct (ks.map Sum.inr) ds)))
    | _ => .bad
theorem c_dct {ks : List Str} {mu : Bool} {keys : List (Option Expr)} {vals : List Expr} {fs : En → Sto → R (List D)} {trs : List (TE × TE)} (hd : PDs X W pos ks keys vals fs trs) (h0 : keys ≠ []) (h15 : ks.length ≤ 15) (hn : ks.Nodup) (hlen : ∀ s S ds S', fs s S = .ok ds S' → ds.length = ks.length) :
    PE X (.Dict keys vals pos) (tE X W (dctF mu ks fs)) := by
  refine peI (pe_disp hd.pps hd.some hd.len h0 (by rw [hd.kl]; exact h15)) fun σ H Q hx => ?_
  obtain ⟨S, r, e, emb, he, oo⟩ := hx
  intro p hp
  have emb0 : Emb (Wo X) (S ++ [.dct [] []]) (rput r S.length p) (upd H p (.dK [])) := emb_put emb hp ⟨[], upd_same, rfl, by rw [List.map_nil]; exact RepL.nil⟩
  have hl0 : (S ++ [O.dct [] []]).length = S.length + 1 := by simp
  have st0 : Stp S.length r H (S ++ [O.dct [] []]).length (rput r S.length p) (upd H p (.dK [])) := by rw [hl0]; exact stp_put hp
  have he0 := he.stp st0
  refine hd.give _ _ _ ⟨_, _, e, emb0, he0, ?_⟩
  unfold dctF at oo
  cases hq : fs e (S ++ [.dct [] []]) with
  | bad => rw [hq] at oo; exact oo.elim
  | exc x S1 =>
    rw [hq] at oo
    exact fun r1 H1 st1 em1 => oo r1 H1 (st0.trans st1) em1
  | ok ds S1 =>
    rw [hq] at oo
    have oo : Out (Wo X) S.length r H (Gv X Q) (GE X W σ) (match S1[S.length]? with
      | some (.dct [] []) => (if mu then .ok (.ref S.length) (S1.set S.length (.dct (ks.map Sum.inr) ds)) else thaw S.length (S1.set S.length (.dct (ks.map Sum.inr) ds)))
      | _ => .bad) := oo
    intro r1 H1 st1 em1 vs hvs
    have hr1 : r1 S.length = p := (st1.eq S.length (by rw [hl0]; omega)).trans rput_new
    split at oo
    · rename_i hq1
      obtain ⟨kvs, z1, z2, _⟩ := em1.at_ _ _ hq1
      have z2 : kvs = [] := by simpa using z2
      subst z2
      rw [hr1] at z1
      have hlv : vs.length = ks.length := by rw [hvs.length]; exact hlen _ _ _ _ hq
      refine ⟨z1, (ks.map Sum.inr).zip vs, zip_map3, ?_, ?_⟩
      · rw [List.length_zip, List.length_map]
        omega
      · rw [merge_new _ _ (by rw [List.nil_append, zip_map1 hlv]; exact nodup_inr hn), List.nil_append]
        have hlt : S.length < S1.length := (List.getElem?_eq_some_iff.mp hq1).1
        have stS := stp_set (W := Wo X) (S := S1) (r := r1) (H := H1) (l := S.length) (u := .dK ((ks.map Sum.inr).zip vs)) hlt
        have em2 := emb_set (u := .dK ((ks.map Sum.inr).zip vs)) (o := .dct (ks.map Sum.inr) ds) em1 hlt ⟨_, upd_same, zip_map1 hlv, by rw [zip_map2 hlv]; exact RepL.stp stS _ _ hvs⟩
        have hz : (S1.set S.length (.dct (ks.map Sum.inr) ds)).length = S1.length := List.length_set
        have fin := out_thaw (X := X) (Q := Q) (S0 := S) (n := S.length) (mu := mu) (by rw [hz]; exact (st0.trans st1).trans stS) em2 rfl (by rw [hz]; exact hlt) oo
        rw [hr1] at fin
        exact fin
    · exact oo.elim
theorem c_dct0 {mu : Bool} : PE X (.Dict [] [] pos) (tE X W (dctF mu [] (fun _ S => .ok [] S))) := by
  refine peI pe_dnewK fun σ H Q hx => ?_
  obtain ⟨S, r, e, emb, he, oo⟩ := hx
  intro p hp
  have emb0 : Emb (Wo X) (S ++ [.dct [] []]) (rput r S.length p) (upd H p (.dK [])) := emb_put emb hp ⟨[], upd_same, rfl, by rw [List.map_nil]; exact RepL.nil⟩
  have hl0 : (S ++ [O.dct [] []]).length = S.length + 1 := by simp
  have st0 : Stp S.length r H (S ++ [O.dct [] []]).length (rput r S.length p) (upd H p (.dK [])) := by rw [hl0]; exact stp_put hp
  have hq1 : (S ++ [O.dct [] []])[S.length]? = some (.dct [] []) := by simp
  have hset : (S ++ [O.dct [] []]).set S.length (.dct ([].map Sum.inr) []) = S ++ [.dct [] []] := by simp
  have oo : Out (Wo X) S.length r H (Gv X Q) (GE X W σ) (match (S ++ [O.dct [] []])[S.length]? with
      | some (.dct [] []) => (if mu then .ok (.ref S.length) ((S ++ [O.dct [] []]).set S.length (.dct ([].map Sum.inr) [])) else thaw S.length ((S ++ [O.dct [] []]).set S.length (.dct ([].map Sum.inr) [])))
      | _ => .bad) := oo
  rw [hq1] at oo
  dsimp only at oo
  rw [hset] at oo
  have fin := out_thaw (X := X) (Q := Q) (S0 := S) (n := S.length) (mu := mu) st0 emb0 rfl (by rw [hl0]; omega) oo
  rw [rput_new] at fin
  exact fin
end
end Fw

set_option Elab.async false
set_option linter.all false
set_option maxRecDepth 100000
set_option maxHeartbeats 4000000
namespace Fw
open PySem PySem.Spec PyProof.Rows L2
variable [Tb]
/-! what is walked -/
def WalkOk (X : Cx) (J : It) (ds : List D) (w : Option Nat) (n0 : Nat) (r0 : Rho) (H0 : Hp) : Prop :=
  ∀ (S : Sto) (r : Rho) (H : Hp), Stp n0 r0 H0 S.length r H → Emb (Wo X) S r H → okW S ds w →
    (∀ i d, ds[i]? = some d → J.go i H ∧ ∀ x H', J.yld i H x H' → Stp S.length r H S.length r H' ∧ Emb (Wo X) S r H' ∧ Rep (Wo X) S.length r H' d x) ∧ (∀ i, ds.length ≤ i → J.stop i H)
theorem walk_list {X : Cx} {a : Addr} {ds : List D} {w : Option Nat} {n0 : Nat} {r0 : Rho} {H0 : Hp} (h : ∀ (S : Sto) (r : Rho) (H : Hp), Stp n0 r0 H0 S.length r H → Emb (Wo X) S r H → okW S ds w → ∃ vs, SqL X.K H a vs ∧ RepL (Wo X) S.length r H ds vs) : WalkOk X (Itl X.K a) ds w n0 r0 H0 := by
  intro S r H st em ok
  obtain ⟨vs, h1, h2⟩ := h S r H st em ok
  refine ⟨fun i d hd => ?_, fun i hi => ⟨vs, h1, by rw [h2.length]; exact hi⟩⟩
  obtain ⟨v, e1, e2⟩ := h2.get hd
  refine ⟨⟨vs, v, h1, e1⟩, fun x H' y => ?_⟩
  obtain ⟨rfl, y⟩ := y
  have z := y vs h1
  rw [e1] at z
  cases z
  exact ⟨Stp.refl _ _ _, em, e2⟩
theorem walk_tup {X : Cx} {a : Addr} {ds : List D} {w : Option Nat} {n0 : Nat} {r0 : Rho} {H0 : Hp} (h : ∀ (S : Sto) (r : Rho) (H : Hp), Stp n0 r0 H0 S.length r H → Emb (Wo X) S r H → okW S ds w → ∃ vs, SqT X.K H a vs ∧ RepL (Wo X) S.length r H ds vs) : WalkOk X (Itt X.K a) ds w n0 r0 H0 := by
  intro S r H st em ok
  obtain ⟨vs, h1, h2⟩ := h S r H st em ok
  refine ⟨fun i d hd => ?_, fun i hi => ⟨vs, h1, by rw [h2.length]; exact hi⟩⟩
  obtain ⟨v, e1, e2⟩ := h2.get hd
  refine ⟨⟨vs, v, h1, e1⟩, fun x H' y => ?_⟩
  obtain ⟨rfl, y⟩ := y
  have z := y vs h1
  rw [e1] at z
  cases z
  exact ⟨Stp.refl _ _ _, em, e2⟩
def tI (X : Cx) (W : Wm) (f : En → Sto → R (List D × Option Nat)) : TI := fun σ H Rr => tA X W f (fun q S r H => ∀ J, WalkOk X J q.1 q.2 S.length r H → Rr J H) σ H
section
variable {X : Cx} {W : Wm} {t : Sta} {k : Nat} {N : List Str} {sc : Scope} {a b c tg : Expr} {f g h : En → Sto → R D} {pos : Pos}
theorem i_ex (ha : PE X a (tE X W f)) : PI X tg a (tI X W (fun s S => (f s S).bind fun d S1 => itD S1 d)) := by
  refine ⟨fun pins s σ H Rr I hx => ?_⟩
  obtain ⟨S, r, e, emb, he, oo⟩ := hx
  refine thn (ha.run pins s σ H (fun v H1 => ∃ d S1 r1, Emb (Wo X) S1 r1 H1 ∧ Rep (Wo X) S1.length r1 H1 d v ∧ Out (Wo X) S1.length r1 H1 (fun q S r H => ∀ J, WalkOk X J q.1 q.2 S.length r H → Rr J H) (GE X W σ) (itD S1 d)) I
    ⟨S, r, e, emb, he, oo.bind.imp (fun d S1 r1 H1 st em o v hv => ⟨d, S1, r1, em, hv, o⟩) fun _ _ _ _ _ _ q => q⟩) fun u s1 ⟨v, H1, I1, rv, d, S1, r1, em, hv, o⟩ => ?_
  have lst : ∀ {p : Addr} {xs : List V}, v = .ref p → SqL X.K H1 p xs → Rr (Itl X.K p) H1 → wpAny (model X.prog X.w) X.A (pyIter u) (PIE X pins σ tg Rr) X.xe s1 := fun {p xs} ev hq q => by
    subst ev
    cases rv
    obtain ⟨its, _, pl, _⟩ := I1.list hq
    exact wpAny_pyIter_list pl.isList (pi_one (tk := s1.toks) I1 _ (turn_list p _) ⟨_, Heap.get?_push_size _ rfl, rfl, rfl⟩ q)
  have tup : ∀ {p : Addr} {xs : List V}, v = .ref p → SqT X.K H1 p xs → Rr (Itt X.K p) H1 → wpAny (model X.prog X.w) X.A (pyIter u) (PIE X pins σ tg Rr) X.xe s1 := fun {p xs} ev hq q => by
    subst ev
    cases rv
    obtain ⟨its, _, pl, _⟩ := I1.tuple hq
    exact wpAny_pyIter_tuple (show s1.heap.IsTuple p its.toArray from pl) (pi_one (tk := s1.toks) I1 _ (turn_tuple p _) ⟨_, Heap.get?_push_size _ rfl, rfl, rfl⟩ q)
  unfold itD at o
  split at o
  · rename_i ds
    rw [Rep] at hv
    obtain ⟨p, vs, ev, f1, g1⟩ := hv
    refine lst ev (.inl (.inl f1.1)) (out_same em o _ (walk_list fun S r H st em ok => ?_))
    exact ⟨vs, .inl (.inl (st.fz p _ f1.1 f1.2 fun ps z => by cases z).1), RepL.stp st _ _ g1⟩
  · rename_i ds
    rw [Rep] at hv
    obtain ⟨p, vs, ev, f1, g1⟩ := hv
    refine tup ev f1.sq (out_same em o _ (walk_tup fun S r H st em ok => ⟨vs, ?_, RepL.stp st _ _ g1⟩))
    rcases f1 with ⟨f1, f2⟩ | f1
    · exact .inl (st.rd f1 f2 fun ps z => by cases z).1
    · exact .inr f1
  · rename_i ns
    rw [Rep] at hv
    obtain ⟨p, ev, f1⟩ := hv
    refine lst ev f1.sq (out_same em o _ (walk_list fun S r H st em ok => ⟨ns.map V.int, ?_, ints_rep ns⟩))
    rcases f1 with ⟨f1, f2⟩ | f1
    · exact .inl (st.rd f1 f2 fun ps z => by cases z).1
    · exact .inr f1
  · rename_i x
    rw [Rep] at hv
    subst hv
    obtain ⟨tk, rfl⟩ := rv
    have q : Rr (Its x) H1 := out_same em o _ fun S r H st em ok => by
      refine ⟨fun i d hd => ?_, fun i hi => by simpa [Its] using hi⟩
      rw [List.getElem?_map, Option.map_eq_some_iff] at hd
      obtain ⟨c, h1, h2⟩ := hd
      have h1 : x.cps[i]? = some c := by simpa using h1
      refine ⟨(Array.getElem?_eq_some_iff.mp h1).1, fun y H' z => ?_⟩
      obtain ⟨rfl, c', h3, rfl⟩ := z
      rw [h1] at h3
      cases h3
      exact ⟨Stp.refl _ _ _, em, by rw [← h2, Rep]⟩
    cases hw : x.cps.all (· < 128)
    · exact wpAny_pyIter_wide hw (pi_one (tk := s1.toks) I1 _ (turn_str _ x tk "str_iterator" (.inr rfl)) ⟨_, Heap.get?_push_size _ rfl, rfl, rfl⟩ q)
    · exact wpAny_pyIter_ascii hw (pi_one (tk := s1.toks) I1 _ (turn_str _ x tk "str_ascii_iterator" (.inl rfl)) ⟨_, Heap.get?_push_size _ rfl, rfl, rfl⟩ q)
  · rename_i l
    rw [Rep] at hv
    obtain ⟨hl, ev⟩ := hv
    split at o
    · rename_i ds hq
      obtain ⟨vs, z1, z2⟩ := em.at_ l _ hq
      refine lst ev (.inl (.inl z1)) (out_same em o _ (walk_list fun S r H st em ok => ?_))
      obtain ⟨ws, y1, y2⟩ := em.at_ l _ (show S[l]? = some (.lst ds) from ok)
      rw [st.eq l hl] at y1
      exact ⟨ws, .inl (.inl y1), y2⟩
    · exact o.elim
  · exact o.elim
theorem walk_rng {X : Cx} {lo : Int} {n : Nat} {n0 : Nat} {r0 : Rho} {H0 : Hp} : WalkOk X (Itr lo n) (rngL lo n) none n0 r0 H0 := by
  intro S r H st em ok
  have hl : (rngL lo n).length = n := by simp [rngL]
  refine ⟨fun i d hd => ?_, fun i hi => by rw [hl] at hi; exact hi⟩
  have hi : i < n := by
    have := (List.getElem?_eq_some_iff.mp hd).1
    rw [hl] at this
    exact this
  refine ⟨hi, fun x H' y => ?_⟩
  obtain ⟨rfl, rfl⟩ := y
  have e : d = .int (lo + i) := by
    unfold rngL at hd
    rw [List.getElem?_map, List.getElem?_range hi] at hd
    exact (Option.some.inj hd).symm
  subst e
  exact ⟨Stp.refl _ _ _, em, by rw [Rep]⟩
theorem i_rng {p : Pos} (G : Good t k N sc X W) (hg : glB sc "range" = true) (hF : ("range" : Str) ∈ t.nm.F) (hs : notStar a = true) (ha : PE X a (tE X W f)) : PI X tg (.Call (.Name "range" p) [a] [] pos) (tI X W (fun s S => (f s S).bind fun d S1 => match d with
    | .int j => if small62 j = true then .ok (rngL 0 j.toNat, none) S1 else .bad
    | _ => .bad)) := by
  refine ⟨fun pins s σ H Rr I hx => (pi_range1 (tg := tg) (p := p) (pos := pos) (gl_of G hg) (G.ok.free _ hF) (c_cons hs ha c_nil) (star_of hs)).run pins s σ H Rr I ?_⟩
  obtain ⟨S, r, e, emb, he, oo⟩ := hx
  show tL X W _ σ H _
  refine ⟨S, r, e, emb, he, ?_⟩
  dsimp only at oo ⊢
  cases hq : f e S with
  | bad => rw [hq] at oo; exact oo.elim
  | exc x S1 => rw [hq] at oo; exact oo
  | ok d S1 =>
    rw [hq] at oo
    intro r1 H1 st1 em1 vs hvs
    obtain ⟨v, rfl, h1⟩ := hvs.inv1
    cases d with
    | int j =>
      have oo : Out (Wo X) S.length r H (fun q S r H => ∀ J, WalkOk X J q.1 q.2 S.length r H → Rr J H) (GE X W σ) (if small62 j = true then .ok (rngL 0 j.toNat, none) S1 else .bad) := oo
      split at oo
      · rename_i hj
        unfold small62 at hj
        simp only [Bool.and_eq_true, decide_eq_true_eq] at hj
        rw [Rep] at h1
        subst h1
        exact ⟨j, rfl, hj.1, hj.2, oo r1 H1 st1 em1 _ walk_rng⟩
      · exact oo.elim
    | _ => exact oo.elim
theorem i_rng2 {p : Pos} (G : Good t k N sc X W) (hg : glB sc "range" = true) (hF : ("range" : Str) ∈ t.nm.F) (hs : notStar a = true) (hs2 : notStar b = true) (ha : PE X a (tE X W f)) (hb : PE X b (tE X W g)) : PI X tg (.Call (.Name "range" p) [a, b] [] pos) (tI X W (fun s S => (f s S).bind fun d S1 => (g s S1).bind fun c S2 => match d, c with
    | .int i, .int j => if (small62 i && small62 j) = true then .ok (rngL i (j - i).toNat, none) S2 else .bad
    | _, _ => .bad)) := by
  refine ⟨fun pins s σ H Rr I hx => (pi_range2 (tg := tg) (p := p) (pos := pos) (gl_of G hg) (G.ok.free _ hF) (c_cons hs ha (c_cons hs2 hb c_nil)) (by rw [star_of hs, star_of hs2]; rfl) (star_of hs2)).run pins s σ H Rr I ?_⟩
  obtain ⟨S, r, e, emb, he, oo⟩ := hx
  show tL X W _ σ H _
  refine ⟨S, r, e, emb, he, ?_⟩
  dsimp only at oo ⊢
  cases hq : f e S with
  | bad => rw [hq] at oo; exact oo.elim
  | exc x S1 => rw [hq] at oo; exact oo
  | ok d S1 =>
    rw [hq] at oo
    have oo : Out (Wo X) S.length r H (fun q S r H => ∀ J, WalkOk X J q.1 q.2 S.length r H → Rr J H) (GE X W σ) ((g e S1).bind fun c S2 => match d, c with
      | .int i, .int j => if (small62 i && small62 j) = true then .ok (rngL i (j - i).toNat, none) S2 else .bad
      | _, _ => .bad) := oo
    show Out (Wo X) S.length r H _ _ (((g e S1).bind fun d S2 => R.ok [d] S2).bind fun ds S2 => .ok (d :: ds) S2)
    cases hq2 : g e S1 with
    | bad => rw [hq2] at oo; exact oo.elim
    | exc x S2 => rw [hq2] at oo; exact oo
    | ok c S2 =>
      rw [hq2] at oo
      intro r1 H1 st1 em1 vs hvs
      obtain ⟨v, u, rfl, h1, h2⟩ := hvs.inv2
      have oo : Out (Wo X) S.length r H (fun q S r H => ∀ J, WalkOk X J q.1 q.2 S.length r H → Rr J H) (GE X W σ) (match d, c with
        | .int i, .int j => if (small62 i && small62 j) = true then .ok (rngL i (j - i).toNat, none) S2 else .bad
        | _, _ => .bad) := oo
      split at oo
      · split at oo
        · rename_i i j hj
          unfold small62 at hj
          simp only [Bool.and_eq_true, decide_eq_true_eq] at hj
          rw [Rep] at h1 h2
          subst h1 h2
          exact ⟨_, _, rfl, ⟨hj.1.1, hj.1.2, hj.2.1, hj.2.2⟩, oo r1 H1 st1 em1 _ walk_rng⟩
        · exact oo.elim
      · exact oo.elim
end
end Fw

set_option Elab.async false
set_option linter.all false
set_option maxRecDepth 100000
set_option maxHeartbeats 4000000
namespace Fw
open PySem PySem.Spec PyProof.Rows L2
section
variable [Tb] {X : Cx} {W : Wm} {t : Sta} {k : Nat} {N : List Str} {sc : Scope} {a b c tg : Expr} {f g h : En → Sto → R D} {pos : Pos}
theorem pe_hot (hh : t.hot ≠ none) {e : Expr} {F : En → Sto → R D} : PE X e (tE X W (fun s S => t.cold (F s S))) := pe_bad fun s S => by
  unfold Sta.cold
  cases hq : t.hot with
  | none => exact absurd hq hh
  | some z => rfl
theorem cold_id (hh : t.hot = none) {α : Type} (r : R α) : t.cold r = r := by
  unfold Sta.cold
  rw [hh]
  rfl
/-- what the maker of an error leaves -/
theorem err_out {S : Sto} {r : Rho} {H : Hp} {C : Str} {cc d a : Addr} {fs : List (Str × V)} {ks : List Str} {ds : List D} {Q : VK} {E : Xc → Sto → Rho → Hp → Prop} (emb : Emb (Wo X) S r H) (m : X.mg C = some (.ref cc)) (hks : fs.map Prod.fst = ks) (hne : ks ≠ []) (hr : RepL (Wo X) S.length r H ds (fs.map Prod.snd)) (hd : H d = none) (ha : upd H d (.xd fs) a = none)
    (o : Out (Wo X) S.length r H (Gv X Q) E (.ok (.err C ks ds) S)) : Q (.ref a) (upd (upd H d (.xd fs)) a (ErO a (.ref cc) (some d))) := by
  have e1 := emb_new (o := .xd fs) emb hd
  have s1 : Stp S.length r H S.length r (upd H d (.xd fs)) := stp_new hd
  have s2 : Stp S.length r (upd H d (.xd fs)) S.length r (upd (upd H d (.xd fs)) a (ErO a (.ref cc) (some d))) := stp_new ha
  have fd : Fz S.length r d := fz_new (n := 0) emb hd
  have dn : d ≠ a := fun z => by rw [← z, upd_same] at ha; cases ha
  refine o r _ (s1.trans s2) (emb_new e1 ha) _ ?_
  rw [Rep]
  exact ⟨a, cc, some d, rfl, m, upd_same, fz_new (n := 0) e1 ha, .inr ⟨d, fs, rfl, by rw [upd_ne dn, upd_same], fd, hks, RepL.stp (s1.trans s2) _ _ hr, hne⟩⟩
theorem c_err0 (G : Good t k N sc X W) {C m : Str} {j : Nat} {p p2 : Pos} (hg : glB sc C = true) (hn : nmB C = true) : PE X (.Call (.Name C p) [.Constant (.str m) j p2] [] pos) (tE X W (fun s S => t.cold (if C ∈ t.RX then .ok (.err C [] []) S else .bad))) := by
  cases hh : t.hot with
  | some z => exact pe_hot (by rw [hh]; exact fun z => nomatch z)
  | none =>
    by_cases hC : C ∈ t.RX
    · obtain ⟨cc, m1, m2, m3, m4, B, newId, initId, bmB, F, q⟩ := G.ok.rx C hC
      obtain ⟨n1, n2, n3⟩ := nm_of hn
      refine peI (pe_of_mk (pmk_own F q m1 m2 (raises_own m3 m4) (gl_of G hg) n1)) fun σ H Q hx a ha => ?_
      obtain ⟨S, r, e, emb, he, oo⟩ := hx
      dsimp only at oo
      rw [cold_id hh, if_pos hC] at oo
      refine oo r _ (stp_new ha) (emb_new emb ha) _ ?_
      rw [Rep]
      exact ⟨a, cc, none, rfl, m1, upd_same, fz_new (n := 0) emb ha, .inl ⟨rfl, rfl, rfl⟩⟩
    · exact pe_bad fun s S => by rw [cold_id hh, if_neg hC]
/-- a made error's argument is read, then the error stands -/
theorem err_in (G : Good t k N sc X W) (hh : t.hot = none) {C f0 m : Str} {cc : Addr} (m1 : X.mg C = some (.ref cc)) {σ : L2.St} {H : Hp} {Q : VK} (hx : tE X W (fun s S => (f s S).bind fun d S1 => if errOk m d = true then .ok (.err C [f0] [d]) S1 else .bad) σ H Q) :
    tE X W f σ H (fun v H1 => ∃ pd, Shw X H1 v pd ∧ shows pd = true ∧ m.length + pd.shown.length ≤ sizeLine ∧ ∀ d, H1 d = none → ∀ a, upd H1 d (.xd [(f0, v)]) a = none → Q (.ref a) (upd (upd H1 d (.xd [(f0, v)])) a (ErO a (.ref cc) (some d)))) := by
  obtain ⟨S, r, e, emb, he, oo⟩ := hx
  refine on_seq emb he oo fun x S1 r1 H1 st1 emb1 he1 o1 v hv => ?_
  split at o1
  · rename_i hok
    unfold errOk at hok
    cases hp : toPyR x with
    | none => rw [hp] at hok; cases hok
    | some pd =>
      rw [hp] at hok
      simp only [Bool.and_eq_true, decide_eq_true_eq] at hok
      exact ⟨pd, ⟨_, _, x, hv, hp⟩, hok.1, hok.2, fun d hd a ha => err_out (ds := [x]) emb1 m1 rfl (by simp) (RepL.one hv) hd ha o1⟩
  · exact o1.elim
theorem c_err1 (G : Good t k N sc X W) {C : Str} {p : Pos} (hg : glB sc C = true) (hn : nmB C = true) (hs : notStar b = true) (hb : PE X b (tE X W f)) : PE X (.Call (.Name C p) [b] [] pos) (tE X W (fun s S => t.cold (match errF t C with
    | some (f0, m) => (f s S).bind fun d S1 => if errOk m d = true then .ok (.err C [f0] [d]) S1 else .bad
    | none => .bad))) := by
  cases hh : t.hot with
  | some z => exact pe_hot (by rw [hh]; exact fun z => nomatch z)
  | none =>
    cases hf : errF t C with
    | none => exact pe_bad fun s S => by rw [cold_id hh]
    | some z =>
      obtain ⟨f0, m⟩ := z
      have hf2 := hf
      unfold errF at hf2
      split at hf2
      · rename_i hrm
        obtain ⟨cc, m1, T⟩ := G.ok.ri C f0 m hf2
        obtain ⟨n1, n2, n3⟩ := nm_of hn
        refine peI (pe_of_mk (pmk_sup T G.gd ((G.cold hh).2.1.mono (G.ok.rm hrm)) (gl_of G hg) m1 hb n1 (star_of hs))) fun σ H Q hx => err_in G hh m1 (by simp only [cold_id hh] at hx; exact hx)
      · cases hf2
theorem c_errK (G : Good t k N sc X W) {C g0 : Str} {p : Pos} {kws : List Keyword} (hg : glB sc C = true) (hn : nmB C = true) (hk : kwOk [g0] kws = true) (hb : ∀ v, kws.map (·.value) = [v] → PE X v (tE X W f)) : PE X (.Call (.Name C p) [] kws pos) (tE X W (fun s S => t.cold (match errF t C with
    | some (f0, m) => if g0 = f0 then (f s S).bind fun d S1 => if errOk m d = true then .ok (.err C [f0] [d]) S1 else .bad else .bad
    | none => .bad))) := by
  obtain ⟨v, kp, rfl⟩ : ∃ v kp, kws = [⟨some g0, v, kp⟩] := by
    unfold kwOk at hk
    have hk := of_decide_eq_true hk
    match kws, hk with
    | [⟨nm, v, kp⟩], hk =>
      simp at hk
      exact ⟨v, kp, by rw [hk]⟩
    | [], hk => simp at hk
    | _ :: _ :: _, hk => simp at hk
  cases hh : t.hot with
  | some z => exact pe_hot (by rw [hh]; exact fun z => nomatch z)
  | none =>
    cases hf : errF t C with
    | none => exact pe_bad fun s S => by rw [cold_id hh]
    | some z =>
      obtain ⟨f0, m⟩ := z
      have hf2 := hf
      unfold errF at hf2
      split at hf2
      · rename_i hrm
        by_cases hgf : g0 = f0
        · subst hgf
          obtain ⟨cc, m1, T⟩ := G.ok.ri C g0 m hf2
          obtain ⟨n1, n2, n3⟩ := nm_of hn
          refine peI (pe_of_mk (pmk_supK T G.gd ((G.cold hh).2.1.mono (G.ok.rm hrm)) (gl_of G hg) m1 (hb v rfl) n1)) fun σ H Q hx => err_in G hh m1 (by simp only [cold_id hh, if_true] at hx; exact hx)
        · exact pe_bad fun s S => by
            rw [cold_id hh]
            dsimp only
            rw [if_neg hgf]
      · cases hf2
/-- e.f, e an error -/
theorem pe_atE {e : Expr} {n : Str} {te : TE} (he : PE X e te) (hb : attributeBase e n X.env (eval e X.env) = eval e X.env) : PE X (.Attribute e n pos) (fun σ H Q => te σ H fun x H1 => ∃ (a C d : Addr) (fs : List (Str × V)) (v : V), x = .ref a ∧ H1 a = some (ErO a (.ref C) (some d)) ∧ XfC X.K C ∧
    PySem.W.findIn X.K (.ref C) n = some none ∧ H1 d = some (.xd fs) ∧ fs.lookup n = some v ∧ Q v H1) := by
  refine ⟨fun pins s σ H Q I h => attr_of hb (thn (he.run pins s σ H _ I h) fun u s1 ⟨x, H1, I1, rx, a, C, d, fs, v, ex, ea, T, hno, ed, l, q⟩ => ?_)⟩
  subst ex
  cases rx
  obtain ⟨⟨oe, vs, ho, hz, hv⟩, _, _⟩ := I1.hok a _ ea
  have hx : ObjOk X.prog X.w H1 s1.heap d (.xd fs) := I1.hok d _ ed
  obtain ⟨mA, hns, hr⟩ := hx
  obtain ⟨od, hod, hl⟩ := lookIn_ns hns
  obtain ⟨u, hu, ru⟩ := RelO.some_of (v := v) (o := mA n) (by rw [← l]; exact hr n)
  have J : PySem.W.InstAt s1.heap a oe C (some od) := ⟨ho, hz.1, by unfold PySem.W.notCls; rw [hv] <;> rfl, by rw [hz.2]; exact hod⟩
  exact HandSPX.exc_get I1.kIn J T.ga T.gg T.exC (PySem.W.findObj_own T.hdC hno rfl (by rw [hl, hu])) (handed_of ru) ⟨v, H1, I1.tok _, ru, q⟩
theorem c_att (G : Good t k N sc X W) {n : Str} (hb : baseB a = true) (ha : PE X a (tE X W f)) : PE X (.Attribute a n pos) (tE X W (fun s S => (f s S).bind fun x S1 => attD t x n S1)) := by
  refine peI (pe_atE ha (base_of hb)) fun σ H Q hx => ?_
  obtain ⟨S, r, e, emb, he, oo⟩ := hx
  refine on_seq emb he oo fun x S1 r1 H1 st1 emb1 he1 o1 v hv => ?_
  unfold attD at o1
  split at o1
  · rename_i C ks ds
    split at o1
    · rename_i hX
      rw [Rep] at hv
      obtain ⟨p, cc, dd, rfl, m, f1, _, f2⟩ := hv
      split at o1
      · rename_i d hd
        rcases f2 with ⟨rfl, rfl, _⟩ | ⟨d0, fs, rfl, g1, _, g3, g4, _⟩
        · simp [lookD] at hd
        · obtain ⟨w, l1, l2⟩ := look_rep n g3 g4 hd
          exact ⟨p, cc, d0, fs, w, rfl, f1, (G.ok.exc C cc m hX.2).2, G.ok.xf _ _ _ hX.1 m, g1, l1, out_v emb1 o1 l2⟩
      · exact o1.elim
    · exact o1.elim
  · exact o1.elim
theorem enmL_get : ∀ (ds : List D) (j i : Nat), (enmL j ds)[i]? = (ds[i]?).map fun d => D.tup [.int ((j + i : Nat) : Int), d]
  | [], j, i => by simp [enmL]
  | d :: ds, j, 0 => by simp [enmL]
  | d :: ds, j, i + 1 => by
    rw [enmL, List.getElem?_cons_succ, List.getElem?_cons_succ, enmL_get ds (j + 1) i]
    have : j + 1 + i = j + (i + 1) := by omega
    rw [this]
theorem enmL_len : ∀ (ds : List D) (j : Nat), (enmL j ds).length = ds.length
  | [], j => rfl
  | d :: ds, j => by rw [enmL, List.length_cons, List.length_cons, enmL_len ds]
theorem i_enm {p : Pos} (G : Good t k N sc X W) (ht : isTupE tg = true) (hg : glB sc "enumerate" = true) (hF : ("enumerate" : Str) ∈ t.nm.F) (hs : notStar a = true) (ha : PE X a (tE X W f)) : PI X tg (.Call (.Name "enumerate" p) [a] [] pos) (tI X W (fun s S => (f s S).bind fun d S1 => enmD S1 d)) := by
  cases tg with
  | Tuple elts kk tp =>
    refine ⟨fun pins s σ H Rr I hx => (pi_enum (elts := elts) (kk := kk) (tpos := tp) (p := p) (pos := pos) (gl_of G hg) (G.ok.free _ hF) (c_cons hs ha c_nil) (star_of hs)).run pins s σ H Rr I ?_⟩
    obtain ⟨S, r, e, emb, he, oo⟩ := hx
    show tL X W _ σ H _
    refine ⟨S, r, e, emb, he, ?_⟩
    dsimp only at oo ⊢
    cases hq : f e S with
    | bad => rw [hq] at oo; exact oo.elim
    | exc x S1 => rw [hq] at oo; exact oo
    | ok d S1 =>
      rw [hq] at oo
      intro r1 H1 st1 em1 vs hvs
      obtain ⟨v, rfl, h1⟩ := hvs.inv1
      have oo : Out (Wo X) S.length r H (fun q S r H => ∀ J, WalkOk X J q.1 q.2 S.length r H → Rr J H) (GE X W σ) (enmD S1 d) := oo
      unfold enmD at oo
      split at oo
      · rename_i ds
        rw [Rep] at h1
        obtain ⟨q, vs, rfl, f1, g1⟩ := h1
        refine ⟨q, vs, rfl, .inl (.inl f1.1), oo r1 H1 st1 em1 _ fun S2 r2 H2 st2 em2 _ => ?_⟩
        have sq : SqL X.K H2 q vs := .inl (.inl (st2.fz q _ f1.1 f1.2 fun ps z => by cases z).1)
        have g2 := RepL.stp st2 _ _ g1
        refine ⟨fun i d hd => ?_, fun i hi => ⟨vs, sq, by rw [g1.length]; rw [enmL_len] at hi; exact hi⟩⟩
        rw [enmL_get, Option.map_eq_some_iff] at hd
        obtain ⟨d0, hd, rfl⟩ := hd
        obtain ⟨x, e1, e2⟩ := g2.get hd
        refine ⟨⟨vs, x, sq, e1⟩, fun y H' z => ?_⟩
        obtain ⟨T, x2, rfl, hT, rfl, hx2⟩ := z
        have e3 := hx2 vs sq
        rw [e1] at e3
        cases e3
        refine ⟨stp_new hT, emb_new em2 hT, ?_⟩
        rw [Rep]
        refine ⟨T, _, rfl, .inl ⟨.inl upd_same, fz_new (n := 0) em2 hT⟩, RepL.cons (by rw [Rep, Nat.zero_add]) (RepL.one (Rep.stp (stp_new hT) _ _ e2))⟩
      · exact oo.elim
  | _ => cases ht
end
end Fw

set_option Elab.async false
set_option linter.all false
set_option maxRecDepth 100000
set_option maxHeartbeats 4000000
namespace Fw
open PySem PySem.Spec PyProof.Rows L2
variable [Tb]
/-! targets -/
def tGt (X : Cx) (tg : Tg) : TG := fun v σ H Q => ∃ n r e d e', RepE (Wo X) n r H e σ ∧ Rep (Wo X) n r H d v ∧ tgD tg d e = some e' ∧
  ∀ σ', RepE (Wo X) n r H e' σ' → (∀ j, j ∉ slT tg → σ'[j]? = σ[j]?) → σ'.length = σ.length → Q σ' H
def tGts (X : Cx) (ts : List Tg) : TGs := fun vs σ H Q => ∃ n r e ds e', RepE (Wo X) n r H e σ ∧ RepL (Wo X) n r H ds vs ∧ tgL ts ds e = some e' ∧
  ∀ σ', RepE (Wo X) n r H e' σ' → (∀ j, j ∉ slTs ts → σ'[j]? = σ[j]?) → σ'.length = σ.length → Q σ' H
theorem pgI {X : Cx} {e : Expr} {t t' : TG} (h : PG X e t) (g : ∀ v σ H Q, t' v σ H Q → t v σ H Q) : PG X e t' := ⟨fun pins s σ H v u Q I r q => h.run pins s σ H v u Q I r (g v σ H Q q)⟩
theorem pgsI {X : Cx} {e : List Expr} {t t' : TGs} (h : PGs X e t) (g : ∀ v σ H Q, t' v σ H Q → t v σ H Q) : PGs X e t' := ⟨fun pins s σ H v u Q I r q => h.run pins s σ H v u Q I r (g v σ H Q q)⟩
section
variable {X : Cx} {N : List Str} {sc : Scope} {cl : Bool}
theorem asg_each {es : List Expr} {e : Expr} {env : Env} (h : notStar e = true) : assignEach (e :: es) env = (false, assign e env) :: assignEach es env := by
  cases e <;> first | rfl | cases h
mutual
theorem g_tg (hN : X.N = N) (hs : X.env.scope = sc) (nd : N.Nodup) (hc : X.calm = true) (hcl : cl = true → ∀ x, X.fn x = true) : ∀ (tg : Tg) (ex : Expr), ckT cl N sc tg ex = true → PG X ex (tGt X tg)
  | .nm i, ex, h => by
    unfold ckT at h
    cases ex with
    | Name x p =>
      simp only [Bool.and_eq_true, Bool.or_eq_true, decide_eq_true_eq] at h
      obtain ⟨h1, h2⟩ := h
      have hx : Loc X.env.scope x := by
        rw [hs]
        rcases h2 with h2 | ⟨_, h2⟩
        · exact .inl h2
        · exact .inr h2
      have hf : X.fn x = true ∨ X.env.scope.names.lookup x = some .local := by
        rcases h2 with h2 | ⟨h2, _⟩
        · exact .inr (by rw [hs]; exact h2)
        · exact .inl (hcl h2 x)
      refine pgI (pg_name (i := i) (by rw [hN]; exact nd) (by rw [hN]; exact h1) hx hf) fun v σ H Q ⟨n, r, e, d, e', a1, a2, a3, a4⟩ => ?_
      rw [tgD] at a3
      cases a3
      refine a4 _ (a1.set i a2) (fun j hj => ?_) (by simp)
      rw [slT] at hj
      rw [List.getElem?_set_ne (by simpa using fun z => hj (by simp [z]))]
    | _ => cases h
  | .tp ts, ex, h => by
    unfold ckT at h
    cases ex with
    | Tuple es k p =>
      have key := g_tgs hN hs nd hc hcl ts es h
      refine pgI (pg_tup hc key.1 rfl key.2) fun v σ H Q ⟨n, r, e, d, e', a1, a2, a3, a4⟩ => ?_
      cases d with
      | tup ds =>
        rw [tgD] at a3
        rw [Rep] at a2
        obtain ⟨a, vs, rfl, f1, g1⟩ := a2
        have hl : ∀ {ts : List Tg} {es : List Expr} {ds : List D} {e e' : En}, ckTs cl N sc ts es = true → tgL ts ds e = some e' → ds.length = (assignEach es X.env).length := by
          intro ts
          induction ts with
          | nil =>
            intro es ds e e' k1 k2
            unfold ckTs at k1
            cases es with
            | nil => cases ds with
              | nil => rfl
              | cons => simp [tgL] at k2
            | cons => cases k1
          | cons t ts ih =>
            intro es ds e e' k1 k2
            unfold ckTs at k1
            cases es with
            | nil => cases k1
            | cons x es =>
              simp only [Bool.and_eq_true] at k1
              cases ds with
              | nil => simp [tgL] at k2
              | cons d ds =>
                rw [tgL, Option.bind_eq_some_iff] at k2
                obtain ⟨s1, _, k3⟩ := k2
                rw [asg_each k1.1, List.length_cons, List.length_cons, ih k1.2.2 k3]
        refine ⟨a, vs, rfl, f1.sq, by rw [g1.length]; exact hl h a3, n, r, e, ds, e', a1, g1, a3, fun σ' b1 b2 b3 => a4 σ' b1 (fun j hj => b2 j ?_) b3⟩
        rw [slT] at hj
        exact hj
      | _ => simp [tgD] at a3
    | _ => cases h
theorem g_tgs (hN : X.N = N) (hs : X.env.scope = sc) (nd : N.Nodup) (hc : X.calm = true) (hcl : cl = true → ∀ x, X.fn x = true) : ∀ (ts : List Tg) (es : List Expr), ckTs cl N sc ts es = true → PGs X es (tGts X ts) ∧ (assignEach es X.env).findIdx? (·.1) = none
  | [], es, h => by
    unfold ckTs at h
    cases es with
    | nil =>
      refine ⟨pgsI pgs_nil fun vs σ H Q ⟨n, r, e, ds, e', a1, a2, a3, a4⟩ => ?_, rfl⟩
      cases ds with
      | nil =>
        rw [tgL] at a3
        cases a3
        rw [RepL] at a2
        exact ⟨a2, a4 σ a1 (fun _ _ => rfl) rfl⟩
      | cons => simp [tgL] at a3
    | cons => cases h
  | t :: ts, es, h => by
    unfold ckTs at h
    cases es with
    | nil => cases h
    | cons x es =>
      simp only [Bool.and_eq_true] at h
      obtain ⟨h1, h2, h3⟩ := h
      obtain ⟨k1, k2⟩ := g_tgs hN hs nd hc hcl ts es h3
      refine ⟨pgsI (pgs_cons (g_tg hN hs nd hc hcl t x h2) k1 (by rw [asg_each h1]; rfl)) fun vs σ H Q ⟨n, r, e, ds, e', a1, a2, a3, a4⟩ => ?_, ?_⟩
      · cases ds with
        | nil => simp [tgL] at a3
        | cons d ds =>
          rw [tgL, Option.bind_eq_some_iff] at a3
          obtain ⟨e1, b1, b2⟩ := a3
          rw [RepL] at a2
          obtain ⟨v, q, rfl, c1, c2⟩ := a2
          refine ⟨v, q, rfl, n, r, e, d, e1, a1, c1, b1, fun σ1 d1 d2 d3 => ⟨n, r, e1, ds, e', d1, c2, b2, fun σ2 f1 f2 f3 => a4 σ2 f1 (fun j hj => ?_) (f3.trans d3)⟩⟩
          rw [slTs, List.mem_append, not_or] at hj
          exact (f2 j hj.2).trans (d2 j hj.1)
      · rw [asg_each h1, List.findIdx?_cons, k2]
        rfl
end
end
end Fw

set_option Elab.async false
set_option linter.all false
set_option maxRecDepth 100000
set_option maxHeartbeats 4000000
namespace Fw
open PySem PySem.Spec PyProof.Rows L2
variable [Tb]
/-! a block's own slots -/
theorem wipe_get (σ : L2.St) (j : Nat) : ∀ vs : List Nat, (wipe σ vs)[j]? = if j ∈ vs then (if j < σ.length then some none else none) else σ[j]?
  | [] => by simp [wipe]
  | v :: vs => by
    unfold wipe
    by_cases h : v = j
    · subst h
      by_cases hl : v < σ.length
      · rw [List.getElem?_set_self (by rw [wipe_length]; exact hl)]
        simp [hl]
      · rw [List.getElem?_eq_none (by rw [List.length_set, wipe_length]; omega)]
        simp [hl]
    · rw [List.getElem?_set_ne h, wipe_get σ j vs]
      have e : (j ∈ v :: vs) = (j ∈ vs) := by
        simp only [List.mem_cons]
        exact propext ⟨fun z => z.resolve_left fun q => h q.symm, .inr⟩
      simp only [e]
theorem wipeD_get (e : En) (j : Nat) : ∀ vs : List Nat, (wipeD e vs)[j]? = if j ∈ vs then (if j < e.length then some none else none) else e[j]?
  | [] => by simp [wipeD]
  | v :: vs => by
    have hl0 : ∀ vs : List Nat, (wipeD e vs).length = e.length := by
      intro vs
      induction vs with
      | nil => rfl
      | cons v vs ih => unfold wipeD; rw [List.length_set, ih]
    unfold wipeD
    by_cases h : v = j
    · subst h
      by_cases hl : v < e.length
      · rw [List.getElem?_set_self (by rw [hl0]; exact hl)]
        simp [hl]
      · rw [List.getElem?_eq_none (by rw [List.length_set, hl0]; omega)]
        simp [hl]
    · rw [List.getElem?_set_ne h, wipeD_get e j vs]
      have e : (j ∈ v :: vs) = (j ∈ vs) := by
        simp only [List.mem_cons]
        exact propext ⟨fun z => z.resolve_left fun q => h q.symm, .inr⟩
      simp only [e]
theorem wipeD_len (e : En) : ∀ vs : List Nat, (wipeD e vs).length = e.length
  | [] => rfl
  | v :: vs => by unfold wipeD; rw [List.length_set, wipeD_len e vs]
theorem RepE.wipe {Wx : Wd} {n : Nat} {r : Rho} {H : Hp} {e : En} {σ : L2.St} (h : RepE Wx n r H e σ) (vs : List Nat) : RepE Wx n r H (wipeD e vs) (L2.wipe σ vs) := by
  refine ⟨by rw [wipeD_len, wipe_length]; exact h.1, fun i d q => ?_⟩
  rw [wipeD_get] at q
  split at q
  · split at q <;> cases q
  · rename_i hi
    rw [wipe_get, if_neg hi]
    exact h.2 i d q
theorem wipe_same {σ σ' : L2.St} {vs sl : List Nat} (hs : ∀ i ∈ sl, i ∈ vs) (h : ∀ j, j ∉ sl → σ'[j]? = (L2.wipe σ vs)[j]?) (hl : σ'.length = (L2.wipe σ vs).length) : L2.wipe σ' vs = L2.wipe σ vs := by
  rw [wipe_length] at hl
  apply List.ext_getElem?
  intro j
  rw [wipe_get, wipe_get, hl]
  split
  · rfl
  · rename_i hj
    rw [h j fun z => hj (hs j z), wipe_get, if_neg hj]
def tTc (X : Cx) (W : Wm) (f : En → Sto → R Bool) : TT := fun σ H Q => tA X W f (fun b S r H => Q b H) σ H
def Wm.no : Wm := Wm.of fun _ _ _ _ => False
def stF (tg : Tg) (vs : List Nat) (fc : En → Sto → R Bool) (fe : En → Sto → R D) (s : En) : D → Sto → R (Option D) := fun d S2 => match tgD tg d (wipeD s vs) with
    | none => .bad
    | some s2 => noX ((fc s2 S2).bind fun b S3 => if b = true then (fe s2 S3).bind fun y S4 => .ok (some y) S4 else .ok none S3)
def lcF (m : Bool) (tg : Tg) (vs : List Nat) (fi : En → Sto → R (List D × Option Nat)) (fc : En → Sto → R Bool) (fe : En → Sto → R D) : En → Sto → R D := fun s S =>
  (fi s S).bind fun ds S1 => (lcGo S1.length ds.1 ds.2 (stF tg vs fc fe s) ds.1 (S1 ++ [.lst []])).bind fun _ S5 => if m then .ok (.ref S1.length) S5 else thaw S1.length S5
section
variable {X : Cx} {W : Wm} {t : Sta} {k : Nat} {N : List Str} {sc : Scope} {elt tgt iter : Expr} {ifs : List Expr} {scope : Scope} {own : List (Str × Nat)} {pos : Pos} {fi : En → Sto → R (List D × Option Nat)} {fc : En → Sto → R Bool} {fe : En → Sto → R D} {tg : Tg} {m : Bool}
theorem con_fold {env : Env} (h : conSet iter = true) : ∀ x, foldedSetIterable iter env x = pure x := by
  intro x
  cases iter <;> first | rfl | cases h
theorem lc_imp (hsl : slotsIn tg own = true) {σ : L2.St} {H : Hp} {Q : VK} (hx : tE X W (lcF m tg (own.map (·.2)) fi fc fe) σ H Q) :
    tLc (tI X W fi) (tGt X tg) (tTc X Wm.no fc) (tE X Wm.no fe) (own.map (·.2)) σ H Q := by
  obtain ⟨S, r, e, emb, he, oo⟩ := hx
  refine ⟨S, r, e, emb, he, oo.bind.imp (fun q S1 r1 H1 st1 em1 o1 => ?_) fun _ _ _ _ _ _ z => z⟩
  obtain ⟨ds, w⟩ := q
  intro J hJ p hp
  dsimp only at o1 hJ
  have he1 := he.stp st1
  have hl0 : (S1 ++ [O.lst []]).length = S1.length + 1 := by simp
  have st0 : Stp S1.length r1 H1 (S1 ++ [O.lst []]).length (rput r1 S1.length p) (upd H1 p (.lst [])) := by rw [hl0]; exact stp_put hp
  have em0 : Emb (Wo X) (S1 ++ [.lst []]) (rput r1 S1.length p) (upd H1 p (.lst [])) := emb_put em1 hp ⟨[], upd_same, RepL.nil⟩
  generalize hst : stF tg (own.map (·.2)) fc fe e = st at o1
  have hstep : ∀ d S2, st d S2 = match tgD tg d (wipeD e (own.map (·.2))) with
    | none => .bad
    | some s2 => noX ((fc s2 S2).bind fun b S3 => if b = true then (fe s2 S3).bind fun y S4 => .ok (some y) S4 else .ok none S3) := fun d S2 => by rw [← hst]; rfl
  clear hst
  let kend : Unit → Sto → R D := fun _ S5 => if m then .ok (.ref S1.length) S5 else thaw S1.length S5
  let Inv0 : Nat → Hp → Prop := fun i H => ∃ S r, Stp S1.length r1 H1 S.length r H ∧ Emb (Wo X) S r H ∧ S1.length < S.length ∧ r S1.length = p ∧ Out (Wo X) S1.length r1 H1 (Gv X Q) (GE X W σ) ((lcGo S1.length ds w st (ds.drop i) S).bind kend)
  refine ⟨fun i mm H => mm = ds.length - i ∧ i ≤ ds.length ∧ Inv0 i H, ⟨ds.length, by simp, Nat.zero_le _, S1 ++ [.lst []], _, st0, em0, by rw [hl0]; omega, rput_new, by rw [List.drop_zero]; exact o1⟩, ?_⟩
  rintro i mm H ⟨rfl, hi, S2, r2, st2, em2, hlt, hp2, o2⟩
  by_cases hlt2 : i < ds.length
  · refine .inr ?_
    have hd : ds.drop i = ds[i] :: ds.drop (i + 1) := List.drop_eq_getElem_cons hlt2
    rw [hd] at o2
    unfold lcGo at o2
    by_cases hok : okB S2 ds w = true
    · rw [if_pos hok] at o2
      obtain ⟨go, yl⟩ := (hJ S2 r2 H st2 em2 (okB_ok hok)).1 i ds[i] (by rw [List.getElem?_eq_getElem hlt2])
      refine ⟨go, fun H' => Inv0 (i + 1) H', fun H' q => ⟨ds.length - (i + 1), by omega, rfl, hlt2, q⟩, fun x H' y => ?_⟩
      obtain ⟨sy, ey, ry⟩ := yl x H' y
      have sty : Stp S1.length r1 H1 S2.length r2 H' := st2.trans sy
      cases htg : tgD tg ds[i] (wipeD e (own.map (·.2))) with
      | none =>
        rw [hstep, htg] at o2
        exact o2.elim
      | some s2 =>
        have hw := ((he1.rep.stp sty).wipe (own.map (·.2)))
        refine ⟨S2.length, r2, _, _, s2, hw, ry, htg, fun σ' b1 b2 b3 => ⟨wipe_same (fun j hj => ?_) b2 b3, S2, r2, s2, ey, ⟨b1, trivial⟩, ?_⟩⟩
        · unfold slotsIn at hsl
          exact of_decide_eq_true (List.all_eq_true.mp hsl j hj)
        · have o3 := o2
          rw [hstep, htg] at o3
          dsimp only at o3
          cases hfc : fc s2 S2 with
          | bad => rw [hfc] at o3; exact o3.elim
          | exc z Sz => rw [hfc] at o3; exact o3.elim
          | ok b S3 =>
            rw [hfc] at o3
            intro r3 H3 st3 em3
            have sty3 := sty.trans st3
            have hr3 : r3 S1.length = p := (st3.eq _ hlt).trans hp2
            have hlt3 : S1.length < S3.length := Nat.lt_of_lt_of_le hlt st3.le
            cases b with
            | false =>
              refine iteF ?_
              exact ⟨S3, r3, sty3, em3, hlt3, hr3, o3⟩
            | true =>
              refine iteT ⟨S3, r3, s2, em3, ⟨b1.stp st3, trivial⟩, ?_⟩
              have o4 : Out (Wo X) S1.length r1 H1 (Gv X Q) (GE X W σ) (((noX ((fe s2 S3).bind fun y S4 => R.ok (some y) S4)).bind fun o S1' => match o with
                | none => lcGo S1.length ds w st (ds.drop (i + 1)) S1'
                | some y => (match S1'[S1.length]? with
                  | some (.lst acc) => if acc.length < sizeLine then lcGo S1.length ds w st (ds.drop (i + 1)) (S1'.set S1.length (.lst (acc ++ [y]))) else .bad
                  | _ => .bad)).bind kend) := o3
              cases hfe : fe s2 S3 with
              | bad => rw [hfe] at o4; exact o4.elim
              | exc z Sz => rw [hfe] at o4; exact o4.elim
              | ok y S4 =>
                rw [hfe] at o4
                intro r4 H4 st4 em4 v hv
                have o5 : Out (Wo X) S1.length r1 H1 (Gv X Q) (GE X W σ) ((match S4[S1.length]? with
                  | some (.lst acc) => if acc.length < sizeLine then lcGo S1.length ds w st (ds.drop (i + 1)) (S4.set S1.length (.lst (acc ++ [y]))) else .bad
                  | _ => .bad).bind kend) := o4
                have hlt4 : S1.length < S4.length := Nat.lt_of_lt_of_le hlt3 st4.le
                have hr4 : r4 S1.length = p := (st4.eq _ hlt3).trans hr3
                cases hq : S4[S1.length]? with
                | none => rw [hq] at o5; exact o5.elim
                | some ob =>
                  rw [hq] at o5
                  cases ob with
                  | lst acc =>
                    obtain ⟨vs, z1, z2⟩ := em4.at_ _ _ hq
                    rw [hr4] at z1
                    dsimp only at o5
                    by_cases hz : acc.length < sizeLine
                    · rw [if_pos hz] at o5
                      refine ⟨vs, z1, by rw [z2.length]; exact hz, S4.set S1.length (.lst (acc ++ [y])), r4, ?_, ?_, by rw [List.length_set]; exact hlt4, hr4, o5⟩
                      · rw [List.length_set, ← hr4]
                        exact (sty3.trans st4).trans (stp_set (W := Wo X) hlt4)
                      · have stS := stp_set (W := Wo X) (S := S4) (r := r4) (H := H4) (l := S1.length) (u := .lst (vs ++ [v])) hlt4
                        have em5 := emb_set (u := .lst (vs ++ [v])) (o := .lst (acc ++ [y])) em4 hlt4 ⟨_, upd_same, RepL.append (RepL.stp stS _ _ z2) (RepL.one (Rep.stp stS _ _ hv))⟩
                        rw [hr4] at em5
                        exact em5
                    · rw [if_neg hz] at o5
                      exact o5.elim
                  | dct _ _ => exact o5.elim
                  | ins _ _ _ => exact o5.elim
    · rw [if_neg hok] at o2
      exact o2.elim
  · refine .inl ?_
    have hi2 : i = ds.length := by omega
    subst hi2
    rw [List.drop_length] at o2
    unfold lcGo at o2
    by_cases hok : okB S2 ds w = true
    · rw [if_pos hok] at o2
      refine ⟨(hJ S2 r2 H st2 em2 (okB_ok hok)).2 _ (Nat.le_refl _), ?_⟩
      have fin := out_thaw (X := X) (Q := Q) (S0 := S1) (n := S1.length) (mu := m) st2 em2 rfl hlt o2
      rw [hp2] at fin
      exact fin
    · rw [if_neg hok] at o2
      exact o2.elim
end
end Fw

set_option Elab.async false
set_option linter.all false
set_option maxRecDepth 100000
set_option maxHeartbeats 4000000
namespace Fw
open PySem PySem.Spec PyProof.Rows L2
variable [Tb]
theorem deeper_guards {A : Around} {env : Env} (h : A.guards = some []) : (A.deeper env).guards = some [] := by
  first | exact h | simpa [Around.deeper] using h
theorem SOk.inner {P : Program} {w : World} {K : PySem.W.Frag} {mg : Str → Option Value} {base : Heap} {t : Sta} {k : Nat} (h : SOk P w K mg base t k) : SOk P w K mg base t.inner k :=
  ⟨h.call, h.con, h.free, h.ins, h.xf, h.exm, h.cn, h.rx, h.exc, h.lamf, h.isi, h.ri, h.sy, h.rm⟩
section
variable {X : Cx} {W : Wm} {t : Sta} {k : Nat} {N : List Str} {sc : Scope} {elt tgt iter : Expr} {ifs : List Expr} {scope : Scope} {own : List (Str × Nat)} {pos : Pos} {fi : En → Sto → R (List D × Option Nat)} {fc : En → Sto → R Bool} {fe : En → Sto → R D} {tg : Tg} {m : Bool}
theorem blk_good (G : Good t k N sc X W) (hh : t.hot = none) {s : Shared} {H : Hp} {C : Addr} {cl : List (Str × Addr)} {fp : List Addr} : Good t.blk k N (inner sc scope) (X.blk s H scope (compEnvC scope cl C X.env) fp) Wm.no := by
  obtain ⟨c1, c2, c3⟩ := G.cold hh
  refine ⟨G.hN, ?_, G.nd, G.un, G.gd, G.ok.inner, fun _ => ⟨c1, c2, LamX.takes0⟩, fun i x z => (nomatch z), fun _ z => (nomatch z), fun i th _ z => (nomatch z)⟩
  rw [← G.hs]
  rfl
theorem c_lc (G : Good t k N sc X W) (hh : t.hot = none) (hb : blkC N sc scope own = true) (htg : ckT false N (inner sc scope) tg tgt = true) (hsl : slotsIn tg own = true) (hcs : conSet iter = true) (hi : PI X tgt iter (tI X W fi))
    (hc : ∀ Xb, Good t.blk k N (inner sc scope) Xb Wm.no → Wo Xb = Wo X → PTs Xb ifs (tTc Xb Wm.no fc)) (he : ∀ Xb, Good t.blk k N (inner sc scope) Xb Wm.no → Wo Xb = Wo X → PE Xb elt (tE Xb Wm.no fe)) :
    PE X (.ListComp elt [⟨tgt, iter, ifs, 0⟩] scope pos) (tE X W (lcF m tg (own.map (·.2)) fi fc fe)) := by
  have ok := blkOk_by hb
  rw [← G.hN, ← G.hs] at ok
  refine peI (pe_lc (G.cold hh).1 (by rw [G.hN]; exact G.nd) hi ok (g := tGt X tg) (tt := tTc X Wm.no fc) (te := tE X Wm.no fe) (fun s H C cl fp => ?_) (fun s H C cl fp => ?_) (fun s H C cl fp => ?_) (con_fold hcs)) fun σ H Q hx => lc_imp hsl hx
  · have gb := blk_good (scope := scope) (s := s) (H := H) (C := C) (cl := cl) (fp := fp) G hh
    exact g_tg (X := X.blk s H scope (compEnvC scope cl C X.env) fp) (cl := false) gb.hN gb.hs gb.nd (gb.cold rfl).1 (fun z => nomatch z) tg tgt htg
  · have gb := blk_good (scope := scope) (s := s) (H := H) (C := C) (cl := cl) (fp := fp) G hh
    exact hc _ gb rfl
  · have gb := blk_good (scope := scope) (s := s) (H := H) (C := C) (cl := cl) (fp := fp) G hh
    exact he _ gb rfl
/-! a closure is handed to a def -/
theorem emb_ext {Wx : Wd} {S : Sto} {r : Rho} {H H' : Hp} (e : Emb Wx S r H) (x : LamX.ExtN H H') (T : LamX.Tabs Wx.T H') : Emb Wx S r H' ∧ Stp S.length r H S.length r H' := by
  have st : Stp S.length r H S.length r H' := ⟨Nat.le_refl _, fun _ _ => rfl, fun a o h f n => ⟨x a o h n, f⟩⟩
  refine ⟨⟨e.inj, fun l o q => ?_, T⟩, st⟩
  have z := e.at_ l o q
  obtain ⟨u, t1, t2⟩ := orep_tame z
  exact z.stp st fun u' hu' => x _ _ hu' fun ps q => by
    rw [t1] at hu'
    cases hu'
    exact t2.1 ps q
abbrev Wm.ex (E : XK) : Wm := Wm.of fun cls d _ H => E cls d H
theorem c_lam {x : Str} {p lpos : Pos} {params : Arguments} {body : Expr} {fb : En → Sto → R D} (G : Good t k N sc X W) (hh : t.hot = none) (hlam : t.lam = true) (hg : glB sc x = true) (hn : nmB x = true) (hx : x ∈ t.nm.LT) (ha : noArgs params = true) (hL : LamX.lamSB sc scope = true)
    (hb : ∀ Xl E, Good t.inner k N scope Xl (Wm.ex E) → Wo Xl = Wo X → PE Xl body (tE Xl (Wm.ex E) fb)) :
    PE X (.Call (.Name x p) [.Lambda params body scope lpos] [] pos) (tE X W (fun s S => t.L x (fun S1 => fb s S1) S)) := by
  obtain ⟨n1, n2, n3⟩ := nm_of hn
  obtain ⟨fa, m1, m2, lp⟩ := G.ok.lamf x hx
  obtain ⟨g1, g2, g3⟩ := G.cold hh
  obtain ⟨rm, c, P, TB, hcode, hmT, hu⟩ := G.lam hh hlam
  have L := LamX.lamS_by hL
  rw [← G.hs] at L
  refine ⟨fun pins s σ H Q I hx => ?_⟩
  obtain ⟨S, r, e, emb, he, oo⟩ := hx
  have hdef : defaultsOf params X.env = ([], []) := by
    unfold noArgs at ha
    split at ha
    · rfl
    · cases ha
  refine wpAny_Call_Name_kw (ld_glob I (gl_of G hg) m1 ?_ n1)
  refine PySem.W.callWith_K (h₀ := X.base) I.ok.mod.kin m2 ?_ (by rfl) (by rfl)
  refine Calls.spliced_cons (LamX.lam_make2 I TB hcode hmT hu emb.tabs hdef (L.has I.ok) fun f c' pm' ctv H1 s1 I1 eN T1 hf hfn hfr hco => ?_)
  refine Calls.spliced_nil ⟨I1.kIn, ?_⟩
  obtain ⟨em1, st1⟩ := emb_ext emb eN T1
  have he1 := he.stp st1
  have o1 : Out (Wo X) S.length r H1 (Gv X Q) (GE X W σ) (t.L x (fun S1 => fb e S1) S) := by
    have oo : Out (Wo X) S.length r H (Gv X Q) (GE X W σ) (t.L x (fun S1 => fb e S1) S) := oo
    revert oo
    generalize t.L x (fun S1 => fb e S1) S = q
    intro oo
    cases q with
    | ok d S2 => exact fun r2 H2 st2 em2 => oo r2 H2 (st1.trans st2) em2
    | exc d S2 => exact fun r2 H2 st2 em2 => oo r2 H2 (st1.trans st2) em2
    | bad => exact oo
  have fzc : Fz S.length r c' := fun l hl z => by
    obtain ⟨u, t1, t2⟩ := orep_tame (em1.at_ l _ (List.getElem?_eq_getElem hl))
    rw [← z, hco] at t1
    cases t1
    exact t2.2 _ rfl
  have rc := lp X.A X.stack s1 H1 f c' (X.env.qual ++ "<lambda>") e σ (fun S1 => fb e S1) Q (fun cls dd H' => W.w cls dd σ H') S r rm G.gd I1.env0 em1 he1.rep hco fzc
    ⟨fun h' H' un => ⟨_, _, _, _, un.keep f _ hf hfn hfr (fun z => nomatch (show f ∈ ([] : List Addr) from z))⟩, fun A' outer' s2 H2 S2 r2 Q' E' hr hgd e0 un em2 he2 hco2 o2 => ?_⟩ o1
  · refine wpAny_call (codeAny_mono rc fun q s' hq => ?_)
    cases q with
    | error e => exact g3 e s' (XE.of_call I1 (fun cls d H' w => w) hq)
    | ok fl =>
      cases fl with
      | ret u => exact I1.after hq
      | next => exact False.elim hq
      | brk => exact False.elim hq
      | cont => exact False.elim hq
  · have of1 := un.keep f _ hf hfn hfr (fun z => nomatch (show f ∈ ([] : List Addr) from z))
    obtain ⟨⟨oc, vs, tk, hoc, hdc, hvc⟩, _, _⟩ := e0.hok c' _ hco2
    have lim : s2.heap.NoLimit := e0.mod.nolimit.keeps fun b o q => (e0.bs b o q).1
    refine PySem.W.kla_callFunE hr.depth of1 rfl L.co L.gen rfl ⟨c', oc, vs, tk, rfl, hoc, hdc, hvc⟩ ?_
    have hbind : bindArgs (PySem.W.kla_fn "<lambda>" (X.env.qual ++ "<lambda>") params body scope (cloFrom X.env.cells scope.names []) pm' (.ref c') ctv) ⟨[], []⟩ = pure [] := by
      unfold noArgs at ha
      split at ha
      · rfl
      · cases ha
    rw [hbind]
    refine wpAny_pure (wpAny_newFunctionEnv (fun y hy => (L.own y hy).2) (fun y hy => absurd hy (by simp)) (fun h₁ hns hsb => ⟨lim.fresh _ hsb, ?_⟩) L.kind)
    have kp : ∀ b o, s2.heap.get? b = some o → h₁.get? b = some o := fun b o q => hsb.extBut b o (Nat.ne_of_lt (Heap.lt_size q)) (Heap.get?_push_of_some _ q)
    have J := LamX.lam_start2 (A := A') (outer := outer') (E := E') (f := f) (c' := c') (tk := s2.toks + ([] : List (Str × Value)).length) I1 L e0 hr.hd un hns kp
    have gl : Good t.inner k N scope (LamX.lamCx X A' outer' s2 H2 E' scope f c') (Wm.ex E') := by
      have rk : Room k (A'.deeper (LamX.lamEnv X scope s2.heap.objs.size f c')) := hr.deeper _
      refine ⟨G.hN, rfl, G.nd, rk.un, deeper_guards hgd, G.ok.inner, fun _ => ⟨rfl, rk, takes_of rfl rfl rfl rfl⟩, fun i x z => (nomatch z), fun _ z => (nomatch z), fun i th _ z => (nomatch z)⟩
    refine PySem.W.kla_codeExpr (wpAny_mono ((hb _ _ gl rfl).run [] _ _ H2 Q' J ⟨S2, r2, e, em2, ⟨he2, trivial⟩, o2⟩) (fun v s' hq => ?_) fun e s' hq => hq)
    obtain ⟨w', H', J', rv, q⟩ := hq
    exact ⟨w', H', J'.os, J'.bare, J'.base, J'.hok, rv, q⟩
end
end Fw

set_option Elab.async false
set_option linter.all false
set_option maxRecDepth 100000
set_option maxHeartbeats 4000000
namespace Fw
open PySem PySem.Spec PyProof.Rows L2
variable [Tb]
def plainE : Expr → Bool
  | .UnaryOp .Not _ _ => false
  | .BoolOp _ _ _ => false
  | .IfExp _ _ _ _ => false
  | .Compare _ _ _ _ => false
  | _ => true
theorem plainT_of {e : Expr} (h : plainE e = true) : plainT e := by
  intro env whole
  cases e with
  | UnaryOp o x p => cases o <;> first | rfl | cases h
  | BoolOp => cases h
  | IfExp => cases h
  | Compare => cases h
  | _ => rfl
section
variable {X : Cx} {W : Wm} {t : Sta} {k : Nat} {N : List Str} {sc : Scope} {a b c : Expr} {f g h : En → Sto → R D} {pos : Pos}
abbrev Two (X : Cx) (W : Wm) (e : Expr) (f : En → Sto → R D) : Prop := PE X e (tE X W f) ∧ PTw X e (tT X W f)
theorem two_plain (hp : plainE a = true) (ha : PE X a (tE X W f)) : Two X W a f := by
  refine ⟨ha, PTw.of (c_test (plainT_of hp) ha) fun o es p z => ?_⟩
  rw [z] at hp
  cases hp
theorem c_andT (ha : PT X a (tT X W f)) {rest : List Expr} (hb : PW X (.BoolOp .And (b :: rest) pos) (tT X W g)) : PW X (.BoolOp .And (a :: b :: rest) pos) (tT X W (andF f g)) := pwI (pw_and ha hb) fun σ H Q q => and_t q
theorem c_orT (ha : PT X a (tT X W f)) {rest : List Expr} (hb : PW X (.BoolOp .Or (b :: rest) pos) (tT X W g)) : PW X (.BoolOp .Or (a :: b :: rest) pos) (tT X W (orF f g)) := pwI (pw_or ha hb) fun σ H Q q => or_t q
theorem pt_iteD (hc : PT X c (tT X W h)) (ha : PT X a (tT X W f)) (hb : PT X b (tT X W g)) : PT X (.IfExp c a b pos) (tT X W (fun s S => (h s S).bind fun x S1 => match x with
    | .bl true => f s S1
    | .bl false => g s S1
    | _ => .bad)) := by
  refine ⟨fun pins s σ H Q I hx => ?_⟩
  obtain ⟨S, r, e, emb, he, oo⟩ := hx
  show wpAny _ _ (do if ← isTrue c X.env (eval c X.env) then isTrue a X.env (eval a X.env) else isTrue b X.env (eval b X.env)) _ _ _
  have key : tT X W h σ H (fun d H1 => if d = true then tT X W f σ H1 Q else tT X W g σ H1 Q) := by
    refine on_seq emb he oo fun x S1 r1 H1 st1 emb1 he1 o1 => ?_
    split at o1
    · exact ⟨true, rfl, iteT ⟨S1, r1, e, emb1, he1, o1⟩⟩
    · exact ⟨false, rfl, iteF ⟨S1, r1, e, emb1, he1, o1⟩⟩
    · exact o1.elim
  refine wpAny_bind (thn (hc.run pins s σ H _ I key) fun d s1 ⟨H1, I1, q1⟩ => ?_)
  cases d with
  | true => exact ha.run pins s1 σ H1 Q I1 q1
  | false => exact hb.run pins s1 σ H1 Q I1 q1
end
end Fw

set_option Elab.async false
set_option linter.all false
set_option maxRecDepth 100000
set_option maxHeartbeats 8000000
namespace Fw
open PySem PySem.Spec PyProof.Rows L2
variable [Tb]
def Es.len : Es → Nat
  | .nil => 0
  | .cons _ r => r.len + 1
theorem evL_len {t : Sta} : ∀ (es : Es) {s : En} {S S' : Sto} {ds : List D}, evL t es s S = .ok ds S' → ds.length = es.len
  | .nil, s, S, S', ds, h => by
    unfold evL at h
    cases h
    rfl
  | .cons e r, s, S, S', ds, h => by
    unfold evL at h
    cases h1 : evE t e s S with
    | bad => rw [h1] at h; cases h
    | exc x S1 => rw [h1] at h; cases h
    | ok d S1 =>
      rw [h1] at h
      have h : ((evL t r s S1).bind fun ds S2 => .ok (d :: ds) S2) = R.ok ds S' := h
      cases h2 : evL t r s S1 with
      | bad => rw [h2] at h; cases h
      | exc x S2 => rw [h2] at h; cases h
      | ok qs S2 =>
        rw [h2] at h
        cases h
        rw [List.length_cons, evL_len r h2]
        rfl
theorem ckL_len {t : Nms} {N : List Str} {sc : Scope} : ∀ (es : Es) {xs : List Expr}, ckL t N sc es xs = true → xs.length = es.len
  | .nil, xs, h => by
    unfold ckL at h
    cases xs with
    | nil => rfl
    | cons => cases h
  | .cons e r, xs, h => by
    unfold ckL at h
    cases xs with
    | nil => cases h
    | cons y ys =>
      simp only [Bool.and_eq_true] at h
      rw [List.length_cons, ckL_len r h.2.2]
      rfl
theorem ckL_plain {t : Nms} {N : List Str} {sc : Scope} : ∀ (es : Es) {xs : List Expr}, ckL t N sc es xs = true → plainB xs = true
  | .nil, xs, h => by
    unfold ckL at h
    cases xs with
    | nil => rfl
    | cons => cases h
  | .cons e r, xs, h => by
    unfold ckL at h
    cases xs with
    | nil => cases h
    | cons y ys =>
      simp only [Bool.and_eq_true] at h
      unfold plainB
      rw [List.all_cons, Bool.and_eq_true]
      exact ⟨h.1, ckL_plain r h.2.2⟩
theorem kw_len {ks : List Str} {kws : List Keyword} (h : kwOk ks kws = true) : (kws.map (·.value)).length = ks.length := by
  unfold kwOk at h
  have h := congrArg List.length (of_decide_eq_true h)
  simpa using h
def P1 (a : Ex) : Prop := ∀ {t : Sta} {k : Nat} {N : List Str} {sc : Scope} {X : Cx} {W : Wm} (G : Good t k N sc X W) (e : Expr), ckE t.nm N sc a e = true → Two X W e (evE t a)
def P2a (es : Es) : Prop := ∀ {t : Sta} {k : Nat} {N : List Str} {sc : Scope} {X : Cx} {W : Wm} (G : Good t k N sc X W) (xs : List Expr), ckL t.nm N sc es xs = true → PA X xs (tL X W (evL t es)) ∧ ∀ kws : List Keyword, kws.map (·.value) = xs → PK X kws (tL X W (evL t es))
def P2b (es : Es) : Prop := ∀ {t : Sta} {k : Nat} {N : List Str} {sc : Scope} {X : Cx} {W : Wm} (G : Good t k N sc X W) (pos : Pos) (ks : List Str) (keys : List (Option Expr)) (vals : List Expr), ckD t.nm N sc ks es keys vals = true → ∃ trs, PDs X W pos ks keys vals (evL t es) trs ∧ es.len = ks.length
def P2 (es : Es) : Prop := P2a es ∧ P2b es
def P3a (o : Op) : Prop := ∀ {t : Sta} {k : Nat} {N : List Str} {sc : Scope} {X : Cx} {W : Wm} (G : Good t k N sc X W) (x : Option Expr), ckO t.nm N sc o x = true → PO X x (tO X W (evO t o))
def P3b (o : Op) : Prop := ∀ {t : Sta} {k : Nat} {N : List Str} {sc : Scope} {X : Cx} {W : Wm} (G : Good t k N sc X W) (xs : List Expr), ckIf t.nm N sc o xs = true → PTs X xs (tTc X W (evC t o))
def P3 (o : Op) : Prop := P3a o ∧ P3b o
def P4 (i : It1) : Prop := ∀ {t : Sta} {k : Nat} {N : List Str} {sc : Scope} {X : Cx} {W : Wm} (G : Good t k N sc X W) (tg x : Expr), ckI t.nm N sc i tg x = true → PI X tg x (tI X W (evI t i))
theorem tE_congr {X : Cx} {W : Wm} {F F' : En → Sto → R D} (h : ∀ s S, F s S = F' s S) : F = F' := funext fun s => funext fun S => h s S
theorem two_congr {X : Cx} {W : Wm} {e : Expr} {F F' : En → Sto → R D} (h : ∀ s S, F s S = F' s S) (q : Two X W e F') : Two X W e F := by
  rw [show F = F' from funext fun s => funext fun S => h s S]
  exact q

theorem sndE_var {i} : P1 (.var i : Ex) := by
  intro t k N sc X W G e h
  unfold ckE at h
  split at h
  · simp only [Bool.and_eq_true, decide_eq_true_eq] at h
    refine two_congr ?_ (two_plain rfl (c_var G h.1 h.2.1 h.2.2))
    intro s S; first | (rw [evE]; done) | (rw [evE]; rfl)
  · cases h

theorem sndE_glo {y} : P1 (.glo y : Ex) := by
  intro t k N sc X W G e h
  unfold ckE at h
  split at h
  · simp only [Bool.and_eq_true, decide_eq_true_eq] at h
    obtain ⟨rfl, h1, h2⟩ := h
    refine two_congr ?_ (two_plain rfl (c_glo G h1 h2))
    intro s S; first | (rw [evE]; done) | (rw [evE]; rfl)
  · cases h

theorem sndE_con {c} : P1 (.con c : Ex) := by
  intro t k N sc X W G e h
  unfold ckE at h
  split at h
  · simp only [Bool.and_eq_true, decide_eq_true_eq] at h
    obtain ⟨rfl, h1⟩ := h
    refine two_congr ?_ (two_plain rfl c_con)
    intro s S; first | (rw [evE]; done) | (rw [evE]; rfl)
  · cases h

theorem sndE_bin {o} {a} {b} (ih_a : P1 a) (ih_b : P1 b) : P1 (.bin o a b : Ex) := by
  intro t k N sc X W G e h
  unfold ckE at h
  split at h
  · simp only [Bool.and_eq_true, decide_eq_true_eq] at h
    obtain ⟨rfl, h1, h2⟩ := h
    refine two_congr ?_ (two_plain rfl (c_bin G (ih_a G _ h1).1 (ih_b G _ h2).1))
    intro s S; first | (rw [evE]; done) | (rw [evE]; rfl)
  · cases h

theorem sndE_neg {a} (ih_a : P1 a) : P1 (.neg a : Ex) := by
  intro t k N sc X W G e h
  unfold ckE at h
  split at h
  · simp only [Bool.and_eq_true, decide_eq_true_eq] at h
    obtain ⟨rfl, h1⟩ := h
    refine two_congr ?_ (two_plain rfl (c_neg (ih_a G _ h1).1))
    intro s S; first | (rw [evE]; done) | (rw [evE]; rfl)
  · cases h

theorem sndE_cmp {o} {a} {b} (ih_a : P1 a) (ih_b : P1 b) : P1 (.cmp o a b : Ex) := by
  intro t k N sc X W G e h
  unfold ckE at h
  split at h
  · simp only [Bool.and_eq_true, decide_eq_true_eq] at h
    obtain ⟨rfl, h0, h1, h2⟩ := h
    refine two_congr ?_ (c_cmp G (ih_a G _ h1).1 (ih_b G _ h2).1 h0)
    intro s S; first | (rw [evE]; done) | (rw [evE]; rfl)
  · cases h

theorem sndE_cmp2 {o} {q} {a} {b} {c} (ih_a : P1 a) (ih_b : P1 b) (ih_c : P1 c) : P1 (.cmp2 o q a b c : Ex) := by
  intro t k N sc X W G e h
  unfold ckE at h
  split at h
  · simp only [Bool.and_eq_true, decide_eq_true_eq] at h
    obtain ⟨rfl, rfl, h0, h1, h2, h3⟩ := h
    refine two_congr ?_ (c_cmp2 G (ih_a G _ h1).1 (ih_b G _ h2).1 (ih_c G _ h3).1 h0)
    intro s S; first | (rw [evE]; done) | (rw [evE]; rfl)
  · cases h

theorem sndE_and {a} {b} (ih_a : P1 a) (ih_b : P1 b) : P1 (.and a b : Ex) := by
  intro t k N sc X W G e h
  unfold ckE at h
  split at h
  · simp only [Bool.and_eq_true, decide_eq_true_eq] at h
    obtain ⟨rfl, h1, h2⟩ := h
    obtain ⟨a1, a2⟩ := ih_a G _ h1
    obtain ⟨b1, b2⟩ := ih_b G _ h2
    refine two_congr ?_ (⟨peI (pe_and a1 (pe_one b1)) fun σ H Q q => and_v q, c_andT a2.pt (pw_and1 b2.pt)⟩)
    intro s S; first | (rw [evE]; done) | (rw [evE]; rfl)
  · simp only [Bool.and_eq_true, decide_eq_true_eq] at h
    obtain ⟨rfl, h1, h2⟩ := h
    obtain ⟨a1, a2⟩ := ih_a G _ h1
    obtain ⟨b1, b2⟩ := ih_b G _ h2
    refine two_congr ?_ (⟨peI (pe_and a1 b1) fun σ H Q q => and_v q, c_andT a2.pt b2⟩)
    intro s S; first | (rw [evE]; done) | (rw [evE]; rfl)
  · cases h

theorem sndE_or {a} {b} (ih_a : P1 a) (ih_b : P1 b) : P1 (.or a b : Ex) := by
  intro t k N sc X W G e h
  unfold ckE at h
  split at h
  · simp only [Bool.and_eq_true, decide_eq_true_eq] at h
    obtain ⟨rfl, h1, h2⟩ := h
    obtain ⟨a1, a2⟩ := ih_a G _ h1
    obtain ⟨b1, b2⟩ := ih_b G _ h2
    refine two_congr ?_ (⟨peI (pe_or a1 (pe_one b1)) fun σ H Q q => or_v q, c_orT a2.pt (pw_or1 b2.pt)⟩)
    intro s S; first | (rw [evE]; done) | (rw [evE]; rfl)
  · simp only [Bool.and_eq_true, decide_eq_true_eq] at h
    obtain ⟨rfl, h1, h2⟩ := h
    obtain ⟨a1, a2⟩ := ih_a G _ h1
    obtain ⟨b1, b2⟩ := ih_b G _ h2
    refine two_congr ?_ (⟨peI (pe_or a1 b1) fun σ H Q q => or_v q, c_orT a2.pt b2⟩)
    intro s S; first | (rw [evE]; done) | (rw [evE]; rfl)
  · cases h

theorem sndE_not {a} (ih_a : P1 a) : P1 (.not a : Ex) := by
  intro t k N sc X W G e h
  unfold ckE at h
  split at h
  · simp only [Bool.and_eq_true, decide_eq_true_eq] at h
    obtain ⟨rfl, h1⟩ := h
    obtain ⟨a1, a2⟩ := ih_a G _ h1
    refine two_congr ?_ (c_not a1 a2.pt)
    intro s S; first | (rw [evE]; done) | (rw [evE]; rfl)
  · cases h

theorem sndE_ite {c} {a} {b} (ih_c : P1 c) (ih_a : P1 a) (ih_b : P1 b) : P1 (.ite c a b : Ex) := by
  intro t k N sc X W G e h
  unfold ckE at h
  split at h
  · simp only [Bool.and_eq_true, decide_eq_true_eq] at h
    obtain ⟨h1, h2, h3⟩ := h
    obtain ⟨c1, c2⟩ := ih_c G _ h1
    obtain ⟨a1, a2⟩ := ih_a G _ h2
    obtain ⟨b1, b2⟩ := ih_b G _ h3
    refine two_congr ?_ (⟨c_ite c2.pt a1 b1, pt_iteD c2.pt a2.pt b2.pt⟩)
    intro s S; first | (rw [evE]; done) | (rw [evE]; rfl)
  · cases h

theorem sndE_tup {es} (ih_es : P2 es) : P1 (.tup es : Ex) := by
  intro t k N sc X W G e h
  unfold ckE at h
  split at h
  · exact two_plain rfl (c_tup (ih_es.1 G _ h).1)
  · cases h

theorem sndE_lst {m} {es} (ih_es : P2 es) : P1 (.lst m es : Ex) := by
  intro t k N sc X W G e h
  unfold ckE at h
  split at h
  · exact two_plain rfl (c_lst (ih_es.1 G _ h).1)
  · cases h

theorem sndE_dct {m} {ks} {es} (ih_es : P2 es) : P1 (.dct m ks es : Ex) := by
  intro t k N sc X W G e h
  unfold ckE at h
  split at h
  · simp only [Bool.and_eq_true, decide_eq_true_eq] at h
    obtain ⟨h15, hnd, h1⟩ := h
    refine two_plain rfl ?_
    rename_i keys vals pos
    cases es with
    | nil =>
      unfold ckD at h1
      simp only [Bool.and_eq_true, List.isEmpty_iff] at h1
      obtain ⟨rfl, rfl, rfl⟩ := h1
      exact c_dct0
    | cons x r =>
      obtain ⟨trs, hd, hl⟩ := ih_es.2 G pos ks keys vals h1
      refine c_dct hd ?_ h15 hnd fun s S ds S' q => by rw [evL_len _ q, hl]
      intro z
      have := hd.kl
      rw [z, ← hl] at this
      cases this
  · cases h

theorem sndE_idx {a} {b} (ih_a : P1 a) (ih_b : P1 b) : P1 (.idx a b : Ex) := by
  intro t k N sc X W G e h
  unfold ckE at h
  split at h
  · simp only [Bool.and_eq_true, decide_eq_true_eq] at h
    obtain ⟨h0, h1, h2⟩ := h
    refine two_congr ?_ (two_plain rfl (c_idx G h0 (ih_a G _ h1).1 (ih_b G _ h2).1))
    intro s S; first | (rw [evE]; done) | (rw [evE]; rfl)
  · cases h

theorem sndE_sl {a} {lo} {hi} (ih_a : P1 a) (ih_lo : P3 lo) (ih_hi : P3 hi) : P1 (.sl a lo hi : Ex) := by
  intro t k N sc X W G e h
  unfold ckE at h
  split at h
  · simp only [Bool.and_eq_true, decide_eq_true_eq] at h
    obtain ⟨h0, h1, h2⟩ := h
    refine two_congr ?_ (two_plain rfl (c_sl (ih_a G _ h0).1 (ih_lo.1 G _ h1) (ih_hi.1 G _ h2)))
    intro s S; first | (rw [evE]; done) | (rw [evE]; rfl)
  · cases h

theorem sndE_call {f} {es} {ks} {kes} (ih_es : P2 es) (ih_kes : P2 kes) : P1 (.call f es ks kes : Ex) := by
  intro t k N sc X W G e h
  unfold ckE at h
  split at h
  · simp only [Bool.and_eq_true, decide_eq_true_eq] at h
    obtain ⟨rfl, h1, h2, h3, h4, h5, h6⟩ := h
    refine two_congr ?_ (two_plain rfl (c_call G h1 h2 h3 (ckL_plain _ h4) h5 (ih_es.1 G _ h4).1 ((ih_kes.1 G _ h6).2 _ rfl) fun s S ds S' q => ?q))
    · intro s S; first | (rw [evE]; done) | (rw [evE]; rfl)
    rw [evL_len _ q, ← ckL_len _ h6, kw_len h5]
  · cases h

theorem sndE_bi {f} {es} (ih_es : P2 es) : P1 (.bi f es : Ex) := by
  intro t k N sc X W G e h
  unfold ckE at h
  split at h
  · simp only [Bool.and_eq_true, decide_eq_true_eq] at h
    obtain ⟨rfl, h1, h2, h3, h4, h5⟩ := h
    refine two_congr ?_ (two_plain rfl (c_bi G h3 h1 h4 h2 (ckL_plain _ h5) (ih_es.1 G _ h5).1))
    intro s S; first | (rw [evE]; done) | (rw [evE]; rfl)
  · cases h

theorem sndE_mt {a} {m} {es} (ih_a : P1 a) (ih_es : P2 es) : P1 (.mt a m es : Ex) := by
  intro t k N sc X W G e h
  unfold ckE at h
  split at h
  · simp only [Bool.and_eq_true, decide_eq_true_eq] at h
    obtain ⟨rfl, h1, h2, h3, h4, h5, h6⟩ := h
    refine two_congr ?_ (two_plain rfl (c_mt h1 h2 h3 h4 (ckL_plain _ h6) (ih_a G _ h5).1 (ih_es.1 G _ h6).1))
    intro s S; first | (rw [evE]; done) | (rw [evE]; rfl)
  · cases h

theorem sndE_lam {f} {a} (ih_a : P1 a) : P1 (.lam f a : Ex) := by
  intro t k N sc X W G e h
  unfold ckE at h
  split at h
  · simp only [Bool.and_eq_true, decide_eq_true_eq] at h
    obtain ⟨rfl, h1, h2, h3, h4, h5, h6⟩ := h
    refine two_plain rfl ?_
    cases hh : t.hot with
    | some z => exact pe_bad (fun s S => by rw [evE]; unfold Sta.cold; rw [hh]; rfl)
    | none =>
      cases hl : t.lam with
      | false => exact pe_bad (fun s S => by rw [evE]; unfold Sta.cold; rw [hh, hl]; rfl)
      | true =>
        refine peI (c_lam (fb := evE t.inner a) G hh hl h1 h2 h3 h4 h5 fun Xl E Gl _ => (ih_a Gl _ h6).1) fun σ H Q q => ?_
        rename_i y p1 params body scope p2 p3
        have e1 : evE t (.lam y a) = fun s S => t.L y (fun S1 => evE t.inner a s S1) S := by
          funext s S
          rw [evE]
          unfold Sta.cold
          rw [hh, hl]
          rfl
        rw [e1] at q
        exact q
  · cases h

theorem sndE_isE {i} {c} (ih_c : P1 c) : P1 (.isE i c : Ex) := by
  intro t k N sc X W G e h
  unfold ckE at h
  split at h
  · simp only [Bool.and_eq_true, decide_eq_true_eq] at h
    obtain ⟨rfl, h1, h2, h3, h4, h5, h6, h7⟩ := h
    refine two_congr ?_ (two_plain rfl (c_isE G h1 h2 h3 h4 h5 h6 (ih_c G _ h7).1))
    intro s S; first | (rw [evE]; done) | (rw [evE]; rfl)
  · cases h

theorem sndE_fldE {i} {f} : P1 (.fldE i f : Ex) := by
  intro t k N sc X W G e h
  unfold ckE at h
  split at h
  · simp only [Bool.and_eq_true, decide_eq_true_eq] at h
    obtain ⟨rfl, h1, h2, h3⟩ := h
    refine two_congr ?_ (two_plain rfl (c_fldE G h1 h2 h3))
    intro s S; first | (rw [evE]; done) | (rw [evE]; rfl)
  · cases h

theorem sndE_act {i} : P1 (.act i : Ex) := by
  intro t k N sc X W G e h
  unfold ckE at h
  split at h
  · simp only [Bool.and_eq_true, decide_eq_true_eq] at h
    obtain ⟨h1, h2, h3⟩ := h
    refine two_congr ?_ (two_plain rfl (c_act G h1 h2 h3))
    intro s S; first | (rw [evE]; done) | (rw [evE]; rfl)
  · cases h

theorem sndE_err0 {C} {m} : P1 (.err0 C m : Ex) := by
  intro t k N sc X W G e h
  unfold ckE at h
  split at h
  · simp only [Bool.and_eq_true, decide_eq_true_eq] at h
    obtain ⟨rfl, rfl, h1, h2⟩ := h
    refine two_congr ?_ (two_plain rfl (c_err0 G h1 h2))
    intro s S; first | (rw [evE]; done) | (rw [evE]; rfl)
  · cases h

theorem sndE_err1 {C} {a} (ih_a : P1 a) : P1 (.err1 C a : Ex) := by
  intro t k N sc X W G e h
  unfold ckE at h
  split at h
  · simp only [Bool.and_eq_true, decide_eq_true_eq] at h
    obtain ⟨rfl, h1, h2, h3, h4⟩ := h
    refine two_congr ?_ (two_plain rfl (c_err1 G h1 h2 h3 (ih_a G _ h4).1))
    intro s S; first | (rw [evE]; done) | (rw [evE]; rfl)
  · cases h

theorem sndE_errK {C} {f} {a} (ih_a : P1 a) : P1 (.errK C f a : Ex) := by
  intro t k N sc X W G e h
  unfold ckE at h
  split at h
  · simp only [Bool.and_eq_true, decide_eq_true_eq] at h
    obtain ⟨rfl, h1, h2, h3, h4⟩ := h
    refine two_congr ?_ (two_plain rfl (c_errK (f := evE t a) G h1 h2 h3 fun v hv => by rw [hv] at h4; simp only [Bool.and_eq_true] at h4; exact (ih_a G _ h4.2).1))
    intro s S; first | (rw [evE]; done) | (rw [evE]; rfl)
  · cases h

theorem sndE_att {a} {f} (ih_a : P1 a) : P1 (.att a f : Ex) := by
  intro t k N sc X W G e h
  unfold ckE at h
  split at h
  · simp only [Bool.and_eq_true, decide_eq_true_eq] at h
    obtain ⟨rfl, h1, h2⟩ := h
    refine two_congr ?_ (two_plain rfl (c_att G h1 (ih_a G _ h2).1))
    intro s S; first | (rw [evE]; done) | (rw [evE]; rfl)
  · cases h

theorem sndE_lc {m} {own} {tg} {it} {c} {a} (ih_it : P4 it) (ih_c : P3 c) (ih_a : P1 a) : P1 (.lc m own tg it c a : Ex) := by
  intro t k N sc X W G e h
  unfold ckE at h
  split at h
  · simp only [Bool.and_eq_true, decide_eq_true_eq] at h
    obtain ⟨h1, h2, h3, h4, h5, h6, h7⟩ := h
    refine two_plain rfl ?_
    cases hh : t.hot with
    | some z => exact pe_bad (fun s S => by rw [evE]; unfold Sta.cold; rw [hh]; rfl)
    | none =>
      refine peI (c_lc (m := m) (fc := evC t.blk c) (fe := evE t.blk a) (fi := evI t it) G hh h1 h2 h3 h5 (ih_it G _ _ h4) (fun Xb Gb _ => ih_c.2 Gb _ h6) fun Xb Gb _ => (ih_a Gb _ h7).1) fun σ H Q q => ?_
      have e1 : evE t (.lc m own tg it c a) = lcF m tg (own.map (·.2)) (evI t it) (evC t.blk c) (evE t.blk a) := by
        funext s S
        rw [evE]
        unfold Sta.cold
        rw [hh]
        rfl
      rw [e1] at q
      exact q
  · cases h

theorem sndL_nil : P2a (.nil : Es) := by
  intro t k N sc X W G xs h
  unfold ckL at h
  cases xs with
  | nil =>
    refine ⟨c_nil, fun kws z => ?_⟩
    cases kws with
    | nil => exact c_nilK
    | cons => cases z
  | cons => cases h

theorem sndL_cons {a} {r} (ih_a : P1 a) (ih_r : P2 r) : P2a (.cons a r : Es) := by
  intro t k N sc X W G xs h
  unfold ckL at h
  cases xs with
  | nil => cases h
  | cons y ys =>
    simp only [Bool.and_eq_true] at h
    obtain ⟨h1, h2, h3⟩ := h
    have ha := (ih_a G _ h2).1
    obtain ⟨r1, r2⟩ := ih_r.1 G _ h3
    refine ⟨c_cons h1 ha r1, fun kws z => ?_⟩
    cases kws with
    | nil => cases z
    | cons kw kws =>
      rw [List.map_cons] at z
      injection z with z1 z2
      obtain ⟨nm, v, p⟩ := kw
      have z1 : v = y := z1
      subst z1
      exact c_consK ha (r2 kws z2)

theorem sndO_no : P3a (.no : Op) := by
  intro t k N sc X W G x h
  unfold ckO at h
  cases x with
  | none => exact c_no
  | some => cases h

theorem sndO_yes {e} (ih_e : P1 e) : P3a (.yes e : Op) := by
  intro t k N sc X W G x h
  unfold ckO at h
  cases x with
  | none => cases h
  | some y => exact c_yes (ih_e G _ h).1

theorem sndC_no : P3b (.no : Op) := by
  intro t k N sc X W G xs h
  unfold ckIf at h
  cases xs with
  | nil => exact ⟨fun pins s σ H Q I ⟨S, r, e, emb, he, oo⟩ => pts_nil.run pins s σ H Q I (out_same emb oo)⟩
  | cons => cases h

theorem sndC_yes {e} (ih_e : P1 e) : P3b (.yes e : Op) := by
  intro t k N sc X W G xs h
  unfold ckIf at h
  split at h
  · have ht := (ih_e G _ h).2.pt
    refine ⟨fun pins s σ H Q I hx => (pts_one ht).run pins s σ H Q I ?_⟩
    obtain ⟨S, r, en, emb, he, oo⟩ := hx
    refine on_seq emb he oo fun x S1 r1 H1 st1 emb1 he1 o1 => ?_
    split at o1
    · exact ⟨_, rfl, out_same emb1 o1⟩
    · exact o1.elim
  · cases h

theorem sndI_ex {e} (ih_e : P1 e) : P4 (.ex e : It1) := by
  intro t k N sc X W G tg x h
  unfold ckI at h
  exact i_ex (ih_e G _ h).1

theorem sndI_rng {a} (ih_a : P1 a) : P4 (.rng a : It1) := by
  intro t k N sc X W G tg x h
  unfold ckI at h
  split at h
  · simp only [Bool.and_eq_true, decide_eq_true_eq] at h
    obtain ⟨rfl, h1, h2, h3, h4⟩ := h
    exact i_rng G h1 h2 h3 (ih_a G _ h4).1
  · cases h

theorem sndI_rng2 {a} {b} (ih_a : P1 a) (ih_b : P1 b) : P4 (.rng2 a b : It1) := by
  intro t k N sc X W G tg x h
  unfold ckI at h
  split at h
  · simp only [Bool.and_eq_true, decide_eq_true_eq] at h
    obtain ⟨rfl, h1, h2, h3, h4, h5, h6⟩ := h
    exact i_rng2 G h1 h2 h3 h4 (ih_a G _ h5).1 (ih_b G _ h6).1
  · cases h

theorem sndI_enm {a} (ih_a : P1 a) : P4 (.enm a : It1) := by
  intro t k N sc X W G tg x h
  unfold ckI at h
  split at h
  · simp only [Bool.and_eq_true, decide_eq_true_eq] at h
    obtain ⟨rfl, h0, h1, h2, h3, h4⟩ := h
    exact i_enm G h0 h1 h2 h3 (ih_a G _ h4).1
  · cases h

theorem sndD_nil : P2b (.nil : Es) := by
  intro t k N sc X W G pos ks keys vals h
  unfold ckD at h
  simp only [Bool.and_eq_true, List.isEmpty_iff] at h
  obtain ⟨rfl, rfl, rfl⟩ := h
  exact ⟨[], d_nil, rfl⟩

theorem sndD_cons {e} {r} (ih_e : P1 e) (ih_r : P2 r) : P2b (.cons e r : Es) := by
  intro t k N sc X W G pos ks keys vals h
  unfold ckD at h
  split at h
  · simp only [Bool.and_eq_true, decide_eq_true_eq] at h
    obtain ⟨rfl, h1, h2⟩ := h
    obtain ⟨trs, hd, hl⟩ := ih_r.2 G pos _ _ _ h2
    exact ⟨_, d_cons (ih_e G _ h1).1 hd, by rw [Es.len, hl, List.length_cons]⟩
  · cases h
theorem sndE_all : ∀ a : Ex, P1 a := @Ex.rec P1 P2 P3 P4
  (fun _ => sndE_var) (fun _ => sndE_glo) (fun _ => sndE_con) (fun _ _ _ ha hb => sndE_bin ha hb) (fun _ ha => sndE_neg ha) (fun _ _ _ ha hb => sndE_cmp ha hb) (fun _ _ _ _ _ ha hb hc => sndE_cmp2 ha hb hc) (fun _ _ ha hb => sndE_and ha hb) (fun _ _ ha hb => sndE_or ha hb) (fun _ ha => sndE_not ha) (fun _ _ _ hc ha hb => sndE_ite hc ha hb) (fun _ he => sndE_tup he) (fun _ _ he => sndE_lst he) (fun _ _ _ he => sndE_dct he) (fun _ _ ha hb => sndE_idx ha hb) (fun _ _ _ ha hl hh => sndE_sl ha hl hh) (fun _ _ _ _ he hK => sndE_call he hK) (fun _ _ he => sndE_bi he) (fun _ _ _ ha he => sndE_mt ha he) (fun _ _ _ _ _ _ hi hc he => sndE_lc hi hc he) (fun _ _ he => sndE_lam he) (fun _ _ hc => sndE_isE hc) (fun _ _ => sndE_fldE) (fun _ => sndE_act) (fun _ _ => sndE_err0) (fun _ _ he => sndE_err1 he) (fun _ _ _ he => sndE_errK he) (fun _ _ ha => sndE_att ha)
  ⟨sndL_nil, sndD_nil⟩ (fun _ _ a r => ⟨sndL_cons a r, sndD_cons a r⟩) ⟨sndO_no, sndC_no⟩ (fun _ a => ⟨sndO_yes a, sndC_yes a⟩) (fun _ a => sndI_ex a) (fun _ a => sndI_rng a) (fun _ _ a b => sndI_rng2 a b) (fun _ a => sndI_enm a)
theorem sndI_all : ∀ i : It1, P4 i
  | .ex e => sndI_ex (sndE_all e)
  | .rng a => sndI_rng (sndE_all a)
  | .rng2 a b => sndI_rng2 (sndE_all a) (sndE_all b)
  | .enm a => sndI_enm (sndE_all a)
theorem sndL_all2 : ∀ es : Es, P2 es
  | .nil => ⟨sndL_nil, sndD_nil⟩
  | .cons a r => ⟨sndL_cons (sndE_all a) (sndL_all2 r), sndD_cons (sndE_all a) (sndL_all2 r)⟩
end Fw

set_option Elab.async false
set_option linter.all false
set_option maxRecDepth 100000
set_option maxHeartbeats 4000000
namespace Fw
open PySem PySem.Spec PyProof.Rows L2
variable [Tb]
/-! rows of a def -/
mutual
inductive Sm where
  | set (i : Nat) (e : Ex)
  | par (is : List Nat) (es : Es)
  | asg (tg : Tg) (e : Ex)
  | sub (o i e : Ex)
  | cond (c : Ex) (a b : Ss)
  | loop (tg : Tg) (it : It1) (b : Ss)
  | ret (e : Ex)
  | retN
  | expr (e : Ex)
  | raise (C : Str) (m : Str)
  | raiseE (C : Str) (e : Ex)
  | tryN (b : Ss) (x : Str) (h : Ss)
  | tryA (b : Ss) (x : Str) (i : Nat) (h : Ss)
inductive Ss where
  | nil
  | cons (a : Sm) (r : Ss)
end
/-- how a row ends -/
inductive Fl where
  | next (s : En)
  | ret (d : D)
  | brk (s : En)
  | cont (s : En)
  | exc (x : Xc) (s : En)
def R.bindS {α : Type} (r : R α) (s : En) (k : α → Sto → R Fl) : R Fl := match r with
  | .ok a S => k a S
  | .exc x S => .ok (.exc x s) S
  | .bad => .bad
def repD : List Key → List D → Key → D → List D
  | k :: ks, d :: ds, q, v => (if k = q then v else d) :: repD ks ds q v
  | _, _, _, _ => []
def putD (ks : List Key) (ds : List D) (q : Key) (v : D) : List Key × List D := if (ks.any fun k => decide (k = q)) = true then (ks, repD ks ds q v) else (ks ++ [q], ds ++ [v])
def setD (o i v : D) (S : Sto) : Option Sto := match o with
  | .ref l => (match S[l]? with
    | some (.dct ks ds) => (keyD i).bind fun q => if ks.length < 1000 ∧ ks.length = ds.length then some (S.set l (.dct (putD ks ds q v).1 (putD ks ds q v).2)) else none
    | some (.lst ds) => (match i with
      | .int k => (ixN ds.length k).map fun j => S.set l (.lst (ds.set j v))
      | _ => none)
    | _ => none)
  | _ => none
def setAll : List Nat → List D → En → Option En
  | [], [], s => some s
  | i :: is, d :: ds, s => setAll is ds (s.set i (some d))
  | _, _, _ => none
def forGo (all : List D) (w : Option Nat) (b : D → En → Sto → R Fl) : List D → En → Sto → R Fl
  | [], s, S => if okB S all w = true then .ok (.next s) S else .bad
  | d :: r, s, S => if okB S all w = true then (match b d s S with
    | .ok (.next s1) S1 => forGo all w b r s1 S1
    | .ok (.cont s1) S1 => forGo all w b r s1 S1
    | .ok (.brk s1) S1 => .ok (.next s1) S1
    | .ok f S1 => .ok f S1
    | _ => .bad) else .bad
def Sta.suite (t : Sta) (i : Option Nat) (x : Xc) : Sta := { t with lam := false, thk := none, hot := some (i, x) }
/-- no error leaves a suite -/
def noXs : R Fl → R Fl
  | .ok (.exc _ _) _ => .bad
  | r => r
def unslot (i : Nat) : R Fl → R Fl
  | .ok (.next s) S => .ok (.next (s.set i none)) S
  | .ok (.brk s) S => .ok (.brk (s.set i none)) S
  | .ok (.cont s) S => .ok (.cont (s.set i none)) S
  | r => r
mutual
def evS : Sm → Sta → En → Sto → R Fl
  | .set i e, t, s, S => (evE t e s S).bindS s fun d S1 => .ok (.next (s.set i (some d))) S1
  | .par is es, t, s, S => t.cold ((evL t es s S).bindS s fun ds S1 => match setAll is ds s with
    | some s1 => .ok (.next s1) S1
    | none => .bad)
  | .asg tg e, t, s, S => t.cold ((evE t e s S).bindS s fun d S1 => match tgD tg d s with
    | some s1 => .ok (.next s1) S1
    | none => .bad)
  | .sub o i e, t, s, S => (evE t e s S).bindS s fun v S1 => (evE t o s S1).bindS s fun x S2 => (evE t i s S2).bindS s fun y S3 => match setD x y v S3 with
    | some S4 => .ok (.next s) S4
    | none => .bad
  | .cond c a b, t, s, S => (evE t c s S).bindS s fun x S1 => match x with
    | .bl true => evSs a t s S1
    | .bl false => evSs b t s S1
    | _ => .bad
  | .loop tg it b, t, s, S => t.cold ((evI t it s S).bindS s fun q S1 => forGo q.1 q.2 (fun d s S => match tgD tg d s with
    | some s1 => evSs b t s1 S
    | none => .bad) q.1 s S1)
  | .ret e, t, s, S => (evE t e s S).bindS s fun d S1 => .ok (.ret d) S1
  | .retN, _, _, S => .ok (.ret .non) S
  | .expr e, t, s, S => (evE t e s S).bindS s fun _ S1 => .ok (.next s) S1
  | .raise C _, t, s, S => t.cold (if C ∈ t.RX then .ok (.exc ⟨C, [], []⟩ s) S else .bad)
  | .raiseE C e, t, s, S => t.cold (match errF t C with
    | some (f, m) => (evE t e s S).bindS s fun d S1 => if errOk m d = true then .ok (.exc ⟨C, [f], [d]⟩ s) S1 else .bad
    | none => .bad)
  | .tryN b x h, t, s, S => t.cold (match evSs b t s S with
    | .ok (.exc e s1) S1 => (match t.EI e.C x with
      | some true => if e.C ∈ t.EC then noXs (evSs h (t.suite none e) s1 S1) else .bad
      | some false => .ok (.exc e s1) S1
      | none => .bad)
    | r => r)
  | .tryA b x i h, t, s, S => t.cold (match evSs b t s S with
    | .ok (.exc e s1) S1 => (match t.EI e.C x with
      | some true => if e.C ∈ t.EC ∧ i < s1.length then unslot i (noXs (evSs h (t.suite (some i) e) (s1.set i none) S1)) else .bad
      | some false => .ok (.exc e s1) S1
      | none => .bad)
    | r => r)
def evSs : Ss → Sta → En → Sto → R Fl
  | .nil, _, s, S => .ok (.next s) S
  | .cons a r, t, s, S => match evS a t s S with
    | .ok (.next s1) S1 => evSs r t s1 S1
    | q => q
end
/-! does a text stand for a row? -/
def isComp : Expr → Bool
  | .ListComp _ _ _ _ => true
  | .SetComp _ _ _ _ => true
  | .DictComp _ _ _ _ _ => true
  | _ => false
def swNames (sc : Scope) (ts : List Expr) : List Str := ts.filterMap fun
    | .Name id pos => if sc.names.lookup id == some .local && pos.line == (ts.head?.map (·.pos.line)).getD 0 then some id else none
    | _ => none
/-- how a, b = x, y stores: at once (none), or name by name -/
def swS (sc : Scope) (ts vs : List Expr) : Option (Option (List Str)) :=
  if !(ts.length == 2 || ts.length == 3) || vs.length != ts.length then some none
  else if (vs.any fun | .Starred .. => true | _ => false) then some none
  else if (swNames sc ts).length != ts.length || (swNames sc ts).eraseDups.length != (swNames sc ts).length then some none
  else if vs.all (foldedForSure 8) then some none
  else if vs.all (constantsAlone 8) then none
  else some (some (swNames sc ts))
def nmsB (N : List Str) (sc : Scope) : List Nat → List Expr → Bool
  | [], [] => true
  | i :: is, .Name x _ :: es => decide (N[i]? = some x) && (decide (sc.names.lookup x = some .local) && nmsB N sc is es)
  | _, _ => false
def nmOf : Expr → Str
  | .Name x _ => x
  | _ => ""
def locS (sc : Scope) (x : Str) : Bool := decide (sc.names.lookup x = some .local) || decide (sc.names.lookup x = some .cell)
mutual
def ckS (t : Nms) (N : List Str) (sc : Scope) : Sm → List Nat → Stmt → Bool
  | .set i e, fx, st => match st with
    | .Assign [.Name x _] v _ => decide (N[i]? = some x) && (locS sc x && (decide (i ∉ fx) && ckE t N sc e v))
    | _ => false
  | .par is es, fx, st => match st with
    | .Assign [.Tuple ts _ _] (.Tuple vs _ _) _ => nmsB N sc is ts && (decide is.Nodup && ((is.all fun i => decide (i ∉ fx)) && ((decide (is.length = 2) || decide (is.length = 3)) && (decide (swS sc ts vs = some (some (ts.map nmOf))) && ckL t N sc es vs))))
    | _ => false
  | .asg tg e, fx, st => match st with
    | .Assign [.Tuple ts k p] v _ => (match v with
      | .Tuple vs _ _ => decide (swS sc ts vs = some none)
      | v => !isComp v) && (ckT true N sc tg (.Tuple ts k p) && (((slT tg).all fun i => decide (i ∉ fx)) && ckE t N sc e v))
    | _ => false
  | .sub o i e, fx, st => match st with
    | .Assign [.Subscript eo ei _] v _ => notSl ei && (ckE t N sc o eo && (ckE t N sc i ei && ckE t N sc e v))
    | _ => false
  | .cond c a b, fx, st => match st with
    | .If ec xs ys _ => ckE t N sc c ec && (ckSs t N sc a fx xs && ckSs t N sc b fx ys)
    | _ => false
  | .loop tg it b, fx, st => match st with
    | .For et ei xs [] _ => ckT true N sc tg et && (((slT tg).all fun i => decide (i ∉ fx)) && (conSet ei && (ckI t N sc it et ei && ckSs t N sc b fx xs)))
    | _ => false
  | .ret e, fx, st => match st with
    | .Return (some v) _ => ckE t N sc e v
    | _ => false
  | .retN, _, st => match st with
    | .Return none _ => true
    | _ => false
  | .expr e, fx, st => match st with
    | .Expr v _ => !isComp v && ckE t N sc e v
    | _ => false
  | .raise C m, fx, st => match st with
    | .Raise (some (.Call (.Name x _) [.Constant (.str m') _ _] [] _)) none _ => decide (x = C) && (decide (m' = m) && (glB sc x && nmB x))
    | _ => false
  | .raiseE C e, fx, st => match st with
    | .Raise (some (.Call (.Name x _) [b] [] _)) none _ => decide (x = C) && (glB sc x && (nmB x && (notStar b && ckE t N sc e b)))
    | _ => false
  | .tryN b x h, fx, st => match st with
    | .Try xs [.ExceptHandler (some (.Name y _)) none (b0 :: ys) _] [] [] _ => decide (y = x) && (glB sc y && (nmB y && (decide (x ∈ t.CN) && (ckSs t N sc b fx xs && ckSs t N sc h fx (b0 :: ys)))))
    | _ => false
  | .tryA b x i h, fx, st => match st with
    | .Try xs [.ExceptHandler (some (.Name y _)) (some n) (b0 :: ys) _] [] [] _ => decide (y = x) && (glB sc y && (nmB y && (decide (x ∈ t.CN) && (decide (N[i]? = some n) && (decide (sc.names.lookup n = some .local) && (decide (i ∉ fx) && (ckSs t N sc b fx xs && ckSs t N sc h (i :: fx) (b0 :: ys))))))))
    | _ => false
def ckSs (t : Nms) (N : List Str) (sc : Scope) : Ss → List Nat → List Stmt → Bool
  | .nil, _, xs => xs.isEmpty
  | .cons a r, fx, xs => match xs with
    | y :: ys => ckS t N sc a fx y && ckSs t N sc r fx ys
    | [] => false
end
end Fw

set_option Elab.async false
set_option linter.all false
set_option maxRecDepth 100000
set_option maxHeartbeats 4000000
namespace Fw
open PySem PySem.Spec PyProof.Rows L2
variable [Tb]
/-- what a row's end is to reach -/
def GF (X : Cx) (W : Wm) (De : Ends) : Fl → Sto → Rho → Hp → Prop
  | .next e, S, r, H => ∀ σ, EnvR (Wo X) W S.length r H e σ → De.nx σ H
  | .brk e, S, r, H => ∀ σ, EnvR (Wo X) W S.length r H e σ → De.bk σ H
  | .cont e, S, r, H => ∀ σ, EnvR (Wo X) W S.length r H e σ → De.ct σ H
  | .ret d, S, r, H => ∀ v, Rep (Wo X) S.length r H d v → De.rt v H
  | .exc x e, S, r, H => ∀ σ cls dd, EnvR (Wo X) W S.length r H e σ → XRep (Wo X) S.length r H x cls dd → W.w cls dd σ H
def tS (X : Cx) (W : Wm) (f : En → Sto → R Fl) : TS := fun De σ H => ∃ S r e, Emb (Wo X) S r H ∧ EnvR (Wo X) W S.length r H e σ ∧ Out (Wo X) S.length r H (GF X W De) Xn (f e S)
structure GoodS (t : Sta) (k : Nat) (N : List Str) (sc : Scope) (X : Cx) (W : Wm) (fx : List Nat) : Prop where
  g : Good t k N sc X W
  fnT : ∀ x, X.fn x = true
  st : X.stack = X.env :: X.outer
  fr : X.env.frame = some X.env.locals
  kd : sc.kind = .function
  po : t.hot = none → PassesOwn (model X.prog X.w) X.A X.env X.xe
  fxs : ∀ i ∈ W.fix, i ∈ fx
/-- one part of a row, then the rest -/
theorem on_stm {α : Type} {X : Cx} {W : Wm} {f : En → Sto → R α} {k : α → Sto → R Fl} {G' : α → Sto → Rho → Hp → Prop} {De : Ends} {σ : L2.St} {S : Sto} {r : Rho} {H : Hp} {e : En}
    (emb : Emb (Wo X) S r H) (he : EnvR (Wo X) W S.length r H e σ) (o : Out (Wo X) S.length r H (GF X W De) Xn ((f e S).bindS e k))
    (hk : ∀ a S1 r1 H1, Stp S.length r H S1.length r1 H1 → Emb (Wo X) S1 r1 H1 → EnvR (Wo X) W S1.length r1 H1 e σ → Out (Wo X) S1.length r1 H1 (GF X W De) Xn (k a S1) → G' a S1 r1 H1) : tA X W f G' σ H := by
  refine ⟨S, r, e, emb, he, ?_⟩
  cases hq : f e S with
  | bad => rw [hq] at o; exact o.elim
  | exc x S1 =>
    rw [hq] at o
    exact fun r1 H1 st em cls dd hx => o r1 H1 st em σ cls dd (he.stp st) hx
  | ok a S1 =>
    rw [hq] at o
    intro r1 H1 st em
    refine hk a S1 r1 H1 st em (he.stp st) ?_
    have o : Out (Wo X) S.length r H (GF X W De) Xn (k a S1) := o
    revert o
    generalize k a S1 = y
    intro o
    cases y with
    | ok b S2 => exact fun r2 H2 s2 e2 => o r2 H2 (st.trans s2) e2
    | exc x S2 => exact fun r2 H2 s2 e2 => o r2 H2 (st.trans s2) e2
    | bad => exact o
theorem psI {X : Cx} {e : Stmt} {t t' : TS} (h : PS X e t) (g : ∀ De σ H, t' De σ H → t De σ H) : PS X e t' := ⟨fun pins s σ H De I q => h.run pins s σ H De I (g De σ H q)⟩
theorem pssI {X : Cx} {e : List Stmt} {t t' : TS} (h : PSs X e t) (g : ∀ De σ H, t' De σ H → t De σ H) : PSs X e t' := ⟨fun pins s σ H De I q => h.run pins s σ H De I (g De σ H q)⟩
section
variable {X : Cx} {W : Wm} {t : Sta} {k : Nat} {N : List Str} {sc : Scope} {fx : List Nat} {a b c : Expr} {f g h : En → Sto → R D} {pos : Pos} {De : Ends}
theorem EnvR.set (G : GoodS t k N sc X W fx) {n : Nat} {r : Rho} {H : Hp} {e : En} {σ : L2.St} {d : D} {v : V} (h : EnvR (Wo X) W n r H e σ) {i : Nat} (hi : i ∉ fx) (hv : Rep (Wo X) n r H d v) : EnvR (Wo X) W n r H (e.set i (some d)) (σ.set i (some v)) :=
  ⟨h.rep.set i hv, W.keep _ _ _ _ _ (fun j hj => List.getElem?_set_ne (fun z => hi (by rw [z]; exact G.fxs j hj))) h.inv⟩
theorem EnvR.off (G : GoodS t k N sc X W fx) {n : Nat} {r : Rho} {H : Hp} {e e' : En} {σ σ' : L2.St} (h : EnvR (Wo X) W n r H e σ) (h' : RepE (Wo X) n r H e' σ') {sl : List Nat} (hs : ∀ j, j ∉ sl → σ'[j]? = σ[j]?) (hf : ∀ i ∈ sl, i ∉ fx) : EnvR (Wo X) W n r H e' σ' :=
  ⟨h', W.keep _ _ _ _ _ (fun j hj => hs j fun z => hf j z (G.fxs j hj)) h.inv⟩
theorem loc_of (G : GoodS t k N sc X W fx) {x : Str} (h : locS sc x = true) : Loc X.env.scope x := by
  rw [G.g.hs]
  unfold locS at h
  unfold L2.Loc
  simpa using h
theorem blk_fn (G : GoodS t k N sc X W fx) : X.env.blockKind = .function := by
  unfold Env.blockKind
  rw [G.g.hs, G.kd]
  rfl
/-- x = e -/
theorem set_imp (G : GoodS t k N sc X W fx) {i : Nat} (hi : i ∉ fx) {σ : L2.St} {H : Hp} (hx : tS X W (fun s S => (f s S).bindS s fun d S1 => .ok (.next (s.set i (some d))) S1) De σ H) : tAsg (tE X W f) (gName i) De σ H := by
  obtain ⟨S, r, e, emb, he, oo⟩ := hx
  refine on_stm (f := f) emb he oo fun d S1 r1 H1 st1 emb1 he1 o1 v hv => ?_
  exact out_same emb1 o1 _ (he1.set G hi hv)
theorem sw_no {v : Expr} {tg : Option Expr} {l : Nat} {env : Env} (h : isComp v = false) : swapsWith v tg l env = pure false := by
  cases v <;> first | rfl | cases h
theorem sw_sub {v o i : Expr} {p : Pos} {l : Nat} {env : Env} : swapsWith v (some (.Subscript o i p)) l env = pure false := by
  cases v <;> rfl
theorem sw_tup {v : Expr} {ts : List Expr} {kk : Nat} {p : Pos} {l : Nat} {env : Env} : swapsWith v (some (.Tuple ts kk p)) l env = pure false := by
  cases v <;> rfl
/-- a, b = e -/
theorem asg_imp (G : GoodS t k N sc X W fx) {tg : Tg} (hf : ∀ i ∈ slT tg, i ∉ fx) {σ : L2.St} {H : Hp} (hx : tS X W (fun s S => (f s S).bindS s fun d S1 => match tgD tg d s with
    | some s1 => .ok (.next s1) S1
    | none => .bad) De σ H) : tAsg (tE X W f) (tGt X tg) De σ H := by
  obtain ⟨S, r, e, emb, he, oo⟩ := hx
  refine on_stm (f := f) emb he oo fun d S1 r1 H1 st1 emb1 he1 o1 v hv => ?_
  split at o1
  · rename_i s1 hs1
    exact ⟨S1.length, r1, e, d, s1, he1.rep, hv, hs1, fun σ' b1 b2 b3 => out_same emb1 o1 _ (he1.off G b1 b2 hf)⟩
  · exact o1.elim
/-- e; -/
theorem drop_imp {σ : L2.St} {H : Hp} (hx : tS X W (fun s S => (f s S).bindS s fun _ S1 => .ok (.next s) S1) De σ H) : tDrop (tE X W f) De σ H := by
  obtain ⟨S, r, e, emb, he, oo⟩ := hx
  refine on_stm (f := f) emb he oo fun d S1 r1 H1 st1 emb1 he1 o1 v hv => ?_
  exact out_same emb1 o1 _ he1
theorem ret_imp {σ : L2.St} {H : Hp} (hx : tS X W (fun s S => (f s S).bindS s fun d S1 => .ok (.ret d) S1) De σ H) : tRet (tE X W f) De σ H := by
  obtain ⟨S, r, e, emb, he, oo⟩ := hx
  refine on_stm (f := f) emb he oo fun d S1 r1 H1 st1 emb1 he1 o1 v hv => ?_
  exact out_same emb1 o1 _ hv
theorem retN_imp {σ : L2.St} {H : Hp} (hx : tS X W (fun _ S => .ok (.ret .non) S) De σ H) : tRetN De σ H := by
  obtain ⟨S, r, e, emb, he, oo⟩ := hx
  exact out_same emb oo _ (by rw [Rep])
theorem cond_imp {fa fb : En → Sto → R Fl} {σ : L2.St} {H : Hp} (hx : tS X W (fun s S => (f s S).bindS s fun x S1 => match x with
    | .bl true => fa s S1
    | .bl false => fb s S1
    | _ => .bad) De σ H) : tIfS (tT X W f) (tS X W fa) (tS X W fb) De σ H := by
  obtain ⟨S, r, e, emb, he, oo⟩ := hx
  refine on_stm (f := f) emb he oo fun x S1 r1 H1 st1 emb1 he1 o1 => ?_
  split at o1
  · exact ⟨true, rfl, iteT ⟨S1, r1, e, emb1, he1, o1⟩⟩
  · exact ⟨false, rfl, iteF ⟨S1, r1, e, emb1, he1, o1⟩⟩
  · exact o1.elim
theorem nil_imp {σ : L2.St} {H : Hp} (hx : tS X W (fun s S => .ok (.next s) S) De σ H) : tNext De σ H := by
  obtain ⟨S, r, e, emb, he, oo⟩ := hx
  exact out_same emb oo _ he
theorem seq_imp {fa fb : En → Sto → R Fl} {σ : L2.St} {H : Hp} (hx : tS X W (fun s S => match fa s S with
    | .ok (.next s1) S1 => fb s1 S1
    | q => q) De σ H) : tSeq (tS X W fa) (tS X W fb) De σ H := by
  obtain ⟨S, r, e, emb, he, oo⟩ := hx
  refine ⟨S, r, e, emb, he, ?_⟩
  dsimp only at oo
  cases hq : fa e S with
  | bad => rw [hq] at oo; exact oo
  | exc x S1 => rw [hq] at oo; exact oo
  | ok fl S1 =>
    rw [hq] at oo
    cases fl with
    | next s1 =>
      intro r1 H1 st em σ' he'
      refine ⟨S1, r1, s1, em, he', ?_⟩
      have o : Out (Wo X) S.length r H (GF X W De) Xn (fb s1 S1) := oo
      revert o
      generalize fb s1 S1 = y
      intro o
      cases y with
      | ok b S2 => exact fun r2 H2 s2 e2 => o r2 H2 (st.trans s2) e2
      | exc x S2 => exact fun r2 H2 s2 e2 => o r2 H2 (st.trans s2) e2
      | bad => exact o
    | ret d => exact oo
    | brk s => exact oo
    | cont s => exact oo
    | exc x s => exact oo
/-! o[i] = v -/
def tSetD (X : Cx) : TSet := fun o i v H Q => ∃ S r dob di dv, Emb (Wo X) S r H ∧ Rep (Wo X) S.length r H dob o ∧ Rep (Wo X) S.length r H di i ∧ Rep (Wo X) S.length r H dv v ∧
  match setD dob di dv S with
  | some S' => ∀ r' H', Stp S.length r H S'.length r' H' → Emb (Wo X) S' r' H' → Q H'
  | none => False
theorem ixN_len {n : Nat} {k : Int} {j : Nat} (h : ixN n k = some j) : j < n := (ixN_seq h).2.2.2 |> fun h4 => by
  have := (ixN_seq h).2.1
  omega
theorem put_rep {Wx : Wd} {n : Nat} {r : Rho} {H : Hp} {q : Key} {dv : D} {v : V} (hv : Rep Wx n r H dv v) : ∀ {ks : List Key} {ds : List D} {kvs : List (Key × V)}, kvs.map Prod.fst = ks → RepL Wx n r H ds (kvs.map Prod.snd) →
    RepL Wx n r H (repD ks ds q dv) ((kvs.map fun kv => if kv.1 = q then (kv.1, v) else kv).map Prod.snd) ∧ (kvs.map fun kv => if kv.1 = q then (kv.1, v) else kv).map Prod.fst = ks
  | ks, ds, [], hk, hr => by
    rw [List.map_nil] at hk
    subst hk
    cases ds with
    | nil => exact ⟨by unfold repD; exact RepL.nil, rfl⟩
    | cons => rw [List.map_nil, RepL] at hr; obtain ⟨_, _, z, _⟩ := hr; cases z
  | ks, ds, p :: kvs, hk, hr => by
    rw [List.map_cons] at hk
    subst hk
    cases ds with
    | nil => rw [RepL] at hr; cases hr
    | cons d ds =>
      rw [List.map_cons, RepL] at hr
      obtain ⟨w, q', e, h1, h2⟩ := hr
      injection e with e1 e2
      subst e1 e2
      obtain ⟨i1, i2⟩ := put_rep hv (kvs := kvs) rfl h2
      constructor
      · rw [List.map_cons, List.map_cons]
        unfold repD
        refine RepL.cons ?_ i1
        by_cases c : p.1 = q
        · rw [if_pos c, if_pos c]; exact hv
        · rw [if_neg c, if_neg c]; exact h1
      · rw [List.map_cons, List.map_cons, i2]
        by_cases c : p.1 = q
        · rw [if_pos c]
        · rw [if_neg c]
theorem put_ok {Wx : Wd} {n : Nat} {r : Rho} {H : Hp} {q : Key} {dv : D} {v : V} (hv : Rep Wx n r H dv v) {ks : List Key} {ds : List D} {kvs : List (Key × V)} (hk : kvs.map Prod.fst = ks) (hr : RepL Wx n r H ds (kvs.map Prod.snd)) :
    (putK kvs q v).map Prod.fst = (putD ks ds q dv).1 ∧ RepL Wx n r H (putD ks ds q dv).2 ((putK kvs q v).map Prod.snd) := by
  have ha : (kvs.any fun kv => decide (kv.1 = q)) = (ks.any fun k => decide (k = q)) := by
    rw [← hk, List.any_map]
    rfl
  unfold putK putD
  rw [ha]
  split
  · exact ⟨(put_rep hv hk hr).2, (put_rep hv hk hr).1⟩
  · refine ⟨by rw [List.map_append, hk]; rfl, ?_⟩
    rw [List.map_append]
    exact RepL.append hr (RepL.one hv)
theorem setD_ok (hu : X.A.units + 1 < cLine) : PSet X (tSetD X) := by
  intro pins s σ H o i v ov iv u Q I ro ri rv ⟨S, r, dob, di, dv, emb, ho, hi, hv, h⟩
  unfold setD at h
  split at h
  · rename_i S' hS
    split at hS
    · rename_i l
      rw [Rep] at ho
      obtain ⟨hl, rfl⟩ := ho
      split at hS
      · rename_i ks ds hq
        obtain ⟨q, e1, e2⟩ := Option.bind_eq_some_iff.mp hS
        obtain ⟨kvs, z1, z2, z3⟩ := emb.at_ l _ hq
        have ek := key_ok e1 hi.toF
        subst ek
        split at e2
        · rename_i hz
          cases e2
          have st := stp_set (W := Wo X) (S := S) (r := r) (H := H) (l := l) (u := .dK (putK kvs q v)) hl
          obtain ⟨p1, p2⟩ := put_ok (Rep.stp st _ _ hv) (q := q) z2 (RepL.stp st _ _ z3)
          refine set_dict hu pins s σ H _ _ v ov iv u Q I ro ri rv ⟨r l, _, rfl, ?_, h r _ ?_ (emb_set emb hl ⟨_, upd_same, p1, p2⟩)⟩
          · refine .inl ⟨kvs, q, z1, rfl, ?_, rfl⟩
            have := congrArg List.length z2
            rw [List.length_map] at this
            rw [sizeLine_eq]
            omega
          · rw [List.length_set]
            exact st
        · cases e2
      · rename_i ds hq
        split at hS
        · rename_i kk
          obtain ⟨j, e1, e2⟩ := Option.map_eq_some_iff.mp hS
          subst e2
          rw [Rep] at hi
          subst hi
          obtain ⟨vs, z1, z2⟩ := emb.at_ l _ hq
          have st := stp_set (W := Wo X) (S := S) (r := r) (H := H) (l := l) (u := .lst (vs.set j v)) hl
          refine set_list pins s σ H _ _ v ov iv u Q I ro ri rv ⟨r l, vs, kk, j, rfl, rfl, z1, by rw [z2.length]; exact e1, h r _ ?_ (emb_set emb hl ⟨_, upd_same, RepL.set j (RepL.stp st _ _ z2) (Rep.stp st _ _ hv)⟩)⟩
          rw [List.length_set]
          exact st
        · cases hS
      · cases hS
    · cases hS
  · exact h.elim
theorem sub_imp {σ : L2.St} {H : Hp} (hx : tS X W (fun s S => (f s S).bindS s fun v S1 => (g s S1).bindS s fun x S2 => (h s S2).bindS s fun y S3 => match setD x y v S3 with
    | some S4 => .ok (.next s) S4
    | none => .bad) De σ H) : tAsg (tE X W f) (gSub (tE X W g) (tE X W h) (tSetD X)) De σ H := by
  obtain ⟨S, r, e, emb, he, oo⟩ := hx
  refine on_stm (f := f) emb he oo fun v S1 r1 H1 st1 emb1 he1 o1 vv hv => ?_
  refine on_stm (f := g) emb1 he1 o1 fun x S2 r2 H2 st2 emb2 he2 o2 xv hx => ?_
  refine on_stm (f := h) emb2 he2 o2 fun y S3 r3 H3 st3 emb3 he3 o3 yv hy => ?_
  refine ⟨S3, r3, x, y, v, emb3, Rep.stp st3 _ _ hx, hy, Rep.stp (st2.trans st3) _ _ hv, ?_⟩
  split at o3
  · rename_i S4 h4
    exact fun r' H' st em => o3 r' H' st em σ (he3.stp st)
  · exact o3.elim
end
end Fw

set_option Elab.async false
set_option linter.all false
set_option maxRecDepth 100000
set_option maxHeartbeats 4000000
namespace Fw
open PySem PySem.Spec PyProof.Rows L2
variable [Tb]
theorem sw_of {sc : Scope} {env : Env} {ts vs : List Expr} {r : Option (List Str)} {k1 k2 : Nat} {p1 p2 : Pos} (hk : env.blockKind = .function) (hs : env.scope = sc) (h : swS sc ts vs = some r) : swappedStores [.Tuple ts k1 p1] (.Tuple vs k2 p2) env = pure r := by
  unfold swappedStores
  dsimp only
  generalize hn : List.filterMap _ ts = names
  have hn' : swNames sc ts = names := by
    rw [← hn]
    unfold swNames Env.kindOf
    rw [hs]
    rfl
  unfold swS at h
  rw [hn'] at h
  have hb : (env.blockKind != ScopeKind.function) = false := by rw [hk]; rfl
  rw [hb, Bool.or_false]
  by_cases c1 : (!(ts.length == 2 || ts.length == 3) || vs.length != ts.length) = true
  · rw [if_pos c1] at h ⊢
    cases h
    rfl
  · rw [if_neg c1] at h ⊢
    split at h
    · rename_i c2
      refine (if_pos c2).trans ?_
      cases h
      rfl
    · rename_i c2
      refine (if_neg c2).trans ?_
      by_cases c3 : (names.length != ts.length || names.eraseDups.length != names.length) = true
      · rw [if_pos c3] at h ⊢
        cases h
        rfl
      · rw [if_neg c3] at h ⊢
        by_cases c4 : vs.all (foldedForSure 8) = true
        · rw [if_pos c4] at h ⊢
          cases h
          rfl
        · rw [if_neg c4] at h ⊢
          by_cases c5 : vs.all (constantsAlone 8) = true
          · rw [if_pos c5] at h
            cases h
          · rw [if_neg c5] at h ⊢
            cases h
            rfl
section
variable {X : Cx} {W : Wm} {t : Sta} {k : Nat} {N : List Str} {sc : Scope} {fx : List Nat} {a b c : Expr} {f g h : En → Sto → R D} {pos : Pos} {De : Ends}
theorem par2_imp (G : GoodS t k N sc X W fx) {i j : Nat} (hi : i ∉ fx) (hj : j ∉ fx) {fs : En → Sto → R (List D)} {σ : L2.St} {H : Hp} (hx : tS X W (fun s S => (fs s S).bindS s fun ds S1 => match setAll [i, j] ds s with
    | some s1 => .ok (.next s1) S1
    | none => .bad) De σ H) : tPar i j (tL X W fs) De σ H := by
  obtain ⟨S, r, e, emb, he, oo⟩ := hx
  refine on_stm (f := fs) emb he oo fun ds S1 r1 H1 st1 emb1 he1 o1 vs hvs => ?_
  cases ds with
  | nil => exact o1.elim
  | cons d ds =>
    cases ds with
    | nil => exact o1.elim
    | cons d2 ds =>
      cases ds with
      | cons => exact o1.elim
      | nil =>
        obtain ⟨v, u, rfl, h1, h2⟩ := hvs.inv2
        exact ⟨v, u, rfl, out_same emb1 o1 _ ((he1.set G hi h1).set G hj h2)⟩
theorem RepL.inv3 {Wx : Wd} {n : Nat} {r : Rho} {H : Hp} {d c b : D} {vs : List V} (h : RepL Wx n r H [d, c, b] vs) : ∃ v u w, vs = [v, u, w] ∧ Rep Wx n r H d v ∧ Rep Wx n r H c u ∧ Rep Wx n r H b w := by
  rw [RepL] at h
  obtain ⟨v, q, e, h1, h2⟩ := h
  obtain ⟨u, w, e2, h3, h4⟩ := h2.inv2
  subst e2
  exact ⟨v, u, w, e, h1, h3, h4⟩
theorem par3_imp (G : GoodS t k N sc X W fx) {i j l : Nat} (hi : i ∉ fx) (hj : j ∉ fx) (hl : l ∉ fx) {fs : En → Sto → R (List D)} {σ : L2.St} {H : Hp} (hx : tS X W (fun s S => (fs s S).bindS s fun ds S1 => match setAll [i, j, l] ds s with
    | some s1 => .ok (.next s1) S1
    | none => .bad) De σ H) : tPar3 i j l (tL X W fs) De σ H := by
  obtain ⟨S, r, e, emb, he, oo⟩ := hx
  refine on_stm (f := fs) emb he oo fun ds S1 r1 H1 st1 emb1 he1 o1 vs hvs => ?_
  cases ds with
  | nil => exact o1.elim
  | cons d ds =>
    cases ds with
    | nil => exact o1.elim
    | cons d2 ds =>
      cases ds with
      | nil => exact o1.elim
      | cons d3 ds =>
        cases ds with
        | cons => exact o1.elim
        | nil =>
          obtain ⟨v, u, w, rfl, h1, h2, h3⟩ := hvs.inv3
          exact ⟨v, u, w, rfl, out_same emb1 o1 _ (((he1.set G hi h1).set G hj h2).set G hl h3)⟩
/-! loops -/
theorem loop_imp (G : GoodS t k N sc X W fx) {tg : Tg} (hf : ∀ i ∈ slT tg, i ∉ fx) {fi : En → Sto → R (List D × Option Nat)} {fb : En → Sto → R Fl} {σ : L2.St} {H : Hp} (hx : tS X W (fun s S => (fi s S).bindS s fun q S1 => forGo q.1 q.2 (fun d s S => match tgD tg d s with
    | some s1 => fb s1 S
    | none => .bad) q.1 s S1) De σ H) : tFor (tI X W fi) (tGt X tg) (tS X W fb) De σ H := by
  obtain ⟨S, r, e, emb, he, oo⟩ := hx
  refine on_stm (f := fi) emb he oo fun q S1 r1 H1 st1 em1 he1 o1 => ?_
  obtain ⟨ds, w⟩ := q
  intro J hJ
  dsimp only at o1 hJ
  let bd : D → En → Sto → R Fl := fun d s S => match tgD tg d s with
    | some s1 => fb s1 S
    | none => .bad
  let Inv0 : Nat → L2.St → Hp → Prop := fun i σ H => ∃ S r e, Stp S1.length r1 H1 S.length r H ∧ Emb (Wo X) S r H ∧ EnvR (Wo X) W S.length r H e σ ∧ Out (Wo X) S1.length r1 H1 (GF X W De) Xn (forGo ds w bd (ds.drop i) e S)
  refine ⟨fun i mm σ H => mm = ds.length - i ∧ i ≤ ds.length ∧ Inv0 i σ H, ⟨ds.length, by simp, Nat.zero_le _, S1, r1, e, Stp.refl _ _ _, em1, he1, by rw [List.drop_zero]; exact o1⟩, ?_⟩
  rintro i mm σ H ⟨rfl, hi, S2, r2, e2, st2, em2, he2, o2⟩
  by_cases hlt : i < ds.length
  · refine .inr ?_
    have hd : ds.drop i = ds[i] :: ds.drop (i + 1) := List.drop_eq_getElem_cons hlt
    rw [hd] at o2
    unfold forGo at o2
    by_cases hok : okB S2 ds w = true
    · rw [if_pos hok] at o2
      obtain ⟨go, yl⟩ := (hJ S2 r2 H st2 em2 (okB_ok hok)).1 i ds[i] (by rw [List.getElem?_eq_getElem hlt])
      refine ⟨go, fun σ' H' => Inv0 (i + 1) σ' H', fun σ' H' q => ⟨ds.length - (i + 1), by omega, rfl, hlt, q⟩, fun x H' y => ?_⟩
      obtain ⟨sy, ey, ry⟩ := yl x H' y
      have sty : Stp S1.length r1 H1 S2.length r2 H' := st2.trans sy
      have hey := he2.stp sy
      have hbd : bd ds[i] e2 S2 = match tgD tg ds[i] e2 with
        | some s1 => fb s1 S2
        | none => .bad := rfl
      cases htg : tgD tg ds[i] e2 with
      | none =>
        rw [htg] at hbd
        rw [hbd] at o2
        exact o2.elim
      | some s2 =>
        rw [htg] at hbd
        rw [hbd] at o2
        dsimp only at o2
        refine ⟨S2.length, r2, _, _, s2, hey.rep, ry, htg, fun σ' b1 b2 b3 => ⟨S2, r2, s2, ey, hey.off G b1 b2 hf, ?_⟩⟩
        cases hq : fb s2 S2 with
        | bad => rw [hq] at o2; exact o2.elim
        | exc x S3 => rw [hq] at o2; exact o2.elim
        | ok fl S3 =>
          rw [hq] at o2
          cases fl with
          | next s3 => exact fun r3 H3 st3 em3 σ3 he3 => ⟨S3, r3, s3, sty.trans st3, em3, he3, o2⟩
          | cont s3 => exact fun r3 H3 st3 em3 σ3 he3 => ⟨S3, r3, s3, sty.trans st3, em3, he3, o2⟩
          | brk s3 => exact fun r3 H3 st3 em3 σ3 he3 => o2 r3 H3 (sty.trans st3) em3 σ3 he3
          | ret d => exact fun r3 H3 st3 em3 => o2 r3 H3 (sty.trans st3) em3
          | exc x s3 => exact fun r3 H3 st3 em3 => o2 r3 H3 (sty.trans st3) em3
    · rw [if_neg hok] at o2
      exact o2.elim
  · refine .inl ?_
    have hi2 : i = ds.length := by omega
    subst hi2
    rw [List.drop_length] at o2
    unfold forGo at o2
    by_cases hok : okB S2 ds w = true
    · rw [if_pos hok] at o2
      exact ⟨(hJ S2 r2 H st2 em2 (okB_ok hok)).2 _ (Nat.le_refl _), o2 r2 H st2 em2 σ he2⟩
    · rw [if_neg hok] at o2
      exact o2.elim
end
end Fw

set_option Elab.async false
set_option linter.all false
set_option maxRecDepth 100000
set_option maxHeartbeats 4000000
namespace Fw
open PySem PySem.Spec PyProof.Rows L2
variable [Tb]
section
variable {X : Cx} {W : Wm} {t : Sta} {k : Nat} {N : List Str} {sc : Scope} {fx : List Nat} {a b c : Expr} {f g h : En → Sto → R D} {pos : Pos} {De : Ends}
theorem c_raise (G : GoodS t k N sc X W fx) {C m : Str} {j : Nat} {p p2 p3 pos : Pos} (hg : glB sc C = true) (hn : nmB C = true) : PS X (.Raise (some (.Call (.Name C p) [.Constant (.str m) j p2] [] p3)) none pos) (tS X W (fun s S => t.cold (if C ∈ t.RX then .ok (.exc ⟨C, [], []⟩ s) S else .bad))) := by
  cases hh : t.hot with
  | some z =>
    refine ⟨fun pins s σ H De I ⟨S, r, e, emb, he, oo⟩ => ?_⟩
    have oo : Out (Wo X) S.length r H (GF X W De) Xn (t.cold (if C ∈ t.RX then .ok (.exc ⟨C, [], []⟩ e) S else .bad)) := oo
    unfold Sta.cold at oo
    rw [hh] at oo
    exact oo.elim
  | none =>
    by_cases hC : C ∈ t.RX
    · obtain ⟨c1, c2, c3⟩ := G.g.cold hh
      obtain ⟨cc, m1, m2, m3, m4, B, newId, initId, bmB, F, q⟩ := G.g.ok.rx C hC
      obtain ⟨n1, n2, n3⟩ := nm_of hn
      refine psI (ps_raise c1 c3 (pmk_own F q m1 m2 (raises_own m3 m4) (gl_of G.g hg) n1)) fun De σ H hx => ?_
      obtain ⟨S, r, e, emb, he, oo⟩ := hx
      have oo : Out (Wo X) S.length r H (GF X W De) Xn (t.cold (if C ∈ t.RX then .ok (.exc ⟨C, [], []⟩ e) S else .bad)) := oo
      unfold Sta.cold at oo
      rw [hh, if_pos hC] at oo
      exact out_same emb oo σ _ _ he ⟨cc, m1, rfl, .inl ⟨rfl, rfl⟩⟩
    · refine ⟨fun pins s σ H De I ⟨S, r, e, emb, he, oo⟩ => ?_⟩
      have oo : Out (Wo X) S.length r H (GF X W De) Xn (t.cold (if C ∈ t.RX then .ok (.exc ⟨C, [], []⟩ e) S else .bad)) := oo
      unfold Sta.cold at oo
      rw [hh, if_neg hC] at oo
      exact oo.elim
def Wm.w' (W : Wm) (w : WX) : Wm := { W with w := w }
theorem tr_good (G : GoodS t k N sc X W fx) (hh : t.hot = none) {w : WX} {pn : List (Addr × Obj)} {xe : Value → Shared → Prop} (tk : Takes (X.tr pn xe) w) (po : PassesOwn (model X.prog X.w) X.A X.env xe) : GoodS t k N sc (X.tr pn xe) (W.w' w) fx := by
  obtain ⟨g, f1, f2, f3, f4, f5, f6⟩ := G
  refine ⟨⟨g.hN, g.hs, g.nd, g.un, g.gd, g.ok, fun z => ⟨(g.cold z).1, (g.cold z).2.1, tk⟩, fun i x z => ?_, g.lam, g.thk⟩, f1, f2, f3, f4, fun _ => po, f6⟩
  rw [hh] at z
  cases z
/-- the frame of a suite -/
def Wm.su (W : Wm) (wd : Wd) (i : Option Nat) (x : Xc) (a : Addr) (cls : Value) (dd : Option Addr) : Wm :=
  ⟨fun _ _ _ _ => False, fun σ n r H => W.I σ n r H ∧ ∀ j, i = some j → σ[j]? = some (some (.ref a)) ∧ XRep wd n r H x cls dd,
    fun σ n r H n' r' H' st h => ⟨W.mono _ _ _ _ _ _ _ st h.1, fun j e => ⟨(h.2 j e).1, (h.2 j e).2.stp st⟩⟩, i.toList ++ W.fix,
    fun σ σ' n r H e h => ⟨W.keep _ _ _ _ _ (fun j hj => e j (List.mem_append_right _ hj)) h.1, fun j ej => ⟨by rw [e j (List.mem_append_left _ (by rw [ej]; simp))]; exact (h.2 j ej).1, (h.2 j ej).2⟩⟩⟩
theorem mark_guards {A : Around} {v : Option Value} (h : A.guards = some []) : (A.mark v).guards = some [] := by
  first | exact h | simpa [Around.mark] using h
theorem mark_un {A : Around} {v : Option Value} {k : Nat} (h : RU k A) : RU k (A.mark v) := by
  unfold RU at *
  first | exact h | simpa [Around.mark] using h
theorem SOk.suite {P : Program} {w : World} {K : PySem.W.Frag} {mg : Str → Option Value} {base : Heap} {i : Option Nat} {x : Xc} (h : SOk P w K mg base t k) : SOk P w K mg base (t.suite i x) k :=
  ⟨h.call, h.con, h.free, h.ins, h.xf, h.exm, h.cn, h.rx, h.exc, h.lamf, h.isi, h.ri, h.sy, h.rm⟩
theorem suite_good (G : GoodS t k N sc X W fx) {i : Option Nat} {x : Xc} {a cc : Addr} {oe : Obj} {dd : Option Addr} {pn : List (Addr × Obj)} (hz : Zc (.ref cc) dd oe) (hf : ∃ vs, oe.data = .fields vs) (hE : x.C ∈ t.EC) (hm : X.mg x.C = some (.ref cc)) :
    GoodS (t.suite i x) k N sc (X.suite a ((a, oe) :: pn)) (W.su (Wo X) i x a (.ref cc) dd) (i.toList ++ fx) := by
  obtain ⟨g, f1, f2, f3, f4, f5, f6⟩ := G
  obtain ⟨e1, e2⟩ := g.ok.exc _ _ hm hE
  refine ⟨⟨g.hN, g.hs, g.nd, mark_un g.un, mark_guards g.gd, g.ok.suite, fun z => (nomatch z), fun j y z => ?_, fun z => (nomatch z), fun _ _ z => (nomatch z)⟩, f1, f2, f3, f4, fun z => (nomatch z), fun j hj => ?_⟩
  · have z : some (i, x) = some (some j, y) := z
    cases z
    exact ⟨X, a, cc, oe, dd, pn, rfl, hz, hf, e1, e2, hm, fun σ n r H h => h.2 j rfl⟩
  · have hj : j ∈ i.toList ++ W.fix := hj
    rcases List.mem_append.mp hj with q | q
    · exact List.mem_append_left _ q
    · exact List.mem_append_right _ (f6 j q)
/-- the suite's reading, for any error that the clause takes -/
def tSu (X : Cx) (W : Wm) (t : Sta) (i : Option Nat) (hb : Ss) (a : Addr) (cls : Value) (dd : Option Addr) : TS := fun De σ H => ∃ x cc, cls = .ref cc ∧ X.mg x.C = some (.ref cc) ∧ x.C ∈ t.EC ∧ tS X (W.su (Wo X) i x a cls dd) (evSs hb (t.suite i x)) De σ H
theorem c_tryN (G : GoodS t k N sc X W fx) {y : Str} {np p1 p2 : Pos} {bs hs : Ss} {xs ys : List Stmt} {b0 : Stmt} (hg : glB sc y = true) (hn : nmB y = true) (hC : y ∈ t.nm.CN)
    (ib : ∀ X' W', GoodS t k N sc X' W' fx → PSs X' xs (tS X' W' (evSs bs t))) (ih : ∀ t' X' W', GoodS t' k N sc X' W' fx → t'.nm = t.nm → PSs X' (b0 :: ys) (tS X' W' (evSs hs t'))) :
    PS X (.Try xs [.ExceptHandler (some (.Name y np)) none (b0 :: ys) p1] [] [] p2) (tS X W (fun s S => t.cold (match evSs bs t s S with
    | .ok (.exc e s1) S1 => (match t.EI e.C y with
      | some true => if e.C ∈ t.EC then noXs (evSs hs (t.suite none e) s1 S1) else .bad
      | some false => .ok (.exc e s1) S1
      | none => .bad)
    | r => r))) := by
  cases hh : t.hot with
  | some z =>
    refine ⟨fun pins s σ H De I ⟨S, r, e, emb, he, oo⟩ => ?_⟩
    unfold Sta.cold at oo
    rw [hh] at oo
    exact oo.elim
  | none =>
    obtain ⟨c1, c2, c3⟩ := G.g.cold hh
    obtain ⟨n1, n2, n3⟩ := nm_of hn
    obtain ⟨yc, my⟩ := G.g.ok.cn y hC
    refine psI (ps_try_only (c := .ref yc) (tb := fun w => tS X (W.w' w) (evSs bs t)) (ts := fun a cls dd => tSu X W t none hs a cls dd) G.st G.fr ⟨gl_of G.g hg, n1, .inl my⟩ c3
      (fun w pn xe tk po => ib _ _ (tr_good G hh tk po)) (fun a oe cls dd pn hz hf => ⟨fun pins s σ H De I ⟨x, cc, e1, e2, e3, hx⟩ => ?_⟩)) fun De σ H hx => ?_
    · subst e1
      exact (ih _ _ _ (suite_good (i := none) (pn := pn) G hz hf e3 e2) rfl).run pins s σ H De I hx
    · obtain ⟨S, r, e, emb, he, oo⟩ := hx
      refine ⟨S, r, e, emb, ⟨he.rep, he.inv⟩, ?_⟩
      unfold Sta.cold at oo
      rw [hh] at oo
      dsimp only [Option.isNone] at oo
      rw [if_pos rfl] at oo
      cases hq : evSs bs t e S with
      | bad => rw [hq] at oo; exact oo.elim
      | exc x S1 => rw [hq] at oo; exact oo
      | ok fl S1 =>
        rw [hq] at oo
        cases fl with
        | next s1 => exact fun r1 H1 st em σ' he' => oo r1 H1 st em σ' ⟨he'.rep, he'.inv⟩
        | brk s1 => exact fun r1 H1 st em σ' he' => oo r1 H1 st em σ' ⟨he'.rep, he'.inv⟩
        | cont s1 => exact fun r1 H1 st em σ' he' => oo r1 H1 st em σ' ⟨he'.rep, he'.inv⟩
        | ret d => exact oo
        | exc x s1 =>
          have oo : Out (Wo X) S.length r H (GF X W De) Xn (match t.EI x.C y with
            | some true => if x.C ∈ t.EC then noXs (evSs hs (t.suite none x) s1 S1) else .bad
            | some false => .ok (.exc x s1) S1
            | none => .bad) := oo
          intro r1 H1 st em σ' cls dd he' hx
          obtain ⟨cc, m1, m2, m3⟩ := id hx
          cases hei : t.EI x.C y with
          | none => rw [hei] at oo; exact oo.elim
          | some bb =>
            rw [hei] at oo
            refine ⟨bb, by rw [m2]; exact G.g.ok.exm _ _ _ hei _ _ m1 my, fun hb a ha => ?_, fun hb => ?_⟩
            · subst hb
              dsimp only at oo
              by_cases hE : x.C ∈ t.EC
              · rw [if_pos hE] at oo
                refine ⟨x, cc, m2, m1, hE, S1, r1, s1, em, ⟨he'.rep, ⟨he'.inv, fun j e => nomatch e⟩⟩, ?_⟩
                cases hq2 : evSs hs (t.suite none x) s1 S1 with
                | bad => rw [hq2] at oo; exact oo.elim
                | exc x2 S2 => rw [hq2] at oo; exact fun r2 H2 st2 em2 => oo r2 H2 (st.trans st2) em2
                | ok fl2 S2 =>
                  rw [hq2] at oo
                  cases fl2 with
                  | next s2 => exact fun r2 H2 st2 em2 σ2 he2 => oo r2 H2 (st.trans st2) em2 σ2 ⟨he2.rep, he2.inv.1⟩
                  | brk s2 => exact fun r2 H2 st2 em2 σ2 he2 => oo r2 H2 (st.trans st2) em2 σ2 ⟨he2.rep, he2.inv.1⟩
                  | cont s2 => exact fun r2 H2 st2 em2 σ2 he2 => oo r2 H2 (st.trans st2) em2 σ2 ⟨he2.rep, he2.inv.1⟩
                  | ret d => exact fun r2 H2 st2 em2 => oo r2 H2 (st.trans st2) em2
                  | exc x2 s2 => exact oo.elim
              · rw [if_neg hE] at oo
                exact oo.elim
            · subst hb
              exact oo r1 H1 st em σ' cls dd ⟨he'.rep, he'.inv⟩ hx
theorem RepE.un {Wx : Wd} {n : Nat} {r : Rho} {H : Hp} {e : En} {σ : L2.St} (h : RepE Wx n r H e σ) (i : Nat) : RepE Wx n r H (e.set i none) (σ.set i none) := by
  refine ⟨by simpa using h.1, fun j d q => ?_⟩
  by_cases hj : i = j
  · subst hj
    by_cases hl : i < e.length
    · rw [List.getElem?_set_self hl] at q
      cases q
    · rw [List.getElem?_eq_none (by simpa using hl)] at q
      cases q
  · rw [List.getElem?_set_ne hj] at q ⊢
    exact h.2 j d q
theorem RepE.off {Wx : Wd} {n : Nat} {r : Rho} {H : Hp} {e : En} {σ : L2.St} (h : RepE Wx n r H e σ) (i : Nat) {v : Option V} : RepE Wx n r H (e.set i none) (σ.set i v) := by
  refine ⟨by simpa using h.1, fun j d q => ?_⟩
  by_cases hj : i = j
  · subst hj
    by_cases hl : i < e.length
    · rw [List.getElem?_set_self hl] at q
      cases q
    · rw [List.getElem?_eq_none (by simpa using hl)] at q
      cases q
  · rw [List.getElem?_set_ne hj] at q ⊢
    exact h.2 j d q
theorem c_tryA (G : GoodS t k N sc X W fx) {y n : Str} {i : Nat} {np p1 p2 : Pos} {bs hs : Ss} {xs ys : List Stmt} {b0 : Stmt} (hg : glB sc y = true) (hn : nmB y = true) (hC : y ∈ t.nm.CN) (hi : N[i]? = some n) (hl : sc.names.lookup n = some .local) (hfx : i ∉ fx)
    (ib : ∀ X' W', GoodS t k N sc X' W' fx → PSs X' xs (tS X' W' (evSs bs t))) (ih : ∀ t' X' W', GoodS t' k N sc X' W' (i :: fx) → t'.nm = t.nm → PSs X' (b0 :: ys) (tS X' W' (evSs hs t'))) :
    PS X (.Try xs [.ExceptHandler (some (.Name y np)) (some n) (b0 :: ys) p1] [] [] p2) (tS X W (fun s S => t.cold (match evSs bs t s S with
    | .ok (.exc e s1) S1 => (match t.EI e.C y with
      | some true => if e.C ∈ t.EC ∧ i < s1.length then unslot i (noXs (evSs hs (t.suite (some i) e) (s1.set i none) S1)) else .bad
      | some false => .ok (.exc e s1) S1
      | none => .bad)
    | r => r))) := by
  cases hh : t.hot with
  | some z =>
    refine ⟨fun pins s σ H De I ⟨S, r, e, emb, he, oo⟩ => ?_⟩
    unfold Sta.cold at oo
    rw [hh] at oo
    exact oo.elim
  | none =>
    obtain ⟨c1, c2, c3⟩ := G.g.cold hh
    obtain ⟨n1, n2, n3⟩ := nm_of hn
    obtain ⟨yc, my⟩ := G.g.ok.cn y hC
    refine psI (ps_try_as (i := i) (n := n) (c := .ref yc) (tb := fun w => tS X (W.w' w) (evSs bs t)) (ts := fun a cls dd => tSu X W t (some i) hs a cls dd) G.st G.fr (by rw [G.g.hN]; exact G.g.nd) (by rw [G.g.hN]; exact hi) (by unfold Env.kindOf; rw [G.g.hs]; exact hl) ⟨gl_of G.g hg, n1, .inl my⟩ c3
      (fun w pn xe tk po => ib _ _ (tr_good G hh tk po)) (fun a oe cls dd pn hz hf => ⟨fun pins s σ H De I ⟨x, cc, e1, e2, e3, hx⟩ => ?_⟩)) fun De σ H hx => ?_
    · subst e1
      exact (ih _ _ _ (suite_good (i := some i) (pn := pn) G hz hf e3 e2) rfl).run pins s σ H De I hx
    · obtain ⟨S, r, e, emb, he, oo⟩ := hx
      refine ⟨S, r, e, emb, ⟨he.rep, he.inv⟩, ?_⟩
      unfold Sta.cold at oo
      rw [hh] at oo
      dsimp only [Option.isNone] at oo
      rw [if_pos rfl] at oo
      cases hq : evSs bs t e S with
      | bad => rw [hq] at oo; exact oo.elim
      | exc x S1 => rw [hq] at oo; exact oo
      | ok fl S1 =>
        rw [hq] at oo
        cases fl with
        | next s1 => exact fun r1 H1 st em σ' he' => oo r1 H1 st em σ' ⟨he'.rep, he'.inv⟩
        | brk s1 => exact fun r1 H1 st em σ' he' => oo r1 H1 st em σ' ⟨he'.rep, he'.inv⟩
        | cont s1 => exact fun r1 H1 st em σ' he' => oo r1 H1 st em σ' ⟨he'.rep, he'.inv⟩
        | ret d => exact oo
        | exc x s1 =>
          have oo : Out (Wo X) S.length r H (GF X W De) Xn (match t.EI x.C y with
            | some true => if x.C ∈ t.EC ∧ i < s1.length then unslot i (noXs (evSs hs (t.suite (some i) x) (s1.set i none) S1)) else .bad
            | some false => .ok (.exc x s1) S1
            | none => .bad) := oo
          intro r1 H1 st em σ' cls dd he' hx
          obtain ⟨cc, m1, m2, m3⟩ := id hx
          cases hei : t.EI x.C y with
          | none => rw [hei] at oo; exact oo.elim
          | some bb =>
            rw [hei] at oo
            refine ⟨bb, by rw [m2]; exact G.g.ok.exm _ _ _ hei _ _ m1 my, fun hb a ha => ?_, fun hb => ?_⟩
            · subst hb
              dsimp only at oo
              by_cases hE : x.C ∈ t.EC ∧ i < s1.length
              · rw [if_pos hE] at oo
                refine ⟨x, cc, m2, m1, hE.1, S1, r1, s1.set i none, em, ⟨he'.rep.off i, ⟨W.keep _ _ _ _ _ (fun j hj => List.getElem?_set_ne (fun z => hfx (by rw [z]; exact G.fxs j hj))) he'.inv, fun j e => by
                  cases e
                  exact ⟨List.getElem?_set_self (by rw [← he'.rep.1]; exact hE.2), hx⟩⟩⟩, ?_⟩
                cases hq2 : evSs hs (t.suite (some i) x) (s1.set i none) S1 with
                | bad => rw [hq2] at oo; exact oo.elim
                | exc x2 S2 => rw [hq2] at oo; exact fun r2 H2 st2 em2 => oo r2 H2 (st.trans st2) em2
                | ok fl2 S2 =>
                  rw [hq2] at oo
                  cases fl2 with
                  | next s2 => exact fun r2 H2 st2 em2 σ2 he2 => oo r2 H2 (st.trans st2) em2 _ ⟨he2.rep.un i, W.keep _ _ _ _ _ (fun j hj => List.getElem?_set_ne (fun z => hfx (by rw [z]; exact G.fxs j hj))) he2.inv.1⟩
                  | brk s2 => exact fun r2 H2 st2 em2 σ2 he2 => oo r2 H2 (st.trans st2) em2 _ ⟨he2.rep.un i, W.keep _ _ _ _ _ (fun j hj => List.getElem?_set_ne (fun z => hfx (by rw [z]; exact G.fxs j hj))) he2.inv.1⟩
                  | cont s2 => exact fun r2 H2 st2 em2 σ2 he2 => oo r2 H2 (st.trans st2) em2 _ ⟨he2.rep.un i, W.keep _ _ _ _ _ (fun j hj => List.getElem?_set_ne (fun z => hfx (by rw [z]; exact G.fxs j hj))) he2.inv.1⟩
                  | ret d => exact fun r2 H2 st2 em2 => oo r2 H2 (st.trans st2) em2
                  | exc x2 s2 => exact oo.elim
              · rw [if_neg hE] at oo
                exact oo.elim
            · subst hb
              exact oo r1 H1 st em σ' cls dd ⟨he'.rep, he'.inv⟩ hx
end
end Fw

set_option Elab.async false
set_option linter.all false
set_option maxRecDepth 100000
set_option maxHeartbeats 4000000
namespace Fw
open PySem PySem.Spec PyProof.Rows L2
variable [Tb]
section
variable {X : Cx} {W : Wm} {t : Sta} {k : Nat} {N : List Str} {sc : Scope} {fx : List Nat} {a b c : Expr} {f g h : En → Sto → R D} {pos : Pos} {De : Ends}
theorem ps_bad {st : Stmt} {F : En → Sto → R Fl} (h : ∀ s S, F s S = .bad) : PS X st (tS X W F) := ⟨fun pins s σ H De I ⟨S, r, e, emb, he, oo⟩ => by
  rw [h] at oo
  exact oo.elim⟩
theorem c_raiseE (G : GoodS t k N sc X W fx) {C : Str} {p p3 pos : Pos} (hg : glB sc C = true) (hn : nmB C = true) (hs : notStar b = true) (hb : PE X b (tE X W f)) : PS X (.Raise (some (.Call (.Name C p) [b] [] p3)) none pos) (tS X W (fun s S => t.cold (match errF t C with
    | some (f0, m) => (f s S).bindS s fun d S1 => if errOk m d = true then .ok (.exc ⟨C, [f0], [d]⟩ s) S1 else .bad
    | none => .bad))) := by
  cases hh : t.hot with
  | some z =>
    refine ps_bad fun s S => ?_
    unfold Sta.cold
    rw [hh]
    rfl
  | none =>
    cases hf : errF t C with
    | none => exact ps_bad fun s S => by rw [cold_id hh]
    | some z =>
      obtain ⟨f0, m⟩ := z
      have hf2 := hf
      unfold errF at hf2
      split at hf2
      · rename_i hrm
        obtain ⟨c1, c2, c3⟩ := G.g.cold hh
        obtain ⟨cc, m1, T⟩ := G.g.ok.ri C f0 m hf2
        obtain ⟨n1, n2, n3⟩ := nm_of hn
        refine psI (ps_raise c1 c3 (pmk_sup T G.g.gd (c2.mono (G.g.ok.rm hrm)) (gl_of G.g hg) m1 hb n1 (star_of hs))) fun De σ H hx => ?_
        simp only [cold_id hh] at hx
        obtain ⟨S, r, e, emb, he, oo⟩ := hx
        refine on_stm emb he oo fun x S1 r1 H1 st1 emb1 he1 o1 v hv => ?_
        split at o1
        · rename_i hok
          unfold errOk at hok
          cases hp : toPyR x with
          | none => rw [hp] at hok; cases hok
          | some pd =>
            rw [hp] at hok
            simp only [Bool.and_eq_true, decide_eq_true_eq] at hok
            refine ⟨pd, ⟨_, _, x, hv, hp⟩, hok.1, hok.2, fun d hd => ?_⟩
            have s1 : Stp S1.length r1 H1 S1.length r1 (upd H1 d (.xd [(f0, v)])) := stp_new hd
            exact o1 r1 _ s1 (emb_new emb1 hd) σ _ _ (he1.stp s1) ⟨cc, m1, rfl, .inr ⟨d, [(f0, v)], rfl, upd_same, fz_new (n := 0) emb1 hd, rfl, RepL.one (Rep.stp s1 _ _ hv), by simp⟩⟩
        · exact o1.elim
      · cases hf2
end
end Fw

set_option Elab.async false
set_option linter.all false
set_option maxRecDepth 100000
set_option maxHeartbeats 4000000
namespace Fw
open PySem PySem.Spec PyProof.Rows L2
variable [Tb]
section
variable {X : Cx} {W : Wm} {t : Sta} {k : Nat} {N : List Str} {sc : Scope} {fx : List Nat} {a b c : Expr} {f g h : En → Sto → R D} {pos : Pos} {De : Ends}
theorem c_setLc {scope : Scope} {own : List (Str × Nat)} {tg : Tg} {tgt iter elt : Expr} {ifs : List Expr} {fi : En → Sto → R (List D × Option Nat)} {fc : En → Sto → R Bool} {fe : En → Sto → R D} {m : Bool} {i : Nat} {y : Str} {py lp sp : Pos}
    (G : GoodS t k N sc X W fx) (hh : t.hot = none) (hi0 : N[i]? = some y) (hyl : sc.names.lookup y = some .local) (hfx : i ∉ fx) (hl : (py.line == lp.line) = true) (hno : (scope.names.any fun (n, k) => n == y && (k == .local || k == .cell)) = false)
    (hb : blkC N sc scope own = true) (htg : ckT false N (inner sc scope) tg tgt = true) (hsl : slotsIn tg own = true) (hcs : conSet iter = true) (hi : PI X tgt iter (tI X W fi))
    (hc : ∀ Xb, Good t.blk k N (inner sc scope) Xb Wm.no → Wo Xb = Wo X → PTs Xb ifs (tTc Xb Wm.no fc)) (he : ∀ Xb, Good t.blk k N (inner sc scope) Xb Wm.no → Wo Xb = Wo X → PE Xb elt (tE Xb Wm.no fe)) :
    PS X (.Assign [.Name y py] (.ListComp elt [⟨tgt, iter, ifs, 0⟩] scope lp) sp) (tS X W (fun s S => (lcF m tg (own.map (·.2)) fi fc fe s S).bindS s fun d S1 => .ok (.next (s.set i (some d))) S1)) := by
  have ok := blkOk_by hb
  rw [← G.g.hN, ← G.g.hs] at ok
  have hk : X.env.scope.kind = .function := by rw [G.g.hs]; exact G.kd
  have hyl2 : X.env.scope.names.lookup y = some .local := by rw [G.g.hs]; exact hyl
  refine psI (ps_setLc (i := i) (G.g.cold hh).1 (by rw [G.g.hN]; exact G.g.nd) (by rw [G.g.hN]; exact hi0) hyl2 (sw_true hk hyl2 hl hno) hi ok (g := tGt X tg) (tt := tTc X Wm.no fc) (te := tE X Wm.no fe) (fun s H C cl fp => ?_) (fun s H C cl fp => ?_) (fun s H C cl fp => ?_) (con_fold hcs)) fun De σ H hx => ?_
  · have gb := blk_good (scope := scope) (s := s) (H := H) (C := C) (cl := cl) (fp := fp) G.g hh
    exact g_tg (X := X.blk s H scope (compEnvC scope cl C X.env) fp) (cl := false) gb.hN gb.hs gb.nd (gb.cold rfl).1 (fun z => nomatch z) tg tgt htg
  · have gb := blk_good (scope := scope) (s := s) (H := H) (C := C) (cl := cl) (fp := fp) G.g hh
    exact hc _ gb rfl
  · have gb := blk_good (scope := scope) (s := s) (H := H) (C := C) (cl := cl) (fp := fp) G.g hh
    exact he _ gb rfl
  · have z := set_imp (f := lcF m tg (own.map (·.2)) fi fc fe) G hfx hx
    exact lc_imp (Q := fun x H1 => gName i x σ H1 De.nx) hsl z
theorem sw_lc {elt : Expr} {gs : List Comprehension} {scope : Scope} {lp py : Pos} {y : Str} {l : Nat} {env : Env} (hk : env.blockKind = .function) (h : ¬ (env.kindOf y = some .local ∧ (py.line == lp.line) = true ∧ (scope.names.any fun (n, k) => n == y && (k == .local || k == .cell)) = false)) :
    swapsWith (.ListComp elt gs scope lp) (some (.Name y py)) l env = pure false := by
  unfold swapsWith
  simp only [hk, Expr.pos]
  by_cases h1 : env.kindOf y = some .local
  · by_cases h2 : (py.line == lp.line) = true
    · have h3 : ¬ (scope.names.any fun (n, k) => n == y && (k == .local || k == .cell)) = false := fun z => h ⟨h1, h2, z⟩
      have h3 : (scope.names.any fun (n, k) => n == y && (k == .local || k == .cell)) = true := eq_true_of_ne_false h3
      rw [h3]
      simp
    · have h2 : (py.line == lp.line) = false := by simpa using h2
      rw [h2]
      simp
  · have h1 : (env.kindOf y == some .local) = false := by simpa using h1
    rw [h1]
    simp
def Q1 (a : Sm) : Prop := ∀ {t : Sta} {k : Nat} {N : List Str} {sc : Scope} {X : Cx} {W : Wm} {fx : List Nat} (G : GoodS t k N sc X W fx) (st : Stmt), ckS t.nm N sc a fx st = true → PS X st (tS X W (evS a t))
def Q2 (b : Ss) : Prop := ∀ {t : Sta} {k : Nat} {N : List Str} {sc : Scope} {X : Cx} {W : Wm} {fx : List Nat} (G : GoodS t k N sc X W fx) (xs : List Stmt), ckSs t.nm N sc b fx xs = true → PSs X xs (tS X W (evSs b t))
theorem ps_congr {F F' : En → Sto → R Fl} {e : Stmt} (h : ∀ s S, F s S = F' s S) (q : PS X e (tS X W F')) : PS X e (tS X W F) := by
  rw [show F = F' from funext fun s => funext fun S => h s S]
  exact q
theorem pss_congr {F F' : En → Sto → R Fl} {e : List Stmt} (h : ∀ s S, F s S = F' s S) (q : PSs X e (tS X W F')) : PSs X e (tS X W F) := by
  rw [show F = F' from funext fun s => funext fun S => h s S]
  exact q
theorem cold_ps {F : En → Sto → R Fl} {e : Stmt} (h : t.hot = none → PS X e (tS X W F)) : PS X e (tS X W (fun s S => t.cold (F s S))) := by
  cases hh : t.hot with
  | some z =>
    refine ⟨fun pins s σ H De I ⟨S, r, e, emb, he, oo⟩ => ?_⟩
    unfold Sta.cold at oo
    rw [hh] at oo
    exact oo.elim
  | none =>
    refine psI (h hh) fun De σ H hx => ?_
    unfold Sta.cold at hx
    rw [hh] at hx
    exact hx
end
theorem qs_set {i : Nat} {a : Ex} : Q1 (.set i a) := by
  intro t k N sc X W fx G st h
  unfold ckS at h
  split at h
  · rename_i x px v p
    simp only [Bool.and_eq_true, decide_eq_true_eq] at h
    obtain ⟨h1, h2, h3, h4⟩ := h
    refine ps_congr (fun s S => by rw [evS]) ?_
    have plain : swapsWith v (some (.Name x px)) p.line X.env = pure false → PS X (.Assign [.Name x px] v p) (tS X W (fun s S => (evE t a s S).bindS s fun d S1 => .ok (.next (s.set i (some d))) S1)) := fun hs =>
      psI (ps_set (i := i) (by rw [G.g.hN]; exact G.g.nd) (by rw [G.g.hN]; exact h1) (loc_of G h2) (sndE_all a G.g v h4).1 hs (.inl (G.fnT x))) fun De σ H hx => set_imp G h3 hx
    by_cases hc : isComp v = false
    · exact plain (sw_no hc)
    · cases a with
      | lc m own tg it c e =>
        unfold ckE at h4
        split at h4
        · rename_i elt tgt iter ifs scope lp
          simp only [Bool.and_eq_true, decide_eq_true_eq] at h4
          have h4' := h4
          obtain ⟨k1, k2, k3, k4, k5, k6, k7⟩ := h4
          by_cases hsw : X.env.kindOf x = some .local ∧ (px.line == lp.line) = true ∧ (scope.names.any fun (n, k) => n == x && (k == .local || k == .cell)) = false
          · obtain ⟨s1, s2, s3⟩ := hsw
            have s1 : sc.names.lookup x = some .local := by
              unfold Env.kindOf at s1
              rw [G.g.hs] at s1
              exact s1
            cases hh : t.hot with
            | some z =>
              refine ⟨fun pins s σ H De I ⟨S, r, en, emb, he, oo⟩ => ?_⟩
              have e1 : evE t (.lc m own tg it c e) en S = .bad := by
                rw [evE]
                unfold Sta.cold
                rw [hh]
                rfl
              have oo : Out (Wo X) S.length r H (GF X W De) Xn ((evE t (.lc m own tg it c e) en S).bindS en fun d S1 => .ok (.next (en.set i (some d))) S1) := oo
              rw [e1] at oo
              exact oo.elim
            | none =>
              refine ps_congr (fun s S => ?_) (c_setLc (m := m) (fc := evC t.blk c) (fe := evE t.blk e) (fi := evI t it) G hh h1 s1 h3 s2 s3 k1 k2 k3 k5 (sndI_all it G.g _ _ k4) (fun Xb Gb _ => ?_) fun Xb Gb _ => (sndE_all e Gb _ k7).1)
              · have e1 : evE t (.lc m own tg it c e) s S = lcF m tg (own.map (·.2)) (evI t it) (evC t.blk c) (evE t.blk e) s S := by
                  rw [evE]
                  unfold Sta.cold
                  rw [hh]
                  rfl
                rw [e1]
              · cases c with
                | no => exact sndC_no Gb _ k6
                | yes c => exact sndC_yes (sndE_all c) Gb _ k6
          · exact plain (sw_lc (blk_fn G) hsw)
        · cases h4
      | _ =>
        exfalso
        unfold ckE at h4
        cases v <;> first | exact hc rfl | cases h4 | (split at h4 <;> first | cases h4 | contradiction)
  · cases h
end Fw

set_option Elab.async false
set_option linter.all false
set_option maxRecDepth 100000
set_option maxHeartbeats 4000000
namespace Fw
open PySem PySem.Spec PyProof.Rows L2
variable [Tb]
theorem snd_no : P3 .no := ⟨sndO_no, sndC_no⟩
theorem swap_none {ts : List Expr} {k1 : Nat} {p1 : Pos} {v : Expr} {env : Env} (h : ∀ vs k2 p2, v ≠ .Tuple vs k2 p2) : swappedStores [.Tuple ts k1 p1] v env = pure none := by
  cases v <;> first | rfl | exact absurd rfl (h _ _ _)
theorem swap_sub {o i : Expr} {p1 : Pos} {v : Expr} {env : Env} : swappedStores [.Subscript o i p1] v env = pure none := by
  cases v <;> rfl
theorem sws_tup {v : Expr} {ts : List Expr} {kk : Nat} {p : Pos} {l : Nat} {env : Env} : swapsWithSole [.Tuple ts kk p] v l env = pure false := by
  cases v <;> rfl
theorem sws_sub {v o i : Expr} {p : Pos} {l : Nat} {env : Env} : swapsWithSole [.Subscript o i p] v l env = pure false := by
  cases v <;> rfl
theorem qs_asg {tg : Tg} {a : Ex} : Q1 (.asg tg a) := by
  intro t k N sc X W fx G st h
  unfold ckS at h
  split at h
  · rename_i ts kk p v p2
    simp only [Bool.and_eq_true, decide_eq_true_eq] at h
    obtain ⟨h1, h2, h3, h4⟩ := h
    refine ps_congr (fun s S => by rw [evS]) ?_
    refine cold_ps fun hh => ?_
    have hg := g_tg (X := X) (cl := true) G.g.hN G.g.hs G.g.nd (G.g.cold hh).1 (fun _ => G.fnT) tg _ h2
    have hw : swappedStores [.Tuple ts kk p] v X.env = pure none := by
      cases v with
      | Tuple vs k2 p3 => exact sw_of (blk_fn G) G.g.hs (of_decide_eq_true h1)
      | _ => exact swap_none fun _ _ _ z => nomatch z
    refine psI (ps_asg (sndE_all a G.g v h4).1 hg sws_tup hw) fun De σ H hx => asg_imp G (fun i hi => ?_) hx
    exact of_decide_eq_true (List.all_eq_true.mp h3 i hi)
  · cases h
theorem qs_sub {o i a : Ex} : Q1 (.sub o i a) := by
  intro t k N sc X W fx G st h
  unfold ckS at h
  split at h
  · rename_i eo ei p v p2
    simp only [Bool.and_eq_true, decide_eq_true_eq] at h
    obtain ⟨h1, h2, h3, h4⟩ := h
    refine ps_congr (fun s S => by rw [evS]) ?_
    have hu : X.A.units + 1 < cLine := by have := G.g.un; unfold RU at this; omega
    have hset := setD_ok (X := X) hu
    have hpg := pg_sub (pos := p) (sndE_all o G.g eo h2).1 (sndE_all i G.g ei h3).1 hset (by
      intro v
      cases ei <;> first | rfl | cases h1)
    exact psI (ps_asg (sndE_all a G.g v h4).1 hpg sws_sub swap_sub) fun De σ H hx => sub_imp hx
  · cases h
theorem nms_len {N : List Str} {sc : Scope} : ∀ {is : List Nat} {ts : List Expr}, nmsB N sc is ts = true → ts.length = is.length
  | [], [], _ => rfl
  | i :: is, e :: es, h => by
    unfold nmsB at h
    split at h
    · rename_i z1 z2; cases z1
    · rename_i i' is' x p es' z1 z2
      cases z1
      cases z2
      simp only [Bool.and_eq_true] at h
      rw [List.length_cons, List.length_cons, nms_len h.2.2]
    · cases h
  | [], e :: es, h => by
    unfold nmsB at h
    cases h
  | i :: is, [], h => by
    unfold nmsB at h
    cases h
theorem nms_cons {N : List Str} {sc : Scope} {i : Nat} {is : List Nat} {e : Expr} {es : List Expr} (h : nmsB N sc (i :: is) (e :: es) = true) : ∃ x p, e = .Name x p ∧ N[i]? = some x ∧ sc.names.lookup x = some .local ∧ nmsB N sc is es = true := by
  unfold nmsB at h
  split at h
  · rename_i z1 z2; cases z1
  · rename_i i' is' x p es' z1 z2
    cases z1
    cases z2
    simp only [Bool.and_eq_true, decide_eq_true_eq] at h
    exact ⟨x, p, rfl, h.1, h.2.1, h.2.2⟩
  · cases h
theorem qs_par {is : List Nat} {es : Es} : Q1 (.par is es) := by
  intro t k N sc X W fx G st h
  unfold ckS at h
  split at h
  · rename_i ts kk p vs k2 p2 p3
    simp only [Bool.and_eq_true, Bool.or_eq_true, decide_eq_true_eq] at h
    obtain ⟨h1, h2, h3, h4, h5, h6⟩ := h
    refine ps_congr (fun s S => by rw [evS]) ?_
    refine cold_ps fun hh => ?_
    have hfx : ∀ i ∈ is, i ∉ fx := fun i hi => of_decide_eq_true (List.all_eq_true.mp h3 i hi)
    have hlv : vs.length = ts.length := by
      unfold swS at h5
      split at h5
      · cases h5
      · rename_i c
        simp only [Bool.or_eq_true, Bool.not_eq_true', not_or, bne_iff_ne, ne_eq, Decidable.not_not] at c
        exact c.2
    have hln := nms_len h1
    have ha := (sndL_all2 es).1 G.g vs h6
    have hN := G.g.hN
    rcases h4 with h4 | h4
    · cases is with
      | nil => cases h4
      | cons i is => cases is with
        | nil => cases h4
        | cons j is => cases is with
          | cons => simp at h4
          | nil => cases ts with
            | nil => cases hln
            | cons e1 ts => cases ts with
              | nil => simp at hln
              | cons e2 ts => cases ts with
                | cons => simp at hln
                | nil => cases vs with
                  | nil => cases hlv
                  | cons v1 vs => cases vs with
                    | nil => simp at hlv
                    | cons v2 vs => cases vs with
                      | cons => simp at hlv
                      | nil =>
                        obtain ⟨x, px, rfl, a1, a2, a3⟩ := nms_cons h1
                        obtain ⟨y, py, rfl, b1, b2, _⟩ := nms_cons a3
                        have hne : i ≠ j := fun z => by subst z; simp at h2
                        refine psI (ps_par (i := i) (j := j) (x := x) (y := y) (G.g.cold hh).1 (by rw [hN]; exact G.g.nd) (by rw [hN]; exact a1) (by rw [hN]; exact b1) hne (by rw [G.g.hs]; exact a2) (by rw [G.g.hs]; exact b2) ha.1 (sw_of (blk_fn G) G.g.hs h5) sws_tup) fun De σ H hx => par2_imp G (hfx i (by simp)) (hfx j (by simp)) hx
    · cases is with
      | nil => cases h4
      | cons i is => cases is with
        | nil => simp at h4
        | cons j is => cases is with
          | nil => simp at h4
          | cons l is => cases is with
            | cons => simp at h4
            | nil => cases ts with
              | nil => cases hln
              | cons e1 ts => cases ts with
                | nil => simp at hln
                | cons e2 ts => cases ts with
                  | nil => simp at hln
                  | cons e3 ts => cases ts with
                    | cons => simp at hln
                    | nil => cases vs with
                      | nil => cases hlv
                      | cons v1 vs => cases vs with
                        | nil => simp at hlv
                        | cons v2 vs => cases vs with
                          | nil => simp at hlv
                          | cons v3 vs => cases vs with
                            | cons => simp at hlv
                            | nil =>
                              obtain ⟨x, px, rfl, a1, a2, a3⟩ := nms_cons h1
                              obtain ⟨y, py, rfl, b1, b2, b3⟩ := nms_cons a3
                              obtain ⟨z, pz, rfl, d1, d2, _⟩ := nms_cons b3
                              simp only [List.nodup_cons, List.mem_cons, List.not_mem_nil, or_false, not_or] at h2
                              refine psI (ps_par3 (i := i) (j := j) (l := l) (x := x) (y := y) (z := z) (G.g.cold hh).1 (by rw [hN]; exact G.g.nd) (by rw [hN]; exact a1) (by rw [hN]; exact b1) (by rw [hN]; exact d1) h2.1.1 h2.1.2 h2.2.1 (by rw [G.g.hs]; exact a2) (by rw [G.g.hs]; exact b2) (by rw [G.g.hs]; exact d2) ha.1 (sw_of (blk_fn G) G.g.hs h5) sws_tup) fun De σ H hx => par3_imp G (hfx i (by simp)) (hfx j (by simp)) (hfx l (by simp)) hx
  · cases h
theorem qs_cond {c : Ex} {a b : Ss} (ia : Q2 a) (ib : Q2 b) : Q1 (.cond c a b) := by
  intro t k N sc X W fx G st h
  unfold ckS at h
  split at h
  · simp only [Bool.and_eq_true, decide_eq_true_eq] at h
    obtain ⟨h1, h2, h3⟩ := h
    refine ps_congr (fun s S => by rw [evS]) ?_
    exact psI (ps_if (sndE_all c G.g _ h1).2.pt (ia G _ h2) (ib G _ h3)) fun De σ H hx => cond_imp hx
  · cases h
theorem qs_loop {tg : Tg} {it : It1} {b : Ss} (ib : Q2 b) : Q1 (.loop tg it b) := by
  intro t k N sc X W fx G st h
  unfold ckS at h
  split at h
  · simp only [Bool.and_eq_true, decide_eq_true_eq] at h
    obtain ⟨h1, h2, h3, h4, h5⟩ := h
    refine ps_congr (fun s S => by rw [evS]) ?_
    refine cold_ps fun hh => ?_
    have hg := g_tg (X := X) (cl := true) G.g.hN G.g.hs G.g.nd (G.g.cold hh).1 (fun _ => G.fnT) tg _ h1
    refine psI (ps_for (G.po hh) (G.g.cold hh).1 (sndI_all it G.g _ _ h4) hg (ib G _ h5) (con_fold h3)) fun De σ H hx => loop_imp G (fun i hi => ?_) hx
    exact of_decide_eq_true (List.all_eq_true.mp h2 i hi)
  · cases h
theorem qs_ret {a : Ex} : Q1 (.ret a) := by
  intro t k N sc X W fx G st h
  unfold ckS at h
  split at h
  · refine ps_congr (fun s S => by rw [evS]) ?_
    exact psI (ps_ret (sndE_all a G.g _ h).1) fun De σ H hx => ret_imp hx
  · cases h
theorem qs_retN : Q1 .retN := by
  intro t k N sc X W fx G st h
  unfold ckS at h
  split at h
  · refine ps_congr (fun s S => by rw [evS]) ?_
    exact psI ps_retN fun De σ H hx => retN_imp hx
  · cases h
theorem qs_expr {a : Ex} : Q1 (.expr a) := by
  intro t k N sc X W fx G st h
  unfold ckS at h
  split at h
  · simp only [Bool.and_eq_true, Bool.not_eq_true'] at h
    refine ps_congr (fun s S => by rw [evS]) ?_
    exact psI (ps_expr (sndE_all a G.g _ h.2).1 (sw_no h.1)) fun De σ H hx => drop_imp hx
  · cases h
theorem qs_raise {C m : Str} : Q1 (.raise C m) := by
  intro t k N sc X W fx G st h
  unfold ckS at h
  split at h
  · simp only [Bool.and_eq_true, decide_eq_true_eq] at h
    obtain ⟨rfl, rfl, h1, h2⟩ := h
    exact ps_congr (fun s S => by rw [evS]) (c_raise G h1 h2)
  · cases h
theorem qs_raiseE {C : Str} {a : Ex} : Q1 (.raiseE C a) := by
  intro t k N sc X W fx G st h
  unfold ckS at h
  split at h
  · simp only [Bool.and_eq_true, decide_eq_true_eq] at h
    obtain ⟨rfl, h1, h2, h3, h4⟩ := h
    exact ps_congr (fun s S => by rw [evS] <;> rfl) (c_raiseE G h1 h2 h3 (sndE_all a G.g _ h4).1)
  · cases h
theorem qs_tryN {b h0 : Ss} {x : Str} (ib : Q2 b) (ih : Q2 h0) : Q1 (.tryN b x h0) := by
  intro t k N sc X W fx G st h
  unfold ckS at h
  split at h
  · simp only [Bool.and_eq_true, decide_eq_true_eq] at h
    obtain ⟨rfl, h1, h2, h3, h4, h5⟩ := h
    refine ps_congr (fun s S => by rw [evS]) ?_
    exact c_tryN G h1 h2 h3 (fun X' W' G' => ib G' _ h4) fun t' X' W' G' e => ih G' _ (by rw [e]; exact h5)
  · cases h
theorem qs_tryA {b h0 : Ss} {x : Str} {i : Nat} (ib : Q2 b) (ih : Q2 h0) : Q1 (.tryA b x i h0) := by
  intro t k N sc X W fx G st h
  unfold ckS at h
  split at h
  · simp only [Bool.and_eq_true, decide_eq_true_eq] at h
    obtain ⟨rfl, h1, h2, h3, h4, h5, h6, h7, h8⟩ := h
    refine ps_congr (fun s S => by rw [evS]) ?_
    exact c_tryA G h1 h2 h3 h4 h5 h6 (fun X' W' G' => ib G' _ h7) fun t' X' W' G' e => ih G' _ (by rw [e]; exact h8)
  · cases h
theorem qs_nil : Q2 .nil := by
  intro t k N sc X W fx G xs h
  unfold ckSs at h
  cases xs with
  | nil =>
    refine pss_congr (fun s S => by rw [evSs]) ?_
    exact pssI pss_nil fun De σ H hx => nil_imp hx
  | cons => cases h
theorem qs_cons {a : Sm} {r : Ss} (ia : Q1 a) (ir : Q2 r) : Q2 (.cons a r) := by
  intro t k N sc X W fx G xs h
  unfold ckSs at h
  cases xs with
  | nil => cases h
  | cons y ys =>
    simp only [Bool.and_eq_true] at h
    refine pss_congr (F' := fun s S => match evS a t s S with
      | .ok (.next s1) S1 => evSs r t s1 S1
      | q => q) (fun s S => by first | (rw [evSs]; done) | (rw [evSs]; rfl)) ?_
    exact pssI (pss_cons (ia G _ h.1) (ir G _ h.2)) fun De σ H hx => seq_imp hx
theorem sndS : ∀ b : Ss, Q2 b := @Ss.rec Q1 Q2 (fun _ _ => qs_set) (fun _ _ => qs_par) (fun _ _ => qs_asg) (fun _ _ _ => qs_sub) (fun _ _ _ a b => qs_cond a b) (fun _ _ _ b => qs_loop b) (fun _ => qs_ret) qs_retN (fun _ => qs_expr) (fun _ _ => qs_raise) (fun _ _ => qs_raiseE)
  (fun _ _ _ a b => qs_tryN a b) (fun _ _ _ _ a b => qs_tryA a b) qs_nil (fun _ _ a r => qs_cons a r)
end Fw

set_option Elab.async false
set_option linter.all false
set_option maxRecDepth 100000
set_option maxHeartbeats 4000000
namespace Fw
open PySem PySem.Spec PyProof.Rows L2
variable [Tb]
/-! a def as data -/
structure Df where
  ps : List Str
  N : List Str
  body : Ss
  /-- the shapes of its calls: how many by place, which by name -/
  shapes : List (Nat × List Str)
  lam : Bool
  /-- slots that no row writes -/
  fx : List Nat
def bindG {α : Type} : List Str → List α → List (Str × α) → Option (List α)
  | [], [], _ => some []
  | [], _ :: _, _ => none
  | p :: ps, u :: us, kw => (bindG ps us kw).map (u :: ·)
  | p :: ps, [], kw => (kw.lookup p).bind fun u => (bindG ps [] kw).map (u :: ·)
def startD (N : List Str) (ds : List D) : En := ds.map some ++ List.replicate (N.length - ds.length) none
def fin : R Fl → R D
  | .ok (.ret d) S => .ok d S
  | .ok (.next _) S => .ok .non S
  | .ok (.exc x _) S => .exc x S
  | _ => .bad
/-- what a result is, once the callee's own places are forgotten -/
def top (n : Nat) (S : Sto) : D → D
  | .ref l => if l < n then .ref l else (match S[l]? with
    | some (.lst ds) => .lst ds
    | some (.dct ks ds) => .dct ks ds
    | some (.ins C ks ds) => .obj C ks ds
    | none => .ref l)
  | d => d
def gcF (n : Nat) : R D → R D
  | .ok d S => if ((top n S d).closed n && (S.take n).all (O.closed n)) = true then .ok (top n S d) (S.take n) else .ok d S
  | .exc x S => if (closedL n x.ds && (S.take n).all (O.closed n)) = true then .exc x (S.take n) else .exc x S
  | .bad => .bad
theorem top_ok {Wx : Wd} {S : Sto} {r : Rho} {H : Hp} {n : Nat} {d : D} {v : V} (e : Emb Wx S r H) (hn : n ≤ S.length) (hd : Rep Wx S.length r H d v) (hc : (top n S d).closed n = true) : Rep Wx n r H (top n S d) v := by
  have base : Rep Wx S.length r H (top n S d) v → Rep Wx n r H (top n S d) v := fun h => Rep.less hn _ _ hc h
  cases d with
  | ref l =>
    rw [Rep] at hd
    obtain ⟨hl, rfl⟩ := hd
    have et : top n S (.ref l) = if l < n then .ref l else (match S[l]? with
      | some (.lst ds) => .lst ds
      | some (.dct ks ds) => .dct ks ds
      | some (.ins C ks ds) => .obj C ks ds
      | none => .ref l) := rfl
    clear base
    rw [et] at hc ⊢
    by_cases hln : l < n
    · rw [if_pos hln]
      rw [Rep]
      exact ⟨hln, rfl⟩
    · rw [if_neg hln] at hc ⊢
      have fz : Fz n r (r l) := fun l' hl' q => by
        have z := e.inj l l' hl (by omega) q
        omega
      cases hq : S[l]? with
      | none =>
        rw [List.getElem?_eq_none_iff] at hq
        omega
      | some o =>
        rw [hq] at hc
        have z := e.at_ l _ hq
        cases o with
        | lst ds =>
          obtain ⟨vs, z1, z2⟩ := z
          dsimp only at hc ⊢
          unfold D.closed at hc
          rw [Rep]
          exact ⟨r l, vs, rfl, ⟨z1, fz⟩, RepL.less hn _ _ hc z2⟩
        | dct ks ds =>
          obtain ⟨kvs, z1, z2, z3⟩ := z
          dsimp only at hc ⊢
          unfold D.closed at hc
          rw [Rep]
          exact ⟨r l, kvs, rfl, z1, fz, z2, RepL.less hn _ _ hc z3⟩
        | ins C ks ds =>
          obtain ⟨c, dx, fs, m, z1, z2, z3⟩ := z
          dsimp only at hc ⊢
          unfold D.closed at hc
          rw [Rep]
          exact ⟨r l, c, dx, fs, rfl, m, z1, fz, z2, RepL.less hn _ _ hc z3⟩
  | _ => exact base hd
theorem XRep.less {Wx : Wd} {n m : Nat} {r : Rho} {H : Hp} {x : Xc} {cls : Value} {dd : Option Addr} (hm : m ≤ n) (hc : closedL m x.ds = true) (h : XRep Wx n r H x cls dd) : XRep Wx m r H x cls dd := by
  obtain ⟨c, h1, h2, h3⟩ := h
  refine ⟨c, h1, h2, ?_⟩
  rcases h3 with h3 | ⟨d, fs, e, h4, h5, h6, h7, h8⟩
  · exact .inl h3
  · exact .inr ⟨d, fs, e, h4, fz_less hm h5, h6, RepL.less hm _ _ hc h7, h8⟩
theorem out_gc {Wx : Wd} {S : Sto} {r : Rho} {H : Hp} {Q : VK} {E : XK} {q : R D} (o : Out Wx S.length r H (fun d S' r' H' => ∀ v, Rep Wx S'.length r' H' d v → Q v H') (fun x S' r' H' => ∀ cls dd, XRep Wx S'.length r' H' x cls dd → E cls dd H') (gcF S.length q)) :
    Out Wx S.length r H (fun d S' r' H' => ∀ v, Rep Wx S'.length r' H' d v → Q v H') (fun x S' r' H' => ∀ cls dd, XRep Wx S'.length r' H' x cls dd → E cls dd H') q := by
  cases q with
  | bad => exact o
  | ok d S1 =>
    simp only [gcF] at o
    split at o
    · rename_i hc
      rw [Bool.and_eq_true] at hc
      intro r1 H1 st em v hv
      have hl : (S1.take S.length).length = S.length := by rw [List.length_take]; have := st.le; omega
      refine o r1 H1 ?_ (emb_take em st.le hc.2) v ?_
      · rw [hl]; exact stp_less st (Nat.le_refl _) st.le
      · rw [hl]; exact top_ok em st.le hv hc.1
    · exact o
  | exc x S1 =>
    simp only [gcF] at o
    split at o
    · rename_i hc
      rw [Bool.and_eq_true] at hc
      intro r1 H1 st em cls dd hx
      have hl : (S1.take S.length).length = S.length := by rw [List.length_take]; have := st.le; omega
      refine o r1 H1 ?_ (emb_take em st.le hc.2) cls dd ?_
      · rw [hl]; exact stp_less st (Nat.le_refl _) st.le
      · rw [hl]; exact hx.less st.le hc.1
    · exact o
/-! binding -/
theorem lookup_rel {Wx : Wd} {n : Nat} {r : Rho} {H : Hp} {p : Str} {d : D} : ∀ {ks : List Str} {es : List D} {zs : List V} {ws : List Value}, RepL Wx n r H es zs → Vals zs ws → (ks.zip es).lookup p = some d → ∃ v u, (ks.zip ws).lookup p = some u ∧ Rep Wx n r H d v ∧ L2.RelV v u
  | [], _, _, _, _, _, h => by simp at h
  | k :: ks, [], _, _, h1, _, h => by simp at h
  | k :: ks, e :: es, _, _, h1, h2, h => by
    rw [RepL] at h1
    obtain ⟨v, q, rfl, a1, a2⟩ := h1
    cases h2 with
    | cons b1 b2 =>
      rw [List.zip_cons_cons, List.lookup_cons] at h ⊢
      cases hk : p == k with
      | true =>
        rw [hk] at h
        cases h
        exact ⟨_, _, rfl, a1, b1⟩
      | false =>
        rw [hk] at h
        exact lookup_rel a2 b2 h
theorem bind_rel {Wx : Wd} {n : Nat} {r : Rho} {H : Hp} {ks : List Str} {es : List D} {zs : List V} {ws : List Value} (h1 : RepL Wx n r H es zs) (h2 : Vals zs ws) : ∀ {ps : List Str} {ds ds' : List D} {vs : List V} {us : List Value}, RepL Wx n r H ds vs → Vals vs us → bindG ps ds (ks.zip es) = some ds' →
    ∃ vs' us', bindG ps us (ks.zip ws) = some us' ∧ RepL Wx n r H ds' vs' ∧ Vals vs' us' ∧ ds'.length = ps.length
  | [], [], ds', vs, us, a, b, h => by
    unfold bindG at h
    cases h
    rw [RepL] at a
    subst a
    cases b
    exact ⟨[], [], rfl, RepL.nil, .nil, rfl⟩
  | [], d :: ds, ds', vs, us, a, b, h => by
    unfold bindG at h
    cases h
  | p :: ps, d :: ds, ds', vs, us, a, b, h => by
    unfold bindG at h
    rw [Option.map_eq_some_iff] at h
    obtain ⟨qs, e1, rfl⟩ := h
    rw [RepL] at a
    obtain ⟨v, q, rfl, a1, a2⟩ := a
    cases b with
    | cons b1 b2 =>
      obtain ⟨vs', us', c1, c2, c3, c4⟩ := bind_rel h1 h2 a2 b2 e1
      refine ⟨_, _, ?_, RepL.cons a1 c2, .cons b1 c3, by rw [List.length_cons, List.length_cons, c4]⟩
      unfold bindG
      rw [c1]
      rfl
  | p :: ps, [], ds', vs, us, a, b, h => by
    unfold bindG at h
    obtain ⟨d, e1, e2⟩ := Option.bind_eq_some_iff.mp h
    rw [Option.map_eq_some_iff] at e2
    obtain ⟨qs, e3, rfl⟩ := e2
    obtain ⟨v, u, g1, g2, g3⟩ := lookup_rel h1 h2 e1
    obtain ⟨vs', us', c1, c2, c3, c4⟩ := bind_rel h1 h2 a b e3
    rw [RepL] at a
    subst a
    cases b
    refine ⟨_, _, ?_, RepL.cons g2 c2, .cons g3 c3, by rw [List.length_cons, List.length_cons, c4]⟩
    unfold bindG
    rw [g1, Option.bind_some, c1]
    rfl
theorem start_rep {Wx : Wd} {n : Nat} {r : Rho} {H : Hp} {N : List Str} {ds : List D} {vs : List V} (h : RepL Wx n r H ds vs) : RepE Wx n r H (startD N ds) (L2.start N vs) := by
  have hl := h.length
  refine ⟨by unfold startD L2.start; simp [hl], fun i d q => ?_⟩
  unfold startD at q
  unfold L2.start
  by_cases hi : i < ds.length
  · rw [List.getElem?_append_left (by simpa using hi), List.getElem?_map, Option.map_eq_some_iff] at q
    obtain ⟨d', e1, e2⟩ := q
    cases e2
    obtain ⟨v, g1, g2⟩ := h.get e1
    refine ⟨v, ?_, g2⟩
    rw [List.getElem?_append_left (by rw [List.length_map, hl]; exact hi), List.getElem?_map, g1]
    rfl
  · rw [List.getElem?_append_right (by simpa using hi)] at q
    have := List.mem_of_getElem? q
    rw [List.mem_replicate] at this
    cases this.2
end Fw

set_option Elab.async false
set_option linter.all false
set_option maxRecDepth 100000
set_option maxHeartbeats 4000000
namespace Fw
open PySem PySem.Spec PyProof.Rows L2
variable [Tb]
/-- the facts of a def -/
structure DefOk (K : PySem.W.Frag) (mg : Str → Option Value) (base : Heap) (nm : Nms) (d : Df) (f : Str) : Prop where
  ex : ∃ (fa : Addr) (name qual : Str) (params : Arguments) (body : List Stmt) (scope : Scope) (dV kV doc pm cdv ct oc : Value) (an od : Option Addr) (osl : Array (Option Value)),
    mg f = some (.ref fa) ∧ PySem.W.keepIn K (.ref fa) = true ∧ K.lookup fa = some ⟨oc, od, .func (PySem.W.fnOf name qual params body scope dV kV doc pm an cdv ct), osl⟩ ∧ PySem.W.codeIn K cdv qual = true ∧ FnScope d.N d.ps scope ∧
    ckSs nm d.N scope d.body d.fx body = true ∧
    (∀ n ks, (n, ks) ∈ d.shapes → ∀ us ws us', us.length = n → ws.length = ks.length → bindG d.ps us (ks.zip ws) = some us' → bindArgs (PySem.W.fnOf name qual params body scope dV kV doc pm an cdv ct) ⟨us, ks.zip ws⟩ = pure (d.ps.zip us')) ∧
    (d.lam = true → ∃ c P, LamX.TabB base mg c P ∧ cdv = .ref c ∧ ∀ L : Addr, (P, (envOfC qual scope L fa cdv).qual ++ "<lambda>") ∈ Tb.T ∧ ∀ p ∈ (Tb.T : List (Addr × Str)), p.1 = P → p.2 = (envOfC qual scope L fa cdv).qual ++ "<lambda>")
def runDf (t : Sta) (d : Df) (ds : List D) (kws : List (Str × D)) (S : Sto) : R D :=
  if (ds.length, kws.map (·.1)) ∈ d.shapes then (match bindG d.ps ds kws with
    | some ds' => gcF S.length (fin (evSs d.body t (startD d.N ds') S))
    | none => .bad) else .bad
section
variable {P : Program} {w : World} {K : PySem.W.Frag} {mg : Str → Option Value} {base : Heap} {t : Sta} {k j : Nat}
theorem zip_fst : ∀ {ks : List Str} {es : List D}, ks.length = es.length → (ks.zip es).map (·.1) = ks
  | [], [], _ => rfl
  | k :: ks, e :: es, h => by rw [List.zip_cons_cons, List.map_cons, zip_fst (by simpa using h)]
  | [], e :: es, h => by simp at h
  | k :: ks, [], h => by simp at h
theorem def_callP {d : Df} {f : Str} (hd : DefOk K mg base t.nm d f) (sok : SOk P w K mg base t k) (hh : t.hot = none) (hk : t.thk = none) (hl : t.lam = d.lam) (hj : k ≤ j) (hjl : d.lam = true → k + 2 ≤ j) :
    ∃ fa, mg f = some (.ref fa) ∧ PySem.W.keepIn K (.ref fa) = true ∧ CallP P w K mg base (j + 1) fa (runDf t d) := by
  obtain ⟨fa, name, qual, params, body, scope, dV, kV, doc, pm, cdv, ct, oc, an, od, osl, m1, m2, lk, hcd, FS, hck, hB, hlam⟩ := hd.ex
  refine ⟨fa, m1, m2, fun A outer s H us ws ks vs zs Q E S r ds es hr hgd e0 rv rz emb h1 h2 hlen o => ?_⟩
  unfold runDf at o
  rw [zip_fst hlen] at o
  split at o
  · rename_i hsh
    split at o
    · rename_i ds' hb
      obtain ⟨vs', us', b1, b2, b3, b4⟩ := bind_rel h2 rz h1 rv hb
      have o := out_gc o
      have hvl : vs'.length = d.ps.length := by rw [b2.length, b4]
      have hbind := hB _ _ hsh us ws us' (by rw [← rv.length, h1.length]) (by rw [← rz.length, h2.length, hlen]) b1
      refine LamX.run_ofS (N := d.N) (ps := d.ps) (us := us') (vs := vs') lk hcd FS hr e0 (.of_eq hbind) b3 hvl fun hr' => ?_
      have rk : Room k (A.deeper (envOfC qual scope s.heap.objs.size fa cdv)) := hr'.mono hj
      have gs : GoodS t k d.N scope (cxOf (L2.CX P w) P w K mg base d.N qual scope fa cdv A outer s H E) (Wm.ex E) d.fx := by
        refine ⟨⟨rfl, rfl, FS.nd, rk.un, deeper_guards hgd, sok, fun _ => ⟨rfl, rk, takes_of rfl rfl rfl rfl⟩, fun i x z => ?_, fun _ hlm => ?_, fun i th _ z => ?_⟩, fun _ => rfl, rfl, rfl, FS.kind, fun _ => passes_of rfl, fun i hi => nomatch hi⟩
        · rw [hh] at z; cases z
        · rw [hl] at hlm
          obtain ⟨c, P', a1, a2, a3⟩ := hlam hlm
          exact ⟨hr'.mono (hjl hlm), c, P', a1, a2, a3 _⟩
        · rw [hk] at z; cases z
      refine ⟨_, sndS d.body gs body hck, S, r, startD d.N ds', emb, ⟨start_rep b2, trivial⟩, ?_⟩
      revert o
      generalize evSs d.body t (startD d.N ds') S = q
      intro o
      cases q with
      | bad => exact o.elim
      | exc x S1 => exact o.elim
      | ok fl S1 =>
        cases fl with
        | next s1 => exact fun r1 H1 st em σ he => o r1 H1 st em V.non (by rw [Rep])
        | ret dd => exact o
        | brk s1 => exact o.elim
        | cont s1 => exact o.elim
        | exc x s1 => exact fun r1 H1 st em σ cls dd he hx => o r1 H1 st em cls dd hx
    · exact o.elim
  · exact o.elim
/-- the frame of a def whose one argument is a closure -/
def Wm.lam (E : XK) (wd : Wd) (f c' : Addr) (q : Str) (e : En) (σ0 : L2.St) : Wm :=
  ⟨fun cls d _ H => E cls d H, fun σ n r H => (σ[0]? = some (some (.ref f)) ∧ RepE wd n r H e σ0 ∧ H c' = some (LamX.CodeO c' q)) ∧ Fz n r c',
    fun σ n r H n' r' H' st h => by
      have z := st.fz c' _ h.1.2.2 h.2 (fun ps q => by unfold LamX.CodeO at q; cases q)
      exact ⟨⟨h.1.1, h.1.2.1.stp st, z.1⟩, z.2⟩, [0],
    fun σ σ' n r H e h => ⟨⟨by rw [e 0 (by simp)]; exact h.1.1, h.1.2⟩, h.2⟩⟩
def runLam (t : Sta) (d : Df) (th : Sto → R D) (S : Sto) : R D := gcF S.length (fin (evSs d.body { t with thk := some (0, th), lam := false } (List.replicate d.N.length none) S))
theorem def_lamP {d : Df} {f : Str} (hd : DefOk K mg base t.nm d f) (sok : SOk P w K mg base t k) (hh : t.hot = none) (hps : d.ps.length = 1) (hN : 0 < d.N.length) (hsh : (1, []) ∈ d.shapes) (hj : k ≤ j + 1) (hfx : d.fx = [0]) :
    ∃ fa, mg f = some (.ref fa) ∧ PySem.W.keepIn K (.ref fa) = true ∧ LamP P w K mg base j fa (runLam t d) := by
  obtain ⟨fa, name, qual, params, body, scope, dV, kV, doc, pm, cdv, ct, oc, an, od, osl, m1, m2, lk, hcd, FS, hck, hB, hlam⟩ := hd.ex
  rw [hfx] at hck
  refine ⟨fa, m1, m2, fun A outer s H f' c' q e σ th Q E S r hr hgd e0 emb he hco hfz T o => ?_⟩
  unfold runLam at o
  have o := out_gc o
  obtain ⟨p, hp⟩ : ∃ p, d.ps = [p] := by
    match h : d.ps, hps with
    | [p], _ => exact ⟨p, rfl⟩
  have hbind := hB _ _ hsh [.ref f'] [] [.ref f'] rfl rfl (by rw [hp]; rfl)
  refine LamX.run_ofS (N := d.N) (ps := d.ps) (us := [.ref f']) (vs := [V.ref f']) lk hcd FS hr e0 (.of_eq hbind) (.cons rfl .nil) (by rw [hps]; rfl) fun hr' => ?_
  have rk : Room k (A.deeper (envOfC qual scope s.heap.objs.size fa cdv)) := hr'.mono hj
  have hs0 : (L2.start d.N [V.ref f'])[0]? = some (some (V.ref f')) := rfl
  have gs : GoodS { t with thk := some (0, th), lam := false } k d.N scope (cxOf (L2.CX P w) P w K mg base d.N qual scope fa cdv A outer s H E) (Wm.lam E ⟨K, mg, Tb.T⟩ f' c' q e σ) [0] := by
    refine ⟨⟨rfl, rfl, FS.nd, rk.un, deeper_guards hgd, ⟨sok.call, sok.con, sok.free, sok.ins, sok.xf, sok.exm, sok.cn, sok.rx, sok.exc, sok.lamf, sok.isi, sok.ri, sok.sy, sok.rm⟩, fun _ => ⟨rfl, rk, takes_of rfl rfl rfl rfl⟩, fun i x z => ?_, fun _ z => (nomatch z), fun i th' _ z => ?_⟩, fun _ => rfl, rfl, rfl, FS.kind, fun _ => passes_of rfl, fun i hi => hi⟩
    · have z : t.hot = some (some i, x) := z
      rw [hh] at z
      cases z
    · have z : some (0, th) = some (i, th') := z
      cases z
      exact ⟨f', c', q, e, σ, ⟨rfl, j + 1, hr', T⟩, fun σ n r H h => h.1⟩
  refine ⟨_, sndS d.body gs body hck, S, r, List.replicate d.N.length none, emb, ⟨⟨?_, fun i dd z => ?_⟩, ⟨hs0, he, hco⟩, hfz⟩, ?_⟩
  · unfold L2.start
    simp
    omega
  · have := List.mem_of_getElem? z
    rw [List.mem_replicate] at this
    cases this.2
  · revert o
    generalize evSs d.body { t with thk := some (0, th), lam := false } (List.replicate d.N.length none) S = q
    intro o
    cases q with
    | bad => exact o.elim
    | exc x S1 => exact o.elim
    | ok fl S1 =>
      cases fl with
      | next s1 => exact fun r1 H1 st em σ he => o r1 H1 st em V.non (by rw [Rep])
      | ret dd => exact o
      | brk s1 => exact o.elim
      | cont s1 => exact o.elim
      | exc x s1 => exact fun r1 H1 st em σ cls dd he hx => o r1 H1 st em cls dd hx
end
end Fw

set_option Elab.async false
set_option linter.all false
set_option maxRecDepth 100000
set_option maxHeartbeats 4000000
namespace Fw
open PySem PySem.Spec PyProof.Rows L2
variable [Tb]
/-- one level more of calls -/
def stepSta (b : Sta) (tb : Str → Option Df) (x : Sta) (z : Option Sta) : Sta := { b with
  rm := z.isSome
  C := fun f ds kws S => match tb f with
    | some d => if d.lam = true then (match z with
      | some z => runDf { z with lam := true } d ds kws S
      | none => .bad) else runDf x d ds kws S
    | none => .bad
  L := fun f th S => match tb f with
    | some d => if d.fx = [0] then runLam x d th S else .bad
    | none => .bad }
def zeroSta (b : Sta) : Sta := { b with rm := false, C := fun _ _ _ _ => .bad, L := fun _ _ _ => .bad }
def mk3 (b : Sta) (tb : Str → Option Df) : Nat → Sta × Option Sta × Option Sta
  | 0 => (zeroSta b, none, none)
  | k + 1 => (stepSta b tb (mk3 b tb k).1 (mk3 b tb k).2.2, some (mk3 b tb k).1, (mk3 b tb k).2.1)
/-- what holds of the text whatever its calls do -/
structure Stat (P : Program) (w : World) (K : PySem.W.Frag) (mg : Str → Option Value) (base : Heap) (t : Sta) : Prop where
  con : ∀ x d, t.G x = some d → ∃ u v, (mg x = some u ∨ (mg x = none ∧ bootBuiltins x = some u)) ∧ RelV v u ∧ ∀ n r H, Rep ⟨K, mg, Tb.T⟩ n r H d v
  free : ∀ x, x ∈ t.nm.F → mg x = none
  ins : ∀ C c, C ∈ t.IC → mg C = some (.ref c) → InsC K c
  xf : ∀ C c g, (C, g) ∈ t.XF → mg C = some (.ref c) → PySem.W.findIn K (.ref c) g = some none
  exm : ∀ C x b, t.EI C x = some b → ∀ c d, mg C = some (.ref c) → mg x = some (.ref d) → PySem.W.exmOne K (.ref c) (.ref d) = some b
  cn : ∀ x, x ∈ t.nm.CN → ∃ c, mg x = some (.ref c)
  rx : ∀ C, C ∈ t.RX → ∃ c, mg C = some (.ref c) ∧ PySem.W.keepIn K (.ref c) = true ∧ PySem.W.subIn K (.ref c) (.type "BaseException") = some true ∧ PySem.W.typeIn K (.ref c) = some (.type "type") ∧
    ∃ (B newId initId : String) (bmB : List Value), ExcBaseFacts B newId initId bmB ∧ PySem.W.excIn K c bmB newId = true
  exc : ∀ C c, mg C = some (.ref c) → C ∈ t.EC → ExcC K c ∧ XfC K c
  isi : ∀ a b r, t.I a b = some r → ∀ u v, clsAt mg a u → clsAt mg b v → PySem.W.kitOne K u v = some r
  ri : ∀ C f m, t.RI C = some (f, m) → ∃ c, mg C = some (.ref c) ∧ SupC P K mg c f m
  sy : ∃ o, K.lookup sysModules = some o
section
variable {P : Program} {w : World} {K : PySem.W.Frag} {mg : Str → Option Value} {base : Heap} {b : Sta} {tb : Str → Option Df}
def Lev (P : Program) (w : World) (K : PySem.W.Frag) (mg : Str → Option Value) (base : Heap) (b : Sta) (t : Sta) (k : Nat) : Prop := SOk P w K mg base t k ∧ t.hot = none ∧ t.thk = none ∧ t.lam = false ∧ t.nm = b.nm
theorem lev_ok (st : Stat P w K mg base b) (h1 : b.hot = none) (h2 : b.thk = none) (h3 : b.lam = false) (hT : ∀ f, f ∈ b.nm.T → ∃ d, tb f = some d ∧ DefOk K mg base b.nm d f)
    (hL : ∀ f, f ∈ b.nm.LT → ∃ d, tb f = some d ∧ DefOk K mg base b.nm d f ∧ d.ps.length = 1 ∧ 0 < d.N.length ∧ (1, []) ∈ d.shapes ∧ d.fx = [0]) :
    ∀ k, Lev P w K mg base b (mk3 b tb k).1 k ∧ (∀ y, (mk3 b tb k).2.1 = some y → 1 ≤ k ∧ Lev P w K mg base b y (k - 1)) ∧ ∀ z, (mk3 b tb k).2.2 = some z → 2 ≤ k ∧ Lev P w K mg base b z (k - 2)
  | 0 => by
    refine ⟨⟨⟨fun f hf => ?_, st.con, st.free, st.ins, st.xf, st.exm, st.cn, st.rx, st.exc, fun f hf => ?_, st.isi, st.ri, st.sy, fun z => nomatch z⟩, h1, h2, h3, rfl⟩, (fun y q => by cases (show none = some y from q)), (fun z q => by cases (show none = some z from q))⟩
    · obtain ⟨d, _, hd⟩ := hT f hf
      obtain ⟨fa, name, qual, params, body, scope, dV, kV, doc, pm, cdv, ct, oc, an, od, osl, m1, m2, _⟩ := hd.ex
      exact ⟨fa, m1, m2, fun A outer s H us ws ks vs zs Q E S r ds es _ _ _ _ _ _ _ _ _ o => o.elim⟩
    · obtain ⟨d, _, hd, _⟩ := hL f hf
      obtain ⟨fa, name, qual, params, body, scope, dV, kV, doc, pm, cdv, ct, oc, an, od, osl, m1, m2, _⟩ := hd.ex
      exact ⟨fa, m1, m2, fun A outer s H f c' q e σ th Q E S r _ _ _ _ _ _ _ _ o => o.elim⟩
  | k + 1 => by
    obtain ⟨⟨x1, x2, x3, x4, x5⟩, y0, z0⟩ := lev_ok st h1 h2 h3 hT hL k
    refine ⟨⟨⟨fun f hf => ?_, st.con, st.free, st.ins, st.xf, st.exm, st.cn, st.rx, st.exc, fun f hf => ?_, st.isi, st.ri, st.sy, fun q => ?_⟩, h1, h2, h3, rfl⟩, fun y q => ?_, fun z q => ?_⟩
    · obtain ⟨d, hd0, hd⟩ := hT f hf
      have eC : (mk3 b tb (k + 1)).1.C f = fun ds kws S => if d.lam = true then (match (mk3 b tb k).2.2 with
          | some z => runDf { z with lam := true } d ds kws S
          | none => .bad) else runDf (mk3 b tb k).1 d ds kws S := by
        funext ds kws S
        show (match tb f with
          | some d => if d.lam = true then (match (mk3 b tb k).2.2 with
            | some z => runDf { z with lam := true } d ds kws S
            | none => .bad) else runDf (mk3 b tb k).1 d ds kws S
          | none => .bad) = _
        rw [hd0]
      show ∃ fa, mg f = some (.ref fa) ∧ PySem.W.keepIn K (.ref fa) = true ∧ CallP P w K mg base (k + 1) fa ((mk3 b tb (k + 1)).1.C f)
      rw [eC]
      by_cases hl : d.lam = true
      · cases hz : (mk3 b tb k).2.2 with
        | none =>
          obtain ⟨fa, name, qual, params, body, scope, dV, kV, doc, pm, cdv, ct, oc, an, od, osl, m1, m2, _⟩ := hd.ex
          refine ⟨fa, m1, m2, fun A outer s H us ws ks vs zs Q E S r ds es _ _ _ _ _ _ _ _ _ o => ?_⟩
          dsimp only at o
          rw [if_pos hl] at o
          exact o.elim
        | some z =>
          obtain ⟨z1, z2, z3, z4, z5, z6⟩ := z0 z hz
          have e : (fun ds kws S => if d.lam = true then (match some z with
            | some z => runDf { z with lam := true } d ds kws S
            | none => R.bad) else runDf (mk3 b tb k).1 d ds kws S) = runDf { z with lam := true } d := by
            funext ds kws S
            rw [if_pos hl]
          rw [e]
          exact def_callP (t := { z with lam := true }) (k := k - 2) (j := k) (by show DefOk K mg base z.nm d f; rw [z6]; exact hd) ⟨z2.call, z2.con, z2.free, z2.ins, z2.xf, z2.exm, z2.cn, z2.rx, z2.exc, z2.lamf, z2.isi, z2.ri, z2.sy, z2.rm⟩ z3 z4 hl.symm (by omega) (fun _ => by omega)
      · have e : (fun ds kws S => if d.lam = true then (match (mk3 b tb k).2.2 with
            | some z => runDf { z with lam := true } d ds kws S
            | none => R.bad) else runDf (mk3 b tb k).1 d ds kws S) = runDf (mk3 b tb k).1 d := by
          funext ds kws S
          rw [if_neg hl]
        rw [e]
        have hl2 : d.lam = false := by simpa using hl
        exact def_callP (k := k) (j := k) (by rw [x5]; exact hd) x1 x2 x3 (by rw [x4, hl2]) (Nat.le_refl _) (fun z => absurd z hl)
    · obtain ⟨d, hd0, hd, a1, a2, a3, a4⟩ := hL f hf
      have eL : (mk3 b tb (k + 1)).1.L f = runLam (mk3 b tb k).1 d := by
        funext th S
        show (match tb f with
          | some d => if d.fx = [0] then runLam (mk3 b tb k).1 d th S else .bad
          | none => .bad) = _
        rw [hd0]
        dsimp only
        rw [if_pos a4]
      show ∃ fa, mg f = some (.ref fa) ∧ PySem.W.keepIn K (.ref fa) = true ∧ LamP P w K mg base (k + 1) fa ((mk3 b tb (k + 1)).1.L f)
      rw [eL]
      exact def_lamP (k := k) (j := k + 1) (by rw [x5]; exact hd) x1 x2 a1 a2 a3 (by omega) a4
    · have q2 : ((mk3 b tb k).2.2).isSome = true := q
      cases hz : (mk3 b tb k).2.2 with
      | none => rw [hz] at q2; cases q2
      | some z => have := (z0 z hz).1; omega
    · have e : (mk3 b tb k).1 = y := Option.some.inj q
      rw [← e]
      exact ⟨by omega, x1, x2, x3, x4, x5⟩
    · obtain ⟨y1, y2⟩ := y0 z q
      refine ⟨by omega, ?_⟩
      have : k + 1 - 2 = k - 1 := by omega
      rw [this]
      exact y2
end
end Fw

set_option Elab.async false
set_option linter.all false
set_option maxRecDepth 100000
set_option maxHeartbeats 4000000
namespace Fw
open PySem PySem.Spec PyProof.Rows L2
/-- what stands at the call's entry: dict-like and code objects are seen by the base, the script and the tables are not -/
structure Seen (s : Shared) (H : Hp) (a : Addr) (L : List Addr) : Prop where
  out : ∀ b, b ≠ a → b ∉ L → H b = none
  scr : ∃ vs : List Value, s.heap.get? a = some { cls := .type "list", data := .seq vs.toArray }
  tab : ∀ b, b ∈ L → s.heap.get? b = some { cls := .none, data := .fields #[] }
section
variable {s : Shared} {H : Hp} {a : Addr} {L : List Addr}
theorem Seen.hid (q : Seen s H a L) {b : Addr} {o : Obj} (e : s.heap.get? b = some o) (n1 : ∀ vs n, o.data ≠ .seq vs n) (n2 : o.data ≠ .fields #[]) : (hidT s.heap H).get? b = some o := by
  refine hidT_get e (q.out b (fun z => ?_) fun z => ?_)
  · obtain ⟨vs, hv⟩ := q.scr
    subst z
    rw [hv] at e
    have e2 := Option.some.inj e
    rw [← e2] at n1
    exact n1 _ _ rfl
  · rw [q.tab b z] at e
    have e2 := Option.some.inj e
    rw [← e2] at n2
    exact n2 rfl
theorem Seen.ns (q : Seen s H a L) {b : Addr} {m : Str → Option Value} (h : s.heap.Ns b m) : (hidT s.heap H).Ns b m := by
  obtain ⟨o, es, ep, e, hd, rest⟩ := h
  refine ⟨o, es, ep, q.hid e (fun vs n z => ?_) (fun z => ?_), hd, rest⟩
  · rw [hd] at z
    cases z
  · rw [hd] at z
    cases z
theorem Seen.code (q : Seen s H a L) {c P : Addr} (h : PySem.W.CodeHd s.heap c P) : PySem.W.CodeHd (hidT s.heap H) c P := by
  obtain ⟨o, fields, f1, t1, f2, t2, f3, f4, t4, hget, hcls, hdat, h11, rest⟩ := h
  refine ⟨o, fields, f1, t1, f2, t2, f3, f4, t4, q.hid hget (fun us n z => ?_) (fun z => ?_), hcls, hdat, h11, rest⟩
  · rw [hdat] at z
    cases z
  · rw [hdat] at z
    cases z
    simp at h11
end
section
variable [Tb] {P : Program} {w : World} {K : PySem.W.Frag} {mg mb : Str → Option Value} {k : Nat} {fa a : Addr} {cs : List (Addr × Addr)} {s : Shared} {H : Hp} {ns : List Int} {C : List D → List (Str × D) → Sto → R D} {S' : Sto}
theorem end_core (q : Seen s H a (cs.map (·.2))) (KI : K.In s.heap) (hK : ∀ b o, K.lookup b = some o → H b = none) (g : s.heap.Ns mainGlobals mg) (gb : s.heap.Ns builtinsNs mb) (gbb : ∀ x : Str, x ≠ "__name__" → mb x = bootBuiltins x) (lim : s.heap.NoLimit) (gen : s.gens = #[])
    (hH : ∀ b, b ∈ cs.map (·.2) → H b = some (.tbl #[])) (hfr : ∀ o, H a = some o → ∃ ob xs, o = .frz ob (.lst xs)) (hok : HOk P w H s.heap) (hS : FS K 0 (fun _ => 0) H a (ns.map V.int)) (codes : ∀ p ∈ cs, PySem.W.CodeHd s.heap p.1 p.2)
    (bmod : ∃ (bm : Addr) (ob : Obj), mg "__builtins__" = some (.ref bm) ∧ bm ≠ builtinsNs ∧ s.heap.get? bm = some ob ∧ ob.cls = .type "module" ∧ ob.dict = some builtinsNs ∧ ob.data = .plain)
    (F : ∀ base : Heap, K.In base → base.Ns mainGlobals mg → (∀ p ∈ cs, LamX.TabB base mg p.1 p.2) → CallP P w K mg base k fa C) (hr : Room k callerA) (hT : ∀ p ∈ (Tb.T : List (Addr × Str)), p.1 ∈ cs.map (·.2)) (hC : C [.scr ns] [] [] = .ok (.bl true) S') :
    codeAny (model P w) callerA (.call (.ref fa) ⟨[.ref a], []⟩) (fun r s2 => r = .ok (.ret (.bool true)) ∧ OldK s.heap s2.heap ∧ s2.os = s.os ∧ AllBare s2.gens) s := by
  have notab : ∀ {b : Addr} {m : Str → Option Value}, s.heap.Ns b m → ∀ {c : Addr}, c ∈ cs.map (·.2) → b ≠ c := fun {b m} hn c hc z => by
    obtain ⟨o, es, ep, e, hd, _⟩ := hn
    rw [z, q.tab c hc] at e
    cases e
    cases hd
  have KB : K.In (hidT s.heap H) := fun b o e => hidT_get (KI b o e) (hK b o e)
  have TB : ∀ p ∈ cs, LamX.TabB (hidT s.heap H) mg p.1 p.2 := fun p hp => by
    have hm : p.2 ∈ cs.map (·.2) := List.mem_map.mpr ⟨p, hp, rfl⟩
    refine ⟨q.code (codes p hp), ?_, notab g hm⟩
    obtain ⟨bm, ob, c1, c2, c3, c4, c5, c6⟩ := bmod
    refine ⟨bm, ob, c1, c2, fun z => ?_, fun z => ?_, q.hid c3 (fun us n y => ?_) (fun y => ?_), c4, c5, c6⟩
    · obtain ⟨o, es, ep, e, hd, _⟩ := g
      rw [z, e] at c3
      cases c3
      rw [hd] at c6
      cases c6
    · rw [z, q.tab _ hm] at c3
      cases c3
      cases c6
    · rw [c6] at y
      cases y
    · rw [c6] at y
      cases y
  obtain ⟨mc, l1, l2⟩ := lim
  have env : Env0 P w K mg (hidT s.heap H) callerA [] s H :=
    { frames := rfl
      mod := { kin := KB, glob := q.ns g, blt := ⟨mb, q.ns gb, gbb⟩, nolimit := ⟨mc, q.ns l1, l2⟩ }
      bs := fun b o e => of_hidT e
      bsz := Nat.le_of_eq (hidT_size s.heap H)
      funs := trivial
      frf := fun b hb => by simp [frs] at hb
      hok := hok
      bare := .of_eq gen }
  have tabs : LamX.Tabs (Tb.T : List (Addr × Str)) H := fun p hp => .nil (hH p.1 (hT p hp))
  have emb : Emb ⟨K, mg, Tb.T⟩ [] (fun _ => 0) H := ⟨fun l l' z => absurd z (Nat.not_lt_zero _), fun l o z => by simp at z, tabs⟩
  have rep : RepL ⟨K, mg, Tb.T⟩ 0 (fun _ => 0) H [.scr ns] [.ref a] := RepL.one (by rw [Rep]; exact ⟨a, rfl, hS⟩)
  have run := F _ KB (q.ns g) TB callerA [] s H [.ref a] [] [] [.ref a] [] (fun v _ => v = .bl true) (fun _ _ _ => False) [] (fun _ => 0) [.scr ns] [] hr rfl env (.cons rfl .nil) .nil emb rep RepL.nil rfl (by
    show Out _ _ _ _ _ _ (C [.scr ns] [] [])
    rw [hC]
    intro r' H' st em v hv
    rw [Rep] at hv
    exact hv)
  refine codeAny_mono run fun res s2 hq => ?_
  cases res with
  | error e =>
    obtain ⟨_, _, _, _, _, _, _, _, _, _, _, _, z⟩ := hq
    exact z.elim
  | ok fl =>
    cases fl with
    | next => exact False.elim hq
    | brk => exact False.elim hq
    | cont => exact False.elim hq
    | ret u =>
      obtain ⟨v, H2, z1, z2, un, hok2, rv, z3⟩ := hq
      have z3 : v = .bl true := z3
      subst z3
      have hu : u = Value.bool true := rv
      have same : ∀ b o, b ∉ cs.map (·.2) → s.heap.get? b = some o → s2.heap.get? b = some o := fun b o nb e => by
        cases hb : H b with
        | none => exact un.keep b o e hb (fun z => by simp [frs] at z) (fun z => nomatch z)
        | some u =>
          by_cases hba : b = a
          · subst hba
            obtain ⟨ob, xs, rfl⟩ := hfr u hb
            have k1 := (hok b _ hb).1
            have k2 := (hok2 b _ (un.frzs b ob _ hb)).1
            rw [e] at k1
            cases k1
            exact k2
          · rw [q.out b hba nb] at hb
            cases hb
      have grow : ∀ b, b ∈ cs.map (·.2) → ∃ more : Array Value, s2.heap.get? b = some { cls := .none, data := .fields more } := fun b hb => by
        obtain ⟨more, z⟩ := un.tbls b #[] (hH b hb)
        exact ⟨_, hok2 b _ z⟩
      refine ⟨by rw [hu], ⟨fun b o e => ?_, fun b o e => ?_⟩, z1, z2⟩
      · by_cases hb : b ∈ cs.map (·.2)
        · obtain ⟨more, hm⟩ := grow b hb
          obtain ⟨p, hp, ep⟩ := List.mem_map.mp hb
          rw [q.tab b hb] at e
          have e := Option.some.inj e
          subst e
          subst ep
          refine .inr (.inl ⟨((codes p hp).tab (q.tab _ hb)).isCodeTable, rfl, #[], more, rfl, ?_⟩)
          rw [Array.empty_append]
          exact hm
        · exact .inl (same b o hb e)
      · by_cases hb : b ∈ cs.map (·.2)
        · obtain ⟨more, hm⟩ := grow b hb
          exact ⟨_, hm⟩
        · exact ⟨o, same b o hb e⟩
end
/-- what the head's facts give -/
structure LawFw (P : Program) (w : World) (k n : Nat) (mg : Str → Option Value) (fa : Addr) (h : Heap) : Prop where
  ex : ∃ (K : PySem.W.Frag) (cs : List (Addr × Addr)) (T : List (Addr × Str)) (C : List D → List (Str × D) → Sto → R D), K.In h ∧ (∀ p ∈ cs, h.get? p.2 = some { cls := .none, data := .fields #[] }) ∧ (∀ p ∈ cs, K.lookup p.2 = none) ∧ (∀ p ∈ cs, PySem.W.CodeHd h p.1 p.2) ∧ (∀ p ∈ T, p.1 ∈ cs.map (·.2)) ∧
    (∀ ns : List Int, ns.length ≤ n → (∀ z ∈ ns, Builtin.Int.intBits z ≤ 1048576) → ∃ S', C [.scr ns] [] [] = .ok (.bl true) S') ∧
    ∀ base : Heap, K.In base → base.Ns mainGlobals mg → (∀ p ∈ cs, LamX.TabB base mg p.1 p.2) → @CallP ⟨T⟩ P w K mg base k fa C
theorem ints_vals {vs : List Value} {ns : List Int} (h : IntsAre vs ns) : Vals (ns.map V.int) vs := by
  induction h with
  | nil => exact .nil
  | cons n t _ ih => exact .cons ⟨t, rfl⟩ ih
theorem walk_fw {l : PySem.W.OpenLaw} {n k : Nat} {q : Program} {loose : List Str} {XP : (Str → Option Value) → Heap → Prop} {YP : World → Heap → Prop} {d : DefRec}
    (hn : l.most = some n) (hn2 : n ≤ sizeLine) (hdf : d.params.defaults = []) (hr : Room k callerA)
    (F : ∀ (w : World) (mg : Str → Option Value) (fa : Addr) (h : Heap), YP w h → h.Ns mainGlobals mg → mg d.name = some (.ref fa) → LawFw l.prog w k n mg fa h) :
    PySem.W.WalkO q loose XP YP l.row.toRowW d [] (fun f vs => PySem.call f vs) := by
  refine Att.attach_callB hn hdf fun w s0 s mg mb fa o pm cd doc a vs ns G Y ho hd hcd hmg hobj hints hlen hbits hg => ?_
  obtain ⟨K, cs, T, C, KI, hT, nT, hC, hTT, hrun, hF⟩ := (F w mg fa _ Y G.T.g hmg).ex
  obtain ⟨S', hS'⟩ := hrun ns hlen hbits
  letI : Tb := ⟨T⟩
  have rv := ints_vals hints
  have hz : ns.length ≤ sizeLine := Nat.le_trans hlen hn2
  have hsz : vs.length = ns.length := by rw [← rv.length, List.length_map]
  have tabO : ∀ b, b ∈ cs.map (·.2) → s.heap.get? b = some { cls := .none, data := .fields #[] } := fun b hb => by
    obtain ⟨p, hp, rfl⟩ := List.mem_map.mp hb
    exact hT p hp
  have naT : a ∉ cs.map (·.2) := fun z => by
    have e := tabO a z
    rw [hobj] at e
    cases e
  cases hk : K.lookup a with
  | some ob =>
    have e := KI a ob hk
    rw [hobj] at e
    have e := Option.some.inj e
    subst e
    refine end_core (H := fun b => if b ∈ cs.map (·.2) then some (.tbl #[]) else none) (a := a) ⟨fun b _ hb => if_neg hb, ⟨vs, hobj⟩, tabO⟩ KI (fun b o e => if_neg fun hb => ?_) G.T.g G.T.b G.T.builtins G.T.nolimit hg (fun b hb => if_pos hb) (fun o e => ?_) (fun b o e => ?_) (.inr ⟨_, vs.toArray, _, hk, rfl, rfl, rfl, by rw [List.size_toArray, hsz]; exact hz, by simpa using rv⟩) hC G.T.bmain hF hr hTT hS'
    · obtain ⟨p, hp, ep⟩ := List.mem_map.mp hb
      rw [← ep, nT p hp] at e
      cases e
    · skip
      rw [if_neg naT] at e
      cases e
    · dsimp only at e
      by_cases hb : b ∈ cs.map (·.2)
      · rw [if_pos hb] at e
        cases e
        exact tabO b hb
      · rw [if_neg hb] at e
        cases e
  | none =>
    have ha : (fun b => if b = a then some (HO.frz { cls := .type "list", data := .seq vs.toArray } (.lst (ns.map V.int))) else if b ∈ cs.map (·.2) then some (HO.tbl #[]) else none) a = some (HO.frz { cls := .type "list", data := .seq vs.toArray } (.lst (ns.map V.int))) := if_pos rfl
    refine end_core (H := fun b => if b = a then some (.frz { cls := .type "list", data := .seq vs.toArray } (.lst (ns.map V.int))) else if b ∈ cs.map (·.2) then some (.tbl #[]) else none) (a := a) ⟨fun b h1 h2 => by rw [if_neg h1, if_neg h2], ⟨vs, hobj⟩, tabO⟩ KI (fun b o e => ?_) G.T.g G.T.b G.T.builtins G.T.nolimit hg (fun b hb => ?_) (fun o e => ?_) (fun b o e => ?_) (.inl ⟨.inr ⟨_, ha⟩, fun l z => absurd z (Nat.not_lt_zero _)⟩) hC G.T.bmain hF hr hTT hS'
    · have h1 : b ≠ a := fun z => by
        rw [z, hk] at e
        cases e
      have h2 : b ∉ cs.map (·.2) := fun hb => by
        obtain ⟨p, hp, ep⟩ := List.mem_map.mp hb
        rw [← ep, nT p hp] at e
        cases e
      skip
      rw [if_neg h1, if_neg h2]
    · skip
      rw [if_neg (fun z => naT (by rw [← z]; exact hb)), if_pos hb]
    · skip
      rw [if_pos rfl] at e
      cases e
      exact ⟨_, _, rfl⟩
    · dsimp only at e
      by_cases h1 : b = a
      · rw [if_pos h1] at e
        cases e
        rw [h1]
        exact ⟨hobj, by rw [List.length_map]; exact hz, vs, _, rv, hobj⟩
      · rw [if_neg h1] at e
        by_cases hb : b ∈ cs.map (·.2)
        · rw [if_pos hb] at e
          cases e
          exact tabO b hb
        · rw [if_neg hb] at e
          cases e
end Fw

set_option Elab.async false
set_option linter.all false
set_option maxRecDepth 100000
set_option maxHeartbeats 4000000
namespace Fw
open PySem PySem.Spec PyProof.Rows L2
/-! error classes in the head's facts -/
/-- the __init__ of a class's row -/
def initOf : Stmt → Stmt
  | .ClassDef _ _ _ body _ _ _ _ _ _ _ => (body.find? fun s => match s with
    | .FunctionDef n _ _ _ _ _ _ _ _ _ => n == ("__init__" : Str)
    | _ => false).getD (.Pass ⟨0, 0, 0, 0⟩)
  | s => s
/-- super().__init__("m" + repr(f)); self.f = f -/
def supCk (f m : Str) : List Stmt → Bool
  | [.Expr (.Call (.Attribute (.Call (.Name s1 _) [] [] _) i1 a2) [.BinOp (.Constant (.str m1) _ _) o1 (.Call (.Name r1 _) [.Name f1 _] [] _) _] [] a3) _, .Assign [.Attribute (.Name s2 _) f2 _] (.Name f3 _) _] =>
    decide (s1 = "super") && (decide (i1 = "__init__") && (decide (m1 = m) && (decide (o1 = .Add) && (decide (r1 = "repr") && (decide (f1 = f) && (decide (s2 = "self") && (decide (f2 = f) && (decide (f3 = f) && (a2.endLine == a3.line)))))))))
  | _ => false
theorem supCk_ok {f m : Str} {b : List Stmt} (h : supCk f m b = true) : ∃ (p q : Nat → Pos) (j : Nat), b = supB f (supA m f q j) p ∧ ((p 2).endLine == (p 3).line) = true := by
  unfold supCk at h
  split at h
  · rename_i s1 b0 b1 i1 a2 m1 j q0 o1 r1 q1 f1 q2 q3 q4 a3 b4 s2 b5 f2 b6 f3 b7 b8
    simp only [Bool.and_eq_true, decide_eq_true_eq] at h
    obtain ⟨rfl, rfl, rfl, rfl, rfl, rfl, rfl, rfl, rfl, h1⟩ := h
    exact ⟨fun n => match n with
      | 0 => b0 | 1 => b1 | 2 => a2 | 3 => a3 | 4 => b4 | 5 => b5 | 6 => b6 | 7 => b7 | _ => b8, fun n => match n with
      | 0 => q0 | 1 => q1 | 2 => q2 | 3 => q3 | _ => q4, j, rfl, h1⟩
  · cases h
abbrev FnV : Type := Option (Str × Str × Arguments × FuncBody × Scope × Addr × List Str × Addr)
def fnV (K : PySem.W.Frag) (p : Str × Option Str) : FnV := match K.lookup (He.fAd K p) with
  | some ⟨_, _, .func fd, _⟩ => some (fd.name, fd.qualname, fd.params, fd.body, fd.scope, fd.globals, fd.closure.map (·.1), fd.builtins)
  | _ => none
def oexB (K : PySem.W.Frag) (c : Addr) : Bool := match K.lookup c with
  | some ⟨.type "type", _, .cls cd, sl⟩ => (match cd.mro, sl.toList with
    | .ref c' :: bm, [_, _, _, _, some (.builtin n), _] => c' == c && (n == "ValueError.__new__" && (!cd.hasDel && (cd.hasDict && PySem.HandSPX.refsVE bm)))
    | _, _ => false)
  | _ => false
theorem oexB_ok {K : PySem.W.Frag} {c : Addr} (h : oexB K c = true) : ∃ nm q N bs bm sn sub ab col dd k0 k1 k2 k3 k5, K.lookup c = some (excClassObj nm q c N bs bm true sn sub ab col dd k0 k1 k2 k3 k5 "ValueError.__new__") ∧ PySem.HandSPX.refsVE bm = true := by
  unfold oexB at h
  split at h
  · rename_i dd cd sl ho
    split at h
    · rename_i c' bm k0 k1 k2 k3 n k5 hm hs
      simp only [Bool.and_eq_true, beq_iff_eq, Bool.not_eq_true'] at h
      obtain ⟨rfl, rfl, hdel, hdict, hr⟩ := h
      obtain ⟨nm, bs, mro, ns, qn, hd, sn, sub, ab, col, del⟩ := cd
      dsimp only at hm hdel hdict
      subst hm hdel hdict
      have hsl : sl = #[k0, k1, k2, k3, some (.builtin "ValueError.__new__"), k5] := by
        obtain ⟨l⟩ := sl
        simp only at hs
        rw [hs]
      subst hsl
      exact ⟨nm, qn, ns, bs, bm, sn, sub, ab, col, dd, k0, k1, k2, k3, k5, ho, hr⟩
    · cases h
  · cases h
def cellB (K : PySem.W.Frag) (cc c : Addr) : Bool := match K.lookup cc with
  | some ⟨_, _, .cell (some (.ref d)), _⟩ => d == c
  | _ => false
def codeB (K : PySem.W.Frag) (file : Str) (cd : Value) : Bool := match cd with
  | .ref a => (match K.lookup a with
    | some ⟨_, _, .fields vs, _⟩ => (match (vs[2]? : Option Value) with
      | some (Value.str z _) => decide (z = file)
      | _ => false)
    | _ => false)
  | _ => false
theorem cellB_ok {K : PySem.W.Frag} {cc c : Addr} (h : cellB K cc c = true) : ∃ (cl : Value) (cld : Option Addr) (csl : Array (Option Value)), K.lookup cc = some ⟨cl, cld, .cell (some (.ref c)), csl⟩ := by
  unfold cellB at h
  split at h
  · rename_i cl cld d csl hcc
    rw [beq_iff_eq.mp h] at hcc
    exact ⟨_, _, _, hcc⟩
  · cases h
theorem codeB_ok {K : PySem.W.Frag} {file : Str} {cd : Value} (h : codeB K file cd = true) : ∃ (a : Addr) (ccl : Value) (cdd : Option Addr) (vs : Array Value) (ccs : Array (Option Value)) (tf : Tok), cd = .ref a ∧ K.lookup a = some ⟨ccl, cdd, .fields vs, ccs⟩ ∧ vs[2]? = some (.str file tf) := by
  unfold codeB at h
  split at h
  · split at h
    · split at h
      · rename_i hz
        rw [of_decide_eq_true h] at hz
        exact ⟨_, _, _, _, _, _, rfl, by assumption, hz⟩
      · cases h
    · cases h
  · cases h
def funB (K : PySem.W.Frag) (file : Str) (qual : Str) (c f1 : Addr) : Bool := match K.lookup f1 with
  | some ⟨_, _, .func fd, _⟩ => PySem.W.codeIn K fd.code qual && (codeB K file fd.code && (decide (fd.defaults = .none) && (match fd.closure with
    | [(_, cc)] => cellB K cc c
    | _ => false)))
  | _ => false
def supIn (K : PySem.W.Frag) (file qual : Str) (c : Addr) (f : Str) : Bool :=
  oexB K c && (funB K file qual c (He.ma K c "__init__") && (decide (PySem.W.findIn K (.ref c) "__setattr__" = some (some (.builtin "object.__setattr__"))) && (decide (PySem.W.subIn K (.ref c) (.type "BaseException") = some true) && (decide (PySem.W.typeIn K (.ref c) = some (.type "type")) &&
  (PySem.W.keepIn K (.ref c) && (decide (PySem.W.findIn K (.ref c) f = some none) && (decide (PySem.W.findIn K (.ref c) "__init__" = some (some (.ref (He.ma K c "__init__")))) && (decide (PySem.W.typeIn K (.ref (He.ma K c "__init__")) = some (.type "function")) && ((PySem.W.clsIn K c).isSome && (decide (PySem.W.mroIn K c (.ref c) = some true) &&
  (decide (PySem.W.nsIn K cStatics "thirdparty.any" = some none) && (decide (PySem.W.ks_superIn K c c "__init__" = some (some (.builtin "ValueError.__init__"))) && (decide (PySem.W.subIn K (.ref c) (.type "ValueError") = some true) && (K.lookup sysModules).isSome)))))))))))))
/-- what is seen of the text -/
def supStill (f m : Str) (st : Stmt) : Bool := supCk f m (defBody st) && (NdefX.nscB (supN f) ["self", f] ["__class__"] (defScope st) && (decide ((defScope st).names.lookup ("super" : Str) = some .globalImplicit) && (decide ((defScope st).names.lookup ("repr" : Str) = some .globalImplicit) &&
  ((match (defArgs st).posonlyargs ++ (defArgs st).args with
    | a :: _ => decide (a.arg = "self")
    | [] => false) && (!(f == ("__debug__" : Str)) && !(f == ("__classdict__" : Str)))))))
def SBind (qual f : Str) (st : Stmt) : Prop := ∀ (kV doc pm cdv ct : Value) (an : Option Addr) (cc : Addr) (a u : Value), bindArgs (PySem.W.ksFn "__init__" qual (defArgs st) (defBody st) (defScope st) .none kV doc pm an cdv ct cc) ⟨[a, u], []⟩ = pure [(("self" : Str), a), (f, u)] ∧
  bindArgs (PySem.W.ksFn "__init__" qual (defArgs st) (defBody st) (defScope st) .none kV doc pm an cdv ct cc) ⟨[a], [(f, u)]⟩ = pure [(("self" : Str), a), (f, u)]
theorem sup_ok {P : Program} {K : PySem.W.Frag} {mg : Str → Option Value} {C qual f m : Str} {st : Stmt} (hv : fnV K (C, some "__init__") = some (("__init__" : Str), qual, defArgs st, FuncBody.stmts (defBody st), defScope st, mainGlobals, [("__class__" : Str)], builtinsNs)) (hk : supIn K P.main.file qual (He.ga K C) f = true) (hs : supStill f m st = true) (hb : SBind qual f st)
    (htop : (P.main.scope.names.lookup ("super" : Str)).isSome = false) (hr : mg "repr" = none) (hsu : mg "super" = none) : SupC P K mg (He.ga K C) f m := by
  unfold supIn at hk
  simp only [Bool.and_eq_true, decide_eq_true_eq] at hk
  obtain ⟨k1, k2, k3, k4, k5, k6, k7, k8, k9, k10, k11, k12, k13, k14, k15⟩ := hk
  unfold supStill at hs
  simp only [Bool.and_eq_true, decide_eq_true_eq, Bool.not_eq_true'] at hs
  obtain ⟨s1, s2, s3, s4, s5, s6, s7⟩ := hs
  obtain ⟨p, q, j, eb, hl⟩ := supCk_ok s1
  obtain ⟨cdC, hcl⟩ := Option.isSome_iff_exists.mp k10
  obtain ⟨ar, har1, har2⟩ : ∃ ar, ((defArgs st).posonlyargs ++ (defArgs st).args).head? = some ar ∧ ar.arg = "self" := by
    cases hq : (defArgs st).posonlyargs ++ (defArgs st).args with
    | nil => rw [hq] at s5; cases s5
    | cons a r => rw [hq] at s5; exact ⟨a, rfl, of_decide_eq_true s5⟩
  unfold fnV at hv
  unfold funB at k2
  have e0 : He.fAd K (C, some "__init__") = He.ma K (He.ga K C) "__init__" := rfl
  rw [e0] at hv
  cases hlk : K.lookup (He.ma K (He.ga K C) "__init__") with
  | none => rw [hlk] at hv; cases hv
  | some o =>
    obtain ⟨oc, od, dt, osl⟩ := o
    rw [hlk] at hv k2
    cases dt with
    | func fd =>
      obtain ⟨fname, fqual, fparams, fbody, fscope, fglob, fclo, fdef, fkw, fdoc, fmod, fann, fcode, fct, fbl⟩ := fd
      simp only [Option.some.injEq, Prod.mk.injEq] at hv
      simp only [Bool.and_eq_true, decide_eq_true_eq] at k2
      obtain ⟨rfl, rfl, rfl, rfl, rfl, rfl, hcm, rfl⟩ := hv
      obtain ⟨c1, c2, rfl, c3⟩ := k2
      match fclo, hcm, c3 with
      | [(nm, cc)], hcm, c3 =>
        simp only [List.map_cons, List.map_nil, List.cons.injEq, and_true] at hcm
        subst hcm
        obtain ⟨cda, ccl, cdd, vs, ccs, tf, rfl, hcd, hz⟩ := codeB_ok c2
        obtain ⟨cl, cld, csl, hcc⟩ := cellB_ok c3
        rw [eb] at hlk
        refine ⟨⟨oexB_ok k1, k3, k4, k5, k6⟩, k7, Option.isSome_iff_exists.mp k15, hr, hsu, ⟨_, cc, cda, "__init__", fqual, defArgs st, defScope st, .none, _, _, _, _, oc, ccl, cl, _, od, cdd, cld, osl, ccs, csl, vs, P.main.file, tf, cdC, ar, p, q, j, k8, k9, hlk, c1, hcd, hz, beq_self_eq_true _, htop, hcc, hcl, k11, k12, k13, k14, NdefX.nscope_by s2, s3, s4, har1, har2, s6, s7, hl, fun a u => ?_⟩⟩
        have z := hb fkw fdoc fmod (.ref cda) fct fann cc a u
        rw [eb] at z
        exact z
    | _ => cases hv
end Fw

set_option Elab.async false
set_option linter.all false
set_option maxRecDepth 100000
set_option maxHeartbeats 4000000
namespace Fw
open PySem PySem.Spec PyProof.Rows L2
/-- a module's constant -/
inductive Gk where
  | bty (n : String)
  | own
  | int (i : Int)
  | str (z : Str)
  | tupS (zs : List Str)
def Gk.d (x : Str) : Gk → D
  | .bty n => .ty n
  | .own => .glo x
  | .int i => .int i
  | .str z => .str z
  | .tupS zs => .tup (zs.map .str)
abbrev Cl := Sum String Str
/-- a law's text, as data -/
structure LawIn where
  l : List (Str × (Df × Stmt))
  nm : Nms
  G : List (Str × Gk)
  I : List (Cl × List (Cl × Bool))
  /-- own classes that I names -/
  OC : List Str
  EI : List ((Str × Str) × Bool)
  RX : List Str
  EC : List Str
  XF : List (Str × Str)
  /-- error classes with an __init__: the field, the message, the class's row -/
  SI : List (Str × (Str × (Str × Stmt)))
  file : Str
def clV (K : PySem.W.Frag) : Cl → Value
  | .inl n => .type n
  | .inr C => .ref (He.ga K C)
def lookB : List (Cl × Bool) → Cl → Option Bool
  | [], _ => none
  | (p, r) :: l, b => if p = b then some r else lookB l b
def lookI : List (Cl × List (Cl × Bool)) → Cl → Cl → Option Bool
  | [], _, _ => none
  | (p, r) :: l, a, b => if p = a then lookB r b else lookI l a b
namespace LawIn
variable (T : LawIn)
def sta : Sta where
  nm := T.nm
  G := fun x => (T.G.lookup x).map (Gk.d x)
  I := fun a b => lookI T.I a b
  C := fun _ _ _ _ => .bad
  IC := []
  EI := fun C x => T.EI.lookup (C, x)
  RX := T.RX
  EC := T.EC
  XF := T.XF
  RI := fun C => (T.SI.lookup C).map fun p => (p.1, p.2.1)
  rm := false
  L := fun _ _ _ => .bad
  lam := false
  hot := none
  thk := none
def tb (f : Str) : Option Df := (T.l.lookup f).map (·.1)
def fn : List He.DefD := T.l.map fun p => ⟨(p.1, none), p.1, p.1, defArgs p.2.2, defBody p.2.2, defScope p.2.2, [], []⟩
def tf : List (Str × Option Str) := (T.l.filter fun p => p.2.1.lam).map fun p => (p.1, none)
def gFa (p : Str × Gk) : List He.Fa := match p.2 with
  | .bty _ => [.free p.1]
  | .own => [.glo p.1]
  | .int i => [.int p.1 i]
  | .str z => [.str p.1 z]
  | .tupS _ => [.glo p.1]
def clFa : Cl → List He.Fa
  | .inl _ => []
  | .inr C => [.glo C]
def fa : List He.Fa := (T.l.map fun p => .glo p.1) ++ T.nm.F.map .free ++ T.nm.CN.map .glo ++ T.G.flatMap gFa ++ T.OC.map .glo ++ T.RX.flatMap (fun C => [.glo C, .exc C]) ++ T.EC.map .glo ++ T.XF.map (fun p => .glo p.1) ++
  (T.EI.flatMap fun e => [.glo e.1.1, .glo e.1.2, .exm e.1.1 e.1.2 e.2]) ++ (T.SI.map (fun p => .glo p.1) ++ [.free "repr", .free "super"])
def tupK (K : PySem.W.Frag) (x : Str) (zs : List Str) : Bool := match K.lookup (He.ga K x) with
  | some ⟨.type c, _, .seq its _, _⟩ => decide (c = "tuple") && (decide (its.size ≤ sizeLine) && He.relAll (zs.map V.str) its.toList)
  | _ => false
def excB (K : PySem.W.Frag) (c : Addr) : Bool := decide (PySem.W.findIn K (.ref c) "__getattribute__" = some (some (.builtin "BaseException.__getattribute__"))) && (decide (PySem.W.findIn K (.ref c) "__getattr__" = some none) && (decide (PySem.W.subIn K (.ref c) (.type "BaseException") = some true) &&
  (PySem.W.hasDictIn K c && (decide (PySem.W.findIn K (.ref c) "__class__" = some (some (.builtin "object.__class__"))) && (decide (PySem.W.specialIn K (.builtin "object.__class__") "__get__" = some (some (.builtin "getset_descriptor.__get__"))) &&
  (decide (PySem.W.takesIn K (.builtin "object.__class__") = some true) && decide (PySem.W.mroIn K c (.type "object") = some true)))))))
def ex (K : PySem.W.Frag) : Bool := (T.G.all fun p => match p.2 with
    | .tupS zs => tupK K p.1 zs
    | _ => true) && ((T.I.all fun e => e.2.all fun q => decide (PySem.W.kitOne K (clV K e.1) (clV K q.1) = some q.2)) && ((T.EC.all fun C => excB K (He.ga K C)) && ((T.XF.all fun p => decide (PySem.W.findIn K (.ref (He.ga K p.1)) p.2 = some none)) &&
    (decide (T.tf.map fun p => (He.cT K p).2).Nodup && ((T.tf.all fun p => !decide ((He.cT K p).2 = mainGlobals)) && ((K.lookup sysModules).isSome && (T.SI.all fun p => supIn K T.file (p.1 ++ ".__init__") (He.ga K p.1) p.2.1)))))))
def clIn : Cl → Bool
  | .inl _ => true
  | .inr C => decide (C ∈ T.OC)
def tabs (K : PySem.W.Frag) : List (Addr × Str) := T.tf.map fun p => ((He.cT K p).2, (envOfC p.1 (defScope (.Pass ⟨0, 0, 0, 0⟩)) 0 0 .none).qual ++ "<lambda>")
/-- what is seen of the text alone -/
def still : Bool := (T.l.all fun p => C8.scC p.2.1.N p.2.1.ps (defScope p.2.2) && ckSs T.nm p.2.1.N (defScope p.2.2) p.2.1.body p.2.1.fx (defBody p.2.2)) && ((T.nm.T.all fun f => (T.tb f).isSome) &&
  ((T.nm.LT.all fun f => match T.tb f with
    | some d => decide (d.ps.length = 1) && (decide (0 < d.N.length) && (decide ((1, ([] : List Str)) ∈ d.shapes) && decide (d.fx = [0])))
    | none => false) && ((T.G.all fun p => match p.2 with
    | .bty n => decide (bootBuiltins p.1 = some (.type n))
    | _ => true) && ((T.SI.all fun p => supStill p.2.1 p.2.2.1 (initOf p.2.2.2)) && (T.I.all fun e => T.clIn e.1 && e.2.all fun q => T.clIn q.1)))))
def siV : List FnV := T.SI.map fun p => some ("__init__", p.1 ++ ".__init__", defArgs (initOf p.2.2.2), .stmts (defBody (initOf p.2.2.2)), defScope (initOf p.2.2.2), mainGlobals, ["__class__"], builtinsNs)
def siO (K : PySem.W.Frag) : List FnV := T.SI.map fun p => fnV K (p.1, some "__init__")
structure SaysY (w : World) (h : Heap) (K : PySem.W.Frag) : Prop where
  x : He.SaysX T.fa T.fn [] T.tf T.ex w h K
  si : T.siO K = T.siV
/-- what is reached from the globals, and two places of the machine -/
def asY (n : Nat) (g : Addr → Option Obj) : List Addr := sysModules :: cStatics :: He.asD g n
def obZ (n : Nat) (g : Addr → Option Obj) : He.AlX := (He.obsT T.fa T.fn [] (He.frT g (asY n g)), T.ex (He.frT g (asY n g)) && He.tabsB g T.tf (He.frT g (asY n g)))
theorem saysZ {T : LawIn} {n : Nat} {w : World} {h : Heap} (e : T.obZ n h.get? = He.valX T.fn [] w) : He.SaysX T.fa T.fn [] T.tf T.ex w h (He.frT h.get? (asY n h.get?)) := by
  have e1 : He.obsT T.fa T.fn [] (He.frT h.get? (asY n h.get?)) = He.valT T.fn [] w := congrArg (fun z : He.AlX => z.1) e
  have e2 : (T.ex (He.frT h.get? (asY n h.get?)) && He.tabsB h.get? T.tf (He.frT h.get? (asY n h.get?))) = true := congrArg (fun z : He.AlX => z.2) e
  rw [Bool.and_eq_true] at e2
  have key : ∀ p ∈ T.tf, PySem.W.codeHdIn (He.frT h.get? (asY n h.get?)) (He.cT (He.frT h.get? (asY n h.get?)) p).1 (He.cT (He.frT h.get? (asY n h.get?)) p).2 = true ∧ ∃ o, h.get? (He.cT (He.frT h.get? (asY n h.get?)) p).2 = some o ∧ He.emptyTab o = true := fun p hp => by
    have z := List.all_eq_true.mp e2.2 p hp
    rw [Bool.and_eq_true] at z
    refine ⟨z.1, ?_⟩
    cases hq : h.get? (He.cT (He.frT h.get? (asY n h.get?)) p).2 with
    | none => rw [hq] at z; cases z.2
    | some o => rw [hq] at z; exact ⟨o, rfl, z.2⟩
  refine ⟨e1, e2.1, fun p hp => (key p hp).1, fun p hp => ?_, fun p hp => ?_⟩
  · obtain ⟨_, o, y, z⟩ := key p hp
    exact He.frT_none y z
  · obtain ⟨_, o, y, z⟩ := key p hp
    rw [y, He.emptyTab_eq z]
def hookY (n : Nat) : PySem.W.Hook where
  α := He.AlX × List FnV
  obs := fun s => (T.obZ n s.heap.get?, T.siO (He.frT s.heap.get? (asY n s.heap.get?)))
  val := fun w => (He.valX T.fn [] w, T.siV)
  says := fun w h => ∃ K : PySem.W.Frag, K.In h ∧ T.SaysY w h K
  of := fun _ _ e => ⟨_, He.frT_in, ⟨saysZ (congrArg (fun z : He.AlX × List FnV => z.1) e), congrArg (fun z : He.AlX × List FnV => z.2) e⟩⟩
  keeps := fun _ _ _ ⟨K, hK, c⟩ k => ⟨K, PySem.W.Frag.In.keeps hK k, ⟨⟨c.x.t, c.x.more, c.x.hd, c.x.out, fun p hp => k _ _ (c.x.empty p hp)⟩, c.si⟩⟩
def obsY (n : Nat) (g : Addr → Option Obj) : He.AlX × List FnV := (T.obZ n g, T.siO (He.frT g (asY n g)))
theorem obsY_eq {n : Nat} {g : Addr → Option Obj} {s : Shared} (h : ∀ a, g a = s.heap.get? a) : T.obsY n g = (T.hookY n).obs s := by
  have e : g = s.heap.get? := funext h
  rw [e] <;> rfl
theorem SaysY.at {w : World} {h : Heap} {K : PySem.W.Frag} {T : LawIn} (c : T.SaysY w h K) {p : Str × (Str × (Str × Stmt))} (hp : p ∈ T.SI) : fnV K (p.1, some "__init__") = some (("__init__" : Str), p.1 ++ ".__init__", defArgs (initOf p.2.2.2), FuncBody.stmts (defBody (initOf p.2.2.2)), defScope (initOf p.2.2.2), mainGlobals, [("__class__" : Str)], builtinsNs) := by
  have e := c.si
  unfold siO siV at e
  obtain ⟨i, hi, e2⟩ := List.mem_iff_getElem.mp hp
  have z := congrArg (fun l => l[i]?) e
  simp only [List.getElem?_map, List.getElem?_eq_getElem hi, Option.map_some, Option.some.injEq] at z
  rw [← e2]
  exact z
end LawIn
end Fw

set_option Elab.async false
set_option linter.all false
set_option maxRecDepth 100000
set_option maxHeartbeats 4000000
namespace Fw
open PySem PySem.Spec PyProof.Rows L2
namespace LawIn
variable {T : LawIn}
def BindOk (p : Str × (Df × Stmt)) : Prop := ∀ (kV doc pm cdv ct : Value) (an : Option Addr) (n : Nat) (ks : List Str), (n, ks) ∈ p.2.1.shapes → ∀ (us ws us' : List Value), us.length = n → ws.length = ks.length → bindG p.2.1.ps us (ks.zip ws) = some us' →
  bindArgs (PySem.W.fnOf p.1 p.1 (defArgs p.2.2) (defBody p.2.2) (defScope p.2.2) .none kV doc pm an cdv ct) ⟨us, ks.zip ws⟩ = pure (p.2.1.ps.zip us')
theorem lookup_mem' {α : Type} {x : Str} {v : α} : ∀ {l : List (Str × α)}, l.lookup x = some v → (x, v) ∈ l
  | [], h => by cases h
  | (k, u) :: r, h => by
    rw [List.lookup_cons] at h
    cases hk : x == k with
    | true =>
      rw [hk] at h
      cases h
      rw [beq_iff_eq.mp hk]
      exact List.mem_cons_self
    | false =>
      rw [hk] at h
      exact List.mem_cons_of_mem _ (lookup_mem' h)
theorem lookup_memP {α β γ : Type} [BEq α] [BEq β] [LawfulBEq α] [LawfulBEq β] {x : α × β} {v : γ} : ∀ {l : List ((α × β) × γ)}, l.lookup x = some v → (x, v) ∈ l
  | [], h => by cases h
  | (k, u) :: r, h => by
    rw [List.lookup_cons] at h
    cases hk : x == k with
    | true =>
      rw [hk] at h
      cases h
      rw [eq_of_beq hk]
      exact List.mem_cons_self
    | false =>
      rw [hk] at h
      exact List.mem_cons_of_mem _ (lookup_memP h)
theorem lookB_mem {b : Cl} {r : Bool} : ∀ {l : List (Cl × Bool)}, lookB l b = some r → (b, r) ∈ l
  | [], h => by cases h
  | (p, q) :: l, h => by
    unfold lookB at h
    split at h
    · rename_i c
      cases h
      rw [c]
      exact List.mem_cons_self
    · exact List.mem_cons_of_mem _ (lookB_mem h)
theorem lookI_mem {a b : Cl} {r : Bool} : ∀ {l : List (Cl × List (Cl × Bool))}, lookI l a b = some r → ∃ q, (a, q) ∈ l ∧ (b, r) ∈ q
  | [], h => by cases h
  | (p, q) :: l, h => by
    unfold lookI at h
    split at h
    · rename_i c
      rw [c]
      exact ⟨q, List.mem_cons_self, lookB_mem h⟩
    · obtain ⟨q2, z1, z2⟩ := lookI_mem h
      exact ⟨q2, List.mem_cons_of_mem _ z1, z2⟩
section
variable {P : Program} {w : World} {K : PySem.W.Frag} {mg : Str → Option Value} {h : Heap}
theorem strs_vals {Wx : Wd} {n : Nat} {r : Rho} {H : Hp} : ∀ zs : List Str, RepL Wx n r H (zs.map D.str) (zs.map V.str)
  | [] => RepL.nil
  | z :: zs => RepL.cons (by rw [Rep]) (strs_vals zs)
theorem tupK_ok {x : Str} {zs : List Str} (e : tupK K x zs = true) : KTup K (He.ga K x) (zs.map V.str) := by
  unfold tupK at e
  split at e
  · rename_i c dd its n sl hk
    simp only [Bool.and_eq_true, decide_eq_true_eq] at e
    obtain ⟨rfl, e2, e3⟩ := e
    exact ⟨_, its, n, hk, rfl, rfl, e2, He.relAll_ok e3⟩
  · cases e
theorem excB_ok {c : Addr} (e : excB K c = true) : ExcC K c ∧ XfC K c := by
  unfold excB at e
  simp only [Bool.and_eq_true, decide_eq_true_eq] at e
  obtain ⟨a1, a2, a3, a4, a5, a6, a7, a8⟩ := e
  exact ⟨⟨a1, a2, a3, a4, a5, a6, a7, a8⟩, ⟨a1, a2, a3, a4⟩⟩
theorem clsAt_eq {x : Cl} {u : Value} (X : K.In h) (G : h.Ns mainGlobals mg) (f : ∀ f ∈ clFa x, f.ok K = true) (e : clsAt mg x u) : u = clV K x := by
  cases x with
  | inl n => exact e
  | inr C =>
    obtain ⟨e1, a, e2⟩ := e
    have z := He.glo_ok X G (f (.glo C) (by simp [clFa]))
    rw [z] at e1
    exact (Option.some.inj e1).symm
theorem stat_ok [tbi : Tb] (hs : T.still = true) (X : K.In h) (G : h.Ns mainGlobals mg) (cy : T.SaysY w h K) (hSB : ∀ p ∈ T.SI, SBind (p.1 ++ ".__init__") p.2.1 (initOf p.2.2.2)) (hPf : P.main.file = T.file) (hPs : (P.main.scope.names.lookup ("super" : Str)).isSome = false) {base : Heap} : Stat P w K mg base T.sta := by
  have c := cy.x
  have fact : ∀ f, f ∈ T.fa → f.ok K = true := fun f hf => c.t.d.facts hf
  have hex := c.more
  unfold ex at hex
  simp only [Bool.and_eq_true, List.all_eq_true, decide_eq_true_eq] at hex
  obtain ⟨x1, x2, x3, x4, x5, x6, x7, x8⟩ := hex
  unfold still at hs
  simp only [Bool.and_eq_true, List.all_eq_true] at hs
  obtain ⟨s1, s2, s3, s4, s5, s6⟩ := hs
  have glo : ∀ x, He.Fa.glo x ∈ T.fa → mg x = some (.ref (He.ga K x)) := fun x hx => He.glo_ok X G (fact _ hx)
  refine ⟨fun x d hd => ?_, fun x hx => ?_, fun C cc hC => (nomatch hC), fun C cc g hg hm => ?_, fun C x b hb cc dd h1 h2 => ?_, fun x hx => ?_, fun C hC => ?_, fun C cc hm hC => ?_, fun a b r hr u v hu hv => ?_, fun C f m hri => ?_, ?_⟩
  · obtain ⟨g, e1, e2⟩ := Option.map_eq_some_iff.mp hd
    have hm := lookup_mem' e1
    have hin : ∀ f ∈ gFa (x, g), f.ok K = true := fun f hf => fact f (by
      unfold fa
      simp only [List.mem_append, List.mem_flatMap]
      exact .inl (.inl (.inl (.inl (.inl (.inl (.inr ⟨_, hm, hf⟩)))))))
    subst e2
    cases g with
    | bty n =>
      have hv := s4 _ hm
      exact ⟨.type n, .ty n, .inr ⟨He.free_ok X G (hin (.free x) (by simp [gFa])), of_decide_eq_true hv⟩, rfl, fun n r H => by unfold Gk.d; rw [Rep]⟩
    | own =>
      have z := He.glo_ok X G (hin (.glo x) (by simp [gFa]))
      exact ⟨_, .ref (He.ga K x), .inl z, rfl, fun n r H => by unfold Gk.d; rw [Rep]; exact ⟨_, rfl, z⟩⟩
    | int i =>
      obtain ⟨tk, z⟩ := He.int_ok X G (hin (.int x i) (by simp [gFa]))
      exact ⟨_, .int i, .inl z, ⟨tk, rfl⟩, fun n r H => by unfold Gk.d; rw [Rep]⟩
    | str i =>
      obtain ⟨tk, z⟩ := He.str_ok X G (hin (.str x i) (by simp [gFa]))
      exact ⟨_, .str i, .inl z, ⟨tk, rfl⟩, fun n r H => by unfold Gk.d; rw [Rep]⟩
    | tupS zs =>
      have z := He.glo_ok X G (hin (.glo x) (by simp [gFa]))
      have kt := tupK_ok (x1 _ hm)
      exact ⟨_, .ref (He.ga K x), .inl z, rfl, fun n r H => by unfold Gk.d; rw [Rep]; exact ⟨_, _, rfl, .inr kt, strs_vals zs⟩⟩
  · refine He.free_ok X G (fact _ ?_)
    unfold fa
    simp only [List.mem_append, List.mem_map]
    exact .inl (.inl (.inl (.inl (.inl (.inl (.inl (.inl (.inr ⟨x, hx, rfl⟩))))))))
  · have hg : (C, g) ∈ T.XF := hg
    have z := glo C (by
      unfold fa
      simp only [List.mem_append, List.mem_map]
      exact .inl (.inl (.inr ⟨(C, g), hg, rfl⟩)))
    rw [z] at hm
    cases hm
    exact x4 _ hg
  · have hb2 := lookup_memP (show T.EI.lookup (C, x) = some b from hb)
    have inn : ∀ f, f ∈ ([.glo C, .glo x, .exm C x b] : List He.Fa) → f.ok K = true := fun f hf => fact f (by
      unfold fa
      simp only [List.mem_append, List.mem_flatMap]
      exact .inl (.inr ⟨_, hb2, hf⟩))
    have z1 := He.glo_ok X G (inn (.glo C) (by simp))
    have z2 := He.glo_ok X G (inn (.glo x) (by simp))
    rw [z1] at h1
    rw [z2] at h2
    cases h1
    cases h2
    exact He.exm_ok (inn (.exm C x b) (by simp))
  · exact ⟨_, glo x (by
      unfold fa
      simp only [List.mem_append, List.mem_map]
      exact .inl (.inl (.inl (.inl (.inl (.inl (.inl (.inr ⟨x, hx, rfl⟩))))))))⟩
  · have hC : C ∈ T.RX := hC
    have inn : ∀ f, f ∈ ([.glo C, .exc C] : List He.Fa) → f.ok K = true := fun f hf => fact f (by
      unfold fa
      simp only [List.mem_append, List.mem_flatMap]
      exact .inl (.inl (.inl (.inl (.inr ⟨_, hC, hf⟩)))))
    obtain ⟨e1, e2, e3, e4⟩ := He.exc_ok (inn (.exc C) (by simp))
    exact ⟨_, He.glo_ok X G (inn (.glo C) (by simp)), e2, e3, e4, _, _, _, _, PySem.F.excBase_ValueError, e1⟩
  · have hC : C ∈ T.EC := hC
    have z := glo C (by
      unfold fa
      simp only [List.mem_append, List.mem_map]
      exact .inl (.inl (.inl (.inr ⟨C, hC, rfl⟩))))
    rw [z] at hm
    cases hm
    exact excB_ok (x3 _ hC)
  · obtain ⟨q, hr2, hr3⟩ := lookI_mem (show lookI T.I a b = some r from hr)
    obtain ⟨i1, i2⟩ := s6 _ hr2
    have inn : ∀ x : Cl, T.clIn x = true → ∀ f, f ∈ clFa x → f.ok K = true := fun x hx f hf => by
      cases x with
      | inl n => simp [clFa] at hf
      | inr C =>
        simp only [clFa, List.mem_singleton] at hf
        subst hf
        refine fact _ ?_
        unfold fa
        simp only [List.mem_append, List.mem_map]
        exact .inl (.inl (.inl (.inl (.inl (.inr ⟨C, of_decide_eq_true hx, rfl⟩)))))
    rw [clsAt_eq X G (inn a i1) hu, clsAt_eq X G (inn b (i2 _ hr3)) hv]
    exact x2 _ hr2 _ hr3
  · have hri2 : (T.SI.lookup C).map (fun p => (p.1, p.2.1)) = some (f, m) := hri
    obtain ⟨g, e1, e2⟩ := Option.map_eq_some_iff.mp hri2
    cases e2
    have hm := lookup_mem' e1
    have hg := glo C (by
      unfold fa
      simp only [List.mem_append, List.mem_map]
      exact .inr (.inl ⟨_, hm, rfl⟩))
    have z := s5 _ hm
    have kk := x8 _ hm
    rw [← hPf] at kk
    refine ⟨_, hg, sup_ok (cy.at hm) kk z (hSB _ hm) hPs (He.free_ok X G (fact _ ?_)) (He.free_ok X G (fact _ ?_))⟩
    · unfold fa
      simp
    · unfold fa
      simp
  · exact Option.isSome_iff_exists.mp x7
end
end LawIn
end Fw

set_option Elab.async false
set_option linter.all false
set_option maxRecDepth 100000
set_option maxHeartbeats 4000000
namespace Fw
open PySem PySem.Spec PyProof.Rows L2
namespace LawIn
variable {T : LawIn}
theorem inj_nodup {α β : Type} {g : α → β} : ∀ {l : List α}, (l.map g).Nodup → ∀ x y, x ∈ l → y ∈ l → g x = g y → x = y
  | [], _, x, y, hx, _, _ => by cases hx
  | a :: l, h, x, y, hx, hy, e => by
    rw [List.map_cons, List.nodup_cons] at h
    rcases List.mem_cons.mp hx with hx | hx
    · rcases List.mem_cons.mp hy with hy | hy
      · rw [hx, hy]
      · rw [hx] at e
        exact absurd (List.mem_map.mpr ⟨y, hy, e.symm⟩) h.1
    · rcases List.mem_cons.mp hy with hy | hy
      · rw [hy] at e
        exact absurd (List.mem_map.mpr ⟨x, hx, e⟩) h.1
      · exact inj_nodup h.2 x y hx hy e
section
variable {P : Program} {w : World} {K : PySem.W.Frag} {mg : Str → Option Value} {h : Heap}
theorem def_ok (hs : T.still = true) (hB : ∀ p ∈ T.l, BindOk p) (X : K.In h) (G : h.Ns mainGlobals mg) (c : He.SaysX T.fa T.fn [] T.tf T.ex w h K) {base : Heap} (hT : ∀ p ∈ T.tf.map (He.cT K), LamX.TabB base mg p.1 p.2) {p : Str × (Df × Stmt)} (hp : p ∈ T.l) :
    @DefOk ⟨T.tabs K⟩ K mg base T.nm p.2.1 p.1 := by
  obtain ⟨f, d, st⟩ := p
  have fact : ∀ f, f ∈ T.fa → f.ok K = true := fun f hf => c.t.d.facts hf
  have hex := c.more
  unfold ex at hex
  simp only [Bool.and_eq_true, List.all_eq_true, decide_eq_true_eq] at hex
  obtain ⟨x1, x2, x3, x4, x5, x6, x7, x8⟩ := hex
  unfold still at hs
  simp only [Bool.and_eq_true, List.all_eq_true] at hs
  obtain ⟨s1, s2, s3, s4, s5, s6⟩ := hs
  have m1 := He.glo_ok X G (fact (.glo f) (by
    unfold fa
    simp only [List.mem_append, List.mem_map]
    exact .inl (.inl (.inl (.inl (.inl (.inl (.inl (.inl (.inl ⟨_, hp, rfl⟩))))))))))
  obtain ⟨fd, F⟩ := c.t.d.defs (d := ⟨(f, none), f, f, defArgs st, defBody st, defScope st, [], []⟩) (List.mem_map.mpr ⟨_, hp, rfl⟩)
  obtain ⟨oc, od, dV, kV, doc, pm, an, cdv, ct, osl, rfl, lk, hcd, hD, _⟩ := F.ex
  obtain rfl : dV = .none := by
    rcases hD with ⟨_, z⟩ | ⟨z, _⟩
    · exact z
    · exact absurd rfl z
  refine @DefOk.mk ⟨T.tabs K⟩ _ _ _ _ _ _ ⟨He.ga K f, f, f, defArgs st, defBody st, defScope st, .none, kV, doc, pm, cdv, ct, oc, an, od, osl, m1, F.kp, lk, hcd, C8.fnScope_by (s1 _ hp).1, (s1 _ hp).2, fun n ks hn us ws us' h1 h2 h3 => hB _ hp kV doc pm cdv ct an n ks hn us ws us' h1 h2 h3, fun hl => ?_⟩
  obtain ⟨cc, hc⟩ := He.codeIn_ref hcd
  have htf : (f, (none : Option Str)) ∈ T.tf := List.mem_map.mpr ⟨(f, d, st), List.mem_filter.mpr ⟨hp, hl⟩, rfl⟩
  have e1 : He.codeOf K (f, none) = cc := He.codeOf_eq (p := (f, none)) lk hc
  have tb := hT _ (List.mem_map.mpr ⟨_, htf, rfl⟩)
  refine ⟨(He.cT K (f, none)).1, (He.cT K (f, none)).2, tb, ?_, fun L => ⟨?_, fun q hq e => ?_⟩⟩
  · rw [hc]
    show Value.ref cc = Value.ref (He.codeOf K (f, none))
    rw [e1]
  · exact List.mem_map.mpr ⟨_, htf, rfl⟩
  · obtain ⟨p', hp', rfl⟩ := List.mem_map.mp hq
    have z := inj_nodup x5 p' (f, none) hp' htf e
    rw [z]
    rfl
theorem law_ok {n k : Nat} {fa : Addr} (hs : T.still = true) (hB : ∀ p ∈ T.l, BindOk p) (X : K.In h) (G : h.Ns mainGlobals mg) (cy : T.SaysY w h K) (hSB : ∀ p ∈ T.SI, SBind (p.1 ++ ".__init__") p.2.1 (initOf p.2.2.2)) (hPf : P.main.file = T.file) (hPs : (P.main.scope.names.lookup ("super" : Str)).isSome = false) (hfa : mg ("law" : Str) = some (.ref fa)) (hl : ("law" : Str) ∈ T.nm.T)
    (run : ∀ ns : List Int, ns.length ≤ n → (∀ z ∈ ns, Builtin.Int.intBits z ≤ 1048576) → ∃ S', (mk3 T.sta T.tb k).1.C "law" [.scr ns] [] [] = .ok (.bl true) S') : LawFw P w k n mg fa h := by
  have c := cy.x
  refine ⟨K, T.tf.map (He.cT K), T.tabs K, (mk3 T.sta T.tb k).1.C "law", X, fun p hp => ?_, fun p hp => ?_, fun p hp => ?_, fun p hp => ?_, run, fun base KB GB TB => ?_⟩
  · obtain ⟨q, hq, rfl⟩ := List.mem_map.mp hp
    exact c.empty q hq
  · obtain ⟨q, hq, rfl⟩ := List.mem_map.mp hp
    exact c.out q hq
  · obtain ⟨q, hq, rfl⟩ := List.mem_map.mp hp
    exact PySem.W.codeHd_of_K X (c.hd q hq)
  · obtain ⟨q, hq, rfl⟩ := List.mem_map.mp hp
    exact List.mem_map.mpr ⟨_, List.mem_map.mpr ⟨q, hq, rfl⟩, rfl⟩
  · letI : Tb := ⟨T.tabs K⟩
    have hs0 := hs
    unfold still at hs0
    simp only [Bool.and_eq_true, List.all_eq_true] at hs0
    obtain ⟨s1, s2, s3, s4, s5, s6⟩ := hs0
    have dfs : ∀ f d, T.tb f = some d → DefOk K mg base T.nm d f := fun f d e => by
      obtain ⟨q, e1, e2⟩ := Option.map_eq_some_iff.mp e
      have hm := lookup_mem' e1
      subst e2
      exact def_ok hs hB X G c TB hm
    have A1 : ∀ f, f ∈ T.sta.nm.T → ∃ d, T.tb f = some d ∧ DefOk K mg base T.sta.nm d f := fun f hf => by
      have z := s2 f hf
      obtain ⟨d, hd⟩ := Option.isSome_iff_exists.mp z
      exact ⟨d, hd, dfs f d hd⟩
    have A2 : ∀ f, f ∈ T.sta.nm.LT → ∃ d, T.tb f = some d ∧ DefOk K mg base T.sta.nm d f ∧ d.ps.length = 1 ∧ 0 < d.N.length ∧ (1, []) ∈ d.shapes ∧ d.fx = [0] := fun f hf => by
      have z := s3 f hf
      cases hd : T.tb f with
      | none => rw [hd] at z; cases z
      | some d =>
        rw [hd] at z
        simp only [Bool.and_eq_true, decide_eq_true_eq] at z
        exact ⟨d, rfl, dfs f d hd, z.1, z.2.1, z.2.2.1, z.2.2.2⟩
    obtain ⟨⟨sok, _, _, _, _⟩, _, _⟩ := lev_ok (P := P) (w := w) (K := K) (mg := mg) (base := base) (b := T.sta) (tb := T.tb) (stat_ok hs X G cy hSB hPf hPs) rfl rfl rfl A1 A2 k
    obtain ⟨fa', m1, m2, cp⟩ := sok.call "law" (by
      have e : ∀ k, (mk3 T.sta T.tb k).1.nm = T.nm := fun k => by cases k <;> rfl
      rw [e]
      exact hl)
    rw [hfa] at m1
    cases m1
    exact cp
end
end LawIn
end Fw

set_option Elab.async false
set_option linter.all false
set_option maxRecDepth 100000
set_option maxHeartbeats 4000000
namespace Fw
open PySem PySem.Spec PyProof.Rows L2
/-! the reader, run by rules -/
def sel {α : Type} (b : Bool) (x y : α) : α := match b with
  | true => x
  | false => y
def thenS (r : R Fl) (k : En → Sto → R Fl) : R Fl := match r with
  | .ok (.next s1) S1 => k s1 S1
  | q => q
section
variable {t : Sta} {s : En} {S S1 S2 S3 S4 : Sto} {a b c e : Ex} {x y z d : D} {r : R D} {q : R Fl} {es kes : Es} {ds qs : List D} {i j : Nat} {f m : Str} {o p : CmpOp} {bb : Bool}
theorem r_t {α : Type} {x y r : α} (h : x = r) : sel true x y = r := h
theorem r_f {α : Type} {x y r : α} (h : y = r) : sel false x y = r := h
theorem r_var (h : s[i]? = some (some d)) : evE t (.var i) s S = .ok d S := by rw [evE, h]
theorem r_con {k : Const} (h : conD k = some d) : evE t (.con k) s S = .ok d S := by rw [evE, h]
theorem r_glo (h : t.G f = some d) : evE t (.glo f) s S = .ok d S := by rw [evE, h]
theorem r_bin {k : Operator} (h1 : evE t a s S = .ok x S1) (h2 : evE t b s S1 = .ok y S2) (h3 : binD k x y S2 = r) : evE t (.bin k a b) s S = r := by rw [evE, h1]; show (evE t b s S1).bind _ = r; rw [h2]; exact h3
theorem r_neg {k : Int} (h1 : evE t a s S = .ok (.int k) S1) : evE t (.neg a) s S = .ok (.int (-k)) S1 := by rw [evE, h1]; rfl
theorem r_cmp (h1 : evE t a s S = .ok x S1) (h2 : evE t b s S1 = .ok y S2) (h3 : cmpD o x y S2 = r) : evE t (.cmp o a b) s S = r := by rw [evE, h1]; show (evE t b s S1).bind _ = r; rw [h2]; exact h3
theorem r_cmp2 (h1 : evE t a s S = .ok x S1) (h2 : evE t b s S1 = .ok y S2) (h3 : cmpD o x y S2 = .ok (.bl bb) S3) (h4 : sel bb ((evE t c s S3).bind fun z S4 => cmpD p y z S4) (.ok (.bl false) S3) = r) : evE t (.cmp2 o p a b c) s S = r := by
  rw [evE, h1]
  show (evE t b s S1).bind _ = r
  rw [h2]
  show (cmpD o x y S2).bind _ = r
  rw [h3]
  cases bb <;> exact h4
theorem r_and (h1 : evE t a s S = .ok (.bl bb) S1) (h2 : sel bb (evE t b s S1) (.ok (.bl false) S1) = r) : evE t (.and a b) s S = r := by rw [evE, h1]; cases bb <;> exact h2
theorem r_or (h1 : evE t a s S = .ok (.bl bb) S1) (h2 : sel bb (.ok (.bl true) S1) (evE t b s S1) = r) : evE t (.or a b) s S = r := by rw [evE, h1]; cases bb <;> exact h2
theorem r_not (h1 : evE t a s S = .ok (.bl bb) S1) : evE t (.not a) s S = .ok (.bl (!bb)) S1 := by rw [evE, h1]; rfl
theorem r_ite (h1 : evE t c s S = .ok (.bl bb) S1) (h2 : sel bb (evE t a s S1) (evE t b s S1) = r) : evE t (.ite c a b) s S = r := by rw [evE, h1]; cases bb <;> exact h2
theorem r_nil : evL t .nil s S = .ok [] S := by rw [evL]
theorem r_cons (h1 : evE t a s S = .ok d S1) (h2 : evL t es s S1 = .ok ds S2) : evL t (.cons a es) s S = .ok (d :: ds) S2 := by rw [evL, h1]; show (evL t es s S1).bind _ = _; rw [h2]; rfl
theorem r_tup (h1 : evL t es s S = .ok ds S1) (h2 : decide (ds.length ≤ sizeLine) = true) : evE t (.tup es) s S = .ok (.tup ds) S1 := by rw [evE, h1]; exact if_pos (of_decide_eq_true h2)
theorem r_lst (h1 : evL t es s S = .ok ds S1) (h2 : decide (ds.length ≤ sizeLine) = true) : evE t (.lst false es) s S = .ok (.lst ds) S1 := by rw [evE, h1]; exact (if_pos (of_decide_eq_true h2)).trans rfl
theorem r_lstM (h1 : evL t es s S = .ok ds S1) (h2 : decide (ds.length ≤ sizeLine) = true) : evE t (.lst true es) s S = .ok (.ref S1.length) (S1 ++ [.lst ds]) := by rw [evE, h1]; exact (if_pos (of_decide_eq_true h2)).trans rfl
theorem r_idx (h1 : evE t a s S = .ok x S1) (h2 : evE t b s S1 = .ok y S2) (h3 : idxD x y S2 = r) : evE t (.idx a b) s S = r := by rw [evE, h1]; show (evE t b s S1).bind _ = r; rw [h2]; exact h3
theorem r_no : evO t .no s S = .ok none S := by rw [evO]
theorem r_yes {k : Int} (h1 : evE t a s S = .ok (.int k) S1) : evO t (.yes a) s S = .ok (some k) S1 := by rw [evO, h1]; rfl
theorem r_sl {lo hi : Op} {l h : Option Int} (h1 : evE t a s S = .ok x S1) (h2 : evO t lo s S1 = .ok l S2) (h3 : evO t hi s S2 = .ok h S3) (h4 : slD x l h S3 = r) : evE t (.sl a lo hi) s S = r := by
  rw [evE, h1]
  show (evO t lo s S1).bind _ = r
  rw [h2]
  show (evO t hi s S2).bind _ = r
  rw [h3]
  exact h4
theorem r_call {ks : List Str} (hh : t.hot = none) (h1 : evL t es s S = .ok ds S1) (h2 : evL t kes s S1 = .ok qs S2) (h3 : t.C f ds (ks.zip qs) S2 = r) : evE t (.call f es ks kes) s S = r := by
  rw [evE, h1]
  show (evL t kes s S1).bind _ = r
  rw [h2]
  show t.cold _ = r
  unfold Sta.cold
  rw [hh]
  exact h3
theorem r_bi (h1 : evL t es s S = .ok ds S1) (h2 : biD t f ds S1 = r) : evE t (.bi f es) s S = r := by rw [evE, h1]; exact h2
theorem r_mt (h1 : evE t a s S = .ok x S1) (h2 : rcvB m (flat S1 x) = true) (h3 : evL t es s S1 = .ok ds S2) (h4 : mtD m x ds S2 = r) : evE t (.mt a m es) s S = r := by
  rw [evE, h1]
  show (if rcvB m (flat S1 x) = true then (evL t es s S1).bind _ else .bad) = r
  rw [if_pos h2, h3]
  exact h4
theorem r_lam (hh : t.hot = none) (hl : t.lam = true) (h1 : t.L f (fun S1 => evE t.inner a s S1) S = r) : evE t (.lam f a) s S = r := by
  rw [evE]
  unfold Sta.cold
  rw [hh, hl]
  exact h1
/-! rows -/
theorem r_seq {a : Sm} {r : Ss} (h1 : evS a t s S = q) {q' : R Fl} (h2 : thenS q (fun s1 S1 => evSs r t s1 S1) = q') : evSs (.cons a r) t s S = q' := by rw [evSs, h1]; exact h2
theorem r_nx {s1 : En} {k : En → Sto → R Fl} (h : k s1 S1 = q) : thenS (.ok (.next s1) S1) k = q := h
theorem r_rt {k : En → Sto → R Fl} : thenS (.ok (.ret d) S1) k = .ok (.ret d) S1 := rfl
theorem r_ex {x : Xc} {s1 : En} {k : En → Sto → R Fl} : thenS (.ok (.exc x s1) S1) k = .ok (.exc x s1) S1 := rfl
theorem r_end : evSs .nil t s S = .ok (.next s) S := by rw [evSs]
theorem r_set (h : evE t a s S = .ok d S1) : evS (.set i a) t s S = .ok (.next (s.set i (some d))) S1 := by rw [evS, h]; rfl
theorem r_par {is : List Nat} {s1 : En} (hh : t.hot = none) (h : evL t es s S = .ok ds S1) (h2 : setAll is ds s = some s1) : evS (.par is es) t s S = .ok (.next s1) S1 := by
  rw [evS]
  unfold Sta.cold
  rw [hh, h]
  show (match setAll is ds s with
    | some s1 => R.ok (Fl.next s1) S1
    | none => .bad) = _
  rw [h2]
theorem r_asg {tg : Tg} {s1 : En} (hh : t.hot = none) (h : evE t a s S = .ok d S1) (h2 : tgD tg d s = some s1) : evS (.asg tg a) t s S = .ok (.next s1) S1 := by
  rw [evS]
  unfold Sta.cold
  rw [hh, h]
  show (match tgD tg d s with
    | some s1 => R.ok (Fl.next s1) S1
    | none => .bad) = _
  rw [h2]
theorem r_sub (h1 : evE t e s S = .ok x S1) (h2 : evE t a s S1 = .ok y S2) (h3 : evE t b s S2 = .ok z S3) (h4 : setD y z x S3 = some S4) : evS (.sub a b e) t s S = .ok (.next s) S4 := by
  rw [evS, h1]
  show (evE t a s S1).bindS _ _ = _
  rw [h2]
  show (evE t b s S2).bindS _ _ = _
  rw [h3]
  show (match setD y z x S3 with
    | some S4 => R.ok (Fl.next s) S4
    | none => .bad) = _
  rw [h4]
theorem r_if {xs ys : Ss} (h1 : evE t c s S = .ok (.bl bb) S1) (h2 : sel bb (evSs xs t s S1) (evSs ys t s S1) = q) : evS (.cond c xs ys) t s S = q := by rw [evS, h1]; cases bb <;> exact h2
theorem r_ret (h : evE t a s S = .ok d S1) : evS (.ret a) t s S = .ok (.ret d) S1 := by rw [evS, h]; rfl
theorem r_expr (h : evE t a s S = .ok d S1) : evS (.expr a) t s S = .ok (.next s) S1 := by rw [evS, h]; rfl
theorem r_exprX {x : Xc} (h : evE t a s S = .exc x S1) : evS (.expr a) t s S = .ok (.exc x s) S1 := by rw [evS, h]; rfl
theorem r_callX {ks : List Str} {x : Xc} (hh : t.hot = none) (h1 : evL t es s S = .ok ds S1) (h2 : evL t kes s S1 = .ok qs S2) (h3 : t.C f ds (ks.zip qs) S2 = .exc x S3) : evE t (.call f es ks kes) s S = .exc x S3 := r_call hh h1 h2 h3
theorem r_raise {C w : Str} (hh : t.hot = none) (h : C ∈ t.RX) : evS (.raise C w) t s S = .ok (.exc ⟨C, [], []⟩ s) S := by
  rw [evS]
  unfold Sta.cold
  rw [hh, if_pos h]
  rfl
/-! a def -/
def Cl0 (S : Sto) : Prop := S.all (O.closed S.length) = true
theorem r_df {df : Df} {kws : List (Str × D)} {ds' : List D} {S' : Sto} (hs : decide ((ds.length, kws.map (·.1)) ∈ df.shapes) = true) (hb : bindG df.ps ds kws = some ds') (h : evSs df.body t (startD df.N ds') S = q) (hf : gcF S.length (fin q) = r) : runDf t df ds kws S = r := by
  unfold runDf
  rw [if_pos (of_decide_eq_true hs), hb]
  show gcF S.length (fin (evSs df.body t (startD df.N ds') S)) = r
  rw [h]
  exact hf
theorem gc_same (hS : Cl0 S) (hd : d.closed S.length = true) (ht : top S.length S d = d) : gcF S.length (.ok d S) = .ok d S := by
  have h : (if ((top S.length S d).closed S.length && (S.take S.length).all (O.closed S.length)) = true then R.ok (top S.length S d) (S.take S.length) else R.ok d S) = .ok d S := by
    rw [List.take_length, ht]
    split <;> rfl
  exact h
theorem gc_more (hS : Cl0 S) {E : Sto} (hd : (top S.length (S ++ E) d).closed S.length = true) : gcF S.length (.ok d (S ++ E)) = .ok (top S.length (S ++ E) d) S := by
  have h : (if ((top S.length (S ++ E) d).closed S.length && ((S ++ E).take S.length).all (O.closed S.length)) = true then R.ok (top S.length (S ++ E) d) ((S ++ E).take S.length) else R.ok d (S ++ E)) = .ok (top S.length (S ++ E) d) S := by
    rw [List.take_left, hd, hS]
    rfl
  exact h
theorem gc_exc (hS : Cl0 S) {x : Xc} (hd : closedL S.length x.ds = true) : gcF S.length (.exc x S) = .exc x S := by
  have h : (if (closedL S.length x.ds && (S.take S.length).all (O.closed S.length)) = true then R.exc x (S.take S.length) else R.exc x S : R D) = .exc x S := by
    rw [List.take_length]
    split <;> rfl
  exact h
/-! a comprehension over data that stays, no test, its turns pure -/
theorem lc_go {n : Nat} {all : List D} {st : D → Sto → R (Option D)} {g : D → D} : ∀ (ds acc : List D), n = S.length → acc.length + ds.length ≤ sizeLine → (∀ d ∈ ds, ∀ acc, st d (S ++ [O.lst acc]) = .ok (some (g d)) (S ++ [O.lst acc])) →
    lcGo n all none st ds (S ++ [O.lst acc]) = .ok () (S ++ [O.lst (acc ++ ds.map g)])
  | [], acc, hn, hz, h => by
    rw [lcGo, List.map_nil, List.append_nil]
    exact if_pos rfl
  | d :: ds, acc, hn, hz, h => by
    have e1 : (S ++ [O.lst acc])[n]? = some (O.lst acc) := by rw [hn]; simp
    have hl : acc.length < sizeLine := by simp only [List.length_cons] at hz; omega
    have e2 : (S ++ [O.lst acc]).set n (O.lst (acc ++ [g d])) = S ++ [O.lst (acc ++ [g d])] := by rw [hn]; simp
    have step : lcGo n all none st (d :: ds) (S ++ [O.lst acc]) = lcGo n all none st ds ((S ++ [O.lst acc]).set n (O.lst (acc ++ [g d]))) := by
      rw [lcGo]
      refine (if_pos rfl).trans ?_
      rw [h d List.mem_cons_self acc]
      show (match (S ++ [O.lst acc])[n]? with
        | some (O.lst acc') => if acc'.length < sizeLine then lcGo n all none st ds ((S ++ [O.lst acc]).set n (O.lst (acc' ++ [g d]))) else .bad
        | _ => .bad) = _
      rw [e1]
      exact if_pos hl
    rw [step, e2, lc_go ds (acc ++ [g d]) hn (by simp only [List.length_cons, List.length_append, List.length_nil] at hz ⊢; omega) (fun d' hd' => h d' (List.mem_cons_of_mem _ hd')), List.map_cons, List.append_assoc]
    rfl
theorem thaw_lst {acc : List D} (hS : Cl0 S) (h : closedL S.length acc = true) : thaw S.length (S ++ [O.lst acc]) = .ok (.lst acc) S := by
  unfold thaw
  have e1 : (S ++ [O.lst acc])[S.length]? = some (O.lst acc) := by simp
  rw [if_pos (by simp), e1]
  dsimp only
  rw [List.take_left, h, hS]
  rfl
theorem r_lc {own : List (Str × Nat)} {tg : Tg} {it : It1} {g : D → D} (hh : t.hot = none) (hS : Cl0 S) (hi : evI t it s S = .ok (ds, none) S) (hz : ds.length ≤ sizeLine) (hc : closedL S.length (ds.map g) = true)
    (hb : ∀ d ∈ ds, ∀ acc, ∃ s2, tgD tg d (wipeD s (own.map (·.2))) = some s2 ∧ evE t.blk e s2 (S ++ [O.lst acc]) = .ok (g d) (S ++ [O.lst acc])) : evE t (.lc false own tg it .no e) s S = .ok (.lst (ds.map g)) S := by
  rw [evE]
  unfold Sta.cold
  rw [hh]
  show (evI t it s S).bind _ = _
  rw [hi]
  show (lcGo S.length ds none (stF tg (own.map (·.2)) (evC t.blk .no) (evE t.blk e) s) ds (S ++ [O.lst []])).bind _ = _
  rw [lc_go (g := g) ds [] rfl (by simpa using hz) (fun d hd acc => ?_)]
  · show thaw S.length (S ++ [O.lst ([] ++ ds.map g)]) = _
    rw [List.nil_append]
    exact thaw_lst hS hc
  · obtain ⟨s2, e1, e2⟩ := hb d hd acc
    unfold stF
    rw [e1]
    show noX ((evC t.blk .no s2 (S ++ [O.lst acc])).bind _) = _
    rw [evC]
    show noX ((evE t.blk e s2 (S ++ [O.lst acc])).bind fun y S4 => .ok (some y) S4) = _
    rw [e2]
    rfl
end
end Fw

set_option Elab.async false
set_option linter.all false
set_option maxRecDepth 100000
set_option maxHeartbeats 4000000
namespace Fw
open PySem
/-! what is alike in all laws -/
variable {T : LawIn}
theorem tk_G (k : Nat) : (mk3 T.sta T.tb k).1.G = T.sta.G := by cases k <;> rfl
theorem tk_I (k : Nat) : (mk3 T.sta T.tb k).1.I = T.sta.I := by cases k <;> rfl
theorem tk_IC (k : Nat) : (mk3 T.sta T.tb k).1.IC = [] := by cases k <;> rfl
theorem tk_EC (k : Nat) : (mk3 T.sta T.tb k).1.EC = T.EC := by cases k <;> rfl
theorem tk_RX (k : Nat) : (mk3 T.sta T.tb k).1.RX = T.RX := by cases k <;> rfl
theorem tk_XF (k : Nat) : (mk3 T.sta T.tb k).1.XF = T.XF := by cases k <;> rfl
theorem tk_RI (k : Nat) : (mk3 T.sta T.tb k).1.RI = T.sta.RI := by cases k <;> rfl
theorem tk_rm {k : Nat} (h : 3 ≤ k) : (mk3 T.sta T.tb k).1.rm = true := by
  obtain ⟨j, rfl⟩ : ∃ j, k = j + 3 := ⟨k - 3, by omega⟩
  rfl
theorem tk_hot (k : Nat) : (mk3 T.sta T.tb k).1.hot = none := by cases k <;> rfl
theorem tk_blk (k : Nat) : (mk3 T.sta T.tb k).1.blk = (mk3 T.sta T.tb k).1 := by cases k <;> rfl
theorem tk_g (k : Nat) {x : Str} {d : D} (h : T.sta.G x = some d) : (mk3 T.sta T.tb k).1.G x = some d := by rw [tk_G]; exact h
theorem C_succ {k : Nat} {f : Str} {d : Df} (h : T.tb f = some d) (hl : d.lam = false) {ds : List D} {kws : List (Str × D)} {S : Sto} {r : R D} (q : runDf (mk3 T.sta T.tb k).1 d ds kws S = r) : (mk3 T.sta T.tb (k + 1)).1.C f ds kws S = r := by
  show (match T.tb f with
    | some d => if d.lam = true then (match (mk3 T.sta T.tb k).2.2 with
      | some z => runDf { z with lam := true } d ds kws S
      | none => .bad) else runDf (mk3 T.sta T.tb k).1 d ds kws S
    | none => .bad) = _
  rw [h]
  dsimp only
  rw [if_neg (by rw [hl]; exact Bool.false_ne_true)]
  exact q
theorem isi_of (k : Nat) {x c : D} {S : Sto} {b : Bool} (h : isiD [] T.EC T.sta.I x c S = some b) : biD (mk3 T.sta T.tb k).1 "isinstance" [x, c] S = .ok (.bl b) S := by
  refine (show biD (mk3 T.sta T.tb k).1 "isinstance" [x, c] S = biIsi (mk3 T.sta T.tb k).1 [x, c] S from (if_neg (by decide)).trans (if_pos rfl)).trans ?_
  unfold biIsi
  dsimp only
  rw [tk_IC, tk_I, tk_EC, h]
theorem all_of (k : Nat) {ds : List D} {S : Sto} {r : R D} (h : biAll ds S = r) : biD (mk3 T.sta T.tb k).1 "all" ds S = r := by
  refine (show biD (mk3 T.sta T.tb k).1 "all" ds S = (mk3 T.sta T.tb k).1.cold (biAll ds S) from (if_neg (by decide)).trans ((if_neg (by decide)).trans ((if_neg (by decide)).trans ((if_neg (by decide)).trans ((if_neg (by decide)).trans ((if_neg (by decide)).trans ((if_neg (by decide)).trans (if_pos rfl)))))))).trans ?_
  unfold Sta.cold
  rw [tk_hot]
  exact h
/-- a def of the law: the number of its parameters, of its names, its body -/
structure HasDf (T : LawIn) (f : Str) (np nN : Nat) (b : Ss) : Prop where
  ex : ∃ d, T.tb f = some d ∧ d.lam = false ∧ d.ps.length = np ∧ d.N.length = nN ∧ d.body = b ∧ (np, ([] : List Str)) ∈ d.shapes
theorem bindG_pos {α : Type} : ∀ {ps : List Str} {us : List α}, us.length = ps.length → bindG ps us [] = some us
  | [], [], _ => rfl
  | p :: ps, u :: us, h => by rw [bindG, bindG_pos (by simpa using h)]; rfl
  | [], _ :: _, h => by simp at h
  | _ :: _, [], h => by simp at h
theorem HasDf.call {f : Str} {np nN k : Nat} {b : Ss} (h : HasDf T f np nN b) {ds : List D} {S : Sto} {q : R Fl} {r : R D} (hl : ds.length = np) (hq : evSs b (mk3 T.sta T.tb k).1 (ds.map some ++ List.replicate (nN - np) none) S = q) (hf : gcF S.length (fin q) = r) : (mk3 T.sta T.tb (k + 1)).1.C f ds [] S = r := by
  obtain ⟨d, h1, h2, h3, h4, h5, h6⟩ := h.ex
  refine C_succ h1 h2 (r_df (S' := S) (ds' := ds) (by rw [hl]; exact decide_eq_true h6) (bindG_pos (by rw [hl, h3])) (q := q) ?_ hf)
  rw [h5]
  unfold startD
  rw [h4, hl]
  exact hq
theorem tk_cold {α : Type} (k : Nat) (r : R α) : (mk3 T.sta T.tb k).1.cold r = r := by unfold Sta.cold; rw [tk_hot]; rfl
theorem R_ok {α β : Type} (a : α) (S : Sto) (f : α → Sto → R β) : (R.ok a S).bind f = f a S := rfl
theorem bS_ok {α : Type} (a : α) (S : Sto) (s : En) (f : α → Sto → R Fl) : (R.ok a S).bindS s f = f a S := rfl
theorem eq_int (i j : Int) (S : Sto) : cmpD .Eq (.int i) (.int j) S = .ok (D.bl (decide (i = j))) S := by
  show (match cmp1 .Eq (.int i) (.int j) with
    | some b => R.ok (D.bl b) S
    | none => .bad) = _
  have : cmp1 .Eq (.int i) (.int j) = some (PyData.eqv (.int i) (.int j)) := rfl
  rw [this]
  dsimp only
  rw [PyData.eqv]
  rfl
theorem lt_int (i j : Int) (S : Sto) : cmpD .Lt (.int i) (.int j) S = .ok (D.bl (decide (i < j))) S := rfl
theorem gt_int (i j : Int) (S : Sto) : cmpD .Gt (.int i) (.int j) S = .ok (D.bl (decide (j < i))) S := rfl
theorem ge_int (i j : Int) (S : Sto) : cmpD .GtE (.int i) (.int j) S = .ok (D.bl (decide (j ≤ i))) S := rfl
theorem le_int (i j : Int) (S : Sto) : cmpD .LtE (.int i) (.int j) S = .ok (D.bl (decide (i ≤ j))) S := rfl
theorem ad_int (i j : Int) (S : Sto) : binD .Add (.int i) (.int j) S = .ok (.int (i + j)) S := rfl
theorem su_int (i j : Int) (S : Sto) : binD .Sub (.int i) (.int j) S = .ok (.int (i - j)) S := rfl
theorem mu_int {i j : Int} (S : Sto) (h : (smallF i || smallF j) = true) : binD .Mult (.int i) (.int j) S = .ok (.int (i * j)) S := if_pos h
theorem mo_int {i j : Int} (S : Sto) (h : 0 < j) : binD .Mod (.int i) (.int j) S = .ok (.int (i % j)) S := if_pos h
theorem fd_int {i j : Int} (S : Sto) (h : 0 < j) (h2 : j < 1073741824) : binD .FloorDiv (.int i) (.int j) S = .ok (.int (i / j)) S := if_pos ⟨h, h2⟩
theorem po_int {i j : Int} (S : Sto) (h : 0 ≤ j) (h2 : j ≤ 1000) (h3 : smallF i = true) : binD .Pow (.int i) (.int j) S = .ok (.int (i ^ j.toNat)) S := if_pos ⟨h, h2, h3⟩
theorem in_int (t : Sta) (i : Int) (S : Sto) : biD t "int" [.int i] S = .ok (.int i) S := rfl
theorem in_bl (t : Sta) (i : Bool) (S : Sto) : biD t "int" [.bl i] S = .ok (.int (PyProof.Rows.b2i i)) S := rfl
theorem sz0 : (([] : List D).length ≤ sizeLine) = True := eq_true (of_decide_eq_true rfl)
theorem sz1 (a0 : D) : ([a0].length ≤ sizeLine) = True := eq_true (of_decide_eq_true rfl)
theorem sz2 (a0 a1 : D) : ([a0, a1].length ≤ sizeLine) = True := eq_true (of_decide_eq_true rfl)
theorem sz3 (a0 a1 a2 : D) : ([a0, a1, a2].length ≤ sizeLine) = True := eq_true (of_decide_eq_true rfl)
theorem sz4 (a0 a1 a2 a3 : D) : ([a0, a1, a2, a3].length ≤ sizeLine) = True := eq_true (of_decide_eq_true rfl)
theorem sz5 (a0 a1 a2 a3 a4 : D) : ([a0, a1, a2, a3, a4].length ≤ sizeLine) = True := eq_true (of_decide_eq_true rfl)
theorem sz6 (a0 a1 a2 a3 a4 a5 : D) : ([a0, a1, a2, a3, a4, a5].length ≤ sizeLine) = True := eq_true (of_decide_eq_true rfl)
theorem sz7 (a0 a1 a2 a3 a4 a5 a6 : D) : ([a0, a1, a2, a3, a4, a5, a6].length ≤ sizeLine) = True := eq_true (of_decide_eq_true rfl)
theorem sz8 (a0 a1 a2 a3 a4 a5 a6 a7 : D) : ([a0, a1, a2, a3, a4, a5, a6, a7].length ≤ sizeLine) = True := eq_true (of_decide_eq_true rfl)
theorem sz9 (a0 a1 a2 a3 a4 a5 a6 a7 a8 : D) : ([a0, a1, a2, a3, a4, a5, a6, a7, a8].length ≤ sizeLine) = True := eq_true (of_decide_eq_true rfl)
theorem sz10 (a0 a1 a2 a3 a4 a5 a6 a7 a8 a9 : D) : ([a0, a1, a2, a3, a4, a5, a6, a7, a8, a9].length ≤ sizeLine) = True := eq_true (of_decide_eq_true rfl)
theorem for_inv {P : En → Sto → Prop} {all : List D} {b : D → En → Sto → R Fl} : ∀ {ds : List D} {s : En} {S : Sto}, (∀ d ∈ ds, ∀ s S, P s S → ∃ s1 S1, b d s S = .ok (.next s1) S1 ∧ P s1 S1) → P s S → ∃ s1 S1, forGo all none b ds s S = .ok (.next s1) S1 ∧ P s1 S1
  | [], s, S, h, p => ⟨s, S, if_pos rfl, p⟩
  | d :: ds, s, S, h, p => by
    obtain ⟨s1, S1, e1, p1⟩ := h d List.mem_cons_self s S p
    obtain ⟨s2, S2, e2, p2⟩ := for_inv (ds := ds) (fun d hd => h d (List.mem_cons_of_mem _ hd)) p1
    refine ⟨s2, S2, ?_, p2⟩
    rw [forGo]
    refine (if_pos rfl).trans ?_
    rw [e1]
    exact e2
theorem loop_inv {t : Sta} {tg : Tg} {it : It1} {bd : Ss} {s : En} {S S1 : Sto} {q : R Fl} {P : En → Sto → Prop} {ds : List D} (hq : evS (.loop tg it bd) t s S = q) (hh : ∀ r : R Fl, t.cold r = r) (hi : evI t it s S = .ok (ds, none) S1)
    (h : ∀ d ∈ ds, ∀ s S, P s S → ∃ s0, tgD tg d s = some s0 ∧ ∃ s1 S1, evSs bd t s0 S = .ok (.next s1) S1 ∧ P s1 S1) (p : P s S1) : ∃ s2 S2, q = .ok (.next s2) S2 ∧ P s2 S2 := by
  rw [evS, hh, hi] at hq
  obtain ⟨s2, S2, e, p2⟩ := for_inv (all := ds) (b := fun d s S => match tgD tg d s with
    | some s1 => evSs bd t s1 S
    | none => .bad) (ds := ds) (s := s) (S := S1) (P := P) (fun d hd s S hp => by
      obtain ⟨s0, e0, s1, S1, e1, p1⟩ := h d hd s S hp
      refine ⟨s1, S1, ?_, p1⟩
      show (match tgD tg d s with
        | some s1 => evSs bd t s1 S
        | none => .bad) = _
      rw [e0]
      exact e1) p
  exact ⟨s2, S2, hq.symm.trans e, p2⟩
theorem gc_eq {n : Nat} {d : D} {S : Sto} (h : S.length = n) (ht : top n S d = d) : gcF n (.ok d S) = .ok d S := by
  have h : (if ((top n S d).closed n && (S.take n).all (O.closed n)) = true then R.ok (top n S d) (S.take n) else R.ok d S) = .ok d S := by
    rw [← h, List.take_length, h, ht]
    split <;> rfl
  exact h
mutual
theorem cl_up {n : Nat} : ∀ d : D, d.closed 0 = true → d.closed n = true
  | .ref l, h => by simp [D.closed] at h
  | .tup ds, h => by rw [D.closed] at h ⊢; exact clL_up ds h
  | .lst ds, h => by rw [D.closed] at h ⊢; exact clL_up ds h
  | .dct _ ds, h => by rw [D.closed] at h ⊢; exact clL_up ds h
  | .obj _ _ ds, h => by rw [D.closed] at h ⊢; exact clL_up ds h
  | .err _ _ ds, h => by rw [D.closed] at h ⊢; exact clL_up ds h
  | .non, _ => rfl | .bl _, _ => rfl | .int _, _ => rfl | .str _, _ => rfl | .ty _, _ => rfl | .glo _, _ => rfl | .scr _, _ => rfl
theorem clL_up {n : Nat} : ∀ ds : List D, closedL 0 ds = true → closedL n ds = true
  | [], _ => rfl
  | d :: ds, h => by
    rw [closedL, Bool.and_eq_true] at h ⊢
    exact ⟨cl_up d h.1, clL_up ds h.2⟩
end
theorem O_up {n : Nat} : ∀ o : O, o.closed 0 = true → o.closed n = true
  | .lst ds, h => clL_up ds h
  | .dct _ ds, h => clL_up ds h
  | .ins _ _ ds, h => clL_up ds h
def E0 (E : Sto) : Prop := E.all (O.closed 0) = true
structure Sg where
  g : List Int
  r : Int
  u : Int
def stO (cs : List Int) (s : Sg) (E : Sto) : Sto := .lst (s.g.map .int) :: .dct [.inr "great", .inr "cells", .inr "rest", .inr "turn"] [.ref 0, .lst (cs.map .int), .int s.r, .int s.u] :: E
section
variable (cs : List Int) (s : Sg) (E : Sto)
theorem ix_great : idxD (.ref 1) (.str "great") (stO cs s E) = .ok (.ref 0) (stO cs s E) := rfl
theorem ix_rest : idxD (.ref 1) (.str "rest") (stO cs s E) = .ok (.int s.r) (stO cs s E) := rfl
theorem ix_turn : idxD (.ref 1) (.str "turn") (stO cs s E) = .ok (.int s.u) (stO cs s E) := rfl
theorem ix_cells : idxD (.ref 1) (.str "cells") (stO cs s E) = .ok (.lst (cs.map .int)) (stO cs s E) := rfl
theorem it_lst (ds : List D) (S : Sto) : itD S (.lst ds) = .ok (ds, none) S := rfl
theorem it_tup (ds : List D) (S : Sto) : itD S (.tup ds) = .ok (ds, none) S := rfl
theorem se_rest (i : Int) : setD (.ref 1) (.str "rest") (.int i) (stO cs s E) = some (stO cs { s with r := i } E) := rfl
theorem se_turn (i : Int) : setD (.ref 1) (.str "turn") (.int i) (stO cs s E) = some (stO cs { s with u := i } E) := rfl
theorem po_great (g : List Int) (i r u : Int) : mtD "pop" (.ref 0) [.int 0] (stO cs ⟨i :: g, r, u⟩ E) = .ok (.int i) (stO cs ⟨g, r, u⟩ E) := rfl
theorem ints_py : ∀ g : List Int, toPyL (g.map .int) = some (g.map .int)
  | [] => rfl
  | i :: g => by rw [List.map_cons, toPyL, ints_py g]; rfl
theorem ne_great : cmpD .NotEq (.ref 0) (.lst []) (stO cs s E) = .ok (D.bl (decide (s.g ≠ []))) (stO cs s E) := by
  have : cmp1 .NotEq (.lst (s.g.map .int)) (.lst []) = some (decide (s.g ≠ [])) := by
    unfold cmp1 eqD
    rw [toPy, ints_py, toPy, toPyL]
    show (if min (PyData.depth (.list (s.g.map .int))) (PyData.depth (.list [])) ≤ 60 then some _ else none : Option Bool).map not = _
    rw [if_pos (Nat.le_trans (Nat.min_le_right _ _) (by decide))]
    cases s.g <;> rfl
  show (match cmp1 .NotEq (.lst (s.g.map .int)) (.lst []) with
    | some b => R.ok (D.bl b) (stO cs s E)
    | none => .bad) = _
  rw [this]
theorem rc_great : rcvB "pop" (flat (stO cs s E) (.ref 0)) = true := rfl
theorem le_st : (stO cs s E).length = E.length + 2 := rfl
theorem st_Cl (h : E0 E) : Cl0 (stO cs s E) := by
  have cl : ∀ (n : Nat) (g : List Int), closedL n (g.map D.int) = true := by
    intro n g
    induction g with
    | nil => rfl
    | cons i g h => exact h
  have he : E.all (O.closed (E.length + 2)) = true := by
    rw [List.all_eq_true]
    intro o ho
    exact O_up o (List.all_eq_true.mp h o ho)
  show (stO cs s E).all (O.closed (E.length + 2)) = true
  unfold stO
  simp [O.closed, closedL, D.closed, cl, he]
end
section
def mixB : Ss := (.cons (.set 1 (.bin .Add (.idx (.var 0) (.con (.str "turn"))) (.con (.int 1))))
  (.cons (.sub (.var 0) (.con (.str "turn")) (.var 1))
  (.cons (.set 2 (.con (.int 0)))
  (.cons (.loop (.nm 3) (.ex (.lst false (.cons (.con (.int 2147483629)) (.cons (.con (.int 2147483587)) (.cons (.con (.int 2147483579)) (.cons (.con (.int 2147483563)) (.cons (.con (.int 2147483549)) (.cons (.con (.int 2147483543)) .nil))))))))
   (.cons (.set 4 (.bin .Add (.bin .Mult (.con (.int 130363)) (.var 1)) (.bin .FloorDiv (.var 3) (.con (.int 13)))))
   (.cons (.loop (.nm 5) (.ex (.idx (.var 0) (.con (.str "cells"))))
    (.cons (.set 4 (.bin .Mod (.bi "int" (.cons (.bin .Add (.bin .Mult (.var 4) (.con (.int 48271))) (.var 5)) .nil)) (.var 3)))
    .nil))
   (.cons (.set 2 (.bin .Add (.bin .Mult (.var 2) (.con (.int 2147483647))) (.bin .Mod (.bi "int" (.cons (.bin .Pow (.var 4) (.con (.int 5))) .nil)) (.var 3))))
   .nil))))
  (.cons (.ret (.var 2))
  .nil)))))
def takeB : Ss := (.cons (.cond (.and (.cmp .Eq (.idx (.var 0) (.con (.str "rest"))) (.con (.int 0))) (.cmp .NotEq (.idx (.var 0) (.con (.str "great"))) (.lst false .nil)))
   (.cons (.sub (.var 0) (.con (.str "rest")) (.mt (.idx (.var 0) (.con (.str "great"))) "pop" (.cons (.con (.int 0)) .nil)))
   .nil)
   (.cons (.cond (.cmp .Eq (.idx (.var 0) (.con (.str "rest"))) (.con (.int 0)))
    (.cons (.sub (.var 0) (.con (.str "rest")) (.call "_law_mixed" (.cons (.var 0) .nil) [] .nil))
    .nil)
    .nil)
   .nil))
  (.cons (.set 2 (.bin .Mod (.bi "int" (.cons (.idx (.var 0) (.con (.str "rest"))) .nil)) (.var 1)))
  (.cons (.sub (.var 0) (.con (.str "rest")) (.bin .FloorDiv (.idx (.var 0) (.con (.str "rest"))) (.var 1)))
  (.cons (.ret (.var 2))
  .nil))))
def pickB : Ss := (.cons (.ret (.idx (.var 1) (.call "_law_take" (.cons (.var 0) (.cons (.bi "len" (.cons (.var 1) .nil)) .nil)) [] .nil)))
  .nil)
def begB : Ss := (.cons (.set 1 (.lc true [("cell", 2)] (.nm 2) (.ex (.var 0)) (.yes (.cmp .GtE (.var 2) (.bin .Pow (.con (.int 10)) (.con (.int 18))))) (.bin .Sub (.var 2) (.bin .Pow (.con (.int 10)) (.con (.int 18))))))
  (.cons (.ret (.dct true ["great", "cells", "rest", "turn"] (.cons (.var 1) (.cons (.bi "list" (.cons (.var 0) .nil)) (.cons (.con (.int 0)) (.cons (.con (.int 0)) .nil))))))
  .nil))
/-- the defs for draws -/
structure LB (T : LawIn) : Prop where
  beg : HasDf T "_law_begun" 1 3 begB
  mix : HasDf T "_law_mixed" 1 6 mixB
  take : HasDf T "_law_take" 2 3 takeB
variable {k : Nat}
theorem small_of {i : Int} (h1 : -(2 ^ 64) < i) (h2 : i < 2 ^ 64) : smallF i = true := by unfold smallF; simp; omega
def mixI (cs : List Int) (s : Sg) (E : Sto) (e : En) (S : Sto) : Prop := S = stO cs s E ∧ ∃ f a b c, e = [some (.ref 1), some (.int s.u), some (.int f), a, b, c]
def mixJ (cs : List Int) (s : Sg) (E : Sto) (f p : Int) (e : En) (S : Sto) : Prop := S = stO cs s E ∧ ∃ b c, smallF b = true ∧ e = [some (.ref 1), some (.int s.u), some (.int f), some (.int p), some (.int b), c]
def primes : List D := [.int 2147483629, .int 2147483587, .int 2147483579, .int 2147483563, .int 2147483549, .int 2147483543]
theorem mixed_body (cs : List Int) (s : Sg) (E : Sto) (hu : 0 ≤ s.u) (hv : s.u < 2 ^ 40) :
    ∃ i, evSs mixB (mk3 T.sta T.tb k).1 [some (.ref 1), none, none, none, none, none] (stO cs s E) = .ok (.ret (.int i)) (stO cs { s with u := s.u + 1 } E) := by
  unfold mixB
  simp only [evSs, evS.eq_1, evS.eq_2, evS.eq_3, evS.eq_4, evS.eq_5, evS.eq_7, evS.eq_8, evS.eq_9, evS.eq_10, evE.eq_1, evE.eq_2, evE.eq_3, evE.eq_4, evE.eq_5, evE.eq_6, evE.eq_7, evE.eq_8, evE.eq_9, evE.eq_10, evE.eq_11, evE.eq_12, evE.eq_13, evE.eq_14, evE.eq_15, evE.eq_16, evE.eq_17, evE.eq_18, evE.eq_19, evE.eq_20, evE.eq_21, evE.eq_22, evE.eq_23, evE.eq_24, evE.eq_25, evE.eq_26, evE.eq_27, evL, evO, evC, R_ok, bS_ok, tk_cold, List.getElem?_cons_zero, List.getElem?_cons_succ, conD, List.set_cons_zero, List.set_cons_succ, Option.some.injEq, eq_int, ix_great, ix_rest, ix_turn, ix_cells, se_rest, se_turn, po_great, ne_great, ne_eq, reduceCtorEq, not_true_eq_false, not_false_eq_true, decide_true, decide_false, rc_great, le_st, it_lst, it_tup, ad_int, su_int, lt_int, gt_int, ge_int, le_int, in_int, in_bl, evI, ↓reduceIte, sz0, sz1, sz2, sz3, sz4, sz5, sz6, sz7, sz8, sz9, sz10, List.zip_nil_left, Bool.false_eq_true, Bool.not_true, Bool.not_false]
  generalize hq : evS (Sm.loop _ _ _) _ _ _ = q
  obtain ⟨s2, S2, rfl, rfl, f, a, b, c, rfl⟩ := loop_inv (P := mixI cs { s with u := s.u + 1 } E) (ds := primes) hq (tk_cold k) (by simp only [evSs, evS.eq_1, evS.eq_2, evS.eq_3, evS.eq_4, evS.eq_5, evS.eq_7, evS.eq_8, evS.eq_9, evS.eq_10, evE.eq_1, evE.eq_2, evE.eq_3, evE.eq_4, evE.eq_5, evE.eq_6, evE.eq_7, evE.eq_8, evE.eq_9, evE.eq_10, evE.eq_11, evE.eq_12, evE.eq_13, evE.eq_14, evE.eq_15, evE.eq_16, evE.eq_17, evE.eq_18, evE.eq_19, evE.eq_20, evE.eq_21, evE.eq_22, evE.eq_23, evE.eq_24, evE.eq_25, evE.eq_26, evE.eq_27, evL, evO, evC, R_ok, bS_ok, tk_cold, List.getElem?_cons_zero, List.getElem?_cons_succ, conD, List.set_cons_zero, List.set_cons_succ, Option.some.injEq, eq_int, ix_great, ix_rest, ix_turn, ix_cells, se_rest, se_turn, po_great, ne_great, ne_eq, reduceCtorEq, not_true_eq_false, not_false_eq_true, decide_true, decide_false, rc_great, le_st, it_lst, it_tup, ad_int, su_int, lt_int, gt_int, ge_int, le_int, in_int, in_bl, evI, ↓reduceIte, sz0, sz1, sz2, sz3, sz4, sz5, sz6, sz7, sz8, sz9, sz10, List.zip_nil_left, Bool.false_eq_true, Bool.not_true, Bool.not_false]; rfl) (by
    rintro d hd e S ⟨rfl, f, a, b, c, rfl⟩
    have hp : ∃ p : Int, d = .int p ∧ 0 < p ∧ p < 2147483648 := by
      simp only [primes, List.mem_cons, List.not_mem_nil, or_false] at hd
      rcases hd with h | h | h | h | h | h <;> exact ⟨_, h, by decide, by decide⟩
    obtain ⟨p, rfl, hp1, hp2⟩ := hp
    refine ⟨_, rfl, ?_⟩
    simp only [evSs, evS.eq_1, evS.eq_2, evS.eq_3, evS.eq_4, evS.eq_5, evS.eq_7, evS.eq_8, evS.eq_9, evS.eq_10, evE.eq_1, evE.eq_2, evE.eq_3, evE.eq_4, evE.eq_5, evE.eq_6, evE.eq_7, evE.eq_8, evE.eq_9, evE.eq_10, evE.eq_11, evE.eq_12, evE.eq_13, evE.eq_14, evE.eq_15, evE.eq_16, evE.eq_17, evE.eq_18, evE.eq_19, evE.eq_20, evE.eq_21, evE.eq_22, evE.eq_23, evE.eq_24, evE.eq_25, evE.eq_26, evE.eq_27, evL, evO, evC, R_ok, bS_ok, tk_cold, List.getElem?_cons_zero, List.getElem?_cons_succ, conD, List.set_cons_zero, List.set_cons_succ, Option.some.injEq, eq_int, ix_great, ix_rest, ix_turn, ix_cells, se_rest, se_turn, po_great, ne_great, ne_eq, reduceCtorEq, not_true_eq_false, not_false_eq_true, decide_true, decide_false, rc_great, le_st, it_lst, it_tup, ad_int, su_int, lt_int, gt_int, ge_int, le_int, in_int, in_bl, evI, ↓reduceIte, sz0, sz1, sz2, sz3, sz4, sz5, sz6, sz7, sz8, sz9, sz10, List.zip_nil_left, Bool.false_eq_true, Bool.not_true, Bool.not_false, mu_int _ (show (smallF 130363 || smallF (s.u + 1)) = true from rfl), fd_int _ (show (0 : Int) < 13 by decide) (show (13 : Int) < 1073741824 by decide)]
    clear hq
    generalize hq : evS (Sm.loop _ _ _) _ _ _ = q
    obtain ⟨s2, S2, rfl, rfl, b, c, hb, rfl⟩ := loop_inv (P := mixJ cs { s with u := s.u + 1 } E f p) (ds := cs.map .int) hq (tk_cold k) (by simp only [evSs, evS.eq_1, evS.eq_2, evS.eq_3, evS.eq_4, evS.eq_5, evS.eq_7, evS.eq_8, evS.eq_9, evS.eq_10, evE.eq_1, evE.eq_2, evE.eq_3, evE.eq_4, evE.eq_5, evE.eq_6, evE.eq_7, evE.eq_8, evE.eq_9, evE.eq_10, evE.eq_11, evE.eq_12, evE.eq_13, evE.eq_14, evE.eq_15, evE.eq_16, evE.eq_17, evE.eq_18, evE.eq_19, evE.eq_20, evE.eq_21, evE.eq_22, evE.eq_23, evE.eq_24, evE.eq_25, evE.eq_26, evE.eq_27, evL, evO, evC, R_ok, bS_ok, tk_cold, List.getElem?_cons_zero, List.getElem?_cons_succ, conD, List.set_cons_zero, List.set_cons_succ, Option.some.injEq, eq_int, ix_great, ix_rest, ix_turn, ix_cells, se_rest, se_turn, po_great, ne_great, ne_eq, reduceCtorEq, not_true_eq_false, not_false_eq_true, decide_true, decide_false, rc_great, le_st, it_lst, it_tup, ad_int, su_int, lt_int, gt_int, ge_int, le_int, in_int, in_bl, evI, ↓reduceIte, sz0, sz1, sz2, sz3, sz4, sz5, sz6, sz7, sz8, sz9, sz10, List.zip_nil_left, Bool.false_eq_true, Bool.not_true, Bool.not_false]) (by
      rintro d hd e S ⟨rfl, b, c, hb, rfl⟩
      obtain ⟨z, hz, rfl⟩ := List.mem_map.mp hd
      refine ⟨_, rfl, ?_⟩
      simp only [evSs, evS.eq_1, evS.eq_2, evS.eq_3, evS.eq_4, evS.eq_5, evS.eq_7, evS.eq_8, evS.eq_9, evS.eq_10, evE.eq_1, evE.eq_2, evE.eq_3, evE.eq_4, evE.eq_5, evE.eq_6, evE.eq_7, evE.eq_8, evE.eq_9, evE.eq_10, evE.eq_11, evE.eq_12, evE.eq_13, evE.eq_14, evE.eq_15, evE.eq_16, evE.eq_17, evE.eq_18, evE.eq_19, evE.eq_20, evE.eq_21, evE.eq_22, evE.eq_23, evE.eq_24, evE.eq_25, evE.eq_26, evE.eq_27, evL, evO, evC, R_ok, bS_ok, tk_cold, List.getElem?_cons_zero, List.getElem?_cons_succ, conD, List.set_cons_zero, List.set_cons_succ, Option.some.injEq, eq_int, ix_great, ix_rest, ix_turn, ix_cells, se_rest, se_turn, po_great, ne_great, ne_eq, reduceCtorEq, not_true_eq_false, not_false_eq_true, decide_true, decide_false, rc_great, le_st, it_lst, it_tup, ad_int, su_int, lt_int, gt_int, ge_int, le_int, in_int, in_bl, evI, ↓reduceIte, sz0, sz1, sz2, sz3, sz4, sz5, sz6, sz7, sz8, sz9, sz10, List.zip_nil_left, Bool.false_eq_true, Bool.not_true, Bool.not_false, mu_int _ (show (smallF b || smallF 48271) = true by rw [hb]; rfl), mo_int _ hp1]
      have h1 := Int.emod_nonneg (b * 48271 + z) (by omega : p ≠ 0)
      have h2 := Int.emod_lt_of_pos (b * 48271 + z) hp1
      exact ⟨_, _, rfl, rfl, _, _, small_of (by omega) (by omega), rfl⟩) ⟨rfl, _, _, small_of (by omega) (by omega), rfl⟩
    simp only [evSs, evS.eq_1, evS.eq_2, evS.eq_3, evS.eq_4, evS.eq_5, evS.eq_7, evS.eq_8, evS.eq_9, evS.eq_10, evE.eq_1, evE.eq_2, evE.eq_3, evE.eq_4, evE.eq_5, evE.eq_6, evE.eq_7, evE.eq_8, evE.eq_9, evE.eq_10, evE.eq_11, evE.eq_12, evE.eq_13, evE.eq_14, evE.eq_15, evE.eq_16, evE.eq_17, evE.eq_18, evE.eq_19, evE.eq_20, evE.eq_21, evE.eq_22, evE.eq_23, evE.eq_24, evE.eq_25, evE.eq_26, evE.eq_27, evL, evO, evC, R_ok, bS_ok, tk_cold, List.getElem?_cons_zero, List.getElem?_cons_succ, conD, List.set_cons_zero, List.set_cons_succ, Option.some.injEq, eq_int, ix_great, ix_rest, ix_turn, ix_cells, se_rest, se_turn, po_great, ne_great, ne_eq, reduceCtorEq, not_true_eq_false, not_false_eq_true, decide_true, decide_false, rc_great, le_st, it_lst, it_tup, ad_int, su_int, lt_int, gt_int, ge_int, le_int, in_int, in_bl, evI, ↓reduceIte, sz0, sz1, sz2, sz3, sz4, sz5, sz6, sz7, sz8, sz9, sz10, List.zip_nil_left, Bool.false_eq_true, Bool.not_true, Bool.not_false, mu_int _ (show (smallF f || smallF 2147483647) = true by rw [Bool.or_eq_true]; exact .inr rfl), mo_int _ hp1, po_int _ (show (0 : Int) ≤ 5 by decide) (show (5 : Int) ≤ 1000 by decide) hb]
    exact ⟨_, _, rfl, rfl, _, _, _, _, rfl⟩) ⟨rfl, 0, none, none, none, rfl⟩
  exact ⟨f, by simp only [evSs, evS.eq_1, evS.eq_2, evS.eq_3, evS.eq_4, evS.eq_5, evS.eq_7, evS.eq_8, evS.eq_9, evS.eq_10, evE.eq_1, evE.eq_2, evE.eq_3, evE.eq_4, evE.eq_5, evE.eq_6, evE.eq_7, evE.eq_8, evE.eq_9, evE.eq_10, evE.eq_11, evE.eq_12, evE.eq_13, evE.eq_14, evE.eq_15, evE.eq_16, evE.eq_17, evE.eq_18, evE.eq_19, evE.eq_20, evE.eq_21, evE.eq_22, evE.eq_23, evE.eq_24, evE.eq_25, evE.eq_26, evE.eq_27, evL, evO, evC, R_ok, bS_ok, tk_cold, List.getElem?_cons_zero, List.getElem?_cons_succ, conD, List.set_cons_zero, List.set_cons_succ, Option.some.injEq, eq_int, ix_great, ix_rest, ix_turn, ix_cells, se_rest, se_turn, po_great, ne_great, ne_eq, reduceCtorEq, not_true_eq_false, not_false_eq_true, decide_true, decide_false, rc_great, le_st, it_lst, it_tup, ad_int, su_int, lt_int, gt_int, ge_int, le_int, in_int, in_bl, evI, ↓reduceIte, sz0, sz1, sz2, sz3, sz4, sz5, sz6, sz7, sz8, sz9, sz10, List.zip_nil_left, Bool.false_eq_true, Bool.not_true, Bool.not_false]⟩
theorem take_body (cs : List Int) (s : Sg) (E : Sto) (n : Int) (hn : 0 < n) (hn2 : n < 1073741824) (hm : ∀ s : Sg, 0 ≤ s.u → s.u < 2 ^ 40 → ∃ i, (mk3 T.sta T.tb k).1.C "_law_mixed" [.ref 1] [] (stO cs s E) = .ok (.int i) (stO cs { s with u := s.u + 1 } E)) (h0 : 0 ≤ s.u) (hu : s.u < 2 ^ 40) :
    ∃ i s', (i = 0 ∨ 0 < i) ∧ i < n ∧ s'.u ≤ s.u + 1 ∧ s.u ≤ s'.u ∧ evSs takeB (mk3 T.sta T.tb k).1 [some (.ref 1), some (.int n), none] (stO cs s E) = .ok (.ret (.int i)) (stO cs s' E) := by
  have m1 : ∀ a : Int, (a % n = 0 ∨ 0 < a % n) ∧ a % n < n := fun a => ⟨by have := Int.emod_nonneg a (by omega : n ≠ 0); omega, Int.emod_lt_of_pos a hn⟩
  obtain ⟨g, r, u⟩ := s
  unfold takeB
  by_cases e : r = 0
  · cases g with
    | nil =>
      obtain ⟨j, hj⟩ := hm ⟨[], r, u⟩ h0 hu
      refine ⟨j % n, ⟨[], j / n, u + 1⟩, (m1 j).1, (m1 j).2, Int.le_refl _, by show u ≤ u + 1; omega, ?_⟩
      have e1 : decide (r = 0) = true := decide_eq_true e
      simp only [evSs, evS.eq_1, evS.eq_2, evS.eq_3, evS.eq_4, evS.eq_5, evS.eq_7, evS.eq_8, evS.eq_9, evS.eq_10, evE.eq_1, evE.eq_2, evE.eq_3, evE.eq_4, evE.eq_5, evE.eq_6, evE.eq_7, evE.eq_8, evE.eq_9, evE.eq_10, evE.eq_11, evE.eq_12, evE.eq_13, evE.eq_14, evE.eq_15, evE.eq_16, evE.eq_17, evE.eq_18, evE.eq_19, evE.eq_20, evE.eq_21, evE.eq_22, evE.eq_23, evE.eq_24, evE.eq_25, evE.eq_26, evE.eq_27, evL, evO, evC, R_ok, bS_ok, tk_cold, List.getElem?_cons_zero, List.getElem?_cons_succ, conD, List.set_cons_zero, List.set_cons_succ, Option.some.injEq, eq_int, ix_great, ix_rest, ix_turn, ix_cells, se_rest, se_turn, po_great, ne_great, ne_eq, reduceCtorEq, not_true_eq_false, not_false_eq_true, decide_true, decide_false, rc_great, le_st, it_lst, it_tup, ad_int, su_int, lt_int, gt_int, ge_int, le_int, in_int, in_bl, evI, ↓reduceIte, sz0, sz1, sz2, sz3, sz4, sz5, sz6, sz7, sz8, sz9, sz10, List.zip_nil_left, Bool.false_eq_true, Bool.not_true, Bool.not_false, e1, hj, in_int, mo_int _ hn, fd_int _ hn hn2]
    | cons i g =>
      refine ⟨i % n, ⟨g, i / n, u⟩, (m1 i).1, (m1 i).2, by show u ≤ u + 1; omega, Int.le_refl _, ?_⟩
      have e1 : decide (r = 0) = true := decide_eq_true e
      simp only [evSs, evS.eq_1, evS.eq_2, evS.eq_3, evS.eq_4, evS.eq_5, evS.eq_7, evS.eq_8, evS.eq_9, evS.eq_10, evE.eq_1, evE.eq_2, evE.eq_3, evE.eq_4, evE.eq_5, evE.eq_6, evE.eq_7, evE.eq_8, evE.eq_9, evE.eq_10, evE.eq_11, evE.eq_12, evE.eq_13, evE.eq_14, evE.eq_15, evE.eq_16, evE.eq_17, evE.eq_18, evE.eq_19, evE.eq_20, evE.eq_21, evE.eq_22, evE.eq_23, evE.eq_24, evE.eq_25, evE.eq_26, evE.eq_27, evL, evO, evC, R_ok, bS_ok, tk_cold, List.getElem?_cons_zero, List.getElem?_cons_succ, conD, List.set_cons_zero, List.set_cons_succ, Option.some.injEq, eq_int, ix_great, ix_rest, ix_turn, ix_cells, se_rest, se_turn, po_great, ne_great, ne_eq, reduceCtorEq, not_true_eq_false, not_false_eq_true, decide_true, decide_false, rc_great, le_st, it_lst, it_tup, ad_int, su_int, lt_int, gt_int, ge_int, le_int, in_int, in_bl, evI, ↓reduceIte, sz0, sz1, sz2, sz3, sz4, sz5, sz6, sz7, sz8, sz9, sz10, List.zip_nil_left, Bool.false_eq_true, Bool.not_true, Bool.not_false, e1, in_int, mo_int _ hn, fd_int _ hn hn2]
  · refine ⟨r % n, ⟨g, r / n, u⟩, (m1 r).1, (m1 r).2, by show u ≤ u + 1; omega, Int.le_refl _, ?_⟩
    have e1 : decide (r = 0) = false := decide_eq_false e
    simp only [evSs, evS.eq_1, evS.eq_2, evS.eq_3, evS.eq_4, evS.eq_5, evS.eq_7, evS.eq_8, evS.eq_9, evS.eq_10, evE.eq_1, evE.eq_2, evE.eq_3, evE.eq_4, evE.eq_5, evE.eq_6, evE.eq_7, evE.eq_8, evE.eq_9, evE.eq_10, evE.eq_11, evE.eq_12, evE.eq_13, evE.eq_14, evE.eq_15, evE.eq_16, evE.eq_17, evE.eq_18, evE.eq_19, evE.eq_20, evE.eq_21, evE.eq_22, evE.eq_23, evE.eq_24, evE.eq_25, evE.eq_26, evE.eq_27, evL, evO, evC, R_ok, bS_ok, tk_cold, List.getElem?_cons_zero, List.getElem?_cons_succ, conD, List.set_cons_zero, List.set_cons_succ, Option.some.injEq, eq_int, ix_great, ix_rest, ix_turn, ix_cells, se_rest, se_turn, po_great, ne_great, ne_eq, reduceCtorEq, not_true_eq_false, not_false_eq_true, decide_true, decide_false, rc_great, le_st, it_lst, it_tup, ad_int, su_int, lt_int, gt_int, ge_int, le_int, in_int, in_bl, evI, ↓reduceIte, sz0, sz1, sz2, sz3, sz4, sz5, sz6, sz7, sz8, sz9, sz10, List.zip_nil_left, Bool.false_eq_true, Bool.not_true, Bool.not_false, e1, in_int, mo_int _ hn, fd_int _ hn hn2]
end
theorem at_mem {α : Type} {ds : List α} {i : Int} (h0 : 0 ≤ i) (h1 : i < ds.length) : ∃ d, d ∈ ds ∧ L2.atI ds i = some d := by
  have hj : i.toNat < ds.length := by omega
  refine ⟨ds[i.toNat], List.getElem_mem _, ?_⟩
  unfold L2.atI L2.ixN
  rw [if_pos h0, if_pos h1]
  exact List.getElem?_eq_getElem hj
theorem idx_mem {ds : List D} {i : Int} {S : Sto} (h0 : 0 ≤ i) (h1 : i < ds.length) : ∃ d, d ∈ ds ∧ idxD (.lst ds) (.int i) S = .ok d S := by
  obtain ⟨d, hd, e⟩ := at_mem h0 h1
  refine ⟨d, hd, ?_⟩
  show (match L2.atI ds i with
    | some d => R.ok d S
    | none => .bad) = _
  rw [e]
theorem idx_memT {ds : List D} {i : Int} {S : Sto} (h0 : 0 ≤ i) (h1 : i < ds.length) : ∃ d, d ∈ ds ∧ idxD (.tup ds) (.int i) S = .ok d S := by
  obtain ⟨d, hd, e⟩ := at_mem h0 h1
  refine ⟨d, hd, ?_⟩
  show (match L2.atI ds i with
    | some d => R.ok d S
    | none => .bad) = _
  rw [e]
def notRef : D → Bool
  | .ref _ => false
  | _ => true
theorem top_nr {n : Nat} {S : Sto} {d : D} (h : notRef d = true) : top n S d = d := by
  cases d <;> first | rfl | (simp [notRef] at h)
theorem tu_lst (t : Sta) (ds : List D) (S : Sto) : biD t "tuple" [.lst ds] S = .ok (.tup ds) S := rfl
section
variable (cs : List Int)
theorem gc_end {k : Nat} {S S' : Sto} {r : D} (hn : S'.length = S.length) (ht : top S.length S' r = r) : gcF S.length (fin (.ok (.ret r) S')) = .ok r S' := gc_eq hn ht
theorem mixed_ok (L : LB T) {k : Nat} (hk : 1 ≤ k) (s : Sg) (E : Sto) (hu : 0 ≤ s.u) (hv : s.u < 2 ^ 40) : ∃ i, (mk3 T.sta T.tb k).1.C "_law_mixed" [.ref 1] [] (stO cs s E) = .ok (.int i) (stO cs { s with u := s.u + 1 } E) := by
  obtain ⟨j, rfl⟩ : ∃ j, k = j + 1 := ⟨k - 1, by omega⟩
  obtain ⟨i, hi⟩ := mixed_body (T := T) (k := j) cs s E hu hv
  exact ⟨i, L.mix.call rfl hi (gc_eq rfl rfl)⟩
theorem take_ok (L : LB T) {k : Nat} (hk : 2 ≤ k) (s : Sg) (E : Sto) (n : Int) (hn : 0 < n) (hn2 : n < 1073741824) (h0 : 0 ≤ s.u) (hu : s.u < 2 ^ 40) :
    ∃ i s', 0 ≤ i ∧ i < n ∧ s'.u ≤ s.u + 1 ∧ s.u ≤ s'.u ∧ (mk3 T.sta T.tb k).1.C "_law_take" [.ref 1, .int n] [] (stO cs s E) = .ok (.int i) (stO cs s' E) := by
  obtain ⟨j, rfl⟩ : ∃ j, k = j + 1 := ⟨k - 1, by omega⟩
  obtain ⟨i, s', h1, h2, h3, h4, hi⟩ := take_body (T := T) (k := j) cs s E n hn hn2 (fun s h0 hu => mixed_ok cs L (by omega) s E h0 hu) h0 hu
  exact ⟨i, s', by omega, h2, h3, h4, L.take.call rfl hi (gc_eq rfl rfl)⟩
theorem len_lst (t : Sta) (ds : List D) (S : Sto) : biD t "len" [.lst ds] S = .ok (.int ds.length) S := rfl
theorem len_tup (t : Sta) (ds : List D) (S : Sto) : biD t "len" [.tup ds] S = .ok (.int ds.length) S := rfl
theorem take_q (L : LB T) {k : Nat} (hk : 2 ≤ k) {s : Sg} {E : Sto} {n : Int} {q : R D} (hq : (mk3 T.sta T.tb k).1.C "_law_take" [.ref 1, .int n] [] (stO cs s E) = q) (hn : 0 < n) (hn2 : n < 1073741824) (h0 : 0 ≤ s.u) (hu : s.u < 2 ^ 40) :
    ∃ i s', 0 ≤ i ∧ i < n ∧ s'.u ≤ s.u + 1 ∧ s.u ≤ s'.u ∧ q = .ok (.int i) (stO cs s' E) := by
  obtain ⟨i, s', h1, h2, h3, h4, h5⟩ := take_ok cs L hk s E n hn hn2 h0 hu
  exact ⟨i, s', h1, h2, h3, h4, hq.symm.trans h5⟩
theorem pick_ok (L : LB T) (P : HasDf T "_law_pick" 2 2 pickB) {k : Nat} (hk : 3 ≤ k) (s : Sg) (E : Sto) (ds : List D) (hn : 0 < ds.length) (hn2 : ds.length < 1000) (hr : ∀ d, d ∈ ds → notRef d = true) (h0 : 0 ≤ s.u) (hu : s.u < 2 ^ 40) :
    ∃ d s', d ∈ ds ∧ s'.u ≤ s.u + 1 ∧ s.u ≤ s'.u ∧ (mk3 T.sta T.tb k).1.C "_law_pick" [.ref 1, .lst ds] [] (stO cs s E) = .ok d (stO cs s' E) := by
  obtain ⟨j, rfl⟩ : ∃ j, k = j + 1 := ⟨k - 1, by omega⟩
  obtain ⟨i, s', h1, h2, h3, h4, hi⟩ := take_ok cs L (k := j) (by omega) s E ds.length (by omega) (by omega) h0 hu
  obtain ⟨d, hd, he⟩ := idx_mem (S := stO cs s' E) h1 h2
  refine ⟨d, s', hd, h3, h4, P.call (q := .ok (.ret d) (stO cs s' E)) rfl ?_ (gc_eq rfl (top_nr (hr d hd)))⟩
  show evSs pickB _ [some (.ref 1), some (.lst ds)] _ = _
  unfold pickB
  simp only [evSs, evS.eq_1, evS.eq_2, evS.eq_3, evS.eq_4, evS.eq_5, evS.eq_7, evS.eq_8, evS.eq_9, evS.eq_10, evE.eq_1, evE.eq_2, evE.eq_3, evE.eq_4, evE.eq_5, evE.eq_6, evE.eq_7, evE.eq_8, evE.eq_9, evE.eq_10, evE.eq_11, evE.eq_12, evE.eq_13, evE.eq_14, evE.eq_15, evE.eq_16, evE.eq_17, evE.eq_18, evE.eq_19, evE.eq_20, evE.eq_21, evE.eq_22, evE.eq_23, evE.eq_24, evE.eq_25, evE.eq_26, evE.eq_27, evL, evO, evC, R_ok, bS_ok, tk_cold, List.getElem?_cons_zero, List.getElem?_cons_succ, conD, List.set_cons_zero, List.set_cons_succ, Option.some.injEq, eq_int, ix_great, ix_rest, ix_turn, ix_cells, se_rest, se_turn, po_great, ne_great, ne_eq, reduceCtorEq, not_true_eq_false, not_false_eq_true, decide_true, decide_false, rc_great, le_st, it_lst, it_tup, ad_int, su_int, lt_int, gt_int, ge_int, le_int, in_int, in_bl, evI, ↓reduceIte, sz0, sz1, sz2, sz3, sz4, sz5, sz6, sz7, sz8, sz9, sz10, List.zip_nil_left, Bool.false_eq_true, Bool.not_true, Bool.not_false, len_lst, hi, he]
theorem pick_q (L : LB T) (P : HasDf T "_law_pick" 2 2 pickB) {k : Nat} (hk : 3 ≤ k) {s : Sg} {E : Sto} {ds : List D} {q : R D} (hq : (mk3 T.sta T.tb k).1.C "_law_pick" [.ref 1, .lst ds] [] (stO cs s E) = q) (hn : 0 < ds.length) (hn2 : ds.length < 1000) (hr : ∀ d, d ∈ ds → notRef d = true) (h0 : 0 ≤ s.u) (hu : s.u < 2 ^ 40) :
    ∃ d s', d ∈ ds ∧ s'.u ≤ s.u + 1 ∧ s.u ≤ s'.u ∧ q = .ok d (stO cs s' E) := by
  obtain ⟨d, s', h1, h2, h3, h4⟩ := pick_ok cs L P hk s E ds hn hn2 hr h0 hu
  exact ⟨d, s', h1, h2, h3, hq.symm.trans h4⟩
end
theorem clL_of {n : Nat} : ∀ {ds : List D}, (∀ e, e ∈ ds → e.closed n = true) → closedL n ds = true
  | [], _ => rfl
  | d :: ds, h => by
    rw [closedL, h d List.mem_cons_self, clL_of (fun e he => h e (List.mem_cons_of_mem _ he))]
    rfl
/-! a comprehension whose turns change the store -/
theorem lc_inv {t : Sta} {own : List (Str × Nat)} {tg : Tg} {it : It1} {e : Ex} {s : En} {S S1 : Sto} {q : R D} {P : Nat → Sto → Prop} {Q : D → Prop} {ds : List D} (hq : evE t (.lc false own tg it .no e) s S = q) (hh : ∀ r : R D, t.cold r = r) (hi : evI t it s S = .ok (ds, none) S1)
    (hz : ds.length ≤ sizeLine) (hP : ∀ m S, P m S → S.length = S1.length) (hC : ∀ S, P 0 S → Cl0 S) (hQ : ∀ y, Q y → y.closed S1.length = true)
    (h : ∀ d acc S m, d ∈ ds → (∀ y, y ∈ acc → Q y) → P (m + 1) S → ∃ s2, tgD tg d (wipeD s (own.map (·.2))) = some s2 ∧ ∃ y S', evE t.blk e s2 (S ++ [O.lst acc]) = .ok y (S' ++ [O.lst acc]) ∧ P m S' ∧ Q y) (p : P ds.length S1) :
    ∃ acc S', q = .ok (.lst acc) S' ∧ acc.length = ds.length ∧ (∀ y, y ∈ acc → Q y) ∧ P 0 S' := by
  have go : ∀ (es acc : List D) (S : Sto), (∀ d, d ∈ es → d ∈ ds) → acc.length + es.length ≤ sizeLine → (∀ y, y ∈ acc → Q y) → P es.length S →
      ∃ acc' S', lcGo S1.length ds none (stF tg (own.map (·.2)) (evC t.blk .no) (evE t.blk e) s) es (S ++ [O.lst acc]) = .ok () (S' ++ [O.lst acc']) ∧ acc'.length = acc.length + es.length ∧ (∀ y, y ∈ acc' → Q y) ∧ P 0 S' := by
    intro es
    induction es with
    | nil => exact fun acc S _ _ ha hp => ⟨acc, S, by rw [lcGo]; exact if_pos rfl, rfl, ha, hp⟩
    | cons d es ih =>
      intro acc S hm hz ha hp
      obtain ⟨s2, e1, y, S', e2, hp', hy⟩ := h d acc S es.length (hm d List.mem_cons_self) ha hp
      have l' := hP _ _ hp'
      have e3 : (S' ++ [O.lst acc])[S1.length]? = some (O.lst acc) := by rw [← l']; simp
      have hl : acc.length < sizeLine := by simp only [List.length_cons] at hz; omega
      have e4 : (S' ++ [O.lst acc]).set S1.length (O.lst (acc ++ [y])) = S' ++ [O.lst (acc ++ [y])] := by rw [← l']; simp
      obtain ⟨acc', S2, q1, q2, q3, q4⟩ := ih (acc ++ [y]) S' (fun d hd => hm d (List.mem_cons_of_mem _ hd)) (by simp only [List.length_cons, List.length_append, List.length_nil] at hz ⊢; omega) (fun z hz => by
        rcases List.mem_append.mp hz with h | h
        · exact ha z h
        · rw [List.mem_singleton.mp h]; exact hy) hp'
      refine ⟨acc', S2, ?_, by rw [q2]; simp only [List.length_cons, List.length_append, List.length_nil]; omega, q3, q4⟩
      have st : stF tg (own.map (·.2)) (evC t.blk .no) (evE t.blk e) s d (S ++ [O.lst acc]) = .ok (some y) (S' ++ [O.lst acc]) := by
        unfold stF
        rw [e1]
        show noX ((evC t.blk .no s2 (S ++ [O.lst acc])).bind _) = _
        rw [evC]
        show noX ((evE t.blk e s2 (S ++ [O.lst acc])).bind fun y S4 => .ok (some y) S4) = _
        rw [e2]
        rfl
      rw [lcGo]
      refine (if_pos rfl).trans ?_
      rw [st]
      show (match (S' ++ [O.lst acc])[S1.length]? with
        | some (O.lst acc') => if acc'.length < sizeLine then lcGo S1.length ds none _ es ((S' ++ [O.lst acc]).set S1.length (.lst (acc' ++ [y]))) else .bad
        | _ => .bad) = _
      rw [e3]
      refine (if_pos hl).trans ?_
      rw [e4]
      exact q1
  obtain ⟨acc, S', q1, q2, q3, q4⟩ := go ds [] S1 (fun _ h => h) (by simpa using hz) (fun y hy => absurd hy List.not_mem_nil) p
  refine ⟨acc, S', ?_, by simpa using q2, q3, q4⟩
  rw [← hq, evE, hh, hi]
  show (lcGo S1.length ds none (stF tg (own.map (·.2)) (evC t.blk .no) (evE t.blk e) s) ds (S1 ++ [O.lst []])).bind _ = _
  rw [q1]
  have l' := hP _ _ q4
  show thaw S1.length (S' ++ [O.lst acc]) = _
  rw [← l']
  exact thaw_lst (hC _ q4) (by rw [l']; exact clL_of fun y hy => hQ y (q3 y hy))
theorem for_invN {P : Nat → En → Sto → Prop} {all : List D} {b : D → En → Sto → R Fl} : ∀ {ds : List D} {s : En} {S : Sto}, (∀ d ∈ ds, ∀ m s S, P (m + 1) s S → ∃ s1 S1, b d s S = .ok (.next s1) S1 ∧ P m s1 S1) → P ds.length s S → ∃ s1 S1, forGo all none b ds s S = .ok (.next s1) S1 ∧ P 0 s1 S1
  | [], s, S, h, p => ⟨s, S, if_pos rfl, p⟩
  | d :: ds, s, S, h, p => by
    obtain ⟨s1, S1, e1, p1⟩ := h d List.mem_cons_self ds.length s S p
    obtain ⟨s2, S2, e2, p2⟩ := for_invN (ds := ds) (fun d hd => h d (List.mem_cons_of_mem _ hd)) p1
    refine ⟨s2, S2, ?_, p2⟩
    rw [forGo]
    refine (if_pos rfl).trans ?_
    rw [e1]
    exact e2
theorem loop_invN {t : Sta} {tg : Tg} {it : It1} {bd : Ss} {s : En} {S S1 : Sto} {q : R Fl} {P : Nat → En → Sto → Prop} {ds : List D} (hq : evS (.loop tg it bd) t s S = q) (hh : ∀ r : R Fl, t.cold r = r) (hi : evI t it s S = .ok (ds, none) S1)
    (h : ∀ d ∈ ds, ∀ m s S, P (m + 1) s S → ∃ s0, tgD tg d s = some s0 ∧ ∃ s1 S1, evSs bd t s0 S = .ok (.next s1) S1 ∧ P m s1 S1) (p : P ds.length s S1) : ∃ s2 S2, q = .ok (.next s2) S2 ∧ P 0 s2 S2 := by
  rw [evS, hh, hi] at hq
  obtain ⟨s2, S2, e, p2⟩ := for_invN (all := ds) (b := fun d s S => match tgD tg d s with
    | some s1 => evSs bd t s1 S
    | none => .bad) (ds := ds) (s := s) (S := S1) (P := P) (fun d hd m s S hp => by
      obtain ⟨s0, e0, s1, S1, e1, p1⟩ := h d hd m s S hp
      refine ⟨s1, S1, ?_, p1⟩
      show (match tgD tg d s with
        | some s1 => evSs bd t s1 S
        | none => .bad) = _
      rw [e0]
      exact e1) p
  exact ⟨s2, S2, hq.symm.trans e, p2⟩
theorem thaw_dct {S : Sto} {ks : List L2.Key} {ds : List D} (hS : Cl0 S) (h : closedL S.length ds = true) : thaw S.length (S ++ [O.dct ks ds]) = .ok (.dct ks ds) S := by
  unfold thaw
  have e1 : (S ++ [O.dct ks ds])[S.length]? = some (O.dct ks ds) := by simp
  rw [if_pos (by simp), e1]
  dsimp only
  rw [List.take_left, h, hS]
  rfl
theorem dctE {t : Sta} {s : En} {S : Sto} {ks : List Str} {es : Es} {ds : List D} (hS : Cl0 S) (h : evL t es s (S ++ [O.dct [] []]) = .ok ds (S ++ [O.dct [] []])) (hc : closedL S.length ds = true) : evE t (.dct false ks es) s S = .ok (.dct (ks.map Sum.inr) ds) S := by
  have e1 : (S ++ [O.dct [] []])[S.length]? = some (O.dct [] []) := by simp
  have e2 : ∀ o, (S ++ [O.dct [] []]).set S.length o = S ++ [o] := by simp
  rw [evE, h]
  show (match (S ++ [O.dct [] []])[S.length]? with
    | some (O.dct [] []) => (if false = true then R.ok (D.ref S.length) ((S ++ [O.dct [] []]).set S.length (.dct (ks.map Sum.inr) ds)) else thaw S.length ((S ++ [O.dct [] []]).set S.length (.dct (ks.map Sum.inr) ds)))
    | _ => .bad) = _
  rw [e1]
  dsimp only
  rw [if_neg Bool.false_ne_true, e2]
  exact thaw_dct hS hc
theorem szl (n : Nat) (h : n < 1000000) : n < sizeLine := by rw [sizeLine_eq]; omega
theorem flt_go {all : List D} {st : D → Sto → R (Option D)} : ∀ (zs acc : List Int), acc.length + zs.length ≤ 1000 → (∀ z S, st (.int z) S = .ok none S ∨ ∃ y, st (.int z) S = .ok (some (.int y)) S) →
    ∃ g : List Int, lcGo 0 all none st (zs.map .int) [O.lst (acc.map .int)] = .ok () [O.lst (g.map .int)]
  | [], acc, _, _ => ⟨acc, by rw [List.map_nil, lcGo]; exact if_pos rfl⟩
  | z :: zs, acc, hz, h => by
    simp only [List.length_cons] at hz
    rcases h z [O.lst (acc.map .int)] with e | ⟨y, e⟩
    · obtain ⟨g, hg⟩ := flt_go (all := all) zs acc (by omega) h
      refine ⟨g, ?_⟩
      rw [List.map_cons, lcGo]
      refine (if_pos rfl).trans ?_
      rw [e]
      exact hg
    · obtain ⟨g, hg⟩ := flt_go (all := all) zs (acc ++ [y]) (by simp only [List.length_append, List.length_cons, List.length_nil]; omega) h
      refine ⟨g, ?_⟩
      rw [List.map_cons, lcGo]
      refine (if_pos rfl).trans ?_
      rw [e]
      show (if (acc.map D.int).length < sizeLine then lcGo 0 all none st (zs.map .int) [O.lst (acc.map .int ++ [.int y])] else .bad) = _
      rw [if_pos (szl _ (by rw [List.length_map]; omega))]
      rw [List.map_append] at hg
      exact hg
theorem it_scr (ns : List Int) (S : Sto) : itD S (.scr ns) = .ok (ns.map .int, none) S := rfl
theorem li_scr (t : Sta) (ns : List Int) (S : Sto) : biD t "list" [.scr ns] S = .ok (.lst (ns.map .int)) S := rfl
theorem begun_ok (L : LB T) (k : Nat) (ns : List Int) (hl : ns.length ≤ 63) : ∃ g, (mk3 T.sta T.tb (k + 1)).1.C "_law_begun" [.scr ns] [] [] = .ok (.ref 1) (stO ns ⟨g, 0, 0⟩ []) := by
  have p18 : ∀ S : Sto, binD .Pow (.int 10) (.int 18) S = .ok (.int (10 ^ 18)) S := fun S => po_int S (by decide) (by decide) rfl
  have hlc : ∃ g : List Int, evE (mk3 T.sta T.tb k).1 (.lc true [("cell", 2)] (.nm 2) (.ex (.var 0)) (.yes (.cmp .GtE (.var 2) (.bin .Pow (.con (.int 10)) (.con (.int 18))))) (.bin .Sub (.var 2) (.bin .Pow (.con (.int 10)) (.con (.int 18))))) [some (.scr ns), none, none] [] = .ok (.ref 0) [O.lst (g.map .int)] := by
    rw [evE, tk_cold, tk_blk, show evI (mk3 T.sta T.tb k).1 (.ex (.var 0)) [some (.scr ns), none, none] [] = .ok (ns.map .int, none) [] from by simp only [evSs, evS.eq_1, evS.eq_2, evS.eq_3, evS.eq_4, evS.eq_5, evS.eq_7, evS.eq_8, evS.eq_9, evS.eq_10, evE.eq_1, evE.eq_2, evE.eq_3, evE.eq_4, evE.eq_5, evE.eq_6, evE.eq_7, evE.eq_8, evE.eq_9, evE.eq_10, evE.eq_11, evE.eq_12, evE.eq_13, evE.eq_14, evE.eq_15, evE.eq_16, evE.eq_17, evE.eq_18, evE.eq_19, evE.eq_20, evE.eq_21, evE.eq_22, evE.eq_23, evE.eq_24, evE.eq_25, evE.eq_26, evE.eq_27, evL, evO, evC, R_ok, bS_ok, tk_cold, List.getElem?_cons_zero, List.getElem?_cons_succ, conD, List.set_cons_zero, List.set_cons_succ, Option.some.injEq, eq_int, ix_great, ix_rest, ix_turn, ix_cells, se_rest, se_turn, po_great, ne_great, ne_eq, reduceCtorEq, not_true_eq_false, not_false_eq_true, decide_true, decide_false, rc_great, le_st, it_lst, it_tup, ad_int, su_int, lt_int, gt_int, ge_int, le_int, in_int, in_bl, evI, ↓reduceIte, sz0, sz1, sz2, sz3, sz4, sz5, sz6, sz7, sz8, sz9, sz10, List.zip_nil_left, Bool.false_eq_true, Bool.not_true, Bool.not_false, it_scr]]
    obtain ⟨g, hg⟩ := flt_go (all := ns.map .int) (st := fun d S2 => match tgD (.nm 2) d (wipeD [some (.scr ns), none, none] ([("cell", 2)].map (·.2))) with
      | none => .bad
      | some s2 => noX ((evC (mk3 T.sta T.tb k).1 (.yes (.cmp .GtE (.var 2) (.bin .Pow (.con (.int 10)) (.con (.int 18))))) s2 S2).bind fun b S3 => if b = true then (evE (mk3 T.sta T.tb k).1 (.bin .Sub (.var 2) (.bin .Pow (.con (.int 10)) (.con (.int 18)))) s2 S3).bind fun y S4 => .ok (some y) S4 else .ok none S3)) ns [] (by simp only [List.length_nil]; omega) (fun z S => by
        by_cases c : (10 : Int) ^ 18 ≤ z
        · refine .inr ⟨z - 10 ^ 18, ?_⟩
          simp only [evSs, evS.eq_1, evS.eq_2, evS.eq_3, evS.eq_4, evS.eq_5, evS.eq_7, evS.eq_8, evS.eq_9, evS.eq_10, evE.eq_1, evE.eq_2, evE.eq_3, evE.eq_4, evE.eq_5, evE.eq_6, evE.eq_7, evE.eq_8, evE.eq_9, evE.eq_10, evE.eq_11, evE.eq_12, evE.eq_13, evE.eq_14, evE.eq_15, evE.eq_16, evE.eq_17, evE.eq_18, evE.eq_19, evE.eq_20, evE.eq_21, evE.eq_22, evE.eq_23, evE.eq_24, evE.eq_25, evE.eq_26, evE.eq_27, evL, evO, evC, R_ok, bS_ok, tk_cold, List.getElem?_cons_zero, List.getElem?_cons_succ, conD, List.set_cons_zero, List.set_cons_succ, Option.some.injEq, eq_int, ix_great, ix_rest, ix_turn, ix_cells, se_rest, se_turn, po_great, ne_great, ne_eq, reduceCtorEq, not_true_eq_false, not_false_eq_true, decide_true, decide_false, rc_great, le_st, it_lst, it_tup, ad_int, su_int, lt_int, gt_int, ge_int, le_int, in_int, in_bl, evI, ↓reduceIte, sz0, sz1, sz2, sz3, sz4, sz5, sz6, sz7, sz8, sz9, sz10, List.zip_nil_left, Bool.false_eq_true, Bool.not_true, Bool.not_false, tgD, wipeD, List.map_cons, List.map_nil, p18, show decide ((10 : Int) ^ 18 ≤ z) = true from decide_eq_true c]
          rfl
        · refine .inl ?_
          simp only [evSs, evS.eq_1, evS.eq_2, evS.eq_3, evS.eq_4, evS.eq_5, evS.eq_7, evS.eq_8, evS.eq_9, evS.eq_10, evE.eq_1, evE.eq_2, evE.eq_3, evE.eq_4, evE.eq_5, evE.eq_6, evE.eq_7, evE.eq_8, evE.eq_9, evE.eq_10, evE.eq_11, evE.eq_12, evE.eq_13, evE.eq_14, evE.eq_15, evE.eq_16, evE.eq_17, evE.eq_18, evE.eq_19, evE.eq_20, evE.eq_21, evE.eq_22, evE.eq_23, evE.eq_24, evE.eq_25, evE.eq_26, evE.eq_27, evL, evO, evC, R_ok, bS_ok, tk_cold, List.getElem?_cons_zero, List.getElem?_cons_succ, conD, List.set_cons_zero, List.set_cons_succ, Option.some.injEq, eq_int, ix_great, ix_rest, ix_turn, ix_cells, se_rest, se_turn, po_great, ne_great, ne_eq, reduceCtorEq, not_true_eq_false, not_false_eq_true, decide_true, decide_false, rc_great, le_st, it_lst, it_tup, ad_int, su_int, lt_int, gt_int, ge_int, le_int, in_int, in_bl, evI, ↓reduceIte, sz0, sz1, sz2, sz3, sz4, sz5, sz6, sz7, sz8, sz9, sz10, List.zip_nil_left, Bool.false_eq_true, Bool.not_true, Bool.not_false, tgD, wipeD, List.map_cons, List.map_nil, p18, show decide ((10 : Int) ^ 18 ≤ z) = false from decide_eq_false c]
          rfl)
    refine ⟨g, ?_⟩
    exact (congrArg (fun r : R Unit => R.bind r fun _ S5 => if true = true then R.ok (D.ref 0) S5 else thaw 0 S5) hg)
  obtain ⟨g, hg⟩ := hlc
  refine ⟨g, L.beg.call (q := .ok (.ret (.ref 1)) (stO ns ⟨g, 0, 0⟩ [])) rfl ?_ rfl⟩
  show evSs begB _ [some (.scr ns), none, none] [] = _
  unfold begB
  refine r_seq (r_set hg) (r_nx ?_)
  refine r_seq (r_ret ?_) r_rt
  rw [evE]
  have hl : evL (mk3 T.sta T.tb k).1 (.cons (.var 1) (.cons (.bi "list" (.cons (.var 0) .nil)) (.cons (.con (.int 0)) (.cons (.con (.int 0)) .nil)))) [some (.scr ns), some (.ref 0), none] [O.lst (g.map .int), O.dct [] []] = .ok [.ref 0, .lst (ns.map .int), .int 0, .int 0] [O.lst (g.map .int), O.dct [] []] := by simp only [evSs, evS.eq_1, evS.eq_2, evS.eq_3, evS.eq_4, evS.eq_5, evS.eq_7, evS.eq_8, evS.eq_9, evS.eq_10, evE.eq_1, evE.eq_2, evE.eq_3, evE.eq_4, evE.eq_5, evE.eq_6, evE.eq_7, evE.eq_8, evE.eq_9, evE.eq_10, evE.eq_11, evE.eq_12, evE.eq_13, evE.eq_14, evE.eq_15, evE.eq_16, evE.eq_17, evE.eq_18, evE.eq_19, evE.eq_20, evE.eq_21, evE.eq_22, evE.eq_23, evE.eq_24, evE.eq_25, evE.eq_26, evE.eq_27, evL, evO, evC, R_ok, bS_ok, tk_cold, List.getElem?_cons_zero, List.getElem?_cons_succ, conD, List.set_cons_zero, List.set_cons_succ, Option.some.injEq, eq_int, ix_great, ix_rest, ix_turn, ix_cells, se_rest, se_turn, po_great, ne_great, ne_eq, reduceCtorEq, not_true_eq_false, not_false_eq_true, decide_true, decide_false, rc_great, le_st, it_lst, it_tup, ad_int, su_int, lt_int, gt_int, ge_int, le_int, in_int, in_bl, evI, ↓reduceIte, sz0, sz1, sz2, sz3, sz4, sz5, sz6, sz7, sz8, sz9, sz10, List.zip_nil_left, Bool.false_eq_true, Bool.not_true, Bool.not_false, li_scr]
  exact (congrArg (fun r => R.bind r _) hl)
end Fw

set_option Elab.async false
set_option linter.all false
set_option maxRecDepth 100000
set_option maxHeartbeats 4000000
namespace K08
open PySem Fw
def d_law_begun : Df := ⟨["script"], ["script", "wide", "cell"],
  (.cons (.set 1 (.lc true [("cell", 2)] (.nm 2) (.ex (.var 0)) (.yes (.cmp .GtE (.var 2) (.bin .Pow (.con (.int 10)) (.con (.int 18))))) (.bin .Sub (.var 2) (.bin .Pow (.con (.int 10)) (.con (.int 18))))))
  (.cons (.ret (.dct true ["great", "cells", "rest", "turn"] (.cons (.var 1) (.cons (.bi "list" (.cons (.var 0) .nil)) (.cons (.con (.int 0)) (.cons (.con (.int 0)) .nil))))))
  .nil)),
  [(1, [])], false, []⟩
def d_law_mixed : Df := ⟨["state"], ["state", "turn", "found", "prime", "blend", "cell"],
  (.cons (.set 1 (.bin .Add (.idx (.var 0) (.con (.str "turn"))) (.con (.int 1))))
  (.cons (.sub (.var 0) (.con (.str "turn")) (.var 1))
  (.cons (.set 2 (.con (.int 0)))
  (.cons (.loop (.nm 3) (.ex (.lst false (.cons (.con (.int 2147483629)) (.cons (.con (.int 2147483587)) (.cons (.con (.int 2147483579)) (.cons (.con (.int 2147483563)) (.cons (.con (.int 2147483549)) (.cons (.con (.int 2147483543)) .nil))))))))
   (.cons (.set 4 (.bin .Add (.bin .Mult (.con (.int 130363)) (.var 1)) (.bin .FloorDiv (.var 3) (.con (.int 13)))))
   (.cons (.loop (.nm 5) (.ex (.idx (.var 0) (.con (.str "cells"))))
    (.cons (.set 4 (.bin .Mod (.bi "int" (.cons (.bin .Add (.bin .Mult (.var 4) (.con (.int 48271))) (.var 5)) .nil)) (.var 3)))
    .nil))
   (.cons (.set 2 (.bin .Add (.bin .Mult (.var 2) (.con (.int 2147483647))) (.bin .Mod (.bi "int" (.cons (.bin .Pow (.var 4) (.con (.int 5))) .nil)) (.var 3))))
   .nil))))
  (.cons (.ret (.var 2))
  .nil))))),
  [(1, [])], false, []⟩
def d_law_take : Df := ⟨["state", "span"], ["state", "span", "found"],
  (.cons (.cond (.and (.cmp .Eq (.idx (.var 0) (.con (.str "rest"))) (.con (.int 0))) (.cmp .NotEq (.idx (.var 0) (.con (.str "great"))) (.lst false .nil)))
   (.cons (.sub (.var 0) (.con (.str "rest")) (.mt (.idx (.var 0) (.con (.str "great"))) "pop" (.cons (.con (.int 0)) .nil)))
   .nil)
   (.cons (.cond (.cmp .Eq (.idx (.var 0) (.con (.str "rest"))) (.con (.int 0)))
    (.cons (.sub (.var 0) (.con (.str "rest")) (.call "_law_mixed" (.cons (.var 0) .nil) [] .nil))
    .nil)
    .nil)
   .nil))
  (.cons (.set 2 (.bin .Mod (.bi "int" (.cons (.idx (.var 0) (.con (.str "rest"))) .nil)) (.var 1)))
  (.cons (.sub (.var 0) (.con (.str "rest")) (.bin .FloorDiv (.idx (.var 0) (.con (.str "rest"))) (.var 1)))
  (.cons (.ret (.var 2))
  .nil)))),
  [(2, [])], false, []⟩
def d_law_pick : Df := ⟨["state", "some"], ["state", "some"],
  (.cons (.ret (.idx (.var 1) (.call "_law_take" (.cons (.var 0) (.cons (.bi "len" (.cons (.var 1) .nil)) .nil)) [] .nil)))
  .nil),
  [(2, [])], false, []⟩
def d_law_plain_marks : Df := ⟨["error"], ["error", "found"],
  (.cons (.set 1 (.lst false (.cons (.bi "isinstance" (.cons (.var 0) (.cons (.glo "BadValue") .nil))) (.cons (.bi "isinstance" (.cons (.var 0) (.cons (.glo "BadPattern") .nil))) (.cons (.bi "isinstance" (.cons (.var 0) (.cons (.glo "BadExpectation") .nil))) .nil)))))
  (.cons (.set 1 (.bin .Add (.var 1) (.lst false (.cons (.bi "isinstance" (.cons (.var 0) (.cons (.glo "NotFree") .nil))) (.cons (.bi "isinstance" (.cons (.var 0) (.cons (.glo "NotKept") .nil))) (.cons (.bi "isinstance" (.cons (.var 0) (.cons (.glo "NoIndex") .nil))) .nil))))))
  (.cons (.set 1 (.bin .Add (.var 1) (.lst false (.cons (.bi "isinstance" (.cons (.var 0) (.cons (.glo "Conflicted") .nil))) (.cons (.bi "isinstance" (.cons (.var 0) (.cons (.glo "NoConflict") .nil))) (.cons (.bi "isinstance" (.cons (.var 0) (.cons (.glo "NotWon") .nil))) .nil))))))
  (.cons (.set 1 (.bin .Add (.var 1) (.lst false (.cons (.bi "isinstance" (.cons (.var 0) (.cons (.glo "NoState") .nil))) (.cons (.bi "isinstance" (.cons (.var 0) (.cons (.glo "Lost") .nil))) (.cons (.bi "isinstance" (.cons (.var 0) (.cons (.glo "BadHands") .nil))) .nil))))))
  (.cons (.set 1 (.bin .Add (.var 1) (.lst false (.cons (.bi "isinstance" (.cons (.var 0) (.cons (.glo "NoOrder") .nil))) (.cons (.bi "isinstance" (.cons (.var 0) (.cons (.glo "NotAllowed") .nil))) (.cons (.bi "isinstance" (.cons (.var 0) (.cons (.glo "BadCount") .nil))) .nil))))))
  (.cons (.ret (.bin .Add (.var 1) (.lst false (.cons (.bi "isinstance" (.cons (.var 0) (.cons (.glo "BadOrder") .nil))) .nil))))
  .nil)))))),
  [(1, [])], false, []⟩
def d_law_marks : Df := ⟨["error"], ["error", "found"],
  (.cons (.set 1 (.lst false (.cons (.bi "isinstance" (.cons (.var 0) (.cons (.glo "BadCall") .nil))) (.cons (.bi "isinstance" (.cons (.var 0) (.cons (.glo "BadPlan") .nil))) (.cons (.bi "isinstance" (.cons (.var 0) (.cons (.glo "NoName") .nil))) .nil)))))
  (.cons (.set 1 (.bin .Add (.var 1) (.lst false (.cons (.bi "isinstance" (.cons (.var 0) (.cons (.glo "BadRecord") .nil))) (.cons (.bi "isinstance" (.cons (.var 0) (.cons (.glo "BadMove") .nil))) (.cons (.bi "isinstance" (.cons (.var 0) (.cons (.glo "BadResult") .nil))) .nil))))))
  (.cons (.set 1 (.bin .Add (.var 1) (.lst false (.cons (.bi "isinstance" (.cons (.var 0) (.cons (.glo "BadRule") .nil))) (.cons (.bi "isinstance" (.cons (.var 0) (.cons (.glo "Faulted") .nil))) (.cons (.bi "isinstance" (.cons (.var 0) (.cons (.glo "Unexpected") .nil))) .nil))))))
  (.cons (.set 1 (.bin .Add (.var 1) (.lst false (.cons (.bi "isinstance" (.cons (.var 0) (.cons (.glo "Undecided") .nil))) (.cons (.bi "isinstance" (.cons (.var 0) (.cons (.glo "Missing") .nil))) (.cons (.bi "isinstance" (.cons (.var 0) (.cons (.glo "NoPlace") .nil))) .nil))))))
  (.cons (.ret (.bin .Add (.bin .Add (.call "_law_plain_marks" (.cons (.var 0) .nil) [] .nil) (.var 1)) (.lst false (.cons (.bi "isinstance" (.cons (.var 0) (.cons (.glo "BadName") .nil))) (.cons (.bi "isinstance" (.cons (.var 0) (.cons (.glo "BadText") .nil))) .nil)))))
  .nil))))),
  [(1, [])], false, []⟩
def d_law_plain : Df := ⟨[], ["found"],
  (.cons (.set 0 (.lst false (.cons (.err0 "BadValue" "no") (.cons (.err0 "BadPattern" "no") (.cons (.err0 "BadExpectation" "no") (.cons (.err0 "NotFree" "no") (.cons (.err0 "NotKept" "no") (.cons (.err0 "NoIndex" "no") .nil))))))))
  (.cons (.set 0 (.bin .Add (.var 0) (.lst false (.cons (.err0 "Conflicted" "no") (.cons (.err0 "NoConflict" "no") (.cons (.err0 "NotWon" "no") (.cons (.err0 "NoState" "no") (.cons (.err0 "Lost" "no") (.cons (.err0 "BadHands" "no") .nil)))))))))
  (.cons (.ret (.bin .Add (.var 0) (.lst false (.cons (.err0 "NoOrder" "no") (.cons (.err0 "NotAllowed" "no") (.cons (.err0 "BadCount" "no") (.cons (.err0 "BadOrder" "no") .nil)))))))
  .nil))),
  [(0, [])], false, []⟩
def d_law_by_name : Df := ⟨["x"], ["x", "found", "first", "second", "third"],
  (.cons (.par [2, 3, 4] (.cons (.errK "BadCall" "path" (.var 0)) (.cons (.errK "BadPlan" "index" (.var 0)) (.cons (.errK "NoName" "name" (.var 0)) .nil))))
  (.cons (.set 1 (.lst false (.cons (.tup (.cons (.var 2) (.cons (.att (.var 2) "path") .nil))) (.cons (.tup (.cons (.var 3) (.cons (.att (.var 3) "index") .nil))) (.cons (.tup (.cons (.var 4) (.cons (.att (.var 4) "name") .nil))) .nil)))))
  (.cons (.par [2, 3, 4] (.cons (.errK "BadRecord" "index" (.var 0)) (.cons (.errK "BadMove" "name" (.var 0)) (.cons (.errK "BadResult" "index" (.var 0)) .nil))))
  (.cons (.set 1 (.bin .Add (.var 1) (.lst false (.cons (.tup (.cons (.var 2) (.cons (.att (.var 2) "index") .nil))) (.cons (.tup (.cons (.var 3) (.cons (.att (.var 3) "name") .nil))) (.cons (.tup (.cons (.var 4) (.cons (.att (.var 4) "index") .nil))) .nil))))))
  (.cons (.par [2, 3, 4] (.cons (.errK "BadRule" "index" (.var 0)) (.cons (.errK "Faulted" "word" (.var 0)) (.cons (.errK "Unexpected" "what" (.var 0)) .nil))))
  (.cons (.set 1 (.bin .Add (.var 1) (.lst false (.cons (.tup (.cons (.var 2) (.cons (.att (.var 2) "index") .nil))) (.cons (.tup (.cons (.var 3) (.cons (.att (.var 3) "word") .nil))) (.cons (.tup (.cons (.var 4) (.cons (.att (.var 4) "what") .nil))) .nil))))))
  (.cons (.par [2, 3, 4] (.cons (.errK "Undecided" "could" (.var 0)) (.cons (.errK "Missing" "lacking" (.var 0)) (.cons (.errK "NoPlace" "name" (.var 0)) .nil))))
  (.cons (.set 1 (.bin .Add (.var 1) (.lst false (.cons (.tup (.cons (.var 2) (.cons (.att (.var 2) "could") .nil))) (.cons (.tup (.cons (.var 3) (.cons (.att (.var 3) "lacking") .nil))) (.cons (.tup (.cons (.var 4) (.cons (.att (.var 4) "name") .nil))) .nil))))))
  (.cons (.par [2, 3] (.cons (.errK "BadName" "name" (.var 0)) (.cons (.errK "BadText" "row" (.var 0)) .nil)))
  (.cons (.ret (.bin .Add (.var 1) (.lst false (.cons (.tup (.cons (.var 2) (.cons (.att (.var 2) "name") .nil))) (.cons (.tup (.cons (.var 3) (.cons (.att (.var 3) "row") .nil))) .nil)))))
  .nil)))))))))),
  [(1, [])], false, []⟩
def d_law_by_position : Df := ⟨["x"], ["x", "found"],
  (.cons (.set 1 (.lst false (.cons (.att (.err1 "BadCall" (.var 0)) "path") (.cons (.att (.err1 "BadPlan" (.var 0)) "index") (.cons (.att (.err1 "NoName" (.var 0)) "name") (.cons (.att (.err1 "BadRecord" (.var 0)) "index") .nil))))))
  (.cons (.set 1 (.bin .Add (.var 1) (.lst false (.cons (.att (.err1 "BadMove" (.var 0)) "name") (.cons (.att (.err1 "BadResult" (.var 0)) "index") (.cons (.att (.err1 "BadRule" (.var 0)) "index") (.cons (.att (.err1 "Faulted" (.var 0)) "word") .nil)))))))
  (.cons (.set 1 (.bin .Add (.var 1) (.lst false (.cons (.att (.err1 "Unexpected" (.var 0)) "what") (.cons (.att (.err1 "Undecided" (.var 0)) "could") (.cons (.att (.err1 "Missing" (.var 0)) "lacking") .nil))))))
  (.cons (.ret (.bin .Add (.var 1) (.lst false (.cons (.att (.err1 "NoPlace" (.var 0)) "name") (.cons (.att (.err1 "BadName" (.var 0)) "name") (.cons (.att (.err1 "BadText" (.var 0)) "row") .nil))))))
  .nil)))),
  [(1, [])], false, []⟩
def dlaw : Df := ⟨["script"], ["script", "state", "turn", "some", "x", "rows", "every", "at", "error", "entry", "part", "k"],
  (.cons (.set 1 (.call "_law_begun" (.cons (.var 0) .nil) [] .nil))
  (.cons (.loop (.nm 2) (.rng (.con (.int 2)))
   (.cons (.set 3 (.lst false (.cons (.con (.int 0)) (.cons (.con (.int 7)) (.cons (.neg (.con (.int 1))) (.cons (.bin .Pow (.con (.int 10)) (.con (.int 20))) (.cons (.con (.str "a")) (.cons (.con (.str "")) (.cons (.con .none) (.cons (.con (.bool true)) (.cons (.tup (.cons (.con (.str "it")) (.cons (.tup (.cons (.con (.int 1)) .nil)) (.cons (.tup .nil) .nil)))) (.cons (.lst false (.cons (.con (.int 1)) (.cons (.con (.int 2)) .nil))) (.cons (.dct false ["a"] (.cons (.con (.int 1)) .nil)) (.cons (.call "_law_take" (.cons (.var 1) (.cons (.con (.int 1000)) .nil)) [] .nil) .nil))))))))))))))
   (.cons (.set 4 (.call "_law_pick" (.cons (.var 1) (.cons (.var 3) .nil)) [] .nil))
   (.cons (.set 5 (.call "_law_by_name" (.cons (.var 4) .nil) [] .nil))
   (.cons (.set 6 (.bin .Add (.call "_law_plain" .nil [] .nil) (.lc false [("entry", 9)] (.nm 9) (.ex (.var 5)) .no (.idx (.var 9) (.con (.int 0))))))
   (.cons (.loop (.tp [(.nm 7), (.nm 8)]) (.enm (.var 6))
    (.cons (.cond (.or (.not (.bi "isinstance" (.cons (.var 8) (.cons (.glo "TakerError") .nil)))) (.not (.bi "isinstance" (.cons (.var 8) (.cons (.glo "ValueError") .nil)))))
     (.cons (.ret (.con (.bool false)))
     .nil)
     .nil)
    (.cons (.cond (.cmp .NotEq (.call "_law_marks" (.cons (.var 8) .nil) [] .nil) (.lc false [("k", 11)] (.nm 11) (.rng (.con (.int 30))) .no (.cmp .Eq (.var 11) (.var 7))))
     (.cons (.ret (.con (.bool false)))
     .nil)
     .nil)
    .nil)))
   (.cons (.cond (.cmp .NotEq (.lc false [("entry", 9)] (.nm 9) (.ex (.var 5)) (.yes (.cmp .NotEq (.bi "repr" (.cons (.idx (.var 9) (.con (.int 1))) .nil)) (.bi "repr" (.cons (.var 4) .nil)))) (.var 9)) (.lst false .nil))
    (.cons (.ret (.con (.bool false)))
    .nil)
    .nil)
   (.cons (.cond (.cmp .NotEq (.lc false [("part", 10)] (.nm 10) (.ex (.call "_law_by_position" (.cons (.var 4) .nil) [] .nil)) (.yes (.cmp .NotEq (.bi "repr" (.cons (.var 10) .nil)) (.bi "repr" (.cons (.var 4) .nil)))) (.var 10)) (.lst false .nil))
    (.cons (.ret (.con (.bool false)))
    .nil)
    .nil)
   .nil))))))))
  (.cons (.ret (.and (.bi "isinstance" (.cons (.err0 "TakerError" "no") (.cons (.glo "ValueError") .nil))) (.cmp .NotIn (.con (.bool true)) (.call "_law_marks" (.cons (.err0 "TakerError" "no") .nil) [] .nil))))
  .nil))),
  [(1, [])], false, []⟩
def row (i : Nat) : Stmt := PySem.Challenge.pw_calltakers_k08_errors_apart.main.body.getD i (.Pass ⟨0, 0, 0, 0⟩)
def nm : Nms := ⟨["_law_begun", "_law_mixed", "_law_take", "_law_pick", "_law_plain_marks", "_law_marks", "_law_plain", "_law_by_name", "_law_by_position", "law"], ["enumerate", "int", "isinstance", "len", "list", "range", "repr"], [], []⟩
def ckD (i : Nat) (d : Df) : Bool := ckSs nm d.N (L2.defScope (row i)) d.body d.fx (L2.defBody (row i))
theorem ck_law_begun : ckD 33 d_law_begun = true := by decide +kernel
theorem ck_law_mixed : ckD 34 d_law_mixed = true := by decide +kernel
theorem ck_law_take : ckD 35 d_law_take = true := by decide +kernel
theorem ck_law_pick : ckD 36 d_law_pick = true := by decide +kernel
theorem ck_law_plain_marks : ckD 37 d_law_plain_marks = true := by decide +kernel
theorem ck_law_marks : ckD 38 d_law_marks = true := by decide +kernel
theorem ck_law_plain : ckD 39 d_law_plain = true := by decide +kernel
theorem ck_law_by_name : ckD 40 d_law_by_name = true := by decide +kernel
theorem ck_law_by_position : ckD 41 d_law_by_position = true := by decide +kernel
theorem cklaw : ckD 42 dlaw = true := by decide +kernel
end K08

set_option Elab.async false
set_option linter.all false
set_option maxRecDepth 100000
set_option maxHeartbeats 0
namespace K08
open PySem Fw
def T : LawIn where
  l := [("_law_begun", (d_law_begun, row 33)), ("_law_mixed", (d_law_mixed, row 34)), ("_law_take", (d_law_take, row 35)), ("_law_pick", (d_law_pick, row 36)), ("_law_plain_marks", (d_law_plain_marks, row 37)), ("_law_marks", (d_law_marks, row 38)), ("_law_plain", (d_law_plain, row 39)), ("_law_by_name", (d_law_by_name, row 40)), ("_law_by_position", (d_law_by_position, row 41)), ("law", (dlaw, row 42))]
  nm := nm
  G := (List.append [("BadCall", .own), ("BadCount", .own), ("BadExpectation", .own), ("BadHands", .own), ("BadMove", .own), ("BadName", .own), ("BadOrder", .own), ("BadPattern", .own), ("BadPlan", .own), ("BadRecord", .own), ("BadResult", .own), ("BadRule", .own), ("BadText", .own), ("BadValue", .own), ("Conflicted", .own), ("Faulted", .own), ("Lost", .own), ("Missing", .own), ("NoConflict", .own), ("NoIndex", .own)] [("NoName", .own), ("NoOrder", .own), ("NoPlace", .own), ("NoState", .own), ("NotAllowed", .own), ("NotFree", .own), ("NotKept", .own), ("NotWon", .own), ("TakerError", .own), ("Undecided", .own), ("Unexpected", .own), ("ValueError", .bty "ValueError")])
  I := (List.append [(.inl "NoneType", (List.append [(.inl "ValueError", false), (.inr "BadCall", false), (.inr "BadCount", false), (.inr "BadExpectation", false), (.inr "BadHands", false), (.inr "BadMove", false), (.inr "BadName", false), (.inr "BadOrder", false), (.inr "BadPattern", false), (.inr "BadPlan", false), (.inr "BadRecord", false), (.inr "BadResult", false), (.inr "BadRule", false), (.inr "BadText", false), (.inr "BadValue", false), (.inr "Conflicted", false), (.inr "Faulted", false), (.inr "Lost", false), (.inr "Missing", false), (.inr "NoConflict", false)] [(.inr "NoIndex", false), (.inr "NoName", false), (.inr "NoOrder", false), (.inr "NoPlace", false), (.inr "NoState", false), (.inr "NotAllowed", false), (.inr "NotFree", false), (.inr "NotKept", false), (.inr "NotWon", false), (.inr "TakerError", false), (.inr "Undecided", false), (.inr "Unexpected", false)])), (.inl "bool", (List.append [(.inl "ValueError", false), (.inr "BadCall", false), (.inr "BadCount", false), (.inr "BadExpectation", false), (.inr "BadHands", false), (.inr "BadMove", false), (.inr "BadName", false), (.inr "BadOrder", false), (.inr "BadPattern", false), (.inr "BadPlan", false), (.inr "BadRecord", false), (.inr "BadResult", false), (.inr "BadRule", false), (.inr "BadText", false), (.inr "BadValue", false), (.inr "Conflicted", false), (.inr "Faulted", false), (.inr "Lost", false), (.inr "Missing", false), (.inr "NoConflict", false)] [(.inr "NoIndex", false), (.inr "NoName", false), (.inr "NoOrder", false), (.inr "NoPlace", false), (.inr "NoState", false), (.inr "NotAllowed", false), (.inr "NotFree", false), (.inr "NotKept", false), (.inr "NotWon", false), (.inr "TakerError", false), (.inr "Undecided", false), (.inr "Unexpected", false)])), (.inl "int", (List.append [(.inl "ValueError", false), (.inr "BadCall", false), (.inr "BadCount", false), (.inr "BadExpectation", false), (.inr "BadHands", false), (.inr "BadMove", false), (.inr "BadName", false), (.inr "BadOrder", false), (.inr "BadPattern", false), (.inr "BadPlan", false), (.inr "BadRecord", false), (.inr "BadResult", false), (.inr "BadRule", false), (.inr "BadText", false), (.inr "BadValue", false), (.inr "Conflicted", false), (.inr "Faulted", false), (.inr "Lost", false), (.inr "Missing", false), (.inr "NoConflict", false)] [(.inr "NoIndex", false), (.inr "NoName", false), (.inr "NoOrder", false), (.inr "NoPlace", false), (.inr "NoState", false), (.inr "NotAllowed", false), (.inr "NotFree", false), (.inr "NotKept", false), (.inr "NotWon", false), (.inr "TakerError", false), (.inr "Undecided", false), (.inr "Unexpected", false)])), (.inl "str", (List.append [(.inl "ValueError", false), (.inr "BadCall", false), (.inr "BadCount", false), (.inr "BadExpectation", false), (.inr "BadHands", false), (.inr "BadMove", false), (.inr "BadName", false), (.inr "BadOrder", false), (.inr "BadPattern", false), (.inr "BadPlan", false), (.inr "BadRecord", false), (.inr "BadResult", false), (.inr "BadRule", false), (.inr "BadText", false), (.inr "BadValue", false), (.inr "Conflicted", false), (.inr "Faulted", false), (.inr "Lost", false), (.inr "Missing", false), (.inr "NoConflict", false)] [(.inr "NoIndex", false), (.inr "NoName", false), (.inr "NoOrder", false), (.inr "NoPlace", false), (.inr "NoState", false), (.inr "NotAllowed", false), (.inr "NotFree", false), (.inr "NotKept", false), (.inr "NotWon", false), (.inr "TakerError", false), (.inr "Undecided", false), (.inr "Unexpected", false)])), (.inl "tuple", (List.append [(.inl "ValueError", false), (.inr "BadCall", false), (.inr "BadCount", false), (.inr "BadExpectation", false), (.inr "BadHands", false), (.inr "BadMove", false), (.inr "BadName", false), (.inr "BadOrder", false), (.inr "BadPattern", false), (.inr "BadPlan", false), (.inr "BadRecord", false), (.inr "BadResult", false), (.inr "BadRule", false), (.inr "BadText", false), (.inr "BadValue", false), (.inr "Conflicted", false), (.inr "Faulted", false), (.inr "Lost", false), (.inr "Missing", false), (.inr "NoConflict", false)] [(.inr "NoIndex", false), (.inr "NoName", false), (.inr "NoOrder", false), (.inr "NoPlace", false), (.inr "NoState", false), (.inr "NotAllowed", false), (.inr "NotFree", false), (.inr "NotKept", false), (.inr "NotWon", false), (.inr "TakerError", false), (.inr "Undecided", false), (.inr "Unexpected", false)])), (.inl "list", (List.append [(.inl "ValueError", false), (.inr "BadCall", false), (.inr "BadCount", false), (.inr "BadExpectation", false), (.inr "BadHands", false), (.inr "BadMove", false), (.inr "BadName", false), (.inr "BadOrder", false), (.inr "BadPattern", false), (.inr "BadPlan", false), (.inr "BadRecord", false), (.inr "BadResult", false), (.inr "BadRule", false), (.inr "BadText", false), (.inr "BadValue", false), (.inr "Conflicted", false), (.inr "Faulted", false), (.inr "Lost", false), (.inr "Missing", false), (.inr "NoConflict", false)] [(.inr "NoIndex", false), (.inr "NoName", false), (.inr "NoOrder", false), (.inr "NoPlace", false), (.inr "NoState", false), (.inr "NotAllowed", false), (.inr "NotFree", false), (.inr "NotKept", false), (.inr "NotWon", false), (.inr "TakerError", false), (.inr "Undecided", false), (.inr "Unexpected", false)])), (.inl "dict", (List.append [(.inl "ValueError", false), (.inr "BadCall", false), (.inr "BadCount", false), (.inr "BadExpectation", false), (.inr "BadHands", false), (.inr "BadMove", false), (.inr "BadName", false), (.inr "BadOrder", false), (.inr "BadPattern", false), (.inr "BadPlan", false), (.inr "BadRecord", false), (.inr "BadResult", false), (.inr "BadRule", false), (.inr "BadText", false), (.inr "BadValue", false), (.inr "Conflicted", false), (.inr "Faulted", false), (.inr "Lost", false), (.inr "Missing", false), (.inr "NoConflict", false)] [(.inr "NoIndex", false), (.inr "NoName", false), (.inr "NoOrder", false), (.inr "NoPlace", false), (.inr "NoState", false), (.inr "NotAllowed", false), (.inr "NotFree", false), (.inr "NotKept", false), (.inr "NotWon", false), (.inr "TakerError", false), (.inr "Undecided", false), (.inr "Unexpected", false)])), (.inr "TakerError", (List.append [(.inl "ValueError", true), (.inr "BadCall", false), (.inr "BadCount", false), (.inr "BadExpectation", false), (.inr "BadHands", false), (.inr "BadMove", false), (.inr "BadName", false), (.inr "BadOrder", false), (.inr "BadPattern", false), (.inr "BadPlan", false), (.inr "BadRecord", false), (.inr "BadResult", false), (.inr "BadRule", false), (.inr "BadText", false), (.inr "BadValue", false), (.inr "Conflicted", false), (.inr "Faulted", false), (.inr "Lost", false), (.inr "Missing", false), (.inr "NoConflict", false)] [(.inr "NoIndex", false), (.inr "NoName", false), (.inr "NoOrder", false), (.inr "NoPlace", false), (.inr "NoState", false), (.inr "NotAllowed", false), (.inr "NotFree", false), (.inr "NotKept", false), (.inr "NotWon", false), (.inr "TakerError", true), (.inr "Undecided", false), (.inr "Unexpected", false)])), (.inr "BadValue", (List.append [(.inl "ValueError", true), (.inr "BadCall", false), (.inr "BadCount", false), (.inr "BadExpectation", false), (.inr "BadHands", false), (.inr "BadMove", false), (.inr "BadName", false), (.inr "BadOrder", false), (.inr "BadPattern", false), (.inr "BadPlan", false), (.inr "BadRecord", false), (.inr "BadResult", false), (.inr "BadRule", false), (.inr "BadText", false), (.inr "BadValue", true), (.inr "Conflicted", false), (.inr "Faulted", false), (.inr "Lost", false), (.inr "Missing", false), (.inr "NoConflict", false)] [(.inr "NoIndex", false), (.inr "NoName", false), (.inr "NoOrder", false), (.inr "NoPlace", false), (.inr "NoState", false), (.inr "NotAllowed", false), (.inr "NotFree", false), (.inr "NotKept", false), (.inr "NotWon", false), (.inr "TakerError", true), (.inr "Undecided", false), (.inr "Unexpected", false)])), (.inr "BadPattern", (List.append [(.inl "ValueError", true), (.inr "BadCall", false), (.inr "BadCount", false), (.inr "BadExpectation", false), (.inr "BadHands", false), (.inr "BadMove", false), (.inr "BadName", false), (.inr "BadOrder", false), (.inr "BadPattern", true), (.inr "BadPlan", false), (.inr "BadRecord", false), (.inr "BadResult", false), (.inr "BadRule", false), (.inr "BadText", false), (.inr "BadValue", false), (.inr "Conflicted", false), (.inr "Faulted", false), (.inr "Lost", false), (.inr "Missing", false), (.inr "NoConflict", false)] [(.inr "NoIndex", false), (.inr "NoName", false), (.inr "NoOrder", false), (.inr "NoPlace", false), (.inr "NoState", false), (.inr "NotAllowed", false), (.inr "NotFree", false), (.inr "NotKept", false), (.inr "NotWon", false), (.inr "TakerError", true), (.inr "Undecided", false), (.inr "Unexpected", false)])), (.inr "BadExpectation", (List.append [(.inl "ValueError", true), (.inr "BadCall", false), (.inr "BadCount", false), (.inr "BadExpectation", true), (.inr "BadHands", false), (.inr "BadMove", false), (.inr "BadName", false), (.inr "BadOrder", false), (.inr "BadPattern", false), (.inr "BadPlan", false), (.inr "BadRecord", false), (.inr "BadResult", false), (.inr "BadRule", false), (.inr "BadText", false), (.inr "BadValue", false), (.inr "Conflicted", false), (.inr "Faulted", false), (.inr "Lost", false), (.inr "Missing", false), (.inr "NoConflict", false)] [(.inr "NoIndex", false), (.inr "NoName", false), (.inr "NoOrder", false), (.inr "NoPlace", false), (.inr "NoState", false), (.inr "NotAllowed", false), (.inr "NotFree", false), (.inr "NotKept", false), (.inr "NotWon", false), (.inr "TakerError", true), (.inr "Undecided", false), (.inr "Unexpected", false)])), (.inr "NotFree", (List.append [(.inl "ValueError", true), (.inr "BadCall", false), (.inr "BadCount", false), (.inr "BadExpectation", false), (.inr "BadHands", false), (.inr "BadMove", false), (.inr "BadName", false), (.inr "BadOrder", false), (.inr "BadPattern", false), (.inr "BadPlan", false), (.inr "BadRecord", false), (.inr "BadResult", false), (.inr "BadRule", false), (.inr "BadText", false), (.inr "BadValue", false), (.inr "Conflicted", false), (.inr "Faulted", false), (.inr "Lost", false), (.inr "Missing", false), (.inr "NoConflict", false)] [(.inr "NoIndex", false), (.inr "NoName", false), (.inr "NoOrder", false), (.inr "NoPlace", false), (.inr "NoState", false), (.inr "NotAllowed", false), (.inr "NotFree", true), (.inr "NotKept", false), (.inr "NotWon", false), (.inr "TakerError", true), (.inr "Undecided", false), (.inr "Unexpected", false)])), (.inr "NotKept", (List.append [(.inl "ValueError", true), (.inr "BadCall", false), (.inr "BadCount", false), (.inr "BadExpectation", false), (.inr "BadHands", false), (.inr "BadMove", false), (.inr "BadName", false), (.inr "BadOrder", false), (.inr "BadPattern", false), (.inr "BadPlan", false), (.inr "BadRecord", false), (.inr "BadResult", false), (.inr "BadRule", false), (.inr "BadText", false), (.inr "BadValue", false), (.inr "Conflicted", false), (.inr "Faulted", false), (.inr "Lost", false), (.inr "Missing", false), (.inr "NoConflict", false)] [(.inr "NoIndex", false), (.inr "NoName", false), (.inr "NoOrder", false), (.inr "NoPlace", false), (.inr "NoState", false), (.inr "NotAllowed", false), (.inr "NotFree", false), (.inr "NotKept", true), (.inr "NotWon", false), (.inr "TakerError", true), (.inr "Undecided", false), (.inr "Unexpected", false)])), (.inr "NoIndex", (List.append [(.inl "ValueError", true), (.inr "BadCall", false), (.inr "BadCount", false), (.inr "BadExpectation", false), (.inr "BadHands", false), (.inr "BadMove", false), (.inr "BadName", false), (.inr "BadOrder", false), (.inr "BadPattern", false), (.inr "BadPlan", false), (.inr "BadRecord", false), (.inr "BadResult", false), (.inr "BadRule", false), (.inr "BadText", false), (.inr "BadValue", false), (.inr "Conflicted", false), (.inr "Faulted", false), (.inr "Lost", false), (.inr "Missing", false), (.inr "NoConflict", false)] [(.inr "NoIndex", true), (.inr "NoName", false), (.inr "NoOrder", false), (.inr "NoPlace", false), (.inr "NoState", false), (.inr "NotAllowed", false), (.inr "NotFree", false), (.inr "NotKept", false), (.inr "NotWon", false), (.inr "TakerError", true), (.inr "Undecided", false), (.inr "Unexpected", false)])), (.inr "Conflicted", (List.append [(.inl "ValueError", true), (.inr "BadCall", false), (.inr "BadCount", false), (.inr "BadExpectation", false), (.inr "BadHands", false), (.inr "BadMove", false), (.inr "BadName", false), (.inr "BadOrder", false), (.inr "BadPattern", false), (.inr "BadPlan", false), (.inr "BadRecord", false), (.inr "BadResult", false), (.inr "BadRule", false), (.inr "BadText", false), (.inr "BadValue", false), (.inr "Conflicted", true), (.inr "Faulted", false), (.inr "Lost", false), (.inr "Missing", false), (.inr "NoConflict", false)] [(.inr "NoIndex", false), (.inr "NoName", false), (.inr "NoOrder", false), (.inr "NoPlace", false), (.inr "NoState", false), (.inr "NotAllowed", false), (.inr "NotFree", false), (.inr "NotKept", false), (.inr "NotWon", false), (.inr "TakerError", true), (.inr "Undecided", false), (.inr "Unexpected", false)])), (.inr "NoConflict", (List.append [(.inl "ValueError", true), (.inr "BadCall", false), (.inr "BadCount", false), (.inr "BadExpectation", false), (.inr "BadHands", false), (.inr "BadMove", false), (.inr "BadName", false), (.inr "BadOrder", false), (.inr "BadPattern", false), (.inr "BadPlan", false), (.inr "BadRecord", false), (.inr "BadResult", false), (.inr "BadRule", false), (.inr "BadText", false), (.inr "BadValue", false), (.inr "Conflicted", false), (.inr "Faulted", false), (.inr "Lost", false), (.inr "Missing", false), (.inr "NoConflict", true)] [(.inr "NoIndex", false), (.inr "NoName", false), (.inr "NoOrder", false), (.inr "NoPlace", false), (.inr "NoState", false), (.inr "NotAllowed", false), (.inr "NotFree", false), (.inr "NotKept", false), (.inr "NotWon", false), (.inr "TakerError", true), (.inr "Undecided", false), (.inr "Unexpected", false)])), (.inr "NotWon", (List.append [(.inl "ValueError", true), (.inr "BadCall", false), (.inr "BadCount", false), (.inr "BadExpectation", false), (.inr "BadHands", false), (.inr "BadMove", false), (.inr "BadName", false), (.inr "BadOrder", false), (.inr "BadPattern", false), (.inr "BadPlan", false), (.inr "BadRecord", false), (.inr "BadResult", false), (.inr "BadRule", false), (.inr "BadText", false), (.inr "BadValue", false), (.inr "Conflicted", false), (.inr "Faulted", false), (.inr "Lost", false), (.inr "Missing", false), (.inr "NoConflict", false)] [(.inr "NoIndex", false), (.inr "NoName", false), (.inr "NoOrder", false), (.inr "NoPlace", false), (.inr "NoState", false), (.inr "NotAllowed", false), (.inr "NotFree", false), (.inr "NotKept", false), (.inr "NotWon", true), (.inr "TakerError", true), (.inr "Undecided", false), (.inr "Unexpected", false)])), (.inr "NoState", (List.append [(.inl "ValueError", true), (.inr "BadCall", false), (.inr "BadCount", false), (.inr "BadExpectation", false), (.inr "BadHands", false), (.inr "BadMove", false), (.inr "BadName", false), (.inr "BadOrder", false), (.inr "BadPattern", false), (.inr "BadPlan", false), (.inr "BadRecord", false), (.inr "BadResult", false), (.inr "BadRule", false), (.inr "BadText", false), (.inr "BadValue", false), (.inr "Conflicted", false), (.inr "Faulted", false), (.inr "Lost", false), (.inr "Missing", false), (.inr "NoConflict", false)] [(.inr "NoIndex", false), (.inr "NoName", false), (.inr "NoOrder", false), (.inr "NoPlace", false), (.inr "NoState", true), (.inr "NotAllowed", false), (.inr "NotFree", false), (.inr "NotKept", false), (.inr "NotWon", false), (.inr "TakerError", true), (.inr "Undecided", false), (.inr "Unexpected", false)])), (.inr "Lost", (List.append [(.inl "ValueError", true), (.inr "BadCall", false), (.inr "BadCount", false), (.inr "BadExpectation", false), (.inr "BadHands", false), (.inr "BadMove", false), (.inr "BadName", false), (.inr "BadOrder", false), (.inr "BadPattern", false), (.inr "BadPlan", false), (.inr "BadRecord", false), (.inr "BadResult", false), (.inr "BadRule", false), (.inr "BadText", false), (.inr "BadValue", false), (.inr "Conflicted", false), (.inr "Faulted", false), (.inr "Lost", true), (.inr "Missing", false), (.inr "NoConflict", false)] [(.inr "NoIndex", false), (.inr "NoName", false), (.inr "NoOrder", false), (.inr "NoPlace", false), (.inr "NoState", false), (.inr "NotAllowed", false), (.inr "NotFree", false), (.inr "NotKept", false), (.inr "NotWon", false), (.inr "TakerError", true), (.inr "Undecided", false), (.inr "Unexpected", false)])), (.inr "BadHands", (List.append [(.inl "ValueError", true), (.inr "BadCall", false), (.inr "BadCount", false), (.inr "BadExpectation", false), (.inr "BadHands", true), (.inr "BadMove", false), (.inr "BadName", false), (.inr "BadOrder", false), (.inr "BadPattern", false), (.inr "BadPlan", false), (.inr "BadRecord", false), (.inr "BadResult", false), (.inr "BadRule", false), (.inr "BadText", false), (.inr "BadValue", false), (.inr "Conflicted", false), (.inr "Faulted", false), (.inr "Lost", false), (.inr "Missing", false), (.inr "NoConflict", false)] [(.inr "NoIndex", false), (.inr "NoName", false), (.inr "NoOrder", false), (.inr "NoPlace", false), (.inr "NoState", false), (.inr "NotAllowed", false), (.inr "NotFree", false), (.inr "NotKept", false), (.inr "NotWon", false), (.inr "TakerError", true), (.inr "Undecided", false), (.inr "Unexpected", false)]))] [(.inr "NoOrder", (List.append [(.inl "ValueError", true), (.inr "BadCall", false), (.inr "BadCount", false), (.inr "BadExpectation", false), (.inr "BadHands", false), (.inr "BadMove", false), (.inr "BadName", false), (.inr "BadOrder", false), (.inr "BadPattern", false), (.inr "BadPlan", false), (.inr "BadRecord", false), (.inr "BadResult", false), (.inr "BadRule", false), (.inr "BadText", false), (.inr "BadValue", false), (.inr "Conflicted", false), (.inr "Faulted", false), (.inr "Lost", false), (.inr "Missing", false), (.inr "NoConflict", false)] [(.inr "NoIndex", false), (.inr "NoName", false), (.inr "NoOrder", true), (.inr "NoPlace", false), (.inr "NoState", false), (.inr "NotAllowed", false), (.inr "NotFree", false), (.inr "NotKept", false), (.inr "NotWon", false), (.inr "TakerError", true), (.inr "Undecided", false), (.inr "Unexpected", false)])), (.inr "NotAllowed", (List.append [(.inl "ValueError", true), (.inr "BadCall", false), (.inr "BadCount", false), (.inr "BadExpectation", false), (.inr "BadHands", false), (.inr "BadMove", false), (.inr "BadName", false), (.inr "BadOrder", false), (.inr "BadPattern", false), (.inr "BadPlan", false), (.inr "BadRecord", false), (.inr "BadResult", false), (.inr "BadRule", false), (.inr "BadText", false), (.inr "BadValue", false), (.inr "Conflicted", false), (.inr "Faulted", false), (.inr "Lost", false), (.inr "Missing", false), (.inr "NoConflict", false)] [(.inr "NoIndex", false), (.inr "NoName", false), (.inr "NoOrder", false), (.inr "NoPlace", false), (.inr "NoState", false), (.inr "NotAllowed", true), (.inr "NotFree", false), (.inr "NotKept", false), (.inr "NotWon", false), (.inr "TakerError", true), (.inr "Undecided", false), (.inr "Unexpected", false)])), (.inr "BadCount", (List.append [(.inl "ValueError", true), (.inr "BadCall", false), (.inr "BadCount", true), (.inr "BadExpectation", false), (.inr "BadHands", false), (.inr "BadMove", false), (.inr "BadName", false), (.inr "BadOrder", false), (.inr "BadPattern", false), (.inr "BadPlan", false), (.inr "BadRecord", false), (.inr "BadResult", false), (.inr "BadRule", false), (.inr "BadText", false), (.inr "BadValue", false), (.inr "Conflicted", false), (.inr "Faulted", false), (.inr "Lost", false), (.inr "Missing", false), (.inr "NoConflict", false)] [(.inr "NoIndex", false), (.inr "NoName", false), (.inr "NoOrder", false), (.inr "NoPlace", false), (.inr "NoState", false), (.inr "NotAllowed", false), (.inr "NotFree", false), (.inr "NotKept", false), (.inr "NotWon", false), (.inr "TakerError", true), (.inr "Undecided", false), (.inr "Unexpected", false)])), (.inr "BadOrder", (List.append [(.inl "ValueError", true), (.inr "BadCall", false), (.inr "BadCount", false), (.inr "BadExpectation", false), (.inr "BadHands", false), (.inr "BadMove", false), (.inr "BadName", false), (.inr "BadOrder", true), (.inr "BadPattern", false), (.inr "BadPlan", false), (.inr "BadRecord", false), (.inr "BadResult", false), (.inr "BadRule", false), (.inr "BadText", false), (.inr "BadValue", false), (.inr "Conflicted", false), (.inr "Faulted", false), (.inr "Lost", false), (.inr "Missing", false), (.inr "NoConflict", false)] [(.inr "NoIndex", false), (.inr "NoName", false), (.inr "NoOrder", false), (.inr "NoPlace", false), (.inr "NoState", false), (.inr "NotAllowed", false), (.inr "NotFree", false), (.inr "NotKept", false), (.inr "NotWon", false), (.inr "TakerError", true), (.inr "Undecided", false), (.inr "Unexpected", false)])), (.inr "BadCall", (List.append [(.inl "ValueError", true), (.inr "BadCall", true), (.inr "BadCount", false), (.inr "BadExpectation", false), (.inr "BadHands", false), (.inr "BadMove", false), (.inr "BadName", false), (.inr "BadOrder", false), (.inr "BadPattern", false), (.inr "BadPlan", false), (.inr "BadRecord", false), (.inr "BadResult", false), (.inr "BadRule", false), (.inr "BadText", false), (.inr "BadValue", false), (.inr "Conflicted", false), (.inr "Faulted", false), (.inr "Lost", false), (.inr "Missing", false), (.inr "NoConflict", false)] [(.inr "NoIndex", false), (.inr "NoName", false), (.inr "NoOrder", false), (.inr "NoPlace", false), (.inr "NoState", false), (.inr "NotAllowed", false), (.inr "NotFree", false), (.inr "NotKept", false), (.inr "NotWon", false), (.inr "TakerError", true), (.inr "Undecided", false), (.inr "Unexpected", false)])), (.inr "BadPlan", (List.append [(.inl "ValueError", true), (.inr "BadCall", false), (.inr "BadCount", false), (.inr "BadExpectation", false), (.inr "BadHands", false), (.inr "BadMove", false), (.inr "BadName", false), (.inr "BadOrder", false), (.inr "BadPattern", false), (.inr "BadPlan", true), (.inr "BadRecord", false), (.inr "BadResult", false), (.inr "BadRule", false), (.inr "BadText", false), (.inr "BadValue", false), (.inr "Conflicted", false), (.inr "Faulted", false), (.inr "Lost", false), (.inr "Missing", false), (.inr "NoConflict", false)] [(.inr "NoIndex", false), (.inr "NoName", false), (.inr "NoOrder", false), (.inr "NoPlace", false), (.inr "NoState", false), (.inr "NotAllowed", false), (.inr "NotFree", false), (.inr "NotKept", false), (.inr "NotWon", false), (.inr "TakerError", true), (.inr "Undecided", false), (.inr "Unexpected", false)])), (.inr "NoName", (List.append [(.inl "ValueError", true), (.inr "BadCall", false), (.inr "BadCount", false), (.inr "BadExpectation", false), (.inr "BadHands", false), (.inr "BadMove", false), (.inr "BadName", false), (.inr "BadOrder", false), (.inr "BadPattern", false), (.inr "BadPlan", false), (.inr "BadRecord", false), (.inr "BadResult", false), (.inr "BadRule", false), (.inr "BadText", false), (.inr "BadValue", false), (.inr "Conflicted", false), (.inr "Faulted", false), (.inr "Lost", false), (.inr "Missing", false), (.inr "NoConflict", false)] [(.inr "NoIndex", false), (.inr "NoName", true), (.inr "NoOrder", false), (.inr "NoPlace", false), (.inr "NoState", false), (.inr "NotAllowed", false), (.inr "NotFree", false), (.inr "NotKept", false), (.inr "NotWon", false), (.inr "TakerError", true), (.inr "Undecided", false), (.inr "Unexpected", false)])), (.inr "BadRecord", (List.append [(.inl "ValueError", true), (.inr "BadCall", false), (.inr "BadCount", false), (.inr "BadExpectation", false), (.inr "BadHands", false), (.inr "BadMove", false), (.inr "BadName", false), (.inr "BadOrder", false), (.inr "BadPattern", false), (.inr "BadPlan", false), (.inr "BadRecord", true), (.inr "BadResult", false), (.inr "BadRule", false), (.inr "BadText", false), (.inr "BadValue", false), (.inr "Conflicted", false), (.inr "Faulted", false), (.inr "Lost", false), (.inr "Missing", false), (.inr "NoConflict", false)] [(.inr "NoIndex", false), (.inr "NoName", false), (.inr "NoOrder", false), (.inr "NoPlace", false), (.inr "NoState", false), (.inr "NotAllowed", false), (.inr "NotFree", false), (.inr "NotKept", false), (.inr "NotWon", false), (.inr "TakerError", true), (.inr "Undecided", false), (.inr "Unexpected", false)])), (.inr "BadMove", (List.append [(.inl "ValueError", true), (.inr "BadCall", false), (.inr "BadCount", false), (.inr "BadExpectation", false), (.inr "BadHands", false), (.inr "BadMove", true), (.inr "BadName", false), (.inr "BadOrder", false), (.inr "BadPattern", false), (.inr "BadPlan", false), (.inr "BadRecord", false), (.inr "BadResult", false), (.inr "BadRule", false), (.inr "BadText", false), (.inr "BadValue", false), (.inr "Conflicted", false), (.inr "Faulted", false), (.inr "Lost", false), (.inr "Missing", false), (.inr "NoConflict", false)] [(.inr "NoIndex", false), (.inr "NoName", false), (.inr "NoOrder", false), (.inr "NoPlace", false), (.inr "NoState", false), (.inr "NotAllowed", false), (.inr "NotFree", false), (.inr "NotKept", false), (.inr "NotWon", false), (.inr "TakerError", true), (.inr "Undecided", false), (.inr "Unexpected", false)])), (.inr "BadResult", (List.append [(.inl "ValueError", true), (.inr "BadCall", false), (.inr "BadCount", false), (.inr "BadExpectation", false), (.inr "BadHands", false), (.inr "BadMove", false), (.inr "BadName", false), (.inr "BadOrder", false), (.inr "BadPattern", false), (.inr "BadPlan", false), (.inr "BadRecord", false), (.inr "BadResult", true), (.inr "BadRule", false), (.inr "BadText", false), (.inr "BadValue", false), (.inr "Conflicted", false), (.inr "Faulted", false), (.inr "Lost", false), (.inr "Missing", false), (.inr "NoConflict", false)] [(.inr "NoIndex", false), (.inr "NoName", false), (.inr "NoOrder", false), (.inr "NoPlace", false), (.inr "NoState", false), (.inr "NotAllowed", false), (.inr "NotFree", false), (.inr "NotKept", false), (.inr "NotWon", false), (.inr "TakerError", true), (.inr "Undecided", false), (.inr "Unexpected", false)])), (.inr "BadRule", (List.append [(.inl "ValueError", true), (.inr "BadCall", false), (.inr "BadCount", false), (.inr "BadExpectation", false), (.inr "BadHands", false), (.inr "BadMove", false), (.inr "BadName", false), (.inr "BadOrder", false), (.inr "BadPattern", false), (.inr "BadPlan", false), (.inr "BadRecord", false), (.inr "BadResult", false), (.inr "BadRule", true), (.inr "BadText", false), (.inr "BadValue", false), (.inr "Conflicted", false), (.inr "Faulted", false), (.inr "Lost", false), (.inr "Missing", false), (.inr "NoConflict", false)] [(.inr "NoIndex", false), (.inr "NoName", false), (.inr "NoOrder", false), (.inr "NoPlace", false), (.inr "NoState", false), (.inr "NotAllowed", false), (.inr "NotFree", false), (.inr "NotKept", false), (.inr "NotWon", false), (.inr "TakerError", true), (.inr "Undecided", false), (.inr "Unexpected", false)])), (.inr "Faulted", (List.append [(.inl "ValueError", true), (.inr "BadCall", false), (.inr "BadCount", false), (.inr "BadExpectation", false), (.inr "BadHands", false), (.inr "BadMove", false), (.inr "BadName", false), (.inr "BadOrder", false), (.inr "BadPattern", false), (.inr "BadPlan", false), (.inr "BadRecord", false), (.inr "BadResult", false), (.inr "BadRule", false), (.inr "BadText", false), (.inr "BadValue", false), (.inr "Conflicted", false), (.inr "Faulted", true), (.inr "Lost", false), (.inr "Missing", false), (.inr "NoConflict", false)] [(.inr "NoIndex", false), (.inr "NoName", false), (.inr "NoOrder", false), (.inr "NoPlace", false), (.inr "NoState", false), (.inr "NotAllowed", false), (.inr "NotFree", false), (.inr "NotKept", false), (.inr "NotWon", false), (.inr "TakerError", true), (.inr "Undecided", false), (.inr "Unexpected", false)])), (.inr "Unexpected", (List.append [(.inl "ValueError", true), (.inr "BadCall", false), (.inr "BadCount", false), (.inr "BadExpectation", false), (.inr "BadHands", false), (.inr "BadMove", false), (.inr "BadName", false), (.inr "BadOrder", false), (.inr "BadPattern", false), (.inr "BadPlan", false), (.inr "BadRecord", false), (.inr "BadResult", false), (.inr "BadRule", false), (.inr "BadText", false), (.inr "BadValue", false), (.inr "Conflicted", false), (.inr "Faulted", false), (.inr "Lost", false), (.inr "Missing", false), (.inr "NoConflict", false)] [(.inr "NoIndex", false), (.inr "NoName", false), (.inr "NoOrder", false), (.inr "NoPlace", false), (.inr "NoState", false), (.inr "NotAllowed", false), (.inr "NotFree", false), (.inr "NotKept", false), (.inr "NotWon", false), (.inr "TakerError", true), (.inr "Undecided", false), (.inr "Unexpected", true)])), (.inr "Undecided", (List.append [(.inl "ValueError", true), (.inr "BadCall", false), (.inr "BadCount", false), (.inr "BadExpectation", false), (.inr "BadHands", false), (.inr "BadMove", false), (.inr "BadName", false), (.inr "BadOrder", false), (.inr "BadPattern", false), (.inr "BadPlan", false), (.inr "BadRecord", false), (.inr "BadResult", false), (.inr "BadRule", false), (.inr "BadText", false), (.inr "BadValue", false), (.inr "Conflicted", false), (.inr "Faulted", false), (.inr "Lost", false), (.inr "Missing", false), (.inr "NoConflict", false)] [(.inr "NoIndex", false), (.inr "NoName", false), (.inr "NoOrder", false), (.inr "NoPlace", false), (.inr "NoState", false), (.inr "NotAllowed", false), (.inr "NotFree", false), (.inr "NotKept", false), (.inr "NotWon", false), (.inr "TakerError", true), (.inr "Undecided", true), (.inr "Unexpected", false)])), (.inr "Missing", (List.append [(.inl "ValueError", true), (.inr "BadCall", false), (.inr "BadCount", false), (.inr "BadExpectation", false), (.inr "BadHands", false), (.inr "BadMove", false), (.inr "BadName", false), (.inr "BadOrder", false), (.inr "BadPattern", false), (.inr "BadPlan", false), (.inr "BadRecord", false), (.inr "BadResult", false), (.inr "BadRule", false), (.inr "BadText", false), (.inr "BadValue", false), (.inr "Conflicted", false), (.inr "Faulted", false), (.inr "Lost", false), (.inr "Missing", true), (.inr "NoConflict", false)] [(.inr "NoIndex", false), (.inr "NoName", false), (.inr "NoOrder", false), (.inr "NoPlace", false), (.inr "NoState", false), (.inr "NotAllowed", false), (.inr "NotFree", false), (.inr "NotKept", false), (.inr "NotWon", false), (.inr "TakerError", true), (.inr "Undecided", false), (.inr "Unexpected", false)])), (.inr "NoPlace", (List.append [(.inl "ValueError", true), (.inr "BadCall", false), (.inr "BadCount", false), (.inr "BadExpectation", false), (.inr "BadHands", false), (.inr "BadMove", false), (.inr "BadName", false), (.inr "BadOrder", false), (.inr "BadPattern", false), (.inr "BadPlan", false), (.inr "BadRecord", false), (.inr "BadResult", false), (.inr "BadRule", false), (.inr "BadText", false), (.inr "BadValue", false), (.inr "Conflicted", false), (.inr "Faulted", false), (.inr "Lost", false), (.inr "Missing", false), (.inr "NoConflict", false)] [(.inr "NoIndex", false), (.inr "NoName", false), (.inr "NoOrder", false), (.inr "NoPlace", true), (.inr "NoState", false), (.inr "NotAllowed", false), (.inr "NotFree", false), (.inr "NotKept", false), (.inr "NotWon", false), (.inr "TakerError", true), (.inr "Undecided", false), (.inr "Unexpected", false)])), (.inr "BadName", (List.append [(.inl "ValueError", true), (.inr "BadCall", false), (.inr "BadCount", false), (.inr "BadExpectation", false), (.inr "BadHands", false), (.inr "BadMove", false), (.inr "BadName", true), (.inr "BadOrder", false), (.inr "BadPattern", false), (.inr "BadPlan", false), (.inr "BadRecord", false), (.inr "BadResult", false), (.inr "BadRule", false), (.inr "BadText", false), (.inr "BadValue", false), (.inr "Conflicted", false), (.inr "Faulted", false), (.inr "Lost", false), (.inr "Missing", false), (.inr "NoConflict", false)] [(.inr "NoIndex", false), (.inr "NoName", false), (.inr "NoOrder", false), (.inr "NoPlace", false), (.inr "NoState", false), (.inr "NotAllowed", false), (.inr "NotFree", false), (.inr "NotKept", false), (.inr "NotWon", false), (.inr "TakerError", true), (.inr "Undecided", false), (.inr "Unexpected", false)])), (.inr "BadText", (List.append [(.inl "ValueError", true), (.inr "BadCall", false), (.inr "BadCount", false), (.inr "BadExpectation", false), (.inr "BadHands", false), (.inr "BadMove", false), (.inr "BadName", false), (.inr "BadOrder", false), (.inr "BadPattern", false), (.inr "BadPlan", false), (.inr "BadRecord", false), (.inr "BadResult", false), (.inr "BadRule", false), (.inr "BadText", true), (.inr "BadValue", false), (.inr "Conflicted", false), (.inr "Faulted", false), (.inr "Lost", false), (.inr "Missing", false), (.inr "NoConflict", false)] [(.inr "NoIndex", false), (.inr "NoName", false), (.inr "NoOrder", false), (.inr "NoPlace", false), (.inr "NoState", false), (.inr "NotAllowed", false), (.inr "NotFree", false), (.inr "NotKept", false), (.inr "NotWon", false), (.inr "TakerError", true), (.inr "Undecided", false), (.inr "Unexpected", false)]))])
  OC := (List.append ["BadCall", "BadCount", "BadExpectation", "BadHands", "BadMove", "BadName", "BadOrder", "BadPattern", "BadPlan", "BadRecord", "BadResult", "BadRule", "BadText", "BadValue", "Conflicted", "Faulted", "Lost", "Missing", "NoConflict", "NoIndex"] ["NoName", "NoOrder", "NoPlace", "NoState", "NotAllowed", "NotFree", "NotKept", "NotWon", "TakerError", "Undecided", "Unexpected"])
  EI := []
  RX := ["TakerError", "BadValue", "BadPattern", "BadExpectation", "NotFree", "NotKept", "NoIndex", "Conflicted", "NoConflict", "NotWon", "NoState", "Lost", "BadHands", "NoOrder", "NotAllowed", "BadCount", "BadOrder"]
  EC := (List.append ["TakerError", "BadValue", "BadPattern", "BadExpectation", "NotFree", "NotKept", "NoIndex", "Conflicted", "NoConflict", "NotWon", "NoState", "Lost", "BadHands", "NoOrder", "NotAllowed", "BadCount", "BadOrder", "BadCall", "BadPlan", "NoName"] ["BadRecord", "BadMove", "BadResult", "BadRule", "Faulted", "Unexpected", "Undecided", "Missing", "NoPlace", "BadName", "BadText"])
  XF := [("BadCall", "path"), ("BadPlan", "index"), ("NoName", "name"), ("BadRecord", "index"), ("BadMove", "name"), ("BadResult", "index"), ("BadRule", "index"), ("Faulted", "word"), ("Unexpected", "what"), ("Undecided", "could"), ("Missing", "lacking"), ("NoPlace", "name"), ("BadName", "name"), ("BadText", "row")]
  SI := [("BadCall", ("path", ("not a call, or a path that is none: ", row 18))), ("BadPlan", ("index", ("an expectation does not fit into the plan: ", row 19))), ("NoName", ("name", ("no expectation has this name: ", row 20))), ("BadRecord", ("index", ("an item of a record is not a call: ", row 21))), ("BadMove", ("name", ("the call cannot be given to this expectation: ", row 22))), ("BadResult", ("index", ("a result is not one: ", row 23))), ("BadRule", ("index", ("a rule is not one: ", row 24))), ("Faulted", ("word", ("a rule raised a fault: ", row 25))), ("Unexpected", ("what", ("no expectation can take the call: ", row 26))), ("Undecided", ("could", ("several answers are left for the call: ", row 27))), ("Missing", ("lacking", ("calls are missing: ", row 28))), ("NoPlace", ("name", ("nothing is at this place: ", row 29))), ("BadName", ("name", ("not a name: ", row 30))), ("BadText", ("row", ("not a text of the kind that is required: ", row 31)))]
  file := "/claim/cut.py"
theorem still : T.still = true := by decide +kernel
abbrev Rw : PySem.W.OpenRow := PySem.W.OpenLaw.row PySem.Challenge.rw_calltakers_k08_errors_apart
abbrev hk : PySem.W.Hook := T.hookY 6
def ob (s : PySem.W.SharedT) : He.AlX × List FnV := T.obsY 6 (HandSHeadRun.getT s)
theorem ob_eq (s : PySem.W.SharedT) : ob s = hk.obs s.abs := T.obsY_eq (HandSHeadRun.getT_eq s)
theorem run (w : World) : HandSHeadRun.RunEq Rw (PySem.W.view Rw.prog [42]) hk ob 20000 (List.append ["__name__", "TakerError", "BadValue", "BadPattern", "BadExpectation", "NotFree", "NotKept", "NoIndex", "Conflicted", "NoConflict", "NotWon", "NoState", "Lost", "BadHands", "NoOrder", "NotAllowed", "BadCount", "BadOrder", "BadCall", "BadPlan"] ["NoName", "BadRecord", "BadMove", "BadResult", "BadRule", "Faulted", "Unexpected", "Undecided", "Missing", "NoPlace", "BadName", "BadText", "_law_begun", "_law_mixed", "_law_take", "_law_pick", "_law_plain_marks", "_law_marks", "_law_plain", "_law_by_name", "_law_by_position"]) w := by
  intro os
  kernel_rfl
end K08

set_option Elab.async false
set_option linter.all false
set_option maxRecDepth 100000
set_option maxHeartbeats 0
namespace K08
open PySem Fw
theorem b__law_begun_0 (kV doc pm cdv ct : Value) (an : Option Addr) (us ws us' : List Value) (h1 : us.length = 1) (h2 : ws.length = ([] : List Str).length) (h3 : bindG d_law_begun.ps us (([] : List Str).zip ws) = some us') :
    bindArgs (PySem.W.fnOf "_law_begun" "_law_begun" (L2.defArgs (row 33)) (L2.defBody (row 33)) (L2.defScope (row 33)) .none kV doc pm an cdv ct) ⟨us, ([] : List Str).zip ws⟩ = pure (d_law_begun.ps.zip us') := by
  match us, ws, h1, h2 with
  | [u0], [], _, _ =>
    have e := Option.some.inj (show some [u0] = some us' from h3)
    subst e
    rfl
theorem b__law_begun : LawIn.BindOk ("_law_begun", (d_law_begun, row 33)) := by
  intro kV doc pm cdv ct an n ks hn us ws us' h1 h2 h3
  have hn : (n, ks) ∈ d_law_begun.shapes := hn
  simp only [d_law_begun, List.mem_cons, List.not_mem_nil, or_false] at hn
  cases hn
  exact b__law_begun_0 kV doc pm cdv ct an us ws us' h1 h2 h3
theorem b__law_mixed_0 (kV doc pm cdv ct : Value) (an : Option Addr) (us ws us' : List Value) (h1 : us.length = 1) (h2 : ws.length = ([] : List Str).length) (h3 : bindG d_law_mixed.ps us (([] : List Str).zip ws) = some us') :
    bindArgs (PySem.W.fnOf "_law_mixed" "_law_mixed" (L2.defArgs (row 34)) (L2.defBody (row 34)) (L2.defScope (row 34)) .none kV doc pm an cdv ct) ⟨us, ([] : List Str).zip ws⟩ = pure (d_law_mixed.ps.zip us') := by
  match us, ws, h1, h2 with
  | [u0], [], _, _ =>
    have e := Option.some.inj (show some [u0] = some us' from h3)
    subst e
    rfl
theorem b__law_mixed : LawIn.BindOk ("_law_mixed", (d_law_mixed, row 34)) := by
  intro kV doc pm cdv ct an n ks hn us ws us' h1 h2 h3
  have hn : (n, ks) ∈ d_law_mixed.shapes := hn
  simp only [d_law_mixed, List.mem_cons, List.not_mem_nil, or_false] at hn
  cases hn
  exact b__law_mixed_0 kV doc pm cdv ct an us ws us' h1 h2 h3
theorem b__law_take_0 (kV doc pm cdv ct : Value) (an : Option Addr) (us ws us' : List Value) (h1 : us.length = 2) (h2 : ws.length = ([] : List Str).length) (h3 : bindG d_law_take.ps us (([] : List Str).zip ws) = some us') :
    bindArgs (PySem.W.fnOf "_law_take" "_law_take" (L2.defArgs (row 35)) (L2.defBody (row 35)) (L2.defScope (row 35)) .none kV doc pm an cdv ct) ⟨us, ([] : List Str).zip ws⟩ = pure (d_law_take.ps.zip us') := by
  match us, ws, h1, h2 with
  | [u0, u1], [], _, _ =>
    have e := Option.some.inj (show some [u0, u1] = some us' from h3)
    subst e
    rfl
theorem b__law_take : LawIn.BindOk ("_law_take", (d_law_take, row 35)) := by
  intro kV doc pm cdv ct an n ks hn us ws us' h1 h2 h3
  have hn : (n, ks) ∈ d_law_take.shapes := hn
  simp only [d_law_take, List.mem_cons, List.not_mem_nil, or_false] at hn
  cases hn
  exact b__law_take_0 kV doc pm cdv ct an us ws us' h1 h2 h3
theorem b__law_pick_0 (kV doc pm cdv ct : Value) (an : Option Addr) (us ws us' : List Value) (h1 : us.length = 2) (h2 : ws.length = ([] : List Str).length) (h3 : bindG d_law_pick.ps us (([] : List Str).zip ws) = some us') :
    bindArgs (PySem.W.fnOf "_law_pick" "_law_pick" (L2.defArgs (row 36)) (L2.defBody (row 36)) (L2.defScope (row 36)) .none kV doc pm an cdv ct) ⟨us, ([] : List Str).zip ws⟩ = pure (d_law_pick.ps.zip us') := by
  match us, ws, h1, h2 with
  | [u0, u1], [], _, _ =>
    have e := Option.some.inj (show some [u0, u1] = some us' from h3)
    subst e
    rfl
theorem b__law_pick : LawIn.BindOk ("_law_pick", (d_law_pick, row 36)) := by
  intro kV doc pm cdv ct an n ks hn us ws us' h1 h2 h3
  have hn : (n, ks) ∈ d_law_pick.shapes := hn
  simp only [d_law_pick, List.mem_cons, List.not_mem_nil, or_false] at hn
  cases hn
  exact b__law_pick_0 kV doc pm cdv ct an us ws us' h1 h2 h3
theorem b__law_plain_marks_0 (kV doc pm cdv ct : Value) (an : Option Addr) (us ws us' : List Value) (h1 : us.length = 1) (h2 : ws.length = ([] : List Str).length) (h3 : bindG d_law_plain_marks.ps us (([] : List Str).zip ws) = some us') :
    bindArgs (PySem.W.fnOf "_law_plain_marks" "_law_plain_marks" (L2.defArgs (row 37)) (L2.defBody (row 37)) (L2.defScope (row 37)) .none kV doc pm an cdv ct) ⟨us, ([] : List Str).zip ws⟩ = pure (d_law_plain_marks.ps.zip us') := by
  match us, ws, h1, h2 with
  | [u0], [], _, _ =>
    have e := Option.some.inj (show some [u0] = some us' from h3)
    subst e
    rfl
theorem b__law_plain_marks : LawIn.BindOk ("_law_plain_marks", (d_law_plain_marks, row 37)) := by
  intro kV doc pm cdv ct an n ks hn us ws us' h1 h2 h3
  have hn : (n, ks) ∈ d_law_plain_marks.shapes := hn
  simp only [d_law_plain_marks, List.mem_cons, List.not_mem_nil, or_false] at hn
  cases hn
  exact b__law_plain_marks_0 kV doc pm cdv ct an us ws us' h1 h2 h3
theorem b__law_marks_0 (kV doc pm cdv ct : Value) (an : Option Addr) (us ws us' : List Value) (h1 : us.length = 1) (h2 : ws.length = ([] : List Str).length) (h3 : bindG d_law_marks.ps us (([] : List Str).zip ws) = some us') :
    bindArgs (PySem.W.fnOf "_law_marks" "_law_marks" (L2.defArgs (row 38)) (L2.defBody (row 38)) (L2.defScope (row 38)) .none kV doc pm an cdv ct) ⟨us, ([] : List Str).zip ws⟩ = pure (d_law_marks.ps.zip us') := by
  match us, ws, h1, h2 with
  | [u0], [], _, _ =>
    have e := Option.some.inj (show some [u0] = some us' from h3)
    subst e
    rfl
theorem b__law_marks : LawIn.BindOk ("_law_marks", (d_law_marks, row 38)) := by
  intro kV doc pm cdv ct an n ks hn us ws us' h1 h2 h3
  have hn : (n, ks) ∈ d_law_marks.shapes := hn
  simp only [d_law_marks, List.mem_cons, List.not_mem_nil, or_false] at hn
  cases hn
  exact b__law_marks_0 kV doc pm cdv ct an us ws us' h1 h2 h3
theorem b__law_plain_0 (kV doc pm cdv ct : Value) (an : Option Addr) (us ws us' : List Value) (h1 : us.length = 0) (h2 : ws.length = ([] : List Str).length) (h3 : bindG d_law_plain.ps us (([] : List Str).zip ws) = some us') :
    bindArgs (PySem.W.fnOf "_law_plain" "_law_plain" (L2.defArgs (row 39)) (L2.defBody (row 39)) (L2.defScope (row 39)) .none kV doc pm an cdv ct) ⟨us, ([] : List Str).zip ws⟩ = pure (d_law_plain.ps.zip us') := by
  match us, ws, h1, h2 with
  | [], [], _, _ =>
    have e := Option.some.inj (show some [] = some us' from h3)
    subst e
    rfl
theorem b__law_plain : LawIn.BindOk ("_law_plain", (d_law_plain, row 39)) := by
  intro kV doc pm cdv ct an n ks hn us ws us' h1 h2 h3
  have hn : (n, ks) ∈ d_law_plain.shapes := hn
  simp only [d_law_plain, List.mem_cons, List.not_mem_nil, or_false] at hn
  cases hn
  exact b__law_plain_0 kV doc pm cdv ct an us ws us' h1 h2 h3
theorem b__law_by_name_0 (kV doc pm cdv ct : Value) (an : Option Addr) (us ws us' : List Value) (h1 : us.length = 1) (h2 : ws.length = ([] : List Str).length) (h3 : bindG d_law_by_name.ps us (([] : List Str).zip ws) = some us') :
    bindArgs (PySem.W.fnOf "_law_by_name" "_law_by_name" (L2.defArgs (row 40)) (L2.defBody (row 40)) (L2.defScope (row 40)) .none kV doc pm an cdv ct) ⟨us, ([] : List Str).zip ws⟩ = pure (d_law_by_name.ps.zip us') := by
  match us, ws, h1, h2 with
  | [u0], [], _, _ =>
    have e := Option.some.inj (show some [u0] = some us' from h3)
    subst e
    rfl
theorem b__law_by_name : LawIn.BindOk ("_law_by_name", (d_law_by_name, row 40)) := by
  intro kV doc pm cdv ct an n ks hn us ws us' h1 h2 h3
  have hn : (n, ks) ∈ d_law_by_name.shapes := hn
  simp only [d_law_by_name, List.mem_cons, List.not_mem_nil, or_false] at hn
  cases hn
  exact b__law_by_name_0 kV doc pm cdv ct an us ws us' h1 h2 h3
theorem b__law_by_position_0 (kV doc pm cdv ct : Value) (an : Option Addr) (us ws us' : List Value) (h1 : us.length = 1) (h2 : ws.length = ([] : List Str).length) (h3 : bindG d_law_by_position.ps us (([] : List Str).zip ws) = some us') :
    bindArgs (PySem.W.fnOf "_law_by_position" "_law_by_position" (L2.defArgs (row 41)) (L2.defBody (row 41)) (L2.defScope (row 41)) .none kV doc pm an cdv ct) ⟨us, ([] : List Str).zip ws⟩ = pure (d_law_by_position.ps.zip us') := by
  match us, ws, h1, h2 with
  | [u0], [], _, _ =>
    have e := Option.some.inj (show some [u0] = some us' from h3)
    subst e
    rfl
theorem b__law_by_position : LawIn.BindOk ("_law_by_position", (d_law_by_position, row 41)) := by
  intro kV doc pm cdv ct an n ks hn us ws us' h1 h2 h3
  have hn : (n, ks) ∈ d_law_by_position.shapes := hn
  simp only [d_law_by_position, List.mem_cons, List.not_mem_nil, or_false] at hn
  cases hn
  exact b__law_by_position_0 kV doc pm cdv ct an us ws us' h1 h2 h3
theorem b_law_0 (kV doc pm cdv ct : Value) (an : Option Addr) (us ws us' : List Value) (h1 : us.length = 1) (h2 : ws.length = ([] : List Str).length) (h3 : bindG dlaw.ps us (([] : List Str).zip ws) = some us') :
    bindArgs (PySem.W.fnOf "law" "law" (L2.defArgs (row 42)) (L2.defBody (row 42)) (L2.defScope (row 42)) .none kV doc pm an cdv ct) ⟨us, ([] : List Str).zip ws⟩ = pure (dlaw.ps.zip us') := by
  match us, ws, h1, h2 with
  | [u0], [], _, _ =>
    have e := Option.some.inj (show some [u0] = some us' from h3)
    subst e
    rfl
theorem b_law : LawIn.BindOk ("law", (dlaw, row 42)) := by
  intro kV doc pm cdv ct an n ks hn us ws us' h1 h2 h3
  have hn : (n, ks) ∈ dlaw.shapes := hn
  simp only [dlaw, List.mem_cons, List.not_mem_nil, or_false] at hn
  cases hn
  exact b_law_0 kV doc pm cdv ct an us ws us' h1 h2 h3
theorem binds : ∀ p ∈ T.l, LawIn.BindOk p := by
  intro p hp
  simp only [T, List.mem_cons, List.not_mem_nil, or_false] at hp
  rcases hp with rfl | rfl | rfl | rfl | rfl | rfl | rfl | rfl | rfl | rfl
  · exact b__law_begun
  · exact b__law_mixed
  · exact b__law_take
  · exact b__law_pick
  · exact b__law_plain_marks
  · exact b__law_marks
  · exact b__law_plain
  · exact b__law_by_name
  · exact b__law_by_position
  · exact b_law
theorem sbinds : ∀ p ∈ T.SI, SBind (p.1 ++ ".__init__") p.2.1 (initOf p.2.2.2) := by
  intro p hp
  simp only [T, List.mem_cons, List.not_mem_nil, or_false] at hp
  rcases hp with rfl | rfl | rfl | rfl | rfl | rfl | rfl | rfl | rfl | rfl | rfl | rfl | rfl | rfl <;> exact fun _ _ _ _ _ _ _ _ _ => ⟨rfl, rfl⟩
end K08

set_option Elab.async false
set_option linter.all false
set_option maxRecDepth 100000
set_option maxHeartbeats 4000000
namespace K08
open PySem Fw
theorem lc_fm {t : Sta} {own : List (Str × Nat)} {tg : Tg} {it : It1} {c : Op} {e : Ex} {s : En} {S S1 : Sto} {ds : List D} {o : D → Option D} (hh : ∀ r : R D, t.cold r = r) (hi : evI t it s S = .ok (ds, none) S1)
    (hz : ds.length ≤ sizeLine) (hC : Cl0 S1) (hQ : ∀ d ∈ ds, ∀ y, o d = some y → y.closed S1.length = true)
    (h : ∀ d ∈ ds, ∀ acc, ∃ s2, tgD tg d (wipeD s (own.map (·.2))) = some s2 ∧ ((evC t.blk c s2 (S1 ++ [O.lst acc]) = .ok false (S1 ++ [O.lst acc]) ∧ o d = none) ∨ (evC t.blk c s2 (S1 ++ [O.lst acc]) = .ok true (S1 ++ [O.lst acc]) ∧ ∃ y, o d = some y ∧ evE t.blk e s2 (S1 ++ [O.lst acc]) = .ok y (S1 ++ [O.lst acc])))) :
    evE t (.lc false own tg it c e) s S = .ok (.lst (ds.filterMap o)) S1 := by
  have go : ∀ (es acc : List D), (∀ d, d ∈ es → d ∈ ds) → acc.length + es.length ≤ sizeLine → lcGo S1.length ds none (stF tg (own.map (·.2)) (evC t.blk c) (evE t.blk e) s) es (S1 ++ [O.lst acc]) = .ok () (S1 ++ [O.lst (acc ++ es.filterMap o)]) := by
    intro es
    induction es with
    | nil => intro acc _ _; rw [lcGo, List.filterMap_nil, List.append_nil]; exact if_pos rfl
    | cons d es ih =>
      intro acc hm hz
      obtain ⟨s2, e1, hd⟩ := h d (hm d List.mem_cons_self) acc
      rw [lcGo]
      refine (if_pos rfl).trans ?_
      rcases hd with ⟨e2, e3⟩ | ⟨e2, y, e3, e4⟩
      · have st : stF tg (own.map (·.2)) (evC t.blk c) (evE t.blk e) s d (S1 ++ [O.lst acc]) = .ok none (S1 ++ [O.lst acc]) := by
          unfold stF
          rw [e1]
          show noX ((evC t.blk c s2 (S1 ++ [O.lst acc])).bind _) = _
          rw [e2]
          rfl
        rw [st, List.filterMap_cons_none e3]
        exact ih acc (fun d hd => hm d (List.mem_cons_of_mem _ hd)) (by simp only [List.length_cons] at hz; omega)
      · have hl : acc.length < sizeLine := by simp only [List.length_cons] at hz; omega
        have st : stF tg (own.map (·.2)) (evC t.blk c) (evE t.blk e) s d (S1 ++ [O.lst acc]) = .ok (some y) (S1 ++ [O.lst acc]) := by
          unfold stF
          rw [e1]
          show noX ((evC t.blk c s2 (S1 ++ [O.lst acc])).bind _) = _
          rw [e2]
          show noX ((evE t.blk e s2 (S1 ++ [O.lst acc])).bind fun y S4 => .ok (some y) S4) = _
          rw [e4]
          rfl
        have e5 : (S1 ++ [O.lst acc])[S1.length]? = some (O.lst acc) := by simp
        have e6 : (S1 ++ [O.lst acc]).set S1.length (O.lst (acc ++ [y])) = S1 ++ [O.lst (acc ++ [y])] := by simp
        rw [st, List.filterMap_cons_some e3]
        show (match (S1 ++ [O.lst acc])[S1.length]? with
          | some (O.lst acc') => if acc'.length < sizeLine then lcGo S1.length ds none _ es ((S1 ++ [O.lst acc]).set S1.length (.lst (acc' ++ [y]))) else .bad
          | _ => .bad) = _
        rw [e5]
        refine (if_pos hl).trans ?_
        rw [e6, ih (acc ++ [y]) (fun d hd => hm d (List.mem_cons_of_mem _ hd)) (by simp only [List.length_cons, List.length_append, List.length_nil] at hz ⊢; omega), List.append_assoc]
        rfl
  rw [evE, hh, hi]
  show (lcGo S1.length ds none (stF tg (own.map (·.2)) (evC t.blk c) (evE t.blk e) s) ds (S1 ++ [O.lst []])).bind _ = _
  rw [go ds [] (fun _ h => h) (by simpa using hz)]
  show thaw S1.length (S1 ++ [O.lst (ds.filterMap o)]) = _
  exact thaw_lst hC (clL_of fun y hy => by
    obtain ⟨d, hd, e⟩ := List.mem_filterMap.mp hy
    exact hQ d hd y e)
theorem ad_lst {a b : List D} (S : Sto) (h : decide (a.length + b.length ≤ 1000) = true) : binD .Add (.lst a) (.lst b) S = .ok (.lst (a ++ b)) S := if_pos (by rw [sizeLine_eq]; have := of_decide_eq_true h; omega)
theorem ixp0 (a b : D) (S : Sto) : idxD (.tup [a, b]) (.int 0) S = .ok a S := rfl
theorem ixp1 (a b : D) (S : Sto) : idxD (.tup [a, b]) (.int 1) S = .ok b S := rfl
theorem isi_gen (k : Nat) {C N ks : _} {ds : List D} {b : Bool} {S : Sto} (hC : C ∈ T.EC) (h : T.sta.I (.inr C) (.inr N) = some b) : biD (mk3 T.sta T.tb k).1 "isinstance" [.err C ks ds, .glo N] S = .ok (.bl b) S := isi_of k (by
  show (if okTy [] T.EC (.err C ks ds) (.inr C) = true then T.sta.I (.inr C) (.inr N) else none) = _
  rw [if_pos (show okTy [] T.EC (.err C ks ds) (.inr C) = true from decide_eq_true hC)]
  exact h)
theorem isi_bty (k : Nat) {C ks : _} {n : String} {ds : List D} {b : Bool} {S : Sto} (hC : C ∈ T.EC) (h : T.sta.I (.inr C) (.inl n) = some b) : biD (mk3 T.sta T.tb k).1 "isinstance" [.err C ks ds, .ty n] S = .ok (.bl b) S := isi_of k (by
  show (if okTy [] T.EC (.err C ks ds) (.inr C) = true then T.sta.I (.inr C) (.inl n) else none) = _
  rw [if_pos (show okTy [] T.EC (.err C ks ds) (.inr C) = true from decide_eq_true hC)]
  exact h)
theorem att_of (k : Nat) {C f : Str} {x : D} (h : (C, f) ∈ T.XF ∧ C ∈ T.EC) (S : Sto) : attD (mk3 T.sta T.tb k).1 (.err C [f] [x]) f S = .ok x S := by
  unfold attD
  dsimp only
  rw [tk_XF, tk_EC, if_pos h]
  show (match lookD [f] [x] f with
    | some d => R.ok d S
    | none => .bad) = _
  rw [lookD, if_pos (by simp)]
def msg (C : Str) : Str := ((T.sta.RI C).getD ("", "")).2
theorem eF_of {k : Nat} (hk : 3 ≤ k) {C f : Str} (h : T.sta.RI C = some (f, msg C)) : errF (mk3 T.sta T.tb k).1 C = some (f, msg C) := by
  unfold errF
  rw [if_pos (tk_rm hk), tk_RI]
  exact h
theorem rx_of (k : Nat) {C : Str} (h : C ∈ T.RX) : (C ∈ (mk3 T.sta T.tb k).1.RX) = True := by rw [tk_RX]; exact eq_true h
def plainN : List Str := ["BadValue", "BadPattern", "BadExpectation", "NotFree", "NotKept", "NoIndex", "Conflicted", "NoConflict", "NotWon", "NoState", "Lost", "BadHands", "NoOrder", "NotAllowed", "BadCount", "BadOrder"]
def fieldN : List (Str × Str) := [("BadCall", "path"), ("BadPlan", "index"), ("NoName", "name"), ("BadRecord", "index"), ("BadMove", "name"), ("BadResult", "index"), ("BadRule", "index"), ("Faulted", "word"), ("Unexpected", "what"), ("Undecided", "could"), ("Missing", "lacking"), ("NoPlace", "name"), ("BadName", "name"), ("BadText", "row")]
def names : List Str := List.append plainN (fieldN.map (·.1))
def okx (x : D) : Bool := x.closed 0 && (notRef x && fieldN.all fun p => errOk (msg p.1) x)
theorem g_BadValue (k : Nat) : (mk3 T.sta T.tb k).1.G "BadValue" = some (.glo "BadValue") := tk_g k rfl
theorem g_BadPattern (k : Nat) : (mk3 T.sta T.tb k).1.G "BadPattern" = some (.glo "BadPattern") := tk_g k rfl
theorem g_BadExpectation (k : Nat) : (mk3 T.sta T.tb k).1.G "BadExpectation" = some (.glo "BadExpectation") := tk_g k rfl
theorem g_NotFree (k : Nat) : (mk3 T.sta T.tb k).1.G "NotFree" = some (.glo "NotFree") := tk_g k rfl
theorem g_NotKept (k : Nat) : (mk3 T.sta T.tb k).1.G "NotKept" = some (.glo "NotKept") := tk_g k rfl
theorem g_NoIndex (k : Nat) : (mk3 T.sta T.tb k).1.G "NoIndex" = some (.glo "NoIndex") := tk_g k rfl
theorem g_Conflicted (k : Nat) : (mk3 T.sta T.tb k).1.G "Conflicted" = some (.glo "Conflicted") := tk_g k rfl
theorem g_NoConflict (k : Nat) : (mk3 T.sta T.tb k).1.G "NoConflict" = some (.glo "NoConflict") := tk_g k rfl
theorem g_NotWon (k : Nat) : (mk3 T.sta T.tb k).1.G "NotWon" = some (.glo "NotWon") := tk_g k rfl
theorem g_NoState (k : Nat) : (mk3 T.sta T.tb k).1.G "NoState" = some (.glo "NoState") := tk_g k rfl
theorem g_Lost (k : Nat) : (mk3 T.sta T.tb k).1.G "Lost" = some (.glo "Lost") := tk_g k rfl
theorem g_BadHands (k : Nat) : (mk3 T.sta T.tb k).1.G "BadHands" = some (.glo "BadHands") := tk_g k rfl
theorem g_NoOrder (k : Nat) : (mk3 T.sta T.tb k).1.G "NoOrder" = some (.glo "NoOrder") := tk_g k rfl
theorem g_NotAllowed (k : Nat) : (mk3 T.sta T.tb k).1.G "NotAllowed" = some (.glo "NotAllowed") := tk_g k rfl
theorem g_BadCount (k : Nat) : (mk3 T.sta T.tb k).1.G "BadCount" = some (.glo "BadCount") := tk_g k rfl
theorem g_BadOrder (k : Nat) : (mk3 T.sta T.tb k).1.G "BadOrder" = some (.glo "BadOrder") := tk_g k rfl
theorem g_BadCall (k : Nat) : (mk3 T.sta T.tb k).1.G "BadCall" = some (.glo "BadCall") := tk_g k rfl
theorem g_BadPlan (k : Nat) : (mk3 T.sta T.tb k).1.G "BadPlan" = some (.glo "BadPlan") := tk_g k rfl
theorem g_NoName (k : Nat) : (mk3 T.sta T.tb k).1.G "NoName" = some (.glo "NoName") := tk_g k rfl
theorem g_BadRecord (k : Nat) : (mk3 T.sta T.tb k).1.G "BadRecord" = some (.glo "BadRecord") := tk_g k rfl
theorem g_BadMove (k : Nat) : (mk3 T.sta T.tb k).1.G "BadMove" = some (.glo "BadMove") := tk_g k rfl
theorem g_BadResult (k : Nat) : (mk3 T.sta T.tb k).1.G "BadResult" = some (.glo "BadResult") := tk_g k rfl
theorem g_BadRule (k : Nat) : (mk3 T.sta T.tb k).1.G "BadRule" = some (.glo "BadRule") := tk_g k rfl
theorem g_Faulted (k : Nat) : (mk3 T.sta T.tb k).1.G "Faulted" = some (.glo "Faulted") := tk_g k rfl
theorem g_Unexpected (k : Nat) : (mk3 T.sta T.tb k).1.G "Unexpected" = some (.glo "Unexpected") := tk_g k rfl
theorem g_Undecided (k : Nat) : (mk3 T.sta T.tb k).1.G "Undecided" = some (.glo "Undecided") := tk_g k rfl
theorem g_Missing (k : Nat) : (mk3 T.sta T.tb k).1.G "Missing" = some (.glo "Missing") := tk_g k rfl
theorem g_NoPlace (k : Nat) : (mk3 T.sta T.tb k).1.G "NoPlace" = some (.glo "NoPlace") := tk_g k rfl
theorem g_BadName (k : Nat) : (mk3 T.sta T.tb k).1.G "BadName" = some (.glo "BadName") := tk_g k rfl
theorem g_BadText (k : Nat) : (mk3 T.sta T.tb k).1.G "BadText" = some (.glo "BadText") := tk_g k rfl
theorem g_TakerError (k : Nat) : (mk3 T.sta T.tb k).1.G "TakerError" = some (.glo "TakerError") := tk_g k rfl
theorem g_ValueError (k : Nat) : (mk3 T.sta T.tb k).1.G "ValueError" = some (.ty "ValueError") := tk_g k rfl
theorem eF_BadCall {k : Nat} (hk : 3 ≤ k) : errF (mk3 T.sta T.tb k).1 "BadCall" = some (("path" : Str), msg "BadCall") := eF_of hk (by decide +kernel)
theorem at_BadCall (k : Nat) (x : D) (S : Sto) : attD (mk3 T.sta T.tb k).1 (.err "BadCall" [("path" : Str)] [x]) "path" S = .ok x S := att_of k (by decide +kernel) S
theorem eF_BadPlan {k : Nat} (hk : 3 ≤ k) : errF (mk3 T.sta T.tb k).1 "BadPlan" = some (("index" : Str), msg "BadPlan") := eF_of hk (by decide +kernel)
theorem at_BadPlan (k : Nat) (x : D) (S : Sto) : attD (mk3 T.sta T.tb k).1 (.err "BadPlan" [("index" : Str)] [x]) "index" S = .ok x S := att_of k (by decide +kernel) S
theorem eF_NoName {k : Nat} (hk : 3 ≤ k) : errF (mk3 T.sta T.tb k).1 "NoName" = some (("name" : Str), msg "NoName") := eF_of hk (by decide +kernel)
theorem at_NoName (k : Nat) (x : D) (S : Sto) : attD (mk3 T.sta T.tb k).1 (.err "NoName" [("name" : Str)] [x]) "name" S = .ok x S := att_of k (by decide +kernel) S
theorem eF_BadRecord {k : Nat} (hk : 3 ≤ k) : errF (mk3 T.sta T.tb k).1 "BadRecord" = some (("index" : Str), msg "BadRecord") := eF_of hk (by decide +kernel)
theorem at_BadRecord (k : Nat) (x : D) (S : Sto) : attD (mk3 T.sta T.tb k).1 (.err "BadRecord" [("index" : Str)] [x]) "index" S = .ok x S := att_of k (by decide +kernel) S
theorem eF_BadMove {k : Nat} (hk : 3 ≤ k) : errF (mk3 T.sta T.tb k).1 "BadMove" = some (("name" : Str), msg "BadMove") := eF_of hk (by decide +kernel)
theorem at_BadMove (k : Nat) (x : D) (S : Sto) : attD (mk3 T.sta T.tb k).1 (.err "BadMove" [("name" : Str)] [x]) "name" S = .ok x S := att_of k (by decide +kernel) S
theorem eF_BadResult {k : Nat} (hk : 3 ≤ k) : errF (mk3 T.sta T.tb k).1 "BadResult" = some (("index" : Str), msg "BadResult") := eF_of hk (by decide +kernel)
theorem at_BadResult (k : Nat) (x : D) (S : Sto) : attD (mk3 T.sta T.tb k).1 (.err "BadResult" [("index" : Str)] [x]) "index" S = .ok x S := att_of k (by decide +kernel) S
theorem eF_BadRule {k : Nat} (hk : 3 ≤ k) : errF (mk3 T.sta T.tb k).1 "BadRule" = some (("index" : Str), msg "BadRule") := eF_of hk (by decide +kernel)
theorem at_BadRule (k : Nat) (x : D) (S : Sto) : attD (mk3 T.sta T.tb k).1 (.err "BadRule" [("index" : Str)] [x]) "index" S = .ok x S := att_of k (by decide +kernel) S
theorem eF_Faulted {k : Nat} (hk : 3 ≤ k) : errF (mk3 T.sta T.tb k).1 "Faulted" = some (("word" : Str), msg "Faulted") := eF_of hk (by decide +kernel)
theorem at_Faulted (k : Nat) (x : D) (S : Sto) : attD (mk3 T.sta T.tb k).1 (.err "Faulted" [("word" : Str)] [x]) "word" S = .ok x S := att_of k (by decide +kernel) S
theorem eF_Unexpected {k : Nat} (hk : 3 ≤ k) : errF (mk3 T.sta T.tb k).1 "Unexpected" = some (("what" : Str), msg "Unexpected") := eF_of hk (by decide +kernel)
theorem at_Unexpected (k : Nat) (x : D) (S : Sto) : attD (mk3 T.sta T.tb k).1 (.err "Unexpected" [("what" : Str)] [x]) "what" S = .ok x S := att_of k (by decide +kernel) S
theorem eF_Undecided {k : Nat} (hk : 3 ≤ k) : errF (mk3 T.sta T.tb k).1 "Undecided" = some (("could" : Str), msg "Undecided") := eF_of hk (by decide +kernel)
theorem at_Undecided (k : Nat) (x : D) (S : Sto) : attD (mk3 T.sta T.tb k).1 (.err "Undecided" [("could" : Str)] [x]) "could" S = .ok x S := att_of k (by decide +kernel) S
theorem eF_Missing {k : Nat} (hk : 3 ≤ k) : errF (mk3 T.sta T.tb k).1 "Missing" = some (("lacking" : Str), msg "Missing") := eF_of hk (by decide +kernel)
theorem at_Missing (k : Nat) (x : D) (S : Sto) : attD (mk3 T.sta T.tb k).1 (.err "Missing" [("lacking" : Str)] [x]) "lacking" S = .ok x S := att_of k (by decide +kernel) S
theorem eF_NoPlace {k : Nat} (hk : 3 ≤ k) : errF (mk3 T.sta T.tb k).1 "NoPlace" = some (("name" : Str), msg "NoPlace") := eF_of hk (by decide +kernel)
theorem at_NoPlace (k : Nat) (x : D) (S : Sto) : attD (mk3 T.sta T.tb k).1 (.err "NoPlace" [("name" : Str)] [x]) "name" S = .ok x S := att_of k (by decide +kernel) S
theorem eF_BadName {k : Nat} (hk : 3 ≤ k) : errF (mk3 T.sta T.tb k).1 "BadName" = some (("name" : Str), msg "BadName") := eF_of hk (by decide +kernel)
theorem at_BadName (k : Nat) (x : D) (S : Sto) : attD (mk3 T.sta T.tb k).1 (.err "BadName" [("name" : Str)] [x]) "name" S = .ok x S := att_of k (by decide +kernel) S
theorem eF_BadText {k : Nat} (hk : 3 ≤ k) : errF (mk3 T.sta T.tb k).1 "BadText" = some (("row" : Str), msg "BadText") := eF_of hk (by decide +kernel)
theorem at_BadText (k : Nat) (x : D) (S : Sto) : attD (mk3 T.sta T.tb k).1 (.err "BadText" [("row" : Str)] [x]) "row" S = .ok x S := att_of k (by decide +kernel) S
theorem rx_BadValue (k : Nat) : (("BadValue" : Str) ∈ (mk3 T.sta T.tb k).1.RX) = True := rx_of k (by decide +kernel)
theorem rx_BadPattern (k : Nat) : (("BadPattern" : Str) ∈ (mk3 T.sta T.tb k).1.RX) = True := rx_of k (by decide +kernel)
theorem rx_BadExpectation (k : Nat) : (("BadExpectation" : Str) ∈ (mk3 T.sta T.tb k).1.RX) = True := rx_of k (by decide +kernel)
theorem rx_NotFree (k : Nat) : (("NotFree" : Str) ∈ (mk3 T.sta T.tb k).1.RX) = True := rx_of k (by decide +kernel)
theorem rx_NotKept (k : Nat) : (("NotKept" : Str) ∈ (mk3 T.sta T.tb k).1.RX) = True := rx_of k (by decide +kernel)
theorem rx_NoIndex (k : Nat) : (("NoIndex" : Str) ∈ (mk3 T.sta T.tb k).1.RX) = True := rx_of k (by decide +kernel)
theorem rx_Conflicted (k : Nat) : (("Conflicted" : Str) ∈ (mk3 T.sta T.tb k).1.RX) = True := rx_of k (by decide +kernel)
theorem rx_NoConflict (k : Nat) : (("NoConflict" : Str) ∈ (mk3 T.sta T.tb k).1.RX) = True := rx_of k (by decide +kernel)
theorem rx_NotWon (k : Nat) : (("NotWon" : Str) ∈ (mk3 T.sta T.tb k).1.RX) = True := rx_of k (by decide +kernel)
theorem rx_NoState (k : Nat) : (("NoState" : Str) ∈ (mk3 T.sta T.tb k).1.RX) = True := rx_of k (by decide +kernel)
theorem rx_Lost (k : Nat) : (("Lost" : Str) ∈ (mk3 T.sta T.tb k).1.RX) = True := rx_of k (by decide +kernel)
theorem rx_BadHands (k : Nat) : (("BadHands" : Str) ∈ (mk3 T.sta T.tb k).1.RX) = True := rx_of k (by decide +kernel)
theorem rx_NoOrder (k : Nat) : (("NoOrder" : Str) ∈ (mk3 T.sta T.tb k).1.RX) = True := rx_of k (by decide +kernel)
theorem rx_NotAllowed (k : Nat) : (("NotAllowed" : Str) ∈ (mk3 T.sta T.tb k).1.RX) = True := rx_of k (by decide +kernel)
theorem rx_BadCount (k : Nat) : (("BadCount" : Str) ∈ (mk3 T.sta T.tb k).1.RX) = True := rx_of k (by decide +kernel)
theorem rx_BadOrder (k : Nat) : (("BadOrder" : Str) ∈ (mk3 T.sta T.tb k).1.RX) = True := rx_of k (by decide +kernel)
theorem rx_TakerError (k : Nat) : (("TakerError" : Str) ∈ (mk3 T.sta T.tb k).1.RX) = True := rx_of k (by decide +kernel)
theorem ecN : (names.all fun C => decide (C ∈ T.EC)) = true := by decide +kernel
theorem ecT : ("TakerError" : Str) ∈ T.EC := by decide +kernel
theorem IN : (names.all fun C => names.all fun N => decide (T.sta.I (.inr C) (.inr N) = some (decide (C = N)))) = true := by decide +kernel
theorem IT : (names.all fun N => decide (T.sta.I (.inr "TakerError") (.inr N) = some false)) = true := by decide +kernel
theorem IU : (names.all fun C => decide (T.sta.I (.inr C) (.inr "TakerError") = some true ∧ T.sta.I (.inr C) (.inl "ValueError") = some true)) = true := by decide +kernel
theorem IV : T.sta.I (.inr "TakerError") (.inl "ValueError") = some true := by decide +kernel
theorem pmarks_ok {k : Nat} {C : Str} {ks : List Str} {ds : List D} {b : Str → Bool} (hC : C ∈ T.EC) (hb : ∀ N ∈ names, T.sta.I (.inr C) (.inr N) = some (b N)) (S : Sto) : (mk3 T.sta T.tb (k + 1)).1.C "_law_plain_marks" [.err C ks ds] [] S = .ok (.lst (plainN.map fun N => .bl (b N))) S := by
  refine HasDf.call (f := "_law_plain_marks") (np := 1) (nN := 2) (b := d_law_plain_marks.body) ⟨d_law_plain_marks, rfl, rfl, rfl, rfl, rfl, by decide⟩ rfl (q := .ok (.ret (.lst (plainN.map fun N => .bl (b N)))) S) ?_ (gc_eq rfl rfl)
  show evSs d_law_plain_marks.body _ [some (.err C ks ds), none] S = _
  unfold d_law_plain_marks
  simp only [evSs, evS.eq_1, evS.eq_2, evS.eq_3, evS.eq_4, evS.eq_5, evS.eq_7, evS.eq_8, evS.eq_9, evS.eq_10, evE.eq_1, evE.eq_2, evE.eq_3, evE.eq_4, evE.eq_5, evE.eq_6, evE.eq_7, evE.eq_8, evE.eq_9, evE.eq_10, evE.eq_11, evE.eq_12, evE.eq_13, evE.eq_15, evE.eq_16, evE.eq_17, evE.eq_18, evE.eq_19, evE.eq_20, evE.eq_21, evE.eq_22, evE.eq_23, evE.eq_24, evE.eq_25, evE.eq_26, evE.eq_27, evL, evO, evC, R_ok, bS_ok, tk_cold, List.getElem?_cons_zero, List.getElem?_cons_succ, conD, List.set_cons_zero, List.set_cons_succ, Option.some.injEq, eq_int, ix_great, ix_rest, ix_turn, ix_cells, se_rest, se_turn, po_great, ne_great, ne_eq, reduceCtorEq, not_true_eq_false, not_false_eq_true, decide_true, decide_false, rc_great, le_st, it_lst, it_tup, ad_int, su_int, lt_int, gt_int, ge_int, le_int, in_int, in_bl, evI, ↓reduceIte, sz0, sz1, sz2, sz3, sz4, sz5, sz6, sz7, sz8, sz9, sz10, List.zip_nil_left, Bool.false_eq_true, Bool.not_true, Bool.not_false, g_BadValue k, g_BadPattern k, g_BadExpectation k, g_NotFree k, g_NotKept k, g_NoIndex k, g_Conflicted k, g_NoConflict k, g_NotWon k, g_NoState k, g_Lost k, g_BadHands k, g_NoOrder k, g_NotAllowed k, g_BadCount k, g_BadOrder k, isi_gen k hC (hb "BadValue" (by decide +kernel)), isi_gen k hC (hb "BadPattern" (by decide +kernel)), isi_gen k hC (hb "BadExpectation" (by decide +kernel)), isi_gen k hC (hb "NotFree" (by decide +kernel)), isi_gen k hC (hb "NotKept" (by decide +kernel)), isi_gen k hC (hb "NoIndex" (by decide +kernel)), isi_gen k hC (hb "Conflicted" (by decide +kernel)), isi_gen k hC (hb "NoConflict" (by decide +kernel)), isi_gen k hC (hb "NotWon" (by decide +kernel)), isi_gen k hC (hb "NoState" (by decide +kernel)), isi_gen k hC (hb "Lost" (by decide +kernel)), isi_gen k hC (hb "BadHands" (by decide +kernel)), isi_gen k hC (hb "NoOrder" (by decide +kernel)), isi_gen k hC (hb "NotAllowed" (by decide +kernel)), isi_gen k hC (hb "BadCount" (by decide +kernel)), isi_gen k hC (hb "BadOrder" (by decide +kernel)), ad_lst, List.length_cons, List.length_nil, List.cons_append, List.nil_append, Nat.reduceAdd, Nat.reduceLeDiff, sizeLine_eq, decide_true, List.length_append]
  rfl
theorem marks_ok {k : Nat} {C : Str} {ks : List Str} {ds : List D} {b : Str → Bool} (hC : C ∈ T.EC) (hb : ∀ N ∈ names, T.sta.I (.inr C) (.inr N) = some (b N)) (S : Sto) : (mk3 T.sta T.tb (k + 2)).1.C "_law_marks" [.err C ks ds] [] S = .ok (.lst (names.map fun N => .bl (b N))) S := by
  refine HasDf.call (k := k + 1) (f := "_law_marks") (np := 1) (nN := 2) (b := d_law_marks.body) ⟨d_law_marks, rfl, rfl, rfl, rfl, rfl, by decide⟩ rfl (q := .ok (.ret (.lst (names.map fun N => .bl (b N)))) S) ?_ (gc_eq rfl rfl)
  show evSs d_law_marks.body _ [some (.err C ks ds), none] S = _
  unfold d_law_marks
  have hp := pmarks_ok (k := k) (ks := ks) (ds := ds) hC hb S
  simp only [plainN, List.map_cons, List.map_nil] at hp
  simp only [evSs, evS.eq_1, evS.eq_2, evS.eq_3, evS.eq_4, evS.eq_5, evS.eq_7, evS.eq_8, evS.eq_9, evS.eq_10, evE.eq_1, evE.eq_2, evE.eq_3, evE.eq_4, evE.eq_5, evE.eq_6, evE.eq_7, evE.eq_8, evE.eq_9, evE.eq_10, evE.eq_11, evE.eq_12, evE.eq_13, evE.eq_15, evE.eq_16, evE.eq_17, evE.eq_18, evE.eq_19, evE.eq_20, evE.eq_21, evE.eq_22, evE.eq_23, evE.eq_24, evE.eq_25, evE.eq_26, evE.eq_27, evL, evO, evC, R_ok, bS_ok, tk_cold, List.getElem?_cons_zero, List.getElem?_cons_succ, conD, List.set_cons_zero, List.set_cons_succ, Option.some.injEq, eq_int, ix_great, ix_rest, ix_turn, ix_cells, se_rest, se_turn, po_great, ne_great, ne_eq, reduceCtorEq, not_true_eq_false, not_false_eq_true, decide_true, decide_false, rc_great, le_st, it_lst, it_tup, ad_int, su_int, lt_int, gt_int, ge_int, le_int, in_int, in_bl, evI, ↓reduceIte, sz0, sz1, sz2, sz3, sz4, sz5, sz6, sz7, sz8, sz9, sz10, List.zip_nil_left, Bool.false_eq_true, Bool.not_true, Bool.not_false, g_BadCall (k + 1), g_BadPlan (k + 1), g_NoName (k + 1), g_BadRecord (k + 1), g_BadMove (k + 1), g_BadResult (k + 1), g_BadRule (k + 1), g_Faulted (k + 1), g_Unexpected (k + 1), g_Undecided (k + 1), g_Missing (k + 1), g_NoPlace (k + 1), g_BadName (k + 1), g_BadText (k + 1), isi_gen (k + 1) hC (hb "BadCall" (by decide +kernel)), isi_gen (k + 1) hC (hb "BadPlan" (by decide +kernel)), isi_gen (k + 1) hC (hb "NoName" (by decide +kernel)), isi_gen (k + 1) hC (hb "BadRecord" (by decide +kernel)), isi_gen (k + 1) hC (hb "BadMove" (by decide +kernel)), isi_gen (k + 1) hC (hb "BadResult" (by decide +kernel)), isi_gen (k + 1) hC (hb "BadRule" (by decide +kernel)), isi_gen (k + 1) hC (hb "Faulted" (by decide +kernel)), isi_gen (k + 1) hC (hb "Unexpected" (by decide +kernel)), isi_gen (k + 1) hC (hb "Undecided" (by decide +kernel)), isi_gen (k + 1) hC (hb "Missing" (by decide +kernel)), isi_gen (k + 1) hC (hb "NoPlace" (by decide +kernel)), isi_gen (k + 1) hC (hb "BadName" (by decide +kernel)), isi_gen (k + 1) hC (hb "BadText" (by decide +kernel)), hp, ad_lst, List.length_cons, List.length_nil, List.cons_append, List.nil_append, Nat.reduceAdd, Nat.reduceLeDiff, sizeLine_eq, decide_true, List.length_append]
  rfl
theorem plain_ok {k : Nat} (S : Sto) : (mk3 T.sta T.tb (k + 1)).1.C "_law_plain" [] [] S = .ok (.lst (plainN.map fun N => .err N [] [])) S := by
  refine HasDf.call (f := "_law_plain") (np := 0) (nN := 1) (b := d_law_plain.body) ⟨d_law_plain, rfl, rfl, rfl, rfl, rfl, by decide⟩ rfl (q := .ok (.ret (.lst (plainN.map fun N => .err N [] []))) S) ?_ (gc_eq rfl rfl)
  show evSs d_law_plain.body _ [none] S = _
  unfold d_law_plain
  simp only [evSs, evS.eq_1, evS.eq_2, evS.eq_3, evS.eq_4, evS.eq_5, evS.eq_7, evS.eq_8, evS.eq_9, evS.eq_10, evE.eq_1, evE.eq_2, evE.eq_3, evE.eq_4, evE.eq_5, evE.eq_6, evE.eq_7, evE.eq_8, evE.eq_9, evE.eq_10, evE.eq_11, evE.eq_12, evE.eq_13, evE.eq_15, evE.eq_16, evE.eq_17, evE.eq_18, evE.eq_19, evE.eq_20, evE.eq_21, evE.eq_22, evE.eq_23, evE.eq_24, evE.eq_25, evE.eq_26, evE.eq_27, evL, evO, evC, R_ok, bS_ok, tk_cold, List.getElem?_cons_zero, List.getElem?_cons_succ, conD, List.set_cons_zero, List.set_cons_succ, Option.some.injEq, eq_int, ix_great, ix_rest, ix_turn, ix_cells, se_rest, se_turn, po_great, ne_great, ne_eq, reduceCtorEq, not_true_eq_false, not_false_eq_true, decide_true, decide_false, rc_great, le_st, it_lst, it_tup, ad_int, su_int, lt_int, gt_int, ge_int, le_int, in_int, in_bl, evI, ↓reduceIte, sz0, sz1, sz2, sz3, sz4, sz5, sz6, sz7, sz8, sz9, sz10, List.zip_nil_left, Bool.false_eq_true, Bool.not_true, Bool.not_false, rx_BadValue k, rx_BadPattern k, rx_BadExpectation k, rx_NotFree k, rx_NotKept k, rx_NoIndex k, rx_Conflicted k, rx_NoConflict k, rx_NotWon k, rx_NoState k, rx_Lost k, rx_BadHands k, rx_NoOrder k, rx_NotAllowed k, rx_BadCount k, rx_BadOrder k, ad_lst, List.length_cons, List.length_nil, List.cons_append, List.nil_append, Nat.reduceAdd, Nat.reduceLeDiff, sizeLine_eq, decide_true, List.length_append]
  rfl
def rowsL (x : D) : List D := fieldN.map fun p => .tup [.err p.1 [p.2] [x], x]
def partL (x : D) : List D := fieldN.map fun _ => x
theorem byname_ok {k : Nat} (hk : 3 ≤ k) {x : D} (ho : ∀ p ∈ fieldN, errOk (msg p.1) x = true) (S : Sto) : (mk3 T.sta T.tb (k + 1)).1.C "_law_by_name" [x] [] S = .ok (.lst (rowsL x)) S := by
  refine HasDf.call (f := "_law_by_name") (np := 1) (nN := 5) (b := d_law_by_name.body) ⟨d_law_by_name, rfl, rfl, rfl, rfl, rfl, by decide⟩ rfl (q := .ok (.ret (.lst (rowsL x))) S) ?_ (gc_eq rfl rfl)
  show evSs d_law_by_name.body _ [some x, none, none, none, none] S = _
  unfold d_law_by_name
  have o0 : errOk (msg "BadCall") x = true := ho ("BadCall", "path") (by decide +kernel)
  have o1 : errOk (msg "BadPlan") x = true := ho ("BadPlan", "index") (by decide +kernel)
  have o2 : errOk (msg "NoName") x = true := ho ("NoName", "name") (by decide +kernel)
  have o3 : errOk (msg "BadRecord") x = true := ho ("BadRecord", "index") (by decide +kernel)
  have o4 : errOk (msg "BadMove") x = true := ho ("BadMove", "name") (by decide +kernel)
  have o5 : errOk (msg "BadResult") x = true := ho ("BadResult", "index") (by decide +kernel)
  have o6 : errOk (msg "BadRule") x = true := ho ("BadRule", "index") (by decide +kernel)
  have o7 : errOk (msg "Faulted") x = true := ho ("Faulted", "word") (by decide +kernel)
  have o8 : errOk (msg "Unexpected") x = true := ho ("Unexpected", "what") (by decide +kernel)
  have o9 : errOk (msg "Undecided") x = true := ho ("Undecided", "could") (by decide +kernel)
  have o10 : errOk (msg "Missing") x = true := ho ("Missing", "lacking") (by decide +kernel)
  have o11 : errOk (msg "NoPlace") x = true := ho ("NoPlace", "name") (by decide +kernel)
  have o12 : errOk (msg "BadName") x = true := ho ("BadName", "name") (by decide +kernel)
  have o13 : errOk (msg "BadText") x = true := ho ("BadText", "row") (by decide +kernel)
  simp only [evSs, evS.eq_1, evS.eq_2, evS.eq_3, evS.eq_4, evS.eq_5, evS.eq_7, evS.eq_8, evS.eq_9, evS.eq_10, evE.eq_1, evE.eq_2, evE.eq_3, evE.eq_4, evE.eq_5, evE.eq_6, evE.eq_7, evE.eq_8, evE.eq_9, evE.eq_10, evE.eq_11, evE.eq_12, evE.eq_13, evE.eq_15, evE.eq_16, evE.eq_17, evE.eq_18, evE.eq_19, evE.eq_20, evE.eq_21, evE.eq_22, evE.eq_23, evE.eq_24, evE.eq_25, evE.eq_26, evE.eq_27, evL, evO, evC, R_ok, bS_ok, tk_cold, List.getElem?_cons_zero, List.getElem?_cons_succ, conD, List.set_cons_zero, List.set_cons_succ, Option.some.injEq, eq_int, ix_great, ix_rest, ix_turn, ix_cells, se_rest, se_turn, po_great, ne_great, ne_eq, reduceCtorEq, not_true_eq_false, not_false_eq_true, decide_true, decide_false, rc_great, le_st, it_lst, it_tup, ad_int, su_int, lt_int, gt_int, ge_int, le_int, in_int, in_bl, evI, ↓reduceIte, sz0, sz1, sz2, sz3, sz4, sz5, sz6, sz7, sz8, sz9, sz10, List.zip_nil_left, Bool.false_eq_true, Bool.not_true, Bool.not_false, setAll, eq_self, eF_BadCall hk, at_BadCall k, o0, eF_BadPlan hk, at_BadPlan k, o1, eF_NoName hk, at_NoName k, o2, eF_BadRecord hk, at_BadRecord k, o3, eF_BadMove hk, at_BadMove k, o4, eF_BadResult hk, at_BadResult k, o5, eF_BadRule hk, at_BadRule k, o6, eF_Faulted hk, at_Faulted k, o7, eF_Unexpected hk, at_Unexpected k, o8, eF_Undecided hk, at_Undecided k, o9, eF_Missing hk, at_Missing k, o10, eF_NoPlace hk, at_NoPlace k, o11, eF_BadName hk, at_BadName k, o12, eF_BadText hk, at_BadText k, o13, ad_lst, List.length_cons, List.length_nil, List.cons_append, List.nil_append, Nat.reduceAdd, Nat.reduceLeDiff, sizeLine_eq, decide_true, List.length_append]
  rfl
theorem bypos_ok {k : Nat} (hk : 3 ≤ k) {x : D} (ho : ∀ p ∈ fieldN, errOk (msg p.1) x = true) (S : Sto) : (mk3 T.sta T.tb (k + 1)).1.C "_law_by_position" [x] [] S = .ok (.lst (partL x)) S := by
  refine HasDf.call (f := "_law_by_position") (np := 1) (nN := 2) (b := d_law_by_position.body) ⟨d_law_by_position, rfl, rfl, rfl, rfl, rfl, by decide⟩ rfl (q := .ok (.ret (.lst (partL x))) S) ?_ (gc_eq rfl rfl)
  show evSs d_law_by_position.body _ [some x, none] S = _
  unfold d_law_by_position
  have o0 : errOk (msg "BadCall") x = true := ho ("BadCall", "path") (by decide +kernel)
  have o1 : errOk (msg "BadPlan") x = true := ho ("BadPlan", "index") (by decide +kernel)
  have o2 : errOk (msg "NoName") x = true := ho ("NoName", "name") (by decide +kernel)
  have o3 : errOk (msg "BadRecord") x = true := ho ("BadRecord", "index") (by decide +kernel)
  have o4 : errOk (msg "BadMove") x = true := ho ("BadMove", "name") (by decide +kernel)
  have o5 : errOk (msg "BadResult") x = true := ho ("BadResult", "index") (by decide +kernel)
  have o6 : errOk (msg "BadRule") x = true := ho ("BadRule", "index") (by decide +kernel)
  have o7 : errOk (msg "Faulted") x = true := ho ("Faulted", "word") (by decide +kernel)
  have o8 : errOk (msg "Unexpected") x = true := ho ("Unexpected", "what") (by decide +kernel)
  have o9 : errOk (msg "Undecided") x = true := ho ("Undecided", "could") (by decide +kernel)
  have o10 : errOk (msg "Missing") x = true := ho ("Missing", "lacking") (by decide +kernel)
  have o11 : errOk (msg "NoPlace") x = true := ho ("NoPlace", "name") (by decide +kernel)
  have o12 : errOk (msg "BadName") x = true := ho ("BadName", "name") (by decide +kernel)
  have o13 : errOk (msg "BadText") x = true := ho ("BadText", "row") (by decide +kernel)
  simp only [evSs, evS.eq_1, evS.eq_2, evS.eq_3, evS.eq_4, evS.eq_5, evS.eq_7, evS.eq_8, evS.eq_9, evS.eq_10, evE.eq_1, evE.eq_2, evE.eq_3, evE.eq_4, evE.eq_5, evE.eq_6, evE.eq_7, evE.eq_8, evE.eq_9, evE.eq_10, evE.eq_11, evE.eq_12, evE.eq_13, evE.eq_15, evE.eq_16, evE.eq_17, evE.eq_18, evE.eq_19, evE.eq_20, evE.eq_21, evE.eq_22, evE.eq_23, evE.eq_24, evE.eq_25, evE.eq_26, evE.eq_27, evL, evO, evC, R_ok, bS_ok, tk_cold, List.getElem?_cons_zero, List.getElem?_cons_succ, conD, List.set_cons_zero, List.set_cons_succ, Option.some.injEq, eq_int, ix_great, ix_rest, ix_turn, ix_cells, se_rest, se_turn, po_great, ne_great, ne_eq, reduceCtorEq, not_true_eq_false, not_false_eq_true, decide_true, decide_false, rc_great, le_st, it_lst, it_tup, ad_int, su_int, lt_int, gt_int, ge_int, le_int, in_int, in_bl, evI, ↓reduceIte, sz0, sz1, sz2, sz3, sz4, sz5, sz6, sz7, sz8, sz9, sz10, List.zip_nil_left, Bool.false_eq_true, Bool.not_true, Bool.not_false, setAll, eq_self, eF_BadCall hk, at_BadCall k, o0, eF_BadPlan hk, at_BadPlan k, o1, eF_NoName hk, at_NoName k, o2, eF_BadRecord hk, at_BadRecord k, o3, eF_BadMove hk, at_BadMove k, o4, eF_BadResult hk, at_BadResult k, o5, eF_BadRule hk, at_BadRule k, o6, eF_Faulted hk, at_Faulted k, o7, eF_Unexpected hk, at_Unexpected k, o8, eF_Undecided hk, at_Undecided k, o9, eF_Missing hk, at_Missing k, o10, eF_NoPlace hk, at_NoPlace k, o11, eF_BadName hk, at_BadName k, o12, eF_BadText hk, at_BadText k, o13, ad_lst, List.length_cons, List.length_nil, List.cons_append, List.nil_append, Nat.reduceAdd, Nat.reduceLeDiff, sizeLine_eq, decide_true, List.length_append]
  rfl
end K08

set_option Elab.async false
set_option linter.all false
set_option maxRecDepth 100000
set_option maxHeartbeats 4000000
namespace K08
open PySem Fw
theorem lb : LB T where
  beg := ⟨d_law_begun, rfl, rfl, rfl, rfl, rfl, by decide⟩
  mix := ⟨d_law_mixed, rfl, rfl, rfl, rfl, rfl, by decide⟩
  take := ⟨d_law_take, rfl, rfl, rfl, rfl, rfl, by decide⟩
theorem pk : HasDf T "_law_pick" 2 2 pickB := ⟨d_law_pick, rfl, rfl, rfl, rfl, rfl, by decide⟩
def picks (i : Int) : List D := [.int 0, .int 7, .int (-1), .int (10 ^ 20), .str "a", .str "", .non, .bl true, .tup [.str "it", .tup [.int 1], .tup []], .lst [.int 1, .int 2], .dct [.inr "a"] [.int 1], .int i]
theorem okxA : ((picks 0).all okx) = true := by decide +kernel
theorem okxI : ∀ i : Fin 1000, okx (.int (i.val : Int)) = true := by decide +kernel
theorem okx_of {i : Int} (h0 : 0 ≤ i) (h1 : i < 1000) {x : D} (hx : x ∈ picks i) : okx x = true := by
  have hI : okx (.int i) = true := by
    have := okxI ⟨i.toNat, by omega⟩
    rwa [show ((i.toNat : Nat) : Int) = i from by omega] at this
  have hA := List.all_eq_true.mp okxA
  simp only [picks, List.mem_cons, List.not_mem_nil, or_false] at hx hA
  rcases hx with rfl | rfl | rfl | rfl | rfl | rfl | rfl | rfl | rfl | rfl | rfl | rfl
  · exact hA _ (by simp)
  · exact hA _ (by simp)
  · exact hA _ (by simp)
  · exact hA _ (by simp)
  · exact hA _ (by simp)
  · exact hA _ (by simp)
  · exact hA _ (by simp)
  · exact hA _ (by simp)
  · exact hA _ (by simp)
  · exact hA _ (by simp)
  · exact hA _ (by simp)
  · exact hI
theorem d1 (t : Sta) (s : En) (S : Sto) (hS : Cl0 S) : evE t (.dct false ["a"] (.cons (.con (.int 1)) .nil)) s S = .ok (.dct [.inr "a"] [.int 1]) S :=
  dctE hS rfl rfl
def everyL (x : D) : List D := List.append (plainN.map fun N => .err N [] []) (fieldN.map fun p => .err p.1 [p.2] [x])
theorem every_mem (x : D) : ∀ d ∈ enmL 0 (everyL x), ∃ (i : Fin 30) (ks : List Str) (ds : List D), d = .tup [.int ((i.val : Nat) : Int), .err (names[i.val]'(by have := i.isLt; exact this)) ks ds] := by
  intro d hd
  simp only [everyL, plainN, fieldN, List.map_cons, List.map_nil, List.append_eq, List.cons_append, List.nil_append, enmL, List.mem_cons, List.not_mem_nil, or_false] at hd
  rcases hd with rfl | rfl | rfl | rfl | rfl | rfl | rfl | rfl | rfl | rfl | rfl | rfl | rfl | rfl | rfl | rfl | rfl | rfl | rfl | rfl | rfl | rfl | rfl | rfl | rfl | rfl | rfl | rfl | rfl | rfl
  · exact ⟨⟨0, by decide⟩, _, _, rfl⟩
  · exact ⟨⟨1, by decide⟩, _, _, rfl⟩
  · exact ⟨⟨2, by decide⟩, _, _, rfl⟩
  · exact ⟨⟨3, by decide⟩, _, _, rfl⟩
  · exact ⟨⟨4, by decide⟩, _, _, rfl⟩
  · exact ⟨⟨5, by decide⟩, _, _, rfl⟩
  · exact ⟨⟨6, by decide⟩, _, _, rfl⟩
  · exact ⟨⟨7, by decide⟩, _, _, rfl⟩
  · exact ⟨⟨8, by decide⟩, _, _, rfl⟩
  · exact ⟨⟨9, by decide⟩, _, _, rfl⟩
  · exact ⟨⟨10, by decide⟩, _, _, rfl⟩
  · exact ⟨⟨11, by decide⟩, _, _, rfl⟩
  · exact ⟨⟨12, by decide⟩, _, _, rfl⟩
  · exact ⟨⟨13, by decide⟩, _, _, rfl⟩
  · exact ⟨⟨14, by decide⟩, _, _, rfl⟩
  · exact ⟨⟨15, by decide⟩, _, _, rfl⟩
  · exact ⟨⟨16, by decide⟩, _, _, rfl⟩
  · exact ⟨⟨17, by decide⟩, _, _, rfl⟩
  · exact ⟨⟨18, by decide⟩, _, _, rfl⟩
  · exact ⟨⟨19, by decide⟩, _, _, rfl⟩
  · exact ⟨⟨20, by decide⟩, _, _, rfl⟩
  · exact ⟨⟨21, by decide⟩, _, _, rfl⟩
  · exact ⟨⟨22, by decide⟩, _, _, rfl⟩
  · exact ⟨⟨23, by decide⟩, _, _, rfl⟩
  · exact ⟨⟨24, by decide⟩, _, _, rfl⟩
  · exact ⟨⟨25, by decide⟩, _, _, rfl⟩
  · exact ⟨⟨26, by decide⟩, _, _, rfl⟩
  · exact ⟨⟨27, by decide⟩, _, _, rfl⟩
  · exact ⟨⟨28, by decide⟩, _, _, rfl⟩
  · exact ⟨⟨29, by decide⟩, _, _, rfl⟩
theorem row_bl : ∀ i : Fin 30, names.map (fun N => decide (names[i.val]'(by have := i.isLt; exact this) = N)) = (List.range 30).map fun k => decide (k = i.val) := by decide +kernel
theorem ne_bl : ∀ i : Fin 30, cmp1 .NotEq (.lst (((List.range 30).map fun k => decide (k = i.val)).map .bl)) (.lst (((List.range 30).map fun k => decide (k = i.val)).map .bl)) = some false := by decide +kernel
theorem eq_str (a : Str) (S : Sto) : cmpD .NotEq (.str a) (.str a) S = .ok (.bl false) S := by
  show (match (eqD (.str a) (.str a)).map not with
    | some b => R.ok (D.bl b) S
    | none => .bad) = _
  have : eqD (.str a) (.str a) = some (PyData.eqv (.str a) (.str a)) := rfl
  rw [this, PyData.eqv]
  simp
theorem flat_nr {S : Sto} {d : D} (h : notRef d = true) : flat S d = d := by
  cases d <;> first | rfl | (simp [notRef] at h)
theorem repr_ok {x : D} (hn : notRef x = true) {m : Str} (h : errOk m x = true) : ∃ z : Str, ∀ (t : Sta) (S : Sto), biD t "repr" [x] S = .ok (.str z) S := by
  unfold errOk at h
  cases hp : toPyR x with
  | none => rw [hp] at h; cases h
  | some p =>
    rw [hp] at h
    rw [Bool.and_eq_true] at h
    refine ⟨p.shown, fun t S => ?_⟩
    show (match toPyR (flat S x) with
      | some p => if shows p = true then R.ok (D.str p.shown) S else .bad
      | none => .bad) = _
    rw [flat_nr hn, hp]
    exact if_pos h.1
theorem rng30 : rngL 0 30 = (List.range 30).map fun k => D.int ((k : Nat) : Int) := rfl
theorem mk30 (i : Fin 30) (ks : List Str) (ds : List D) (S : Sto) : (mk3 T.sta T.tb 59).1.C "_law_marks" [.err (names[i.val]'(by have := i.isLt; exact this)) ks ds] [] S = .ok (.lst (((List.range 30).map fun k => decide (k = i.val)).map .bl)) S := by
  have hm : names[i.val]'(by have := i.isLt; exact this) ∈ names := List.getElem_mem _
  have := marks_ok (k := 57) (ks := ks) (ds := ds) (b := fun N => decide (names[i.val]'(by have := i.isLt; exact this) = N)) (of_decide_eq_true (List.all_eq_true.mp ecN _ hm)) (fun N hN => of_decide_eq_true (List.all_eq_true.mp (List.all_eq_true.mp IN _ hm) N hN)) S
  refine this.trans ?_
  rw [← row_bl i, List.map_map]
  rfl
theorem plain (ns : List Int) (hl : ns.length ≤ 63) : ∃ S', (mk3 T.sta T.tb 60).1.C "law" [.scr ns] [] [] = .ok (.bl true) S' := by
  obtain ⟨g, hg⟩ := begun_ok (T := T) lb 58 ns hl
  have key : ∃ S', evSs dlaw.body (mk3 T.sta T.tb 59).1 [some (.scr ns), none, none, none, none, none, none, none, none, none, none, none] [] = .ok (.ret (.bl true)) S' := by
    unfold dlaw
    simp only [evSs, evS.eq_1, evS.eq_2, evS.eq_3, evS.eq_4, evS.eq_5, evS.eq_7, evS.eq_8, evS.eq_9, evS.eq_10, evE.eq_1, evE.eq_2, evE.eq_3, evE.eq_4, evE.eq_5, evE.eq_6, evE.eq_7, evE.eq_8, evE.eq_9, evE.eq_10, evE.eq_11, evE.eq_12, evE.eq_13, evE.eq_15, evE.eq_16, evE.eq_17, evE.eq_18, evE.eq_19, evE.eq_20, evE.eq_21, evE.eq_22, evE.eq_23, evE.eq_24, evE.eq_25, evE.eq_26, evE.eq_27, evL, evO, evC, R_ok, bS_ok, tk_cold, List.getElem?_cons_zero, List.getElem?_cons_succ, conD, List.set_cons_zero, List.set_cons_succ, Option.some.injEq, eq_int, ix_great, ix_rest, ix_turn, ix_cells, se_rest, se_turn, po_great, ne_great, ne_eq, reduceCtorEq, not_true_eq_false, not_false_eq_true, decide_true, decide_false, rc_great, le_st, it_lst, it_tup, ad_int, su_int, lt_int, gt_int, ge_int, le_int, in_int, in_bl, evI, ↓reduceIte, sz0, sz1, sz2, sz3, sz4, sz5, sz6, sz7, sz8, sz9, sz10, List.zip_nil_left, Bool.false_eq_true, Bool.not_true, Bool.not_false, hg]
    generalize hq : evS (Sm.loop _ _ _) _ _ _ = q
    obtain ⟨s2, S2, rfl, p⟩ := loop_invN (P := fun m e S => ∃ s, S = stO ns s [] ∧ 0 ≤ s.u ∧ s.u + 100 * (m : Int) ≤ 600 ∧ ∃ x2 x3 x4 x5 x6 x7 x8 x9 x10 x11, e = [some (.scr ns), some (.ref 1), x2, x3, x4, x5, x6, x7, x8, x9, x10, x11]) (ds := rngL 0 2) hq (tk_cold 59) (by simp only [evSs, evS.eq_1, evS.eq_2, evS.eq_3, evS.eq_4, evS.eq_5, evS.eq_7, evS.eq_8, evS.eq_9, evS.eq_10, evE.eq_1, evE.eq_2, evE.eq_3, evE.eq_4, evE.eq_5, evE.eq_6, evE.eq_7, evE.eq_8, evE.eq_9, evE.eq_10, evE.eq_11, evE.eq_12, evE.eq_13, evE.eq_15, evE.eq_16, evE.eq_17, evE.eq_18, evE.eq_19, evE.eq_20, evE.eq_21, evE.eq_22, evE.eq_23, evE.eq_24, evE.eq_25, evE.eq_26, evE.eq_27, evL, evO, evC, R_ok, bS_ok, tk_cold, List.getElem?_cons_zero, List.getElem?_cons_succ, conD, List.set_cons_zero, List.set_cons_succ, Option.some.injEq, eq_int, ix_great, ix_rest, ix_turn, ix_cells, se_rest, se_turn, po_great, ne_great, ne_eq, reduceCtorEq, not_true_eq_false, not_false_eq_true, decide_true, decide_false, rc_great, le_st, it_lst, it_tup, ad_int, su_int, lt_int, gt_int, ge_int, le_int, in_int, in_bl, evI, ↓reduceIte, sz0, sz1, sz2, sz3, sz4, sz5, sz6, sz7, sz8, sz9, sz10, List.zip_nil_left, Bool.false_eq_true, Bool.not_true, Bool.not_false]; rfl) (by
      rintro d hd m e S ⟨s, rfl, h0, hu, x2, x3, x4, x5, x6, x7, x8, x9, x10, x11, rfl⟩
      refine ⟨_, rfl, ?_⟩
      have cl := fun s => st_Cl ns s [] rfl
      have p20 : ∀ S : Sto, binD .Pow (.int 10) (.int 20) S = .ok (.int (10 ^ 20)) S := fun S => po_int S (by decide) (by decide) rfl
      obtain ⟨i, s1, i0, i1, u1, v1, ht⟩ := take_ok (T := T) ns lb (k := 59) (by omega) s [] 1000 (by omega) (by omega) h0 (by omega)
      obtain ⟨x, s2, hx, u2, v2, hpk⟩ := pick_ok (T := T) ns lb pk (k := 59) (by omega) s1 [] (picks i) (by simp [picks]) (by simp [picks]) (by intro d hd; simp only [picks, List.mem_cons, List.not_mem_nil, or_false] at hd; rcases hd with rfl | rfl | rfl | rfl | rfl | rfl | rfl | rfl | rfl | rfl | rfl | rfl <;> rfl) (by omega) (by omega)
      have hk := okx_of i0 i1 hx
      unfold okx at hk
      simp only [Bool.and_eq_true, List.all_eq_true] at hk
      obtain ⟨c1, c2, ho⟩ := hk
      have cx : ∀ n, x.closed n = true := fun n => cl_up x c1
      obtain ⟨z, hz⟩ := repr_ok c2 (ho ("BadCall", "path") (by decide +kernel))
      have hbn := byname_ok (k := 58) (by omega) ho (stO ns s2 [])
      have hbp := bypos_ok (k := 58) (by omega) ho (stO ns s2 [])
      have hpl := plain_ok (k := 58) (stO ns s2 [])
      unfold picks at hpk
      have L1 : ∀ x6 x7 x8 x9 x10 x11 : Option D, evE (mk3 T.sta T.tb 59).1 (.lc false [("entry", 9)] (.nm 9) (.ex (.var 5)) .no (.idx (.var 9) (.con (.int 0)))) [some (.scr ns), some (.ref 1), some d, some (.lst (picks i)), some x, some (.lst (rowsL x)), x6, x7, x8, x9, x10, x11] (stO ns s2 []) = .ok (.lst (fieldN.map fun p => .err p.1 [p.2] [x])) (stO ns s2 []) := by
        intro x6 x7 x8 x9 x10 x11
        refine (lc_fm (o := fun d => match d with
          | .tup [a, _] => some a
          | _ => none) (ds := rowsL x) (tk_cold 59) (by simp only [evSs, evS.eq_1, evS.eq_2, evS.eq_3, evS.eq_4, evS.eq_5, evS.eq_7, evS.eq_8, evS.eq_9, evS.eq_10, evE.eq_1, evE.eq_2, evE.eq_3, evE.eq_4, evE.eq_5, evE.eq_6, evE.eq_7, evE.eq_8, evE.eq_9, evE.eq_10, evE.eq_11, evE.eq_12, evE.eq_13, evE.eq_15, evE.eq_16, evE.eq_17, evE.eq_18, evE.eq_19, evE.eq_20, evE.eq_21, evE.eq_22, evE.eq_23, evE.eq_24, evE.eq_25, evE.eq_26, evE.eq_27, evL, evO, evC, R_ok, bS_ok, tk_cold, List.getElem?_cons_zero, List.getElem?_cons_succ, conD, List.set_cons_zero, List.set_cons_succ, Option.some.injEq, eq_int, ix_great, ix_rest, ix_turn, ix_cells, se_rest, se_turn, po_great, ne_great, ne_eq, reduceCtorEq, not_true_eq_false, not_false_eq_true, decide_true, decide_false, rc_great, le_st, it_lst, it_tup, ad_int, su_int, lt_int, gt_int, ge_int, le_int, in_int, in_bl, evI, ↓reduceIte, sz0, sz1, sz2, sz3, sz4, sz5, sz6, sz7, sz8, sz9, sz10, List.zip_nil_left, Bool.false_eq_true, Bool.not_true, Bool.not_false]) (by rw [sizeLine_eq]; simp [rowsL, fieldN]) (cl s2) ?_ ?_).trans rfl
        · intro d hd y hy
          obtain ⟨p, hp, rfl⟩ := List.mem_map.mp hd
          cases hy
          exact (by rw [D.closed, closedL, cx]; rfl)
        · intro d hd acc
          obtain ⟨p, hp, rfl⟩ := List.mem_map.mp hd
          refine ⟨_, rfl, .inr ⟨rfl, _, rfl, ?_⟩⟩
          simp only [evSs, evS.eq_1, evS.eq_2, evS.eq_3, evS.eq_4, evS.eq_5, evS.eq_7, evS.eq_8, evS.eq_9, evS.eq_10, evE.eq_1, evE.eq_2, evE.eq_3, evE.eq_4, evE.eq_5, evE.eq_6, evE.eq_7, evE.eq_8, evE.eq_9, evE.eq_10, evE.eq_11, evE.eq_12, evE.eq_13, evE.eq_15, evE.eq_16, evE.eq_17, evE.eq_18, evE.eq_19, evE.eq_20, evE.eq_21, evE.eq_22, evE.eq_23, evE.eq_24, evE.eq_25, evE.eq_26, evE.eq_27, evL, evO, evC, R_ok, bS_ok, tk_cold, List.getElem?_cons_zero, List.getElem?_cons_succ, conD, List.set_cons_zero, List.set_cons_succ, Option.some.injEq, eq_int, ix_great, ix_rest, ix_turn, ix_cells, se_rest, se_turn, po_great, ne_great, ne_eq, reduceCtorEq, not_true_eq_false, not_false_eq_true, decide_true, decide_false, rc_great, le_st, it_lst, it_tup, ad_int, su_int, lt_int, gt_int, ge_int, le_int, in_int, in_bl, evI, ↓reduceIte, sz0, sz1, sz2, sz3, sz4, sz5, sz6, sz7, sz8, sz9, sz10, List.zip_nil_left, Bool.false_eq_true, Bool.not_true, Bool.not_false, wipeD, ixp0]
          rfl
      have L2 : ∀ (i7 : Fin 30) (x3 x4 x5 x6 x8 x9 x10 x11 : Option D), evE (mk3 T.sta T.tb 59).1 (.lc false [("k", 11)] (.nm 11) (.rng (.con (.int 30))) .no (.cmp .Eq (.var 11) (.var 7))) [some (.scr ns), some (.ref 1), some d, x3, x4, x5, x6, some (.int ((i7.val : Nat) : Int)), x8, x9, x10, x11] (stO ns s2 []) = .ok (.lst (((List.range 30).map fun k => decide (k = i7.val)).map .bl)) (stO ns s2 []) := by
        intro i7 x3 x4 x5 x6 x8 x9 x10 x11
        refine (lc_fm (o := fun d => match d with
          | .int j => some (.bl (decide (j = ((i7.val : Nat) : Int))))
          | _ => none) (ds := rngL 0 30) (tk_cold 59) (by simp only [evSs, evS.eq_1, evS.eq_2, evS.eq_3, evS.eq_4, evS.eq_5, evS.eq_7, evS.eq_8, evS.eq_9, evS.eq_10, evE.eq_1, evE.eq_2, evE.eq_3, evE.eq_4, evE.eq_5, evE.eq_6, evE.eq_7, evE.eq_8, evE.eq_9, evE.eq_10, evE.eq_11, evE.eq_12, evE.eq_13, evE.eq_15, evE.eq_16, evE.eq_17, evE.eq_18, evE.eq_19, evE.eq_20, evE.eq_21, evE.eq_22, evE.eq_23, evE.eq_24, evE.eq_25, evE.eq_26, evE.eq_27, evL, evO, evC, R_ok, bS_ok, tk_cold, List.getElem?_cons_zero, List.getElem?_cons_succ, conD, List.set_cons_zero, List.set_cons_succ, Option.some.injEq, eq_int, ix_great, ix_rest, ix_turn, ix_cells, se_rest, se_turn, po_great, ne_great, ne_eq, reduceCtorEq, not_true_eq_false, not_false_eq_true, decide_true, decide_false, rc_great, le_st, it_lst, it_tup, ad_int, su_int, lt_int, gt_int, ge_int, le_int, in_int, in_bl, evI, ↓reduceIte, sz0, sz1, sz2, sz3, sz4, sz5, sz6, sz7, sz8, sz9, sz10, List.zip_nil_left, Bool.false_eq_true, Bool.not_true, Bool.not_false]; rfl) (by rw [sizeLine_eq]; decide) (cl s2) ?_ ?_).trans ?_
        · intro d hd y hy
          rw [rng30] at hd
          obtain ⟨p, hp, rfl⟩ := List.mem_map.mp hd
          cases hy
          rfl
        · intro d hd acc
          rw [rng30] at hd
          obtain ⟨p, hp, rfl⟩ := List.mem_map.mp hd
          refine ⟨_, rfl, .inr ⟨rfl, _, rfl, ?_⟩⟩
          simp only [evSs, evS.eq_1, evS.eq_2, evS.eq_3, evS.eq_4, evS.eq_5, evS.eq_7, evS.eq_8, evS.eq_9, evS.eq_10, evE.eq_1, evE.eq_2, evE.eq_3, evE.eq_4, evE.eq_5, evE.eq_6, evE.eq_7, evE.eq_8, evE.eq_9, evE.eq_10, evE.eq_11, evE.eq_12, evE.eq_13, evE.eq_15, evE.eq_16, evE.eq_17, evE.eq_18, evE.eq_19, evE.eq_20, evE.eq_21, evE.eq_22, evE.eq_23, evE.eq_24, evE.eq_25, evE.eq_26, evE.eq_27, evL, evO, evC, R_ok, bS_ok, tk_cold, List.getElem?_cons_zero, List.getElem?_cons_succ, conD, List.set_cons_zero, List.set_cons_succ, Option.some.injEq, eq_int, ix_great, ix_rest, ix_turn, ix_cells, se_rest, se_turn, po_great, ne_great, ne_eq, reduceCtorEq, not_true_eq_false, not_false_eq_true, decide_true, decide_false, rc_great, le_st, it_lst, it_tup, ad_int, su_int, lt_int, gt_int, ge_int, le_int, in_int, in_bl, evI, ↓reduceIte, sz0, sz1, sz2, sz3, sz4, sz5, sz6, sz7, sz8, sz9, sz10, List.zip_nil_left, Bool.false_eq_true, Bool.not_true, Bool.not_false, wipeD, List.map_cons, List.map_nil]
        · rw [rng30, List.filterMap_map, List.map_map]
          congr 2
          have : ((fun d => match d with
            | D.int j => some (D.bl (decide (j = ((i7.val : Nat) : Int))))
            | _ => none) ∘ fun k => D.int ((k : Nat) : Int)) = some ∘ (D.bl ∘ fun k => decide (k = i7.val)) := by
            funext a
            show some (D.bl (decide (((a : Nat) : Int) = ((i7.val : Nat) : Int)))) = some (D.bl (decide (a = i7.val)))
            simp only [Int.ofNat_inj]
          rw [this, List.filterMap_eq_map]
      have L3 : ∀ x6 x7 x8 x9 x10 x11 : Option D, evE (mk3 T.sta T.tb 59).1 (.lc false [("entry", 9)] (.nm 9) (.ex (.var 5)) (.yes (.cmp .NotEq (.bi "repr" (.cons (.idx (.var 9) (.con (.int 1))) .nil)) (.bi "repr" (.cons (.var 4) .nil)))) (.var 9)) [some (.scr ns), some (.ref 1), some d, some (.lst (picks i)), some x, some (.lst (rowsL x)), x6, x7, x8, x9, x10, x11] (stO ns s2 []) = .ok (.lst []) (stO ns s2 []) := by
        intro x6 x7 x8 x9 x10 x11
        refine (lc_fm (o := fun _ => none) (ds := rowsL x) (tk_cold 59) (by simp only [evSs, evS.eq_1, evS.eq_2, evS.eq_3, evS.eq_4, evS.eq_5, evS.eq_7, evS.eq_8, evS.eq_9, evS.eq_10, evE.eq_1, evE.eq_2, evE.eq_3, evE.eq_4, evE.eq_5, evE.eq_6, evE.eq_7, evE.eq_8, evE.eq_9, evE.eq_10, evE.eq_11, evE.eq_12, evE.eq_13, evE.eq_15, evE.eq_16, evE.eq_17, evE.eq_18, evE.eq_19, evE.eq_20, evE.eq_21, evE.eq_22, evE.eq_23, evE.eq_24, evE.eq_25, evE.eq_26, evE.eq_27, evL, evO, evC, R_ok, bS_ok, tk_cold, List.getElem?_cons_zero, List.getElem?_cons_succ, conD, List.set_cons_zero, List.set_cons_succ, Option.some.injEq, eq_int, ix_great, ix_rest, ix_turn, ix_cells, se_rest, se_turn, po_great, ne_great, ne_eq, reduceCtorEq, not_true_eq_false, not_false_eq_true, decide_true, decide_false, rc_great, le_st, it_lst, it_tup, ad_int, su_int, lt_int, gt_int, ge_int, le_int, in_int, in_bl, evI, ↓reduceIte, sz0, sz1, sz2, sz3, sz4, sz5, sz6, sz7, sz8, sz9, sz10, List.zip_nil_left, Bool.false_eq_true, Bool.not_true, Bool.not_false]) (by rw [sizeLine_eq]; simp [rowsL, fieldN]) (cl s2) (fun _ _ _ h => by cases h) ?_).trans rfl
        intro d hd acc
        obtain ⟨p, hp, rfl⟩ := List.mem_map.mp hd
        refine ⟨_, rfl, .inl ⟨?_, rfl⟩⟩
        simp only [evSs, evS.eq_1, evS.eq_2, evS.eq_3, evS.eq_4, evS.eq_5, evS.eq_7, evS.eq_8, evS.eq_9, evS.eq_10, evE.eq_1, evE.eq_2, evE.eq_3, evE.eq_4, evE.eq_5, evE.eq_6, evE.eq_7, evE.eq_8, evE.eq_9, evE.eq_10, evE.eq_11, evE.eq_12, evE.eq_13, evE.eq_15, evE.eq_16, evE.eq_17, evE.eq_18, evE.eq_19, evE.eq_20, evE.eq_21, evE.eq_22, evE.eq_23, evE.eq_24, evE.eq_25, evE.eq_26, evE.eq_27, evL, evO, evC, R_ok, bS_ok, tk_cold, List.getElem?_cons_zero, List.getElem?_cons_succ, conD, List.set_cons_zero, List.set_cons_succ, Option.some.injEq, eq_int, ix_great, ix_rest, ix_turn, ix_cells, se_rest, se_turn, po_great, ne_great, ne_eq, reduceCtorEq, not_true_eq_false, not_false_eq_true, decide_true, decide_false, rc_great, le_st, it_lst, it_tup, ad_int, su_int, lt_int, gt_int, ge_int, le_int, in_int, in_bl, evI, ↓reduceIte, sz0, sz1, sz2, sz3, sz4, sz5, sz6, sz7, sz8, sz9, sz10, List.zip_nil_left, Bool.false_eq_true, Bool.not_true, Bool.not_false, wipeD, List.map_cons, List.map_nil, ixp1, hz, eq_str]
      have L4 : ∀ x6 x7 x8 x9 x10 x11 : Option D, evE (mk3 T.sta T.tb 59).1 (.lc false [("part", 10)] (.nm 10) (.ex (.call "_law_by_position" (.cons (.var 4) .nil) [] .nil)) (.yes (.cmp .NotEq (.bi "repr" (.cons (.var 10) .nil)) (.bi "repr" (.cons (.var 4) .nil)))) (.var 10)) [some (.scr ns), some (.ref 1), some d, some (.lst (picks i)), some x, some (.lst (rowsL x)), x6, x7, x8, x9, x10, x11] (stO ns s2 []) = .ok (.lst []) (stO ns s2 []) := by
        intro x6 x7 x8 x9 x10 x11
        refine (lc_fm (o := fun _ => none) (ds := partL x) (tk_cold 59) (by simp only [evSs, evS.eq_1, evS.eq_2, evS.eq_3, evS.eq_4, evS.eq_5, evS.eq_7, evS.eq_8, evS.eq_9, evS.eq_10, evE.eq_1, evE.eq_2, evE.eq_3, evE.eq_4, evE.eq_5, evE.eq_6, evE.eq_7, evE.eq_8, evE.eq_9, evE.eq_10, evE.eq_11, evE.eq_12, evE.eq_13, evE.eq_15, evE.eq_16, evE.eq_17, evE.eq_18, evE.eq_19, evE.eq_20, evE.eq_21, evE.eq_22, evE.eq_23, evE.eq_24, evE.eq_25, evE.eq_26, evE.eq_27, evL, evO, evC, R_ok, bS_ok, tk_cold, List.getElem?_cons_zero, List.getElem?_cons_succ, conD, List.set_cons_zero, List.set_cons_succ, Option.some.injEq, eq_int, ix_great, ix_rest, ix_turn, ix_cells, se_rest, se_turn, po_great, ne_great, ne_eq, reduceCtorEq, not_true_eq_false, not_false_eq_true, decide_true, decide_false, rc_great, le_st, it_lst, it_tup, ad_int, su_int, lt_int, gt_int, ge_int, le_int, in_int, in_bl, evI, ↓reduceIte, sz0, sz1, sz2, sz3, sz4, sz5, sz6, sz7, sz8, sz9, sz10, List.zip_nil_left, Bool.false_eq_true, Bool.not_true, Bool.not_false, hbp]) (by rw [sizeLine_eq]; simp [partL, fieldN]) (cl s2) (fun _ _ _ h => by cases h) ?_).trans rfl
        intro d hd acc
        obtain ⟨p, hp, rfl⟩ := List.mem_map.mp hd
        refine ⟨_, rfl, .inl ⟨?_, rfl⟩⟩
        simp only [evSs, evS.eq_1, evS.eq_2, evS.eq_3, evS.eq_4, evS.eq_5, evS.eq_7, evS.eq_8, evS.eq_9, evS.eq_10, evE.eq_1, evE.eq_2, evE.eq_3, evE.eq_4, evE.eq_5, evE.eq_6, evE.eq_7, evE.eq_8, evE.eq_9, evE.eq_10, evE.eq_11, evE.eq_12, evE.eq_13, evE.eq_15, evE.eq_16, evE.eq_17, evE.eq_18, evE.eq_19, evE.eq_20, evE.eq_21, evE.eq_22, evE.eq_23, evE.eq_24, evE.eq_25, evE.eq_26, evE.eq_27, evL, evO, evC, R_ok, bS_ok, tk_cold, List.getElem?_cons_zero, List.getElem?_cons_succ, conD, List.set_cons_zero, List.set_cons_succ, Option.some.injEq, eq_int, ix_great, ix_rest, ix_turn, ix_cells, se_rest, se_turn, po_great, ne_great, ne_eq, reduceCtorEq, not_true_eq_false, not_false_eq_true, decide_true, decide_false, rc_great, le_st, it_lst, it_tup, ad_int, su_int, lt_int, gt_int, ge_int, le_int, in_int, in_bl, evI, ↓reduceIte, sz0, sz1, sz2, sz3, sz4, sz5, sz6, sz7, sz8, sz9, sz10, List.zip_nil_left, Bool.false_eq_true, Bool.not_true, Bool.not_false, wipeD, List.map_cons, List.map_nil, hz, eq_str]
      have nn : ∀ S : Sto, cmpD .NotEq (.lst []) (.lst []) S = .ok (.bl false) S := fun S => rfl
      have ap : ∀ S : Sto, binD .Add (.lst (plainN.map fun N => .err N [] [])) (.lst (fieldN.map fun p => .err p.1 [p.2] [x])) S = .ok (.lst (everyL x)) S := fun S => ad_lst S rfl
      unfold picks at L1 L3 L4
      simp only [evSs, evS.eq_1, evS.eq_2, evS.eq_3, evS.eq_4, evS.eq_5, evS.eq_7, evS.eq_8, evS.eq_9, evS.eq_10, evE.eq_1, evE.eq_2, evE.eq_3, evE.eq_4, evE.eq_5, evE.eq_6, evE.eq_7, evE.eq_8, evE.eq_9, evE.eq_10, evE.eq_11, evE.eq_12, evE.eq_13, evE.eq_15, evE.eq_16, evE.eq_17, evE.eq_18, evE.eq_19, evE.eq_20, evE.eq_21, evE.eq_22, evE.eq_23, evE.eq_24, evE.eq_25, evE.eq_26, evE.eq_27, evL, evO, evC, R_ok, bS_ok, tk_cold, List.getElem?_cons_zero, List.getElem?_cons_succ, conD, List.set_cons_zero, List.set_cons_succ, Option.some.injEq, eq_int, ix_great, ix_rest, ix_turn, ix_cells, se_rest, se_turn, po_great, ne_great, ne_eq, reduceCtorEq, not_true_eq_false, not_false_eq_true, decide_true, decide_false, rc_great, le_st, it_lst, it_tup, ad_int, su_int, lt_int, gt_int, ge_int, le_int, in_int, in_bl, evI, ↓reduceIte, sz0, sz1, sz2, sz3, sz4, sz5, sz6, sz7, sz8, sz9, sz10, List.zip_nil_left, Bool.false_eq_true, Bool.not_true, Bool.not_false, p20, d1 _ _ _ (cl s), ht, hpk, hbn, hpl, L1, ap, List.length_cons, List.length_nil, Nat.reduceAdd, Nat.reduceLeDiff, sizeLine_eq]
      clear hq
      generalize hq : evS (Sm.loop (.tp [(.nm 7), (.nm 8)]) _ _) _ _ _ = q
      obtain ⟨e3, S3, rfl, p⟩ := loop_inv (P := fun e S => S = stO ns s2 [] ∧ ∃ x7 x8, e = [some (.scr ns), some (.ref 1), some d, some (.lst (picks i)), some x, some (.lst (rowsL x)), some (.lst (everyL x)), x7, x8, x9, x10, x11]) (ds := enmL 0 (everyL x)) hq (tk_cold 59)
        (by simp only [evSs, evS.eq_1, evS.eq_2, evS.eq_3, evS.eq_4, evS.eq_5, evS.eq_7, evS.eq_8, evS.eq_9, evS.eq_10, evE.eq_1, evE.eq_2, evE.eq_3, evE.eq_4, evE.eq_5, evE.eq_6, evE.eq_7, evE.eq_8, evE.eq_9, evE.eq_10, evE.eq_11, evE.eq_12, evE.eq_13, evE.eq_15, evE.eq_16, evE.eq_17, evE.eq_18, evE.eq_19, evE.eq_20, evE.eq_21, evE.eq_22, evE.eq_23, evE.eq_24, evE.eq_25, evE.eq_26, evE.eq_27, evL, evO, evC, R_ok, bS_ok, tk_cold, List.getElem?_cons_zero, List.getElem?_cons_succ, conD, List.set_cons_zero, List.set_cons_succ, Option.some.injEq, eq_int, ix_great, ix_rest, ix_turn, ix_cells, se_rest, se_turn, po_great, ne_great, ne_eq, reduceCtorEq, not_true_eq_false, not_false_eq_true, decide_true, decide_false, rc_great, le_st, it_lst, it_tup, ad_int, su_int, lt_int, gt_int, ge_int, le_int, in_int, in_bl, evI, ↓reduceIte, sz0, sz1, sz2, sz3, sz4, sz5, sz6, sz7, sz8, sz9, sz10, List.zip_nil_left, Bool.false_eq_true, Bool.not_true, Bool.not_false]; rfl) (by
          rintro d' hd' e S ⟨rfl, x7, x8, rfl⟩
          obtain ⟨j, ks, ds, rfl⟩ := every_mem x d' hd'
          refine ⟨_, rfl, ?_⟩
          have hm : names[j.val]'(by have := j.isLt; exact this) ∈ names := List.getElem_mem _
          have hec : names[j.val]'(by have := j.isLt; exact this) ∈ T.EC := of_decide_eq_true (List.all_eq_true.mp ecN _ hm)
          have hiu := of_decide_eq_true (List.all_eq_true.mp IU _ hm)
          have nb : ∀ S : Sto, cmpD .NotEq (.lst (((List.range 30).map fun k => decide (k = j.val)).map .bl)) (.lst (((List.range 30).map fun k => decide (k = j.val)).map .bl)) S = .ok (.bl false) S := fun S => by
            show (match cmp1 .NotEq (.lst (((List.range 30).map fun k => decide (k = j.val)).map .bl)) (.lst (((List.range 30).map fun k => decide (k = j.val)).map .bl)) with
              | some b => R.ok (D.bl b) S
              | none => .bad) = _
            rw [ne_bl j]
          simp only [evSs, evS.eq_1, evS.eq_2, evS.eq_3, evS.eq_4, evS.eq_5, evS.eq_7, evS.eq_8, evS.eq_9, evS.eq_10, evE.eq_1, evE.eq_2, evE.eq_3, evE.eq_4, evE.eq_5, evE.eq_6, evE.eq_7, evE.eq_8, evE.eq_9, evE.eq_10, evE.eq_11, evE.eq_12, evE.eq_13, evE.eq_15, evE.eq_16, evE.eq_17, evE.eq_18, evE.eq_19, evE.eq_20, evE.eq_21, evE.eq_22, evE.eq_23, evE.eq_24, evE.eq_25, evE.eq_26, evE.eq_27, evL, evO, evC, R_ok, bS_ok, tk_cold, List.getElem?_cons_zero, List.getElem?_cons_succ, conD, List.set_cons_zero, List.set_cons_succ, Option.some.injEq, eq_int, ix_great, ix_rest, ix_turn, ix_cells, se_rest, se_turn, po_great, ne_great, ne_eq, reduceCtorEq, not_true_eq_false, not_false_eq_true, decide_true, decide_false, rc_great, le_st, it_lst, it_tup, ad_int, su_int, lt_int, gt_int, ge_int, le_int, in_int, in_bl, evI, ↓reduceIte, sz0, sz1, sz2, sz3, sz4, sz5, sz6, sz7, sz8, sz9, sz10, List.zip_nil_left, Bool.false_eq_true, Bool.not_true, Bool.not_false, g_TakerError 59, g_ValueError 59, isi_gen 59 hec hiu.1, isi_bty 59 hec hiu.2, mk30 j, L2, nb]
          exact ⟨_, _, rfl, rfl, _, _, rfl⟩) ⟨rfl, _, _, rfl⟩
      obtain ⟨rfl, y7, y8, rfl⟩ := p
      clear hq
      unfold picks
      simp only [evSs, evS.eq_1, evS.eq_2, evS.eq_3, evS.eq_4, evS.eq_5, evS.eq_7, evS.eq_8, evS.eq_9, evS.eq_10, evE.eq_1, evE.eq_2, evE.eq_3, evE.eq_4, evE.eq_5, evE.eq_6, evE.eq_7, evE.eq_8, evE.eq_9, evE.eq_10, evE.eq_11, evE.eq_12, evE.eq_13, evE.eq_15, evE.eq_16, evE.eq_17, evE.eq_18, evE.eq_19, evE.eq_20, evE.eq_21, evE.eq_22, evE.eq_23, evE.eq_24, evE.eq_25, evE.eq_26, evE.eq_27, evL, evO, evC, R_ok, bS_ok, tk_cold, List.getElem?_cons_zero, List.getElem?_cons_succ, conD, List.set_cons_zero, List.set_cons_succ, Option.some.injEq, eq_int, ix_great, ix_rest, ix_turn, ix_cells, se_rest, se_turn, po_great, ne_great, ne_eq, reduceCtorEq, not_true_eq_false, not_false_eq_true, decide_true, decide_false, rc_great, le_st, it_lst, it_tup, ad_int, su_int, lt_int, gt_int, ge_int, le_int, in_int, in_bl, evI, ↓reduceIte, sz0, sz1, sz2, sz3, sz4, sz5, sz6, sz7, sz8, sz9, sz10, List.zip_nil_left, Bool.false_eq_true, Bool.not_true, Bool.not_false, L3, L4, nn]
      exact ⟨_, _, rfl, s2, rfl, by omega, by omega, _, _, _, _, _, _, _, _, _, _, rfl⟩) ⟨⟨g, 0, 0⟩, rfl, Int.le_refl _, (show (0 : Int) + 100 * ((2 : Nat) : Int) ≤ 600 by decide), none, none, none, none, none, none, none, none, none, none, rfl⟩
    obtain ⟨s, rfl, _, _, x2, x3, x4, x5, x6, x7, x8, x9, x10, x11, rfl⟩ := p
    have hm := marks_ok (k := 57) (C := "TakerError") (ks := []) (ds := []) (b := fun _ => false) ecT (fun N hN => of_decide_eq_true (List.all_eq_true.mp IT N hN)) (stO ns s [])
    have hn : ∀ S : Sto, cmpD .NotIn (.bl true) (.lst (names.map fun _ => .bl false)) S = .ok (.bl true) S := fun S => by
      show (match cmp1 .NotIn (.bl true) (.lst (names.map fun _ => .bl false)) with
        | some b => R.ok (D.bl b) S
        | none => .bad) = _
      rw [show cmp1 .NotIn (.bl true) (.lst (names.map fun _ => .bl false)) = some true from by decide +kernel]
    simp only [evSs, evS.eq_1, evS.eq_2, evS.eq_3, evS.eq_4, evS.eq_5, evS.eq_7, evS.eq_8, evS.eq_9, evS.eq_10, evE.eq_1, evE.eq_2, evE.eq_3, evE.eq_4, evE.eq_5, evE.eq_6, evE.eq_7, evE.eq_8, evE.eq_9, evE.eq_10, evE.eq_11, evE.eq_12, evE.eq_13, evE.eq_15, evE.eq_16, evE.eq_17, evE.eq_18, evE.eq_19, evE.eq_20, evE.eq_21, evE.eq_22, evE.eq_23, evE.eq_24, evE.eq_25, evE.eq_26, evE.eq_27, evL, evO, evC, R_ok, bS_ok, tk_cold, List.getElem?_cons_zero, List.getElem?_cons_succ, conD, List.set_cons_zero, List.set_cons_succ, Option.some.injEq, eq_int, ix_great, ix_rest, ix_turn, ix_cells, se_rest, se_turn, po_great, ne_great, ne_eq, reduceCtorEq, not_true_eq_false, not_false_eq_true, decide_true, decide_false, rc_great, le_st, it_lst, it_tup, ad_int, su_int, lt_int, gt_int, ge_int, le_int, in_int, in_bl, evI, ↓reduceIte, sz0, sz1, sz2, sz3, sz4, sz5, sz6, sz7, sz8, sz9, sz10, List.zip_nil_left, Bool.false_eq_true, Bool.not_true, Bool.not_false, rx_TakerError 59, g_ValueError 59, isi_bty 59 ecT IV, hm, hn]
    exact ⟨_, rfl⟩
  obtain ⟨S', hS⟩ := key
  exact ⟨S'.take 0, HasDf.call (k := 59) (f := "law") (np := 1) (nN := 12) (b := dlaw.body) ⟨dlaw, rfl, rfl, rfl, rfl, rfl, by decide⟩ rfl hS rfl⟩
end K08

set_option Elab.async false
set_option linter.all false
set_option maxRecDepth 100000
set_option maxHeartbeats 0
open PySem PySem.W PySem.Calls PyProof.Rows
theorem PySem.Challenge.cw_calltakers_k08_errors_apart_holds : PySem.Challenge.rw_calltakers_k08_errors_apart.Holds := by
  w_on; o_law
  refine HandSHeadRun.head_any (r := K08.Rw) (q := view K08.Rw.prog [42]) (H := K08.hk) (ob := K08.ob) (M := 20000) (loose := (List.append ["__name__", "TakerError", "BadValue", "BadPattern", "BadExpectation", "NotFree", "NotKept", "NoIndex", "Conflicted", "NoConflict", "NotWon", "NoState", "Lost", "BadHands", "NoOrder", "NotAllowed", "BadCount", "BadOrder", "BadCall", "BadPlan"] ["NoName", "BadRecord", "BadMove", "BadResult", "BadRule", "Faulted", "Unexpected", "Undecided", "Missing", "NoPlace", "BadName", "BadText", "_law_begun", "_law_mixed", "_law_take", "_law_pick", "_law_plain_marks", "_law_marks", "_law_plain", "_law_by_name", "_law_by_position"])) (d := HandSHeadRun.topDef K08.Rw.prog 42) (kwd := []) K08.ob_eq
    (by kernel_rfl) (fun s => by kernel_rfl) K08.run (by kernel_rfl) (by kernel_rfl) (by kernel_rfl) (by rfl) (by first | assumption | decide +kernel) (by decide +kernel) ⟨rfl, rfl, rfl, rfl, rfl, by decide +kernel⟩ ?hw ?hc
  case hw => w_witness2
  case hc =>
    refine Fw.walk_fw (l := PySem.Challenge.rw_calltakers_k08_errors_apart) (n := 63) (k := 60) rfl (by decide) (by kernel_rfl) ⟨rfl, by decide, by decide⟩ ?F
    intro w mg fa h Y G hmg0
    obtain ⟨K, KX, c⟩ := Y
    have hmg : mg ("law" : PySem.Str) = some (.ref fa) := by
      have e : (HandSHeadRun.topDef K08.Rw.prog 42).name = ("law" : PySem.Str) := by kernel_rfl
      rw [← e]
      exact hmg0
    exact Fw.LawIn.law_ok K08.still K08.binds KX G c K08.sbinds (by kernel_rfl) (by kernel_rfl) hmg (by decide +kernel) (fun ns hl _ => K08.plain ns hl)

