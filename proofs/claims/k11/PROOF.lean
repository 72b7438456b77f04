import PyProof.Rows.All
import Wide.All
import OpenK.AllK
import Wide.FinOn
import HandS.ForMost
import HandS.Exc
import HandS.ExcOwn
import HandS.TryOnly
import HandS.WordsExc
import HandS.Lambda
import HandS.Wide
import HandS.TupAny
import HandS.TupMul
import HandS.IsInst
import HandS.TupLe
import HandS.Dict
import HandS.Style
import HandS.Text
import HandS.Comp
import HandS.Zip
import HandS.Walk
import HandS.Defaults
import HandS.More
import HandS.ExcIs
import HandS.Conv
import HandS.Head0
import HandS.Head1
import HandS.Head2
import HandS.HeadEnd
import HandS.HeadHook1
import HandS.HeadHook2
import HandS.EndBits
import HandS.EndTab
import HandS.HeadHook4
import HandS.TupSets
import HandS.SetFor
import HandS.Codes
import HandS.FStr
import HandS.Iter
import KE.KExcSuper
import HandS.ExcInit
import HandS.ExcField
import HandS.HeadHook3
import HandS.Deep
import KE.GoesZip
import KE.KStateDown
import HandS.Ends
import HandS.Words
import PySem.Challenge.RW_growjoins_k11_texts_of_questions_and_pla
set_option Elab.async false
set_option linter.all false
set_option maxRecDepth 100000
set_option maxHeartbeats 4000000
namespace MP
open PySem PySem.Spec L2
open PyProof.Rows hiding St

/-! ### values as trees -/
abbrev Ky := Sum Int (List Nat)
inductive D where
  | non | bl (b : Bool) | int (i : Int) | str (cs : List Nat)
  | tup (xs : List D) | lst (xs : List D)
  | dct (ks : List Ky) (vs : List D)
  | dtp (ks : List (List Int)) (vs : List D)
  | scr (ns : List Int)
  deriving Inhabited
/-- a slot: undefined, a value, an owned list or dict, a borrowed one, one to be read alone -/
inductive Sl where
  | no | va (d : D) | ow (d : D) | bo (d : D) | ro (d : D)
  /-- a function that lies at f: what it was made of lay in the heap H1, the addresses Om owned there -/
  | fx (f : Addr) (H1 : Hp) (Om : Addr → Prop)
  deriving Inhabited
abbrev Ev := List Sl
inductive RE where
  | ok (d : D) (e : Ev) | ex (c : Nat) (e : Ev) | bad
inductive RS where
  | nx (e : Ev) | rt (d : D) (e : Ev) | bk (e : Ev) | ct (e : Ev) | ex (c : Nat) (e : Ev) | bad
inductive RA where
  | ok (ds : List D) (e : Ev) | ex (c : Nat) (e : Ev) | bad
abbrev ME := Ev → RE
abbrev MS := Ev → RS
abbrev MA := Ev → RA

def kyK : Ky → Key
  | .inl i => .inl i
  | .inr cs => .inr ⟨cs.toArray⟩

/-- a tuple, a list of the written part -/
def KT (K : PySem.W.Frag) (a : Addr) (xs : List V) : Prop :=
  ∃ (o : Obj) (its : Array Value) (n : Nat), K.lookup a = some o ∧ o.cls = .type "tuple" ∧ o.data = .seq its n ∧ its.size ≤ sizeLine ∧ Vals xs its.toList
def KL (K : PySem.W.Frag) (a : Addr) (xs : List V) : Prop :=
  ∃ (o : Obj) (its : Array Value) (n : Nat), K.lookup a = some o ∧ o.cls = .type "list" ∧ o.dict = none ∧ o.data = .seq its n ∧ its.size ≤ sizeLine ∧ Vals xs its.toList

mutual
def RelD (K : PySem.W.Frag) (H : Hp) (O : Addr → Prop) : D → V → Prop
  | .non, v => v = .non
  | .bl b, v => v = .bl b
  | .int i, v => v = .int i
  | .str cs, v => v = .str ⟨cs.toArray⟩
  | .tup xs, v => ∃ a vs, v = .ref a ∧ ((Rd H a (.tup vs) ∧ ¬ O a) ∨ KT K a vs) ∧ RelL K H O xs vs
  | .lst xs, v => ∃ a vs, v = .ref a ∧ H a = some (.lst vs) ∧ ¬ O a ∧ RelL K H O xs vs
  | .scr ns, v => ∃ a, v = .ref a ∧ ((Rd H a (.lst (ns.map V.int)) ∧ ¬ O a) ∨ KL K a (ns.map V.int))
  | .dct _ _, _ => False
  | .dtp _ _, _ => False
def RelL (K : PySem.W.Frag) (H : Hp) (O : Addr → Prop) : List D → List V → Prop
  | [], vs => vs = []
  | x :: xs, vs => ∃ v r, vs = v :: r ∧ RelD K H O x v ∧ RelL K H O xs r
end
/-- what lies at an owned address -/
def CRel (K : PySem.W.Frag) (H : Hp) (O : Addr → Prop) : D → Addr → Prop
  | .lst xs, a => ∃ vs, H a = some (.lst vs) ∧ RelL K H O xs vs
  | .dct ks xs, a => ∃ vs, H a = some (.dK ((ks.map kyK).zip vs)) ∧ ks.length = vs.length ∧ RelL K H O xs vs
  | .dtp ks xs, a => ∃ vs, H a = some (.dT ((ks.map (List.map Sum.inl)).zip vs)) ∧ ks.length = vs.length ∧ RelL K H O xs vs
  | _, _ => False
/-- what an operation that keeps nothing may read -/
def PRel (K : PySem.W.Frag) (H : Hp) (O : Addr → Prop) (d : D) (v : V) : Prop := RelD K H O d v ∨ ∃ a, v = .ref a ∧ CRel K H O d a
def PRelL (K : PySem.W.Frag) (H : Hp) (O : Addr → Prop) : List D → List V → Prop
  | [], vs => vs = []
  | x :: xs, vs => ∃ v r, vs = v :: r ∧ PRel K H O x v ∧ PRelL K H O xs r

/-- no table of code objects -/
abbrev NTb (o : HO) : Prop := ∀ ps : Array Value, o ≠ .tbl ps
/-- what a step may do: objects not owned stay (but tables); what is owned then was owned, or is new (or was a table) -/
def Ext (O : Addr → Prop) (H : Hp) (O' : Addr → Prop) (H' : Hp) : Prop :=
  (∀ b o, H b = some o → ¬ O b → NTb o → H' b = some o) ∧ ∀ b, O' b → O b ∨ H b = none ∨ ∃ ps, H b = some (.tbl ps)
theorem Ext.refl {O : Addr → Prop} {H : Hp} : Ext O H O H := ⟨fun _ _ h _ _ => h, fun _ h => .inl h⟩
theorem Ext.back {O O' : Addr → Prop} {H H' : Hp} (x : Ext O H O' H') {c : Addr} (h : O' c ∨ H' c = none ∨ ∃ ps, H' c = some (.tbl ps)) : O c ∨ H c = none ∨ ∃ ps, H c = some (.tbl ps) := by
  by_cases n : O c
  · exact .inl n
  · cases e : H c with
    | none => exact .inr (.inl rfl)
    | some o =>
      by_cases t : NTb o
      · have k := x.1 c o e n t
        rcases h with h | h | ⟨ps, h⟩
        · rcases x.2 c h with q | q | ⟨ps, q⟩
          · exact absurd q n
          · rw [e] at q; cases q
          · rw [e] at q; cases q; exact absurd rfl (t ps)
        · rw [k] at h; cases h
        · rw [k] at h; cases h; exact absurd rfl (t ps)
      · obtain ⟨ps, hp⟩ := Classical.not_forall.mp t
        exact .inr (.inr ⟨ps, by rw [Classical.not_not.mp hp]⟩)
theorem Ext.trans {O O1 O2 : Addr → Prop} {H H1 H2 : Hp} (a : Ext O H O1 H1) (b : Ext O1 H1 O2 H2) : Ext O H O2 H2 := by
  refine ⟨fun c o h n t => b.1 c o (a.1 c o h n t) (fun q => ?_) t, fun c q => a.back (b.2 c q)⟩
  rcases a.2 c q with q | q | ⟨ps, q⟩
  · exact n q
  · rw [h] at q; cases q
  · rw [h] at q; cases q; exact t ps rfl
theorem Ext.of {O : Addr → Prop} {H H' : Hp} (s : Same H H') : Ext O H O H' := ⟨fun b o h _ _ => s b o h, fun _ h => .inl h⟩
theorem Ext.sub {O O' : Addr → Prop} {H : Hp} (s : ∀ b, O' b → O b) : Ext O H O' H := ⟨fun b o h _ _ => h, fun b h => .inl (s b h)⟩

theorem Ext.not {O O' : Addr → Prop} {H H' : Hp} {a : Addr} {o : HO} (x : Ext O H O' H') (h : H a = some o) (n : ¬ O a) (t : NTb o) : ¬ O' a := fun q => by
  rcases x.2 a q with q | q | ⟨ps, q⟩
  · exact n q
  · rw [h] at q; cases q
  · rw [h] at q; cases q; exact t ps rfl
theorem Ext.rd {O O' : Addr → Prop} {H H' : Hp} {a : Addr} {u : HO} (x : Ext O H O' H') (h : Rd H a u) (n : ¬ O a) (t : NTb u) : Rd H' a u ∧ ¬ O' a := by
  rcases h with h | ⟨o, h⟩
  · exact ⟨.inl (x.1 a _ h n t), x.not h n t⟩
  · exact ⟨.inr ⟨o, x.1 a _ h n fun ps z => by cases z⟩, x.not h n fun ps z => by cases z⟩
theorem nt_lst {vs : List V} : NTb (.lst vs) := fun ps z => by cases z
theorem nt_tup {vs : List V} : NTb (.tup vs) := fun ps z => by cases z
mutual
theorem RelD.ext {K : PySem.W.Frag} {O O' : Addr → Prop} {H H' : Hp} (x : Ext O H O' H') : ∀ (d : D) (v : V), RelD K H O d v → RelD K H' O' d v
  | .non, v, h => by simp only [RelD] at h ⊢; exact h
  | .bl b, v, h => by simp only [RelD] at h ⊢; exact h
  | .int i, v, h => by simp only [RelD] at h ⊢; exact h
  | .str cs, v, h => by simp only [RelD] at h ⊢; exact h
  | .tup xs, v, h => by
    simp only [RelD] at h ⊢
    obtain ⟨a, vs, e, q, r⟩ := h
    refine ⟨a, vs, e, ?_, RelL.ext x xs vs r⟩
    rcases q with ⟨q, n⟩ | q
    · exact .inl (x.rd q n nt_tup)
    · exact .inr q
  | .lst xs, v, h => by
    simp only [RelD] at h ⊢
    obtain ⟨a, vs, e, q, n, r⟩ := h
    exact ⟨a, vs, e, x.1 a _ q n nt_lst, x.not q n nt_lst, RelL.ext x xs vs r⟩
  | .scr ns, v, h => by
    simp only [RelD] at h ⊢
    obtain ⟨a, e, q⟩ := h
    refine ⟨a, e, ?_⟩
    rcases q with ⟨q, n⟩ | q
    · exact .inl (x.rd q n nt_lst)
    · exact .inr q
  | .dct _ _, v, h => by simp only [RelD] at h
  | .dtp _ _, v, h => by simp only [RelD] at h
theorem RelL.ext {K : PySem.W.Frag} {O O' : Addr → Prop} {H H' : Hp} (x : Ext O H O' H') : ∀ (ds : List D) (vs : List V), RelL K H O ds vs → RelL K H' O' ds vs
  | [], vs, h => by simp only [RelL] at h ⊢; exact h
  | d :: ds, vs, h => by
    simp only [RelL] at h ⊢
    obtain ⟨v, r, e, h1, h2⟩ := h
    exact ⟨v, r, e, RelD.ext x d v h1, RelL.ext x ds r h2⟩
end
theorem CRel.ext {K : PySem.W.Frag} {O O' : Addr → Prop} {H H' : Hp} (x : Ext O H O' H') {d : D} {a : Addr} (h : CRel K H O d a) (s : H' a = H a) : CRel K H' O' d a := by
  cases d <;> simp only [CRel] at h ⊢ <;> try exact h
  · obtain ⟨vs, e, r⟩ := h
    exact ⟨vs, s.trans e, RelL.ext x _ _ r⟩
  · obtain ⟨vs, e, l, r⟩ := h
    exact ⟨vs, s.trans e, l, RelL.ext x _ _ r⟩
  · obtain ⟨vs, e, l, r⟩ := h
    exact ⟨vs, s.trans e, l, RelL.ext x _ _ r⟩
theorem CRel.some {K : PySem.W.Frag} {O : Addr → Prop} {H : Hp} {d : D} {a : Addr} (h : CRel K H O d a) : H a ≠ none := by
  cases d <;> simp only [CRel] at h
  · obtain ⟨vs, e, r⟩ := h
    rw [e]; intro z; cases z
  · obtain ⟨vs, e, r⟩ := h
    rw [e]; intro z; cases z
  · obtain ⟨vs, e, r⟩ := h
    rw [e]; intro z; cases z

/-! ### the state of an activation -/
/-- the classes of the errors, the tables of the makers of lambdas -/
structure CT where
  f : Nat → Value
  T : List (Addr × Str)
  /-- the one field of the errors that keep one -/
  fld : Nat → Str
instance : CoeFun CT (fun _ => Nat → Value) := ⟨fun C c => C.f (c % 1000)⟩
/-- an error's dict: none below 1000; else it keeps the number c / 1000 - 1 -/
def XD (C : CT) (c : Nat) (d : Option Addr) (H : Hp) : Prop := (c < 1000 → d = none) ∧ (1000 ≤ c → ∃ dd, d = some dd ∧ H dd = some (.xd [(C.fld (c % 1000), .int ((c / 1000 - 1 : Nat) : Int))]))
structure Fx where
  K : PySem.W.Frag
  O0 : Addr → Prop
  H0 : Hp
  B : Addr → Prop
  T : List (Addr × Str)
def FX (F : Fx) (K : PySem.W.Frag) (C : CT) : Prop := F.K = K ∧ F.T = C.T
def Ow (F : Fx) (env : Ev) (σ : St) (a : Addr) : Prop := F.O0 a ∨ ∃ (i : Nat) (d : D), env[i]? = some (Sl.ow d) ∧ σ[i]? = some (some (V.ref a))
/-- what is known of a function's making -/
structure FSub (F : Fx) (H1 : Hp) (Om : Addr → Prop) : Prop where
  k : ∀ c o, H1 c = some o → (∀ p ∈ F.T, p.1 ≠ c) → NTb o → F.H0 c = some o ∧ ¬ F.B c
  o : ∀ b, F.O0 b → Om b ∨ H1 b = none ∨ ∃ ps, H1 b = some (.tbl ps)
  n : ∀ b o, H1 b = some o → NTb o → F.H0 b ≠ none
/-- there, and a table only if it is one of ours -/
structure Dm (T : List (Addr × Str)) (H : Hp) (a : Addr) : Prop where
  n : H a ≠ none
  t : ∀ ps, H a = some (.tbl ps) → ∃ p ∈ T, p.1 = a
structure SR (F : Fx) (env : Ev) (σ : St) (H : Hp) : Prop where
  fr : ∀ b o, F.H0 b = some o → ¬ F.B b → NTb o → H b = some o
  od : ∀ a, F.O0 a → Dm F.T H a
  bo0 : ∀ a, F.B a → F.O0 a
  len : env.length = σ.length
  va : ∀ (i : Nat) (d : D), env[i]? = some (Sl.va d) → ∃ v, σ[i]? = some (some v) ∧ RelD F.K H (Ow F env σ) d v
  ow : ∀ (i : Nat) (d : D), env[i]? = some (Sl.ow d) → ∃ a, σ[i]? = some (some (V.ref a)) ∧ (∀ o, F.H0 a = some o → ¬ NTb o) ∧ ¬ F.O0 a ∧ CRel F.K H (Ow F env σ) d a
  bo : ∀ (i : Nat) (d : D), env[i]? = some (Sl.bo d) → ∃ a, σ[i]? = some (some (V.ref a)) ∧ F.B a ∧ CRel F.K H (Ow F env σ) d a
  ro : ∀ (i : Nat) (d : D), env[i]? = some (Sl.ro d) → ∃ a, σ[i]? = some (some (V.ref a)) ∧ F.O0 a ∧ ¬ F.B a ∧ CRel F.K H (Ow F env σ) d a
  dj : ∀ (i j : Nat) (a : Addr) (d d' : D), env[i]? = some (Sl.ow d) → env[j]? = some (Sl.ow d') → σ[i]? = some (some (V.ref a)) → σ[j]? = some (some (V.ref a)) → i = j
  djb : ∀ (i j : Nat) (a : Addr) (d d' : D), env[i]? = some (Sl.bo d) → env[j]? = some (Sl.bo d') → σ[i]? = some (some (V.ref a)) → σ[j]? = some (some (V.ref a)) → i = j
  tO : ∀ p ∈ F.T, F.B p.1
  tb : LamX.Tabs F.T H
  fx : ∀ (i : Nat) (f : Addr) (H1 : Hp) (Om : Addr → Prop), env[i]? = some (Sl.fx f H1 Om) → σ[i]? = some (some (V.ref f)) ∧ FSub F H1 Om

theorem SR.dom {F : Fx} {env : Ev} {σ : St} {H : Hp} (s : SR F env σ H) {a : Addr} (h : Ow F env σ a) : H a ≠ none := by
  rcases h with h | ⟨i, d, h1, h2⟩
  · exact (s.od a h).n
  · obtain ⟨b, e, _, _, c⟩ := s.ow i d h1
    rw [h2] at e
    cases e
    exact c.some
theorem SR.dm {F : Fx} {env : Ev} {σ : St} {H : Hp} (s : SR F env σ H) {a : Addr} (h : Ow F env σ a) : Dm F.T H a := by
  rcases h with h | ⟨i, d, h1, h2⟩
  · exact s.od a h
  · obtain ⟨b, e, _, _, c⟩ := s.ow i d h1
    rw [h2] at e
    cases e
    refine ⟨c.some, fun ps z => ?_⟩
    cases d <;> simp only [CRel] at c
    · obtain ⟨vs, e, r⟩ := c
      rw [e] at z; cases z
    · obtain ⟨vs, e, r⟩ := c
      rw [e] at z; cases z
    · obtain ⟨vs, e, r⟩ := c
      rw [e] at z; cases z
theorem Dm.same {T : List (Addr × Str)} {H H' : Hp} {a : Addr} (d : Dm T H a) (g : Same H H') : Dm T H' a := by
  have e : H' a = H a := by
    cases e : H a with
    | none => exact absurd e d.n
    | some o => rw [g a o e]
  exact ⟨by rw [e]; exact d.n, fun ps z => d.t ps (by rw [← e]; exact z)⟩
theorem SR.new {F : Fx} {env : Ev} {σ : St} {H : Hp} (s : SR F env σ H) {p : Addr} (h : H p = none) : ¬ Ow F env σ p := fun q => s.dom q h
/-- what grows the heap alone -/
theorem SR.grow {F : Fx} {env : Ev} {σ : St} {H H' : Hp} (s : SR F env σ H) (g : Same H H') : SR F env σ H' := by
  have x : Ext (Ow F env σ) H (Ow F env σ) H' := Ext.of g
  have st : ∀ a, H a ≠ none → H' a = H a := fun a n => by
    cases e : H a with
    | none => exact absurd e n
    | some o => rw [g a o e]
  refine ⟨fun b o h n t => g b o (s.fr b o h n t), fun a h => (s.od a h).same g, s.bo0, s.len, fun i d h => ?_, fun i d h => ?_, fun i d h => ?_, fun i d h => ?_, s.dj, s.djb, s.tO, s.tb.ext g, s.fx⟩
  · obtain ⟨v, e, r⟩ := s.va i d h
    exact ⟨v, e, r.ext x⟩
  · obtain ⟨a, e, n, m, c⟩ := s.ow i d h
    exact ⟨a, e, n, m, c.ext x (st a c.some)⟩
  · obtain ⟨a, e, n, c⟩ := s.bo i d h
    exact ⟨a, e, n, c.ext x (st a c.some)⟩
  · obtain ⟨a, e, n, m, c⟩ := s.ro i d h
    exact ⟨a, e, n, m, c.ext x (st a c.some)⟩
theorem crel_tbl {K : PySem.W.Frag} {H : Hp} {O : Addr → Prop} {d : D} {a : Addr} (h : CRel K H O d a) {ps : Array Value} : H a ≠ some (.tbl ps) := by
  cases d <;> simp only [CRel] at h
  · obtain ⟨vs, e, r⟩ := h
    rw [e]; intro z; cases z
  · obtain ⟨vs, e, r⟩ := h
    rw [e]; intro z; cases z
  · obtain ⟨vs, e, r⟩ := h
    rw [e]; intro z; cases z
theorem crel_code {K : PySem.W.Frag} {H : Hp} {O : Addr → Prop} {d : D} {a c : Addr} {q : Str} (h : CRel K H O d a) : H a ≠ some (LamX.CodeO c q) := by
  cases d <;> simp only [CRel] at h
  · obtain ⟨vs, e, r⟩ := h
    rw [e]; intro z; cases z
  · obtain ⟨vs, e, r⟩ := h
    rw [e]; intro z; cases z
  · obtain ⟨vs, e, r⟩ := h
    rw [e]; intro z; cases z
/-- what changes no table and no code -/
theorem tabs_put {T : List (Addr × Str)} {K : PySem.W.Frag} {H H' : Hp} {O : Addr → Prop} {d : D} {a : Addr} (t : LamX.Tabs T H) (c : CRel K H O d a) (st : ∀ b, b ≠ a → H b ≠ none → H' b = H b) : LamX.Tabs T H' := fun p hp => by
  obtain ⟨ps, h1, h2, h3⟩ := t p hp
  have n1 : p.1 ≠ a := fun e => crel_tbl c (by rw [← e]; exact h1)
  refine ⟨ps, by rw [st _ n1 (by rw [h1]; intro z; cases z)]; exact h1, h2, fun pos cv hc => ?_⟩
  obtain ⟨c0, e1, e2⟩ := h3 pos cv hc
  have n2 : c0 ≠ a := fun e => crel_code c (by rw [← e]; exact e2)
  exact ⟨c0, e1, by rw [st _ n2 (by rw [e2]; intro z; cases z)]; exact e2⟩
/-- what may change tables -/
structure GrowT (T : List (Addr × Str)) (H H' : Hp) : Prop where
  k : ∀ c o, H c = some o → (∀ p ∈ T, p.1 ≠ c) → NTb o → H' c = some o
  n : ∀ p ∈ T, H' p.1 ≠ none
  t : LamX.Tabs T H'
theorem GrowT.trans {T : List (Addr × Str)} {H H1 H2 : Hp} (a : GrowT T H H1) (b : GrowT T H1 H2) : GrowT T H H2 := ⟨fun c o h q t => b.k c o (a.k c o h q t) q t, b.n, b.t⟩
theorem SR.gt {F : Fx} {env : Ev} {σ : St} {H H' : Hp} (s : SR F env σ H) (g : Same H H') : GrowT F.T H H' :=
  ⟨fun c o h _ _ => g c o h, fun p hp => (by
    obtain ⟨ps, h1, _⟩ := s.tb p hp
    rw [g _ _ h1]
    intro z
    cases z), s.tb.ext g⟩
theorem SR.own_t {F : Fx} {env : Ev} {σ : St} {H : Hp} (s : SR F env σ H) {p : Addr × Str} (hp : p ∈ F.T) : Ow F env σ p.1 := .inl (s.bo0 _ (s.tO p hp))
theorem crel_nt {K : PySem.W.Frag} {H : Hp} {O : Addr → Prop} {d : D} {a : Addr} {o : HO} (h : CRel K H O d a) (e : H a = some o) : NTb o := fun ps z => crel_tbl h (by rw [e, z])
theorem SR.st_t {F : Fx} {env : Ev} {σ : St} {H H' : Hp} {O : Addr → Prop} (s : SR F env σ H) (g : GrowT F.T H H') {d : D} {a : Addr} (c : CRel F.K H O d a) : H' a = H a := by
  cases e : H a with
  | none => exact absurd e c.some
  | some o =>
    refine g.k a o e (fun p hp z => ?_) (crel_nt c e)
    obtain ⟨ps, h1, _⟩ := s.tb p hp
    rw [z] at h1
    exact crel_tbl c h1
theorem Dm.growT {T : List (Addr × Str)} {H H' : Hp} {a : Addr} (d : Dm T H a) (g : GrowT T H H') : Dm T H' a := by
  by_cases q : ∀ p ∈ T, p.1 ≠ a
  · cases e : H a with
    | none => exact absurd e d.n
    | some o =>
      have nt : NTb o := fun ps z => by
        obtain ⟨p, hp, e2⟩ := d.t ps (by rw [e, z])
        exact q p hp e2
      have e2 := g.k a o e q nt
      exact ⟨(by rw [e2]; intro z; cases z), fun ps z => absurd (Option.some.inj (e2.symm.trans z)) (nt ps)⟩
  · obtain ⟨p, hp⟩ := Classical.not_forall.mp q
    obtain ⟨hp, e⟩ := Classical.not_imp.mp hp
    have e := Decidable.not_not.mp e
    exact ⟨by rw [← e]; exact g.n p hp, fun ps _ => ⟨p, hp, e⟩⟩
theorem SR.some_t {F : Fx} {env : Ev} {σ : St} {H H' : Hp} (s : SR F env σ H) (g : GrowT F.T H H') {a : Addr} (h : Ow F env σ a) : H' a ≠ none := ((s.dm h).growT g).n
/-- to a larger lot of owned addresses, over new ones -/
theorem SR.ext_t {F : Fx} {env : Ev} {σ : St} {H H' : Hp} {O' : Addr → Prop} (s : SR F env σ H) (g : GrowT F.T H H') (h1 : ∀ b, Ow F env σ b → O' b) (h2 : ∀ b, O' b → Ow F env σ b ∨ H b = none) : Ext (Ow F env σ) H O' H' := 
  ⟨fun b o h n t => g.k b o h (fun p hp e => n (e ▸ s.own_t hp)) t, fun b h => (h2 b h).elim .inl fun e => .inr (.inl e)⟩
theorem SR.growT {F : Fx} {env : Ev} {σ : St} {H H' : Hp} (s : SR F env σ H) (g : GrowT F.T H H') : SR F env σ H' ∧ Ext (Ow F env σ) H (Ow F env σ) H' := by
  have x : Ext (Ow F env σ) H (Ow F env σ) H' := s.ext_t g (fun _ h => h) fun _ h => .inl h
  refine ⟨⟨fun b o h n t => g.k b o (s.fr b o h n t) (fun p hp e => n (e ▸ s.tO p hp)) t, fun a h => (s.od a h).growT g, s.bo0, s.len, fun i d h => ?_, fun i d h => ?_, fun i d h => ?_, fun i d h => ?_, s.dj, s.djb, s.tO, g.t, s.fx⟩, x⟩
  · obtain ⟨v, e, r⟩ := s.va i d h
    exact ⟨v, e, r.ext x⟩
  · obtain ⟨a, e, n, m, c⟩ := s.ow i d h
    exact ⟨a, e, n, m, c.ext x (s.st_t g c)⟩
  · obtain ⟨a, e, n, c⟩ := s.bo i d h
    exact ⟨a, e, n, c.ext x (s.st_t g c)⟩
  · obtain ⟨a, e, n, m, c⟩ := s.ro i d h
    exact ⟨a, e, n, m, c.ext x (s.st_t g c)⟩
theorem same_upd {H : Hp} {p : Addr} {o : HO} (h : H p = none) : Same H (upd H p o) := fun b x e => by
  rw [upd_ne (ne_of_none e h)]
  exact e

/-! ### the judgements -/
def PostE (F : Fx) (C : CT) (W : WX) (env : Ev) (σ : St) (H : Hp) (Q : VK) : RE → Prop
  | .ok d env' => ∀ v H', SR F env' σ H' → Ext (Ow F env σ) H (Ow F env' σ) H' → RelD F.K H' (Ow F env' σ) d v → Q v H'
  | .ex c env' => ∀ H', SR F env' σ H' → Ext (Ow F env σ) H (Ow F env' σ) H' → ∀ d, XD C c d H' → W (C c) d σ H'
  | .bad => False
/-- an expression of the program and what it does to an environment -/
structure JE (X : Cx) (C : CT) (W : WX) (e : Expr) (m : ME) : Prop where
  run : ∃ t, PE X e t ∧ ∀ F env σ H Q, FX F X.K C → SR F env σ H → PostE F C W env σ H Q (m env) → t σ H Q
/-- what an operand is, behind all operands -/
def LT (F : Fx) (σ : St) (l : Ev → D → Option D) (d : D) (v : V) (env1 : Ev) (H1 : Hp) : Prop :=
  ∀ env2 H2, SR F env2 σ H2 → Ext (Ow F env1 σ) H1 (Ow F env2 σ) H2 → ∀ d2, l env2 d = some d2 → PRel F.K H2 (Ow F env2 σ) d2 v
theorem LT.later {F : Fx} {σ : St} {l : Ev → D → Option D} {d : D} {v : V} {env1 env2 : Ev} {H1 H2 : Hp} (h : LT F σ l d v env1 H1) (x : Ext (Ow F env1 σ) H1 (Ow F env2 σ) H2) : LT F σ l d v env2 H2 :=
  fun env3 H3 s y d2 e => h env3 H3 s (x.trans y) d2 e
def PostO (F : Fx) (C : CT) (W : WX) (env : Ev) (σ : St) (H : Hp) (l : Ev → D → Option D) (Q : VK) : RE → Prop
  | .ok d env' => ∀ v H', SR F env' σ H' → Ext (Ow F env σ) H (Ow F env' σ) H' → LT F σ l d v env' H' → Q v H'
  | .ex c env' => ∀ H', SR F env' σ H' → Ext (Ow F env σ) H (Ow F env' σ) H' → ∀ d, XD C c d H' → W (C c) d σ H'
  | .bad => False
structure JO (X : Cx) (C : CT) (W : WX) (e : Expr) (m : ME) (l : Ev → D → Option D) : Prop where
  run : ∃ t, PE X e t ∧ ∀ F env σ H Q, FX F X.K C → SR F env σ H → PostO F C W env σ H l Q (m env) → t σ H Q
/-- a list of operands -/
def LTA (F : Fx) (σ : St) (l : Ev → List D → Option (List D)) (ds : List D) (vs : List V) (env1 : Ev) (H1 : Hp) : Prop :=
  ∀ env2 H2, SR F env2 σ H2 → Ext (Ow F env1 σ) H1 (Ow F env2 σ) H2 → ∀ d2, l env2 ds = some d2 → PRelL F.K H2 (Ow F env2 σ) d2 vs
def PostA (F : Fx) (C : CT) (W : WX) (env : Ev) (σ : St) (H : Hp) (l : Ev → List D → Option (List D)) (Q : List V → Hp → Prop) : RA → Prop
  | .ok ds env' => ∀ vs H', SR F env' σ H' → Ext (Ow F env σ) H (Ow F env' σ) H' → LTA F σ l ds vs env' H' → Q vs H'
  | .ex c env' => ∀ H', SR F env' σ H' → Ext (Ow F env σ) H (Ow F env' σ) H' → ∀ d, XD C c d H' → W (C c) d σ H'
  | .bad => False
structure JA (X : Cx) (C : CT) (W : WX) (es : List Expr) (m : MA) (l : Ev → List D → Option (List D)) : Prop where
  run : ∃ t, PA X es t ∧ ∀ F env σ H Q, FX F X.K C → SR F env σ H → PostA F C W env σ H l Q (m env) → t σ H Q
/-- a test -/
def PostT (F : Fx) (C : CT) (W : WX) (env : Ev) (σ : St) (H : Hp) (Q : Bool → Hp → Prop) : RE → Prop
  | .ok d env' => ∃ b, d = .bl b ∧ ∀ H', SR F env' σ H' → Ext (Ow F env σ) H (Ow F env' σ) H' → Q b H'
  | .ex c env' => ∀ H', SR F env' σ H' → Ext (Ow F env σ) H (Ow F env' σ) H' → ∀ d, XD C c d H' → W (C c) d σ H'
  | .bad => False
structure JT (X : Cx) (C : CT) (W : WX) (e : Expr) (m : ME) : Prop where
  run : ∃ t, PT X e t ∧ ∀ F env σ H Q, FX F X.K C → SR F env σ H → PostT F C W env σ H Q (m env) → t σ H Q

/-! ### operations on values -/
/-- a two-place operation: what HandS asks, by what it does to trees -/
def OpS (K : PySem.W.Frag) (r : R2) (f : D → D → Option D) : Prop :=
  ∀ H (O : Addr → Prop) x y v u Q d, (∀ a, O a → H a ≠ none) → PRel K H O x v → PRel K H O y u → f x y = some d → (∀ v' H', Same H H' → RelD K H' O d v' → Q v' H') → r v u H Q
def UnS (K : PySem.W.Frag) (r : V → Hp → VK → Prop) (f : D → Option D) : Prop :=
  ∀ H (O : Addr → Prop) x v Q d, (∀ a, O a → H a ≠ none) → PRel K H O x v → f x = some d → (∀ v' H', Same H H' → RelD K H' O d v' → Q v' H') → r v H Q
def CaS (K : PySem.W.Frag) (r : List V → Hp → VK → Prop) (f : List D → Option D) : Prop :=
  ∀ H (O : Addr → Prop) xs vs Q d, (∀ a, O a → H a ≠ none) → PRelL K H O xs vs → f xs = some d → (∀ v' H', Same H H' → RelD K H' O d v' → Q v' H') → r vs H Q

def lId : Ev → D → Option D := fun _ d => some d
def slotD : Option Sl → Option D
  | some (Sl.va d) => some d
  | some (Sl.ow d) => some d
  | some (Sl.bo d) => some d
  | some (Sl.ro d) => some d
  | _ => none
def lPk (i : Nat) : Ev → D → Option D := fun e _ => slotD e[i]?
def mPk (i : Nat) : ME := fun e => match slotD e[i]? with
  | some _ => .ok .non e
  | none => .bad
/-- a name as a value: an owned list is no more owned -/
def mVar (i : Nat) : ME := fun e => match e[i]? with
  | some (Sl.va d) => .ok d e
  | some (Sl.ow (.lst xs)) => .ok (.lst xs) (e.set i (.va (.lst xs)))
  | _ => .bad
def mC (d : D) : ME := fun e => .ok d e
def mU (f : D → Option D) (m : ME) (l : Ev → D → Option D) : ME := fun e => match m e with
  | .ok x e1 => (match l e1 x with
    | some a => (match f a with
      | some d => .ok d e1
      | none => .bad)
    | none => .bad)
  | .ex c e1 => .ex c e1
  | .bad => .bad
def mB (f : D → D → Option D) (m1 : ME) (l1 : Ev → D → Option D) (m2 : ME) (l2 : Ev → D → Option D) : ME := fun e => match m1 e with
  | .ok x e1 => (match m2 e1 with
    | .ok y e2 => (match l1 e2 x with
      | some a => (match l2 e2 y with
        | some b => (match f a b with
          | some d => .ok d e2
          | none => .bad)
        | none => .bad)
      | none => .bad)
    | .ex c e2 => .ex c e2
    | .bad => .bad)
  | .ex c e1 => .ex c e1
  | .bad => .bad

section
variable {X : Cx} {C : CT} {W : WX}
theorem SR.slot {F : Fx} {env : Ev} {σ : St} {H : Hp} (s : SR F env σ H) {i : Nat} {d : D} (h : slotD env[i]? = some d) : ∃ v, σ[i]? = some (some v) ∧ PRel F.K H (Ow F env σ) d v := by
  cases e : env[i]? with
  | none => rw [e] at h; cases h
  | some z =>
    rw [e] at h
    cases z with
    | no => cases h
    | va d' =>
      cases h
      obtain ⟨v, e1, r⟩ := s.va i _ e
      exact ⟨v, e1, .inl r⟩
    | ow d' =>
      cases h
      obtain ⟨a, e1, _, _, r⟩ := s.ow i _ e
      exact ⟨_, e1, .inr ⟨a, rfl, r⟩⟩
    | bo d' =>
      cases h
      obtain ⟨a, e1, _, r⟩ := s.bo i _ e
      exact ⟨_, e1, .inr ⟨a, rfl, r⟩⟩
    | ro d' =>
      cases h
      obtain ⟨a, e1, _, _, r⟩ := s.ro i _ e
      exact ⟨_, e1, .inr ⟨a, rfl, r⟩⟩
    | fx _ _ _ => cases h
theorem JE.o {e : Expr} {m : ME} (h : JE X C W e m) : JO X C W e m lId := by
  obtain ⟨t, p, q⟩ := h.run
  refine ⟨t, p, fun F env σ H Q k s z => q F env σ H Q k s ?_⟩
  cases r : m env with
  | ok d env' =>
    rw [r] at z
    exact fun v H' s' x rel => z v H' s' x fun env2 H2 s2 y d2 e2 => by
      cases e2
      exact .inl (rel.ext y)
  | ex c env' => rw [r] at z; exact z
  | bad => rw [r] at z; exact z
theorem j_pk {i : Nat} {x : Str} {pos : Pos} (hN : X.N[i]? = some x) (hv : Vis X.env.scope x) (hd : (x == ("__debug__" : Str)) = false) (hcd : (x == ("__classdict__" : Str)) = false) : JO X C W (.Name x pos) (mPk i) (lPk i) := by
  refine ⟨_, pe_var hN hv hd hcd, fun F env σ H Q k s z => ?_⟩
  unfold mPk at z
  cases e : slotD env[i]? with
  | none => rw [e] at z; exact z.elim
  | some d =>
    rw [e] at z
    obtain ⟨v, e1, r⟩ := s.slot e
    refine ⟨v, e1, z v H s .refl fun env2 H2 s2 y d2 e2 => ?_⟩
    obtain ⟨v', e3, r'⟩ := s2.slot e2
    rw [e1] at e3
    cases e3
    exact r'
/-- an owned slot is owned no more -/
theorem SR.freeze {F : Fx} {env : Ev} {σ : St} {H : Hp} (s : SR F env σ H) {i : Nat} {xs : List D} (h : env[i]? = some (Sl.ow (.lst xs))) :
    SR F (env.set i (.va (.lst xs))) σ H ∧ (∀ b, Ow F (env.set i (.va (.lst xs))) σ b → Ow F env σ b) ∧ ∃ v, σ[i]? = some (some v) ∧ RelD F.K H (Ow F (env.set i (.va (.lst xs))) σ) (.lst xs) v := by
  obtain ⟨a, e1, n0, nO, c⟩ := s.ow i _ h
  have hi : i < env.length := by
    rcases Nat.lt_or_ge i env.length with q | q
    · exact q
    · rw [List.getElem?_eq_none q] at h; cases h
  have sub : ∀ b, Ow F (env.set i (.va (.lst xs))) σ b → Ow F env σ b := fun b q => by
    rcases q with q | ⟨j, d, q1, q2⟩
    · exact .inl q
    · by_cases hj : i = j
      · subst hj
        rw [List.getElem?_set_self hi] at q1
        cases q1
      · rw [List.getElem?_set_ne hj] at q1
        exact .inr ⟨j, d, q1, q2⟩
  have na : ¬ Ow F (env.set i (.va (.lst xs))) σ a := fun q => by
    rcases q with q | ⟨j, d, q1, q2⟩
    · exact nO q
    · by_cases hj : i = j
      · subst hj
        rw [List.getElem?_set_self hi] at q1
        cases q1
      · rw [List.getElem?_set_ne hj] at q1
        exact hj (s.dj i j a _ _ h q1 e1 q2)
  have x : Ext (Ow F env σ) H (Ow F (env.set i (.va (.lst xs))) σ) H := Ext.sub sub
  simp only [CRel] at c
  obtain ⟨vs, c1, c2⟩ := c
  have rel : RelD F.K H (Ow F (env.set i (.va (.lst xs))) σ) (.lst xs) (.ref a) := by
    simp only [RelD]
    exact ⟨a, vs, rfl, c1, na, RelL.ext x _ _ c2⟩
  have at_ : ∀ {j : Nat} {z : Sl}, (env.set i (.va (.lst xs)))[j]? = some z → (i = j ∧ z = .va (.lst xs)) ∨ (i ≠ j ∧ env[j]? = some z) := fun {j z} q => by
    by_cases hj : i = j
    · subst hj
      rw [List.getElem?_set_self hi] at q
      exact .inl ⟨rfl, (Option.some.inj q).symm⟩
    · rw [List.getElem?_set_ne hj] at q
      exact .inr ⟨hj, q⟩
  refine ⟨⟨s.fr, s.od, s.bo0, by rw [List.length_set]; exact s.len, fun j d q => ?_, fun j d q => ?_, fun j d q => ?_, fun j d q => ?_, fun j k b d d' q1 q2 => ?_, fun j k b d d' q1 q2 => ?_, s.tO, s.tb, fun j f H1 Om q => ?_⟩, sub, _, e1, rel⟩
  · rcases at_ q with ⟨e, z⟩ | ⟨_, q⟩
    · subst e; cases z
      exact ⟨_, e1, rel⟩
    · obtain ⟨v, w1, w2⟩ := s.va j d q
      exact ⟨v, w1, w2.ext x⟩
  · rcases at_ q with ⟨_, z⟩ | ⟨_, q⟩
    · cases z
    · obtain ⟨b, w1, w2, w3, w4⟩ := s.ow j d q
      exact ⟨b, w1, w2, w3, w4.ext x rfl⟩
  · rcases at_ q with ⟨_, z⟩ | ⟨_, q⟩
    · cases z
    · obtain ⟨b, w1, w2, w4⟩ := s.bo j d q
      exact ⟨b, w1, w2, w4.ext x rfl⟩
  · rcases at_ q with ⟨_, z⟩ | ⟨_, q⟩
    · cases z
    · obtain ⟨b, w1, w2, w3, w4⟩ := s.ro j d q
      exact ⟨b, w1, w2, w3, w4.ext x rfl⟩
  · rcases at_ q1 with ⟨_, z⟩ | ⟨_, q1⟩
    · cases z
    · rcases at_ q2 with ⟨_, z⟩ | ⟨_, q2⟩
      · cases z
      · exact s.dj j k b d d' q1 q2
  · rcases at_ q1 with ⟨_, z⟩ | ⟨_, q1⟩
    · cases z
    · rcases at_ q2 with ⟨_, z⟩ | ⟨_, q2⟩
      · cases z
      · exact s.djb j k b d d' q1 q2
  · rcases at_ q with ⟨_, z⟩ | ⟨_, q⟩
    · cases z
    · exact s.fx j f H1 Om q
theorem j_var {i : Nat} {x : Str} {pos : Pos} (hN : X.N[i]? = some x) (hv : Vis X.env.scope x) (hd : (x == ("__debug__" : Str)) = false) (hcd : (x == ("__classdict__" : Str)) = false) : JE X C W (.Name x pos) (mVar i) := by
  refine ⟨_, pe_var hN hv hd hcd, fun F env σ H Q k s z => ?_⟩
  unfold mVar at z
  cases e : env[i]? with
  | none => rw [e] at z; exact z.elim
  | some sl =>
    rw [e] at z
    cases sl with
    | no => exact z.elim
    | bo _ => exact z.elim
    | ro _ => exact z.elim
    | fx _ _ _ => exact z.elim
    | va d =>
      obtain ⟨v, e1, r⟩ := s.va i d e
      exact ⟨v, e1, z v H s .refl r⟩
    | ow d =>
      cases d with
      | lst xs =>
        obtain ⟨s', sub, v, e1, r⟩ := s.freeze e
        exact ⟨v, e1, z v H s' (Ext.sub sub) r⟩
      | _ => exact z.elim
/-- a constant -/
theorem j_c {e : Expr} {d : D} {v : V} (h : PE X e (tC v)) (r : ∀ K H O, RelD K H O d v) : JE X C W e (mC d) :=
  ⟨_, h, fun F env σ H Q k s z => z v H s .refl (r _ _ _)⟩
theorem j_int {i : Int} {j : Nat} {pos : Pos} : JE X C W (.Constant (.int i) j pos) (mC (.int i)) := j_c pe_int fun _ _ _ => by simp only [RelD]
theorem j_bl {b : Bool} {j : Nat} {pos : Pos} : JE X C W (.Constant (.bool b) j pos) (mC (.bl b)) := j_c pe_bl fun _ _ _ => by simp only [RelD]
theorem j_non {j : Nat} {pos : Pos} : JE X C W (.Constant .none j pos) (mC .non) := j_c pe_non fun _ _ _ => by simp only [RelD]
theorem j_str {x : Str} {cs : List Nat} {j : Nat} {pos : Pos} (h : x = ⟨cs.toArray⟩) : JE X C W (.Constant (.str x) j pos) (mC (.str cs)) := j_c pe_str fun _ _ _ => by simp only [RelD]; rw [h]
/-- an operation's end -/
theorem fin_op {F : Fx} {env env2 : Ev} {σ : St} {H H2 : Hp} {Q : VK} {d : D} {v' : V} {H' : Hp} (s2 : SR F env2 σ H2) (x : Ext (Ow F env σ) H (Ow F env2 σ) H2) (g : Same H2 H') (r : RelD F.K H' (Ow F env2 σ) d v')
    (z : PostE F C W env σ H Q (.ok d env2)) : Q v' H' := z v' H' (s2.grow g) (x.trans (Ext.of g)) r
theorem j_un {op : UnaryOp} {r : V → Hp → VK → Prop} {f : D → Option D} {a : Expr} {m : ME} {l : Ev → D → Option D} {pos : Pos} (hr : UnR X (unaryOp op) r) (hs : UnS X.K r f) (ha : JO X C W a m l) : JE X C W (.UnaryOp op a pos) (mU f m l) := by
  obtain ⟨t, p, q⟩ := ha.run
  refine ⟨_, pe_un hr p, fun F env σ H Q k s z => q F env σ H _ k s ?_⟩
  unfold mU at z
  cases e1 : m env with
  | ok x env1 =>
    rw [e1] at z
    refine fun v H1 s1 x1 lt => ?_
    dsimp only at z
    cases e2 : l env1 x with
    | none => rw [e2] at z; exact z.elim
    | some a1 =>
      rw [e2] at z
      dsimp only at z
      cases e3 : f a1 with
      | none => rw [e3] at z; exact z.elim
      | some d =>
        rw [e3] at z
        refine hs H1 (Ow F env1 σ) a1 v _ d (fun a => s1.dom) (by rw [← k.1]; exact lt env1 H1 s1 .refl a1 e2) e3 fun v' H' g rel => ?_
        exact fin_op s1 x1 g (by rw [k.1]; exact rel) z
  | ex c env1 => rw [e1] at z; exact z
  | bad => rw [e1] at z; exact z
/-- two operands in a row, then an operation -/
theorem two_ops {F : Fx} {env : Ev} {σ : St} {H : Hp} {Q : VK} {r : R2} {f : D → D → Option D} {ta tb : TE} {m1 m2 : ME} {l1 l2 : Ev → D → Option D} (k : FX F X.K C)
    (qa : ∀ F env σ H Q, FX F X.K C → SR F env σ H → PostO F C W env σ H l1 Q (m1 env) → ta σ H Q) (qb : ∀ F env σ H Q, FX F X.K C → SR F env σ H → PostO F C W env σ H l2 Q (m2 env) → tb σ H Q)
    (hs : OpS X.K r f) (s : SR F env σ H) (z : PostE F C W env σ H Q (mB f m1 l1 m2 l2 env)) : tOp r ta tb σ H Q := by
  refine qa F env σ H _ k s ?_
  unfold mB at z
  cases e1 : m1 env with
  | ok x env1 =>
    rw [e1] at z
    refine fun v H1 s1 x1 lt1 => qb F env1 σ H1 _ k s1 ?_
    dsimp only at z
    cases e2 : m2 env1 with
    | ok y env2 =>
      rw [e2] at z
      refine fun u H2 s2 x2 lt2 => ?_
      dsimp only at z
      cases e3 : l1 env2 x with
      | none => rw [e3] at z; exact z.elim
      | some a1 =>
        rw [e3] at z
        dsimp only at z
        cases e4 : l2 env2 y with
        | none => rw [e4] at z; exact z.elim
        | some b1 =>
          rw [e4] at z
          dsimp only at z
          cases e5 : f a1 b1 with
          | none => rw [e5] at z; exact z.elim
          | some d =>
            rw [e5] at z
            refine hs H2 (Ow F env2 σ) a1 b1 v u _ d (fun a => s2.dom) (by rw [← k.1]; exact lt1 env2 H2 s2 x2 a1 e3) (by rw [← k.1]; exact lt2 env2 H2 s2 .refl b1 e4) e5 fun v' H' g rel => ?_
            exact fin_op s2 (x1.trans x2) g (by rw [k.1]; exact rel) z
    | ex c env2 => rw [e2] at z; exact fun H' s' x' => z H' s' (x1.trans x')
    | bad => rw [e2] at z; exact z
  | ex c env1 => rw [e1] at z; exact z
  | bad => rw [e1] at z; exact z
theorem j_bin {op : Operator} {r : R2} {f : D → D → Option D} {a b : Expr} {m1 m2 : ME} {l1 l2 : Ev → D → Option D} {pos : Pos} (hr : OpR X (binaryOp op) r) (hs : OpS X.K r f) (ha : JO X C W a m1 l1) (hb : JO X C W b m2 l2) :
    JE X C W (.BinOp a op b pos) (mB f m1 l1 m2 l2) := by
  obtain ⟨ta, pa, qa⟩ := ha.run
  obtain ⟨tb, pb, qb⟩ := hb.run
  exact ⟨_, pe_op hr pa pb, fun F env σ H Q k s z => two_ops k qa qb hs s z⟩
theorem j_cmp {op : CmpOp} {r : R2} {f : D → D → Option D} {a b : Expr} {m1 m2 : ME} {l1 l2 : Ev → D → Option D} {pos : Pos} (hr : OpR X (compareOp op) r) (hs : OpS X.K r f) (ha : JO X C W a m1 l1) (hb : JO X C W b m2 l2) (hm : behindInMarks op b = false) :
    JE X C W (.Compare a [op] [b] pos) (mB f m1 l1 m2 l2) := by
  obtain ⟨ta, pa, qa⟩ := ha.run
  obtain ⟨tb, pb, qb⟩ := hb.run
  exact ⟨_, pe_cmpR hr pa pb hm, fun F env σ H Q k s z => two_ops k qa qb hs s z⟩
theorem j_ix {r : R2} {f : D → D → Option D} {a b : Expr} {m1 m2 : ME} {l1 l2 : Ev → D → Option D} {pos : Pos} (hr : IxR X r) (hs : OpS X.K r f) (ha : JO X C W a m1 l1) (hb : JO X C W b m2 l2) (hp : PlainIx b) :
    JE X C W (.Subscript a b pos) (mB f m1 l1 m2 l2) := by
  obtain ⟨ta, pa, qa⟩ := ha.run
  obtain ⟨tb, pb, qb⟩ := hb.run
  exact ⟨_, pe_ix hr pa pb hp, fun F env σ H Q k s z => two_ops k qa qb hs s z⟩
end
end MP

set_option Elab.async false
set_option linter.all false
set_option maxRecDepth 100000
set_option maxHeartbeats 4000000
namespace MP
open PySem PySem.Spec L2
open PyProof.Rows hiding St

section
variable {K : PySem.W.Frag} {H H' : Hp} {O : Addr → Prop}
theorem relL_len : ∀ {ds : List D} {vs : List V}, RelL K H O ds vs → ds.length = vs.length
  | [], vs, h => by simp only [RelL] at h; rw [h]; rfl
  | d :: ds, vs, h => by
    simp only [RelL] at h
    obtain ⟨v, r, rfl, _, h2⟩ := h
    simp only [List.length_cons]
    rw [relL_len h2]
theorem relL_get : ∀ {ds : List D} {vs : List V} {i : Nat} {d : D}, RelL K H O ds vs → ds[i]? = some d → ∃ v, vs[i]? = some v ∧ RelD K H O d v
  | [], vs, i, d, h, e => by simp at e
  | d :: ds, vs, i, d', h, e => by
    simp only [RelL] at h
    obtain ⟨v, r, rfl, h1, h2⟩ := h
    cases i with
    | zero => simp at e; subst e; exact ⟨v, rfl, h1⟩
    | succ j => simp at e; exact relL_get (i := j) h2 e
theorem relL_get' : ∀ {ds : List D} {vs : List V} {i : Nat} {v : V}, RelL K H O ds vs → vs[i]? = some v → ∃ d, ds[i]? = some d ∧ RelD K H O d v
  | [], vs, i, v, h, e => by simp only [RelL] at h; subst h; simp at e
  | d :: ds, vs, i, v', h, e => by
    simp only [RelL] at h
    obtain ⟨v, r, rfl, h1, h2⟩ := h
    cases i with
    | zero => simp at e; subst e; exact ⟨d, rfl, h1⟩
    | succ j => simp at e; exact relL_get' (i := j) h2 e
theorem relL_app : ∀ {ds es : List D} {vs us : List V}, RelL K H O ds vs → RelL K H O es us → RelL K H O (ds ++ es) (vs ++ us)
  | [], es, vs, us, h, k => by simp only [RelL] at h; subst h; exact k
  | d :: ds, es, vs, us, h, k => by
    simp only [RelL] at h
    obtain ⟨v, r, rfl, h1, h2⟩ := h
    show RelL K H O (d :: (ds ++ es)) (v :: (r ++ us))
    simp only [RelL]
    exact ⟨v, _, rfl, h1, relL_app h2 k⟩
theorem relL_take : ∀ (n : Nat) {ds : List D} {vs : List V}, RelL K H O ds vs → RelL K H O (ds.take n) (vs.take n)
  | 0, ds, vs, h => by simp only [List.take_zero, RelL]
  | n + 1, [], vs, h => by simp only [RelL] at h; subst h; simp only [List.take_nil, RelL]
  | n + 1, d :: ds, vs, h => by
    simp only [RelL] at h
    obtain ⟨v, r, rfl, h1, h2⟩ := h
    simp only [List.take_succ_cons, RelL]
    exact ⟨v, _, rfl, h1, relL_take n h2⟩
theorem relL_drop : ∀ (n : Nat) {ds : List D} {vs : List V}, RelL K H O ds vs → RelL K H O (ds.drop n) (vs.drop n)
  | 0, ds, vs, h => by simpa only [List.drop_zero] using h
  | n + 1, [], vs, h => by simp only [RelL] at h; subst h; simp only [List.drop_nil, RelL]
  | n + 1, d :: ds, vs, h => by
    simp only [RelL] at h
    obtain ⟨v, r, rfl, h1, h2⟩ := h
    simp only [List.drop_succ_cons]
    exact relL_drop n h2
theorem relL_set : ∀ (j : Nat) {ds : List D} {vs : List V} {d : D} {v : V}, RelL K H O ds vs → RelD K H O d v → RelL K H O (ds.set j d) (vs.set j v)
  | j, [], vs, d, v, h, k => by simp only [RelL] at h; subst h; simp only [List.set_nil, RelL]
  | 0, x :: ds, vs, d, v, h, k => by
    simp only [RelL] at h
    obtain ⟨u, r, rfl, h1, h2⟩ := h
    simp only [List.set_cons_zero, RelL]
    exact ⟨v, _, rfl, k, h2⟩
  | j + 1, x :: ds, vs, d, v, h, k => by
    simp only [RelL] at h
    obtain ⟨u, r, rfl, h1, h2⟩ := h
    simp only [List.set_cons_succ, RelL]
    exact ⟨u, _, rfl, h1, relL_set j h2 k⟩
theorem relL_rev : ∀ {ds : List D} {vs : List V}, RelL K H O ds vs → RelL K H O ds.reverse vs.reverse
  | [], vs, h => by simp only [RelL] at h; subst h; simp only [List.reverse_nil, RelL]
  | d :: ds, vs, h => by
    simp only [RelL] at h
    obtain ⟨v, r, rfl, h1, h2⟩ := h
    simp only [List.reverse_cons]
    exact relL_app (relL_rev h2) (by simp only [RelL]; exact ⟨v, [], rfl, h1, rfl⟩)
theorem relL_rep (d : D) (v : V) (h : RelD K H O d v) : ∀ n, RelL K H O (List.replicate n d) (List.replicate n v)
  | 0 => by simp only [List.replicate_zero, RelL]
  | n + 1 => by
    simp only [List.replicate_succ, RelL]
    exact ⟨v, _, rfl, h, relL_rep d v h n⟩
theorem relL_repL {ds : List D} {vs : List V} (h : RelL K H O ds vs) : ∀ n, RelL K H O (List.replicate n ds).flatten (List.replicate n vs).flatten
  | 0 => by simp only [List.replicate_zero, List.flatten_nil, RelL]
  | n + 1 => by
    simp only [List.replicate_succ, List.flatten_cons]
    exact relL_app h (relL_repL h n)
/-- a new list, a new tuple -/
theorem rel_newL {p : Addr} {ds : List D} {vs : List V} (n : H p = none) (dom : ∀ a, O a → H a ≠ none) (h : RelL K H O ds vs) : RelD K (upd H p (.lst vs)) O (.lst ds) (.ref p) := by
  simp only [RelD]
  exact ⟨p, vs, rfl, upd_same, fun q => dom p q n, RelL.ext (Ext.of (same_upd n)) _ _ h⟩
theorem rel_newT {p : Addr} {ds : List D} {vs : List V} (n : H p = none) (dom : ∀ a, O a → H a ≠ none) (h : RelL K H O ds vs) : RelD K (upd H p (.tup vs)) O (.tup ds) (.ref p) := by
  simp only [RelD]
  exact ⟨p, vs, rfl, .inl ⟨.inl upd_same, fun q => dom p q n⟩, RelL.ext (Ext.of (same_upd n)) _ _ h⟩
/-! ### what a tree's value is -/
theorem p_int {i : Int} {v : V} (h : PRel K H O (.int i) v) : v = .int i := by
  rcases h with h | ⟨a, _, h⟩
  · simpa only [RelD] using h
  · simp only [CRel] at h
theorem p_bl {b : Bool} {v : V} (h : PRel K H O (.bl b) v) : v = .bl b := by
  rcases h with h | ⟨a, _, h⟩
  · simpa only [RelD] using h
  · simp only [CRel] at h
theorem p_non {v : V} (h : PRel K H O .non v) : v = .non := by
  rcases h with h | ⟨a, _, h⟩
  · simpa only [RelD] using h
  · simp only [CRel] at h
theorem p_str {cs : List Nat} {v : V} (h : PRel K H O (.str cs) v) : v = .str ⟨cs.toArray⟩ := by
  rcases h with h | ⟨a, _, h⟩
  · simpa only [RelD] using h
  · simp only [CRel] at h
theorem p_lst {xs : List D} {v : V} (h : PRel K H O (.lst xs) v) : ∃ a vs, v = .ref a ∧ H a = some (.lst vs) ∧ RelL K H O xs vs := by
  rcases h with h | ⟨a, e, h⟩
  · simp only [RelD] at h
    obtain ⟨a, vs, e, q, _, r⟩ := h
    exact ⟨a, vs, e, q, r⟩
  · simp only [CRel] at h
    obtain ⟨vs, q, r⟩ := h
    exact ⟨a, vs, e, q, r⟩
theorem p_tup {xs : List D} {v : V} (h : PRel K H O (.tup xs) v) : RelD K H O (.tup xs) v ∧ ∃ a vs, v = .ref a ∧ SqT K H a vs ∧ RelL K H O xs vs := by
  rcases h with h | ⟨a, e, h⟩
  · refine ⟨h, ?_⟩
    simp only [RelD] at h
    obtain ⟨a, vs, e, q, r⟩ := h
    exact ⟨a, vs, e, q.elim (fun q => .inl q.1) .inr, r⟩
  · simp only [CRel] at h
theorem p_scr {ns : List Int} {v : V} (h : PRel K H O (.scr ns) v) : ∃ a, v = .ref a ∧ SqL K H a (ns.map V.int) := by
  rcases h with h | ⟨a, e, h⟩
  · simp only [RelD] at h
    obtain ⟨a, e, q⟩ := h
    exact ⟨a, e, q.elim (fun q => .inl q.1) .inr⟩
  · simp only [CRel] at h
theorem p_dct {ks : List Ky} {xs : List D} {v : V} (h : PRel K H O (.dct ks xs) v) : ∃ a vs, v = .ref a ∧ H a = some (.dK ((ks.map kyK).zip vs)) ∧ ks.length = vs.length ∧ RelL K H O xs vs := by
  rcases h with h | ⟨a, e, h⟩
  · simp only [RelD] at h
  · simp only [CRel] at h
    obtain ⟨vs, q, l, r⟩ := h
    exact ⟨a, vs, e, q, l, r⟩
theorem p_ints : ∀ {ns : List Int} {vs : List V}, RelL K H O (ns.map D.int) vs → vs = ns.map V.int
  | [], vs, h => by simpa only [List.map_nil, RelL] using h
  | n :: ns, vs, h => by
    simp only [List.map_cons, RelL] at h
    obtain ⟨v, r, rfl, h1, h2⟩ := h
    simp only [RelD] at h1
    rw [h1, p_ints h2, List.map_cons]
theorem r_ints : ∀ (ns : List Int), RelL K H O (ns.map D.int) (ns.map V.int)
  | [] => by simp only [List.map_nil, RelL]
  | n :: ns => by
    simp only [List.map_cons, RelL]
    exact ⟨_, _, rfl, by simp only [RelD], r_ints ns⟩
theorem p_bls : ∀ {bs : List Bool} {vs : List V}, RelL K H O (bs.map D.bl) vs → vs = bs.map V.bl
  | [], vs, h => by simpa only [List.map_nil, RelL] using h
  | n :: ns, vs, h => by
    simp only [List.map_cons, RelL] at h
    obtain ⟨v, r, rfl, h1, h2⟩ := h
    simp only [RelD] at h1
    rw [h1, p_bls h2, List.map_cons]
end
def intsOf : List D → Option (List Int)
  | [] => some []
  | .int i :: r => (match intsOf r with
    | some q => some (i :: q)
    | none => none)
  | _ => none
theorem intsOf_ok : ∀ {ds : List D} {ns : List Int}, intsOf ds = some ns → ds = ns.map D.int
  | [], ns, h => by simp only [intsOf, Option.some.injEq] at h; subst h; rfl
  | .int i :: r, ns, h => by
    simp only [intsOf] at h
    cases e : intsOf r with
    | none => rw [e] at h; cases h
    | some q => rw [e] at h; cases h; rw [intsOf_ok e]; rfl
  | .non :: r, ns, h => by simp [intsOf] at h
  | .bl _ :: r, ns, h => by simp [intsOf] at h
  | .str _ :: r, ns, h => by simp [intsOf] at h
  | .tup _ :: r, ns, h => by simp [intsOf] at h
  | .lst _ :: r, ns, h => by simp [intsOf] at h
  | .dct _ _ :: r, ns, h => by simp [intsOf] at h
  | .dtp _ _ :: r, ns, h => by simp [intsOf] at h
  | .scr _ :: r, ns, h => by simp [intsOf] at h
def blsOf : List D → Option (List Bool)
  | [] => some []
  | .bl i :: r => (match blsOf r with
    | some q => some (i :: q)
    | none => none)
  | _ => none
theorem blsOf_ok : ∀ {ds : List D} {ns : List Bool}, blsOf ds = some ns → ds = ns.map D.bl
  | [], ns, h => by simp only [blsOf, Option.some.injEq] at h; subst h; rfl
  | .bl i :: r, ns, h => by
    simp only [blsOf] at h
    cases e : blsOf r with
    | none => rw [e] at h; cases h
    | some q => rw [e] at h; cases h; rw [blsOf_ok e]; rfl
  | .non :: r, ns, h => by simp [blsOf] at h
  | .int _ :: r, ns, h => by simp [blsOf] at h
  | .str _ :: r, ns, h => by simp [blsOf] at h
  | .tup _ :: r, ns, h => by simp [blsOf] at h
  | .lst _ :: r, ns, h => by simp [blsOf] at h
  | .dct _ _ :: r, ns, h => by simp [blsOf] at h
  | .dtp _ _ :: r, ns, h => by simp [blsOf] at h
  | .scr _ :: r, ns, h => by simp [blsOf] at h

/-! ### operators -/
theorem OpR.or {X : Cx} {f : Value → Value → Sem Value} {r r' : R2} (h : OpR X f r) (h' : OpR X f r') : OpR X f (fun x y H Q => r x y H Q ∨ r' x y H Q) := by
  intro pins s σ H x y v u Q I rx ry q
  rcases q with q | q
  · exact h pins s σ H x y v u Q I rx ry q
  · exact h' pins s σ H x y v u Q I rx ry q
abbrev line : Nat := 16777216
theorem line_le {n : Nat} (h : Nat.ble n line = true) : n ≤ sizeLine := by
  have := Nat.le_of_ble_eq_true h
  rw [sizeLine_eq]; exact this
theorem line_lt {n : Nat} (h : Nat.blt n line = true) : n < sizeLine := by
  have := Nat.le_of_ble_eq_true h
  rw [sizeLine_eq]; exact this

def fAdd : D → D → Option D
  | .int i, .int j => some (.int (i + j))
  | .str a, .str b => (match Nat.ble (a.length + b.length) line with
    | true => some (.str (a ++ b))
    | false => none)
  | .lst a, .lst b => (match Nat.ble (a.length + b.length) line with
    | true => some (.lst (a ++ b))
    | false => none)
  | .tup a, .tup b => (match Nat.ble (a.length + b.length) line with
    | true => some (.tup (a ++ b))
    | false => none)
  | _, _ => none
def rStrAdd : R2 := fun x y H Q => ∃ i j, x = .str i ∧ y = .str j ∧ i.length + j.length ≤ sizeLine ∧ Q (.str (i ++ j)) H
def rAdd (K : PySem.W.Frag) : R2 := fun x y H Q => ((rI0 fun i j => .int (i + j)) x y H Q ∨ rStrAdd x y H Q) ∨ (rCat x y H Q ∨ rCatA K x y H Q)
theorem o_add {X : Cx} : OpR X (binaryOp .Add) (rAdd X.K) := (op_add.or op_add_str).or (op_cat.or op_catA)
theorem s_add {K : PySem.W.Frag} : OpS K (rAdd K) fAdd := by
  intro H O x y v u Q d dom px py e q
  cases x <;> cases y <;> simp only [fAdd] at e <;> try (cases e)
  · exact .inl (.inl ⟨_, _, p_int px, p_int py, q _ H (Same.refl H) (by simp only [RelD])⟩)
  · split at e <;> cases e
    rename_i a b _ hl
    refine .inl (.inr ⟨_, _, p_str px, p_str py, ?_, q _ H (Same.refl H) ?_⟩)
    · have := line_le hl
      simpa [Str.length] using this
    · simp only [RelD]
      congr 1
      show (⟨_⟩ : Str) = ⟨_⟩
      simp
  · split at e <;> cases e
    rename_i a b _ hl
    obtain ⟨w, ws, rfl, e1, r1⟩ := p_tup px |>.2
    obtain ⟨z, zs, rfl, e2, r2⟩ := p_tup py |>.2
    have l1 := relL_len r1
    have l2 := relL_len r2
    refine .inr (.inr ⟨w, z, ws, zs, rfl, rfl, e1, e2, by rw [← l1, ← l2]; exact line_le hl, fun h0 => ?_, fun h1 h0 => ?_, fun h1 h2 p np => ?_⟩)
    · subst h0
      have : a = [] := List.eq_nil_of_length_eq_zero (by rw [l1]; rfl)
      subst this
      exact q _ H (Same.refl H) (p_tup py).1
    · subst h0
      have : b = [] := List.eq_nil_of_length_eq_zero (by rw [l2]; rfl)
      subst this
      rw [List.append_nil] at q
      exact q _ H (Same.refl H) (p_tup px).1
    · exact q _ _ (same_upd np) (rel_newT np dom (relL_app r1 r2))
  · split at e <;> cases e
    rename_i a b _ hl
    obtain ⟨w, ws, rfl, e1, r1⟩ := p_lst px
    obtain ⟨z, zs, rfl, e2, r2⟩ := p_lst py
    have l1 := relL_len r1
    have l2 := relL_len r2
    exact .inr (.inl ⟨w, z, ws, zs, rfl, rfl, e1, e2, by rw [← l1, ← l2]; exact line_le hl, fun p np => q _ _ (same_upd np) (rel_newL np dom (relL_app r1 r2))⟩)
def b2iD : Bool → Int
  | true => 1
  | false => 0
def fSub : D → D → Option D
  | .int i, .int j => some (.int (i - j))
  | .bl a, .bl b => some (.int (b2iD a - b2iD b))
  | _, _ => none
def rSubB : R2 := fun x y H Q => ∃ a b, x = .bl a ∧ y = .bl b ∧ Q (.int (b2iD a - b2iD b)) H
theorem op_subB {X : Cx} : OpR X (binaryOp .Sub) rSubB := by
  intro pins s σ H x y v u Q I rx ry h
  obtain ⟨a, b, rfl, rfl, q⟩ := h
  cases rx
  cases ry
  exact PyProof.Rows.sub_bool ⟨.int (b2iD a - b2iD b), H, I.tok _, ⟨_, by cases a <;> cases b <;> rfl⟩, q⟩
def rSub : R2 := fun x y H Q => (rI0 fun i j => .int (i - j)) x y H Q ∨ rSubB x y H Q
theorem o_sub {X : Cx} : OpR X (binaryOp .Sub) rSub := op_sub.or op_subB
theorem s_sub {K : PySem.W.Frag} : OpS K rSub fSub := by
  intro H O x y v u Q d dom px py e q
  cases x <;> cases y <;> simp only [fSub] at e <;> try (cases e)
  · exact .inr ⟨_, _, p_bl px, p_bl py, q _ H (Same.refl H) (by simp only [RelD])⟩
  · exact .inl ⟨_, _, p_int px, p_int py, q _ H (Same.refl H) (by simp only [RelD])⟩
def fMul : D → D → Option D
  | .int i, .int j => (match Nat.blt (i.natAbs.log2 + j.natAbs.log2) 1000000 with
    | true => some (.int (i * j))
    | false => none)
  | .lst a, .int k => (match Nat.ble (a.length * k.toNat) line && (decide (-(2 ^ 63) ≤ k) && decide (k < 2 ^ 63)) with
    | true => some (.lst (List.replicate k.toNat a).flatten)
    | false => none)
  | .tup a, .int k => (match (!a.isEmpty) && (Nat.ble a.length 1000 && (decide (2 ≤ k) && decide (k ≤ 1000))) with
    | true => some (.tup (List.replicate k.toNat a).flatten)
    | false => none)
  | _, _ => none
def rMul (K : PySem.W.Frag) : R2 := fun x y H Q => (rI CMulW fun i j => .int (i * j)) x y H Q ∨ (rRep x y H Q ∨ rRepT K x y H Q)
theorem o_mul {X : Cx} : OpR X (binaryOp .Mult) (rMul X.K) := op_mulW.or (op_rep.or op_repT)
theorem s_mul {K : PySem.W.Frag} : OpS K (rMul K) fMul := by
  intro H O x y v u Q d dom px py e q
  cases x <;> cases y <;> simp only [fMul] at e <;> try (cases e)
  · split at e <;> cases e
    rename_i hl
    exact .inl ⟨_, _, p_int px, p_int py, Nat.le_of_ble_eq_true hl, q _ H (Same.refl H) (by simp only [RelD])⟩
  · split at e <;> cases e
    rename_i a k _ hl
    simp only [Bool.and_eq_true, decide_eq_true_eq, Bool.not_eq_true'] at hl
    obtain ⟨h0, h1, h2, h3⟩ := hl
    obtain ⟨w, ws, rfl, e1, r1⟩ := p_tup px |>.2
    have l1 := relL_len r1
    refine .inr (.inr ⟨w, k, ws, rfl, p_int py, e1, fun z => ?_, h2, h3, by rw [← l1]; exact Nat.le_of_ble_eq_true h1, fun p np => q _ _ (same_upd np) (rel_newT np dom (relL_repL r1 _))⟩)
    subst z
    cases a with
    | nil => simp at h0
    | cons _ _ => simp at l1
  · split at e <;> cases e
    rename_i a k _ hl
    simp only [Bool.and_eq_true, decide_eq_true_eq] at hl
    obtain ⟨h1, h2, h3⟩ := hl
    obtain ⟨w, ws, rfl, e1, r1⟩ := p_lst px
    have l1 := relL_len r1
    exact .inr (.inl ⟨w, k, ws, rfl, p_int py, e1, h2, h3, by rw [← l1]; exact line_le h1, fun p np => q _ _ (same_upd np) (rel_newL np dom (relL_repL r1 _))⟩)
def fDiv : D → D → Option D
  | .int i, .int j => (match decide (0 < j) && Nat.blt j.natAbs.log2 9000 with
    | true => some (.int (i / j))
    | false => none)
  | _, _ => none
theorem s_div {K : PySem.W.Frag} : OpS K (rI CDivW fun i j => .int (i / j)) fDiv := by
  intro H O x y v u Q d dom px py e q
  cases x <;> cases y <;> simp only [fDiv] at e <;> try (cases e)
  split at e <;> cases e
  rename_i hl
  simp only [Bool.and_eq_true, decide_eq_true_eq] at hl
  exact ⟨_, _, p_int px, p_int py, ⟨hl.1, Nat.le_of_ble_eq_true hl.2⟩, q _ H (Same.refl H) (by simp only [RelD])⟩
def fMod : D → D → Option D
  | .int i, .int j => (match decide (0 < j) with
    | true => some (.int (i % j))
    | false => (match decide (j < 0) with
      | true => some (.int (i.fmod j))
      | false => none))
  | _, _ => none
def rMod : R2 := fun x y H Q => (rI (fun _ j => 0 < j) fun i j => .int (i % j)) x y H Q ∨ (rI (fun _ j => j ≠ 0) fun i j => .int (i.fmod j)) x y H Q
theorem o_mod {X : Cx} : OpR X (binaryOp .Mod) rMod := op_mod.or op_modN
theorem s_mod {K : PySem.W.Frag} : OpS K rMod fMod := by
  intro H O x y v u Q d dom px py e q
  cases x <;> cases y <;> simp only [fMod] at e <;> try (cases e)
  split at e
  · cases e
    rename_i hl
    exact .inl ⟨_, _, p_int px, p_int py, of_decide_eq_true hl, q _ H (Same.refl H) (by simp only [RelD])⟩
  · split at e <;> cases e
    rename_i hl
    have := of_decide_eq_true hl
    exact .inr ⟨_, _, p_int px, p_int py, by omega, q _ H (Same.refl H) (by simp only [RelD])⟩
def fPow : D → D → Option D
  | .int i, .int j => (match decide (0 ≤ j) && (decide (j ≤ 1000000) && decide (i.natAbs < 2 ^ 64)) with
    | true => some (.int (i ^ j.toNat))
    | false => none)
  | _, _ => none
theorem s_pow {K : PySem.W.Frag} : OpS K (rI CPow fun i j => .int (i ^ j.toNat)) fPow := by
  intro H O x y v u Q d dom px py e q
  cases x <;> cases y <;> simp only [fPow] at e <;> try (cases e)
  split at e <;> cases e
  rename_i hl
  simp only [Bool.and_eq_true, decide_eq_true_eq] at hl
  exact ⟨_, _, p_int px, p_int py, hl, q _ H (Same.refl H) (by simp only [RelD])⟩
def fNeg : D → Option D
  | .int i => some (.int (-i))
  | _ => none
theorem s_neg {K : PySem.W.Frag} : UnS K (rU fun i => .int (-i)) fNeg := by
  intro H O x v Q d dom px e q
  cases x <;> simp only [fNeg] at e <;> cases e
  exact ⟨_, p_int px, q _ H (Same.refl H) (by simp only [RelD])⟩
/-! ### comparisons -/
def seqLt : List Int → List Int → Bool
  | [], [] => false
  | [], _ :: _ => true
  | _ :: _, [] => false
  | x :: xs, y :: ys => if x = y then seqLt xs ys else decide (x < y)
theorem seqLt_eq : ∀ xs ys : List Int, HT.lexLt xs ys = seqLt xs ys
  | [], [] => rfl
  | [], _ :: _ => rfl
  | _ :: _, [] => rfl
  | x :: xs, y :: ys => by rw [HT.lexLt_cons, seqLt_eq xs ys]; rfl
def natsLt : List Nat → List Nat → Bool
  | [], [] => false
  | [], _ :: _ => true
  | _ :: _, [] => false
  | x :: xs, y :: ys => (match Nat.blt x y with
    | true => true
    | false => (match Nat.beq x y with
      | true => natsLt xs ys
      | false => false))
theorem natsLt_eq : ∀ xs ys : List Nat, decide (xs < ys) = natsLt xs ys
  | [], [] => by rw [decide_eq_false (by simp)]; rfl
  | [], _ :: _ => by rw [decide_eq_true (by simp)]; rfl
  | _ :: _, [] => by rw [decide_eq_false (by simp)]; rfl
  | x :: xs, y :: ys => by
    unfold natsLt
    cases h : Nat.blt x y with
    | true =>
      have : x < y := Nat.le_of_ble_eq_true h
      exact decide_eq_true (by rw [List.cons_lt_cons_iff]; exact .inl this)
    | false =>
      have h1 : ¬ x < y := fun q => by
        rw [show Nat.blt x y = true from Nat.ble_eq_true_of_le q] at h; cases h
      cases h2 : Nat.beq x y with
      | true =>
        have e : x = y := Nat.eq_of_beq_eq_true h2
        subst e
        rw [← natsLt_eq xs ys]
        simp
      | false =>
        have h3 : x ≠ y := Nat.ne_of_beq_eq_false h2
        exact decide_eq_false (by rw [List.cons_lt_cons_iff]; rintro (q | ⟨q, _⟩); exact h1 q; exact h3 q)
def fLt : D → D → Option D
  | .int i, .int j => some (.bl (decide (i < j)))
  | .str a, .str b => some (.bl (natsLt a b))
  | .tup a, .tup b => (match intsOf a with
    | some xs => (match intsOf b with
      | some ys => some (.bl (seqLt xs ys))
      | none => none)
    | none => none)
  | _, _ => none
def rLtS : R2 := fun x y H Q => ∃ i j, x = .str i ∧ y = .str j ∧ Q (.bl (decide (i.cps.toList < j.cps.toList))) H
def rLt (K : PySem.W.Frag) : R2 := fun x y H Q => (rI0 fun i j => .bl (decide (i < j))) x y H Q ∨ (rLtS x y H Q ∨ rLtT K x y H Q)
theorem o_lt {X : Cx} (hu : X.A.units < cLine) : OpR X (compareOp .Lt) (rLt X.K) := op_lt.or (OpR.or op_lt_str (op_ltT hu))
theorem s_lt {K : PySem.W.Frag} : OpS K (rLt K) fLt := by
  intro H O x y v u Q d dom px py e q
  cases x <;> cases y <;> simp only [fLt] at e <;> try (cases e)
  · exact .inl ⟨_, _, p_int px, p_int py, q _ H (Same.refl H) (by simp only [RelD])⟩
  · refine .inr (.inl ⟨_, _, p_str px, p_str py, q _ H (Same.refl H) ?_⟩)
    simp only [RelD]
    rw [← natsLt_eq]
  · rename_i a b
    cases e1 : intsOf a with
    | none => rw [e1] at e; cases e
    | some xs =>
      rw [e1] at e
      dsimp only at e
      cases e2 : intsOf b with
      | none => rw [e2] at e; cases e
      | some ys =>
        rw [e2] at e
        cases e
        have i1 := intsOf_ok e1
        have i2 := intsOf_ok e2
        subst i1 i2
        obtain ⟨w, ws, rfl, q1, r1⟩ := p_tup px |>.2
        obtain ⟨z, zs, rfl, q2, r2⟩ := p_tup py |>.2
        rw [p_ints r1] at q1
        rw [p_ints r2] at q2
        refine .inr (.inr ⟨w, z, xs, ys, rfl, rfl, q1, q2, q _ H (Same.refl H) ?_⟩)
        simp only [RelD]
        rw [seqLt_eq]
def fLe : D → D → Option D
  | .int i, .int j => some (.bl (decide (i ≤ j)))
  | _, _ => none
theorem s_le {K : PySem.W.Frag} : OpS K (rI0 fun i j => .bl (decide (i ≤ j))) fLe := by
  intro H O x y v u Q d dom px py e q
  cases x <;> cases y <;> simp only [fLe] at e <;> cases e
  exact ⟨_, _, p_int px, p_int py, q _ H (Same.refl H) (by simp only [RelD])⟩
def fGt : D → D → Option D
  | .int i, .int j => some (.bl (decide (j < i)))
  | _, _ => none
theorem s_gt {K : PySem.W.Frag} : OpS K (rI0 fun i j => .bl (decide (j < i))) fGt := by
  intro H O x y v u Q d dom px py e q
  cases x <;> cases y <;> simp only [fGt] at e <;> cases e
  exact ⟨_, _, p_int px, p_int py, q _ H (Same.refl H) (by simp only [RelD])⟩
def fGe : D → D → Option D
  | .int i, .int j => some (.bl (decide (j ≤ i)))
  | _, _ => none
theorem s_ge {K : PySem.W.Frag} : OpS K (rI0 fun i j => .bl (decide (j ≤ i))) fGe := by
  intro H O x y v u Q d dom px py e q
  cases x <;> cases y <;> simp only [fGe] at e <;> cases e
  exact ⟨_, _, p_int px, p_int py, q _ H (Same.refl H) (by simp only [RelD])⟩
def isNon : D → Bool
  | .non => true
  | _ => false
theorem isNon_of {K : PySem.W.Frag} {H : Hp} {O : Addr → Prop} {x : D} {v : V} (px : PRel K H O x v) : decide (v = .non) = isNon x := by
  cases x with
  | non => rw [p_non px]; rfl
  | bl b => rw [p_bl px]; rfl
  | int b => rw [p_int px]; rfl
  | str b => rw [p_str px]; exact decide_eq_false (fun z => by cases z)
  | tup b =>
    obtain ⟨w, ws, rfl, _⟩ := p_tup px |>.2
    exact decide_eq_false (fun z => by cases z)
  | lst b =>
    obtain ⟨w, ws, rfl, _⟩ := p_lst px
    exact decide_eq_false (fun z => by cases z)
  | scr b =>
    obtain ⟨w, rfl, _⟩ := p_scr px
    exact decide_eq_false (fun z => by cases z)
  | dct a b =>
    obtain ⟨w, ws, rfl, _⟩ := p_dct px
    exact decide_eq_false (fun z => by cases z)
  | dtp a b =>
    rcases px with h | ⟨w, rfl, h⟩
    · simp only [RelD] at h
    · exact decide_eq_false (fun z => by cases z)
def fIsN : D → D → Option D := fun x y => match y with
  | .non => some (.bl (isNon x))
  | _ => none
def fNotN : D → D → Option D := fun x y => match y with
  | .non => some (.bl (!isNon x))
  | _ => none
theorem s_isN {K : PySem.W.Frag} : OpS K (fun x y H Q => y = .non ∧ Q (.bl (decide (x = .non))) H) fIsN := by
  intro H O x y v u Q d dom px py e q
  cases y <;> simp only [fIsN] at e <;> cases e
  refine ⟨p_non py, ?_⟩
  rw [isNon_of px]
  exact q _ H (Same.refl H) (by simp only [RelD])
theorem s_notN {K : PySem.W.Frag} : OpS K (fun x y H Q => y = .non ∧ Q (.bl (!decide (x = .non))) H) fNotN := by
  intro H O x y v u Q d dom px py e q
  cases y <;> simp only [fNotN] at e <;> cases e
  refine ⟨p_non py, ?_⟩
  rw [isNon_of px]
  exact q _ H (Same.refl H) (by simp only [RelD])
end MP

set_option Elab.async false
set_option linter.all false
set_option maxRecDepth 100000
set_option maxHeartbeats 4000000
namespace MP
open PySem PySem.Spec L2
open PyProof.Rows hiding St

/-! ### equality of trees -/
mutual
def D.py : D → PyData
  | .non => .none
  | .bl b => .bool b
  | .int i => .int i
  | .str cs => .str ⟨cs.toArray⟩
  | .tup xs => .tuple (pyL xs)
  | .lst xs => .list (pyL xs)
  | .scr _ => .dict []
  | .dct _ _ => .dict []
  | .dtp _ _ => .dict []
def pyL : List D → List PyData
  | [] => []
  | x :: xs => x.py :: pyL xs
end
def natsEq : List Nat → List Nat → Bool
  | [], [] => true
  | x :: xs, y :: ys => (match Nat.beq x y with
    | true => natsEq xs ys
    | false => false)
  | _, _ => false
theorem natsEq_eq : ∀ xs ys : List Nat, natsEq xs ys = decide (xs = ys)
  | [], [] => rfl
  | [], _ :: _ => rfl
  | _ :: _, [] => rfl
  | x :: xs, y :: ys => by
    unfold natsEq
    cases h : Nat.beq x y with
    | true =>
      have e : x = y := Nat.eq_of_beq_eq_true h
      subst e
      show natsEq xs ys = _
      rw [natsEq_eq xs ys]
      simp
    | false =>
      have e : x ≠ y := Nat.ne_of_beq_eq_false h
      exact (decide_eq_false (fun z => e (by injection z))).symm
theorem natsEq_iff {xs ys : List Nat} : natsEq xs ys = true ↔ xs = ys := by rw [natsEq_eq]; exact decide_eq_true_iff
mutual
def eqD : D → D → Bool
  | .non, .non => true
  | .bl a, .bl b => a == b
  | .bl a, .int j => decide (b2iD a = j)
  | .int i, .bl b => decide (i = b2iD b)
  | .int i, .int j => decide (i = j)
  | .str a, .str b => natsEq a b
  | .tup xs, .tup ys => eqL xs ys
  | .lst xs, .lst ys => eqL xs ys
  | _, _ => false
def eqL : List D → List D → Bool
  | [], [] => true
  | x :: xs, y :: ys => (match eqD x y with
    | true => eqL xs ys
    | false => false)
  | _, _ => false
end
mutual
def okD : Nat → D → Bool
  | _, .non => true
  | _, .bl _ => true
  | _, .int _ => true
  | _, .str cs => cs.all fun c => Nat.blt c 1114112
  | n, .tup xs => (match n with
    | 0 => false
    | m + 1 => okL m xs)
  | n, .lst xs => (match n with
    | 0 => false
    | m + 1 => okL m xs)
  | _, .scr _ => false
  | _, .dct _ _ => false
  | _, .dtp _ _ => false
def okL : Nat → List D → Bool
  | _, [] => true
  | n, x :: xs => (match okD n x with
    | true => okL n xs
    | false => false)
end
mutual
theorem eqD_py : ∀ (d e : D) (n m : Nat), okD n d = true → okD m e = true → PyData.eqv d.py e.py = eqD d e
  | .non, e, n, m, h, k => by cases e <;> simp only [D.py, PyData.eqv, eqD] <;> simp [okD] at k
  | .bl a, e, n, m, h, k => by
    cases e <;> simp only [D.py, PyData.eqv, eqD] <;> try (simp [okD] at k; done)
    cases a <;> simp [b2iD] <;> (rw [Bool.eq_iff_iff]; simp only [beq_iff_eq]; exact ⟨fun h => decide_eq_true h, fun h => of_decide_eq_true h⟩)
  | .int i, e, n, m, h, k => by
    cases e <;> simp only [D.py, PyData.eqv, eqD] <;> try (simp [okD] at k; done)
    · rename_i b
      cases b <;> simp [b2iD] <;> (rw [Bool.eq_iff_iff]; simp only [beq_iff_eq]; exact ⟨fun h => decide_eq_true h, fun h => of_decide_eq_true h⟩)
    · rw [Bool.eq_iff_iff]; simp
  | .str a, e, n, m, h, k => by
    cases e <;> simp only [D.py, PyData.eqv, eqD] <;> try (simp [okD] at k; done)
    rw [natsEq_eq, Bool.eq_iff_iff]
    simp
  | .tup xs, e, n, m, h, k => by
    cases e <;> simp only [D.py, PyData.eqv, eqD] <;> try (simp [okD] at k; done)
    cases n with
    | zero => simp [okD] at h
    | succ n =>
      cases m with
      | zero => simp [okD] at k
      | succ m => exact eqL_py xs _ n m (by simpa only [okD] using h) (by simpa only [okD] using k)
  | .lst xs, e, n, m, h, k => by
    cases e <;> simp only [D.py, PyData.eqv, eqD] <;> try (simp [okD] at k; done)
    cases n with
    | zero => simp [okD] at h
    | succ n =>
      cases m with
      | zero => simp [okD] at k
      | succ m => exact eqL_py xs _ n m (by simpa only [okD] using h) (by simpa only [okD] using k)
  | .scr _, e, n, m, h, k => by simp [okD] at h
  | .dct _ _, e, n, m, h, k => by simp [okD] at h
  | .dtp _ _, e, n, m, h, k => by simp [okD] at h
theorem eqL_py : ∀ (xs ys : List D) (n m : Nat), okL n xs = true → okL m ys = true → PyData.eqvAll (pyL xs) (pyL ys) = eqL xs ys
  | [], [], n, m, h, k => by simp only [pyL, PyData.eqvAll, eqL]
  | [], _ :: _, n, m, h, k => by simp only [pyL, PyData.eqvAll, eqL]
  | _ :: _, [], n, m, h, k => by simp only [pyL, PyData.eqvAll, eqL]
  | x :: xs, y :: ys, n, m, h, k => by
    simp only [okL] at h k
    split at h
    · rename_i h1
      split at k
      · rename_i k1
        simp only [pyL, PyData.eqvAll, eqL]
        rw [eqD_py x y n m h1 k1, eqL_py xs ys n m h k]
        cases eqD x y <;> rfl
      · cases k
    · cases h
end
theorem okChars {cs : List Nat} (h : (cs.all fun c => Nat.blt c 1114112) = true) : PyData.strOk ⟨cs.toArray⟩ = true := by
  unfold PyData.strOk
  simp only [List.all_toArray]
  rw [List.all_eq_true] at h ⊢
  intro c hc
  exact decide_eq_true (Nat.le_of_ble_eq_true (h c hc))
mutual
theorem okD_shape : ∀ (d : D) (n : Nat), okD n d = true → d.py.canLay0 = true ∧ d.py.depth ≤ n
  | .non, n, h => by simp only [D.py, PyData.canLay0, PyData.depth]; exact ⟨trivial, Nat.zero_le _⟩
  | .bl a, n, h => by simp only [D.py, PyData.canLay0, PyData.depth]; exact ⟨trivial, Nat.zero_le _⟩
  | .int i, n, h => by simp only [D.py, PyData.canLay0, PyData.depth]; exact ⟨trivial, Nat.zero_le _⟩
  | .str a, n, h => by
    simp only [okD] at h
    simp only [D.py, PyData.canLay0, PyData.depth]
    exact ⟨okChars h, Nat.zero_le _⟩
  | .tup xs, n, h => by
    cases n with
    | zero => simp [okD] at h
    | succ n =>
      obtain ⟨h1, h2⟩ := okL_shape xs n (by simpa only [okD] using h)
      simp only [D.py, PyData.canLay0, PyData.depth]
      exact ⟨h1, by omega⟩
  | .lst xs, n, h => by
    cases n with
    | zero => simp [okD] at h
    | succ n =>
      obtain ⟨h1, h2⟩ := okL_shape xs n (by simpa only [okD] using h)
      simp only [D.py, PyData.canLay0, PyData.depth]
      exact ⟨h1, by omega⟩
  | .scr _, n, h => by simp [okD] at h
  | .dct _ _, n, h => by simp [okD] at h
  | .dtp _ _, n, h => by simp [okD] at h
theorem okL_shape : ∀ (xs : List D) (n : Nat), okL n xs = true → PyData.canLayAll0 (pyL xs) = true ∧ PyData.depthAll (pyL xs) ≤ n
  | [], n, h => by simp only [pyL, PyData.canLayAll0, PyData.depthAll]; exact ⟨trivial, Nat.zero_le _⟩
  | x :: xs, n, h => by
    simp only [okL] at h
    split at h
    · rename_i h1
      obtain ⟨a1, a2⟩ := okD_shape x n h1
      obtain ⟨b1, b2⟩ := okL_shape xs n h
      simp only [pyL, PyData.canLayAll0, PyData.depthAll]
      exact ⟨by rw [a1, b1]; rfl, Nat.max_le.mpr ⟨a2, b2⟩⟩
    · cases h
end
theorem okD_shaped {d : D} (h : okD 64 d = true) : SeqAt.shaped d.py = true := by
  obtain ⟨a, b⟩ := okD_shape d 64 h
  unfold SeqAt.shaped
  rw [a, decide_eq_true b]
  rfl
mutual
theorem dp_of {K : PySem.W.Frag} {H : Hp} {O : Addr → Prop} : ∀ (d : D) (n : Nat) (v : V), okD n d = true → RelD K H O d v → Dp K H v d.py
  | .non, n, v, h, r => by simp only [RelD] at r; subst r; simp only [D.py]; exact .non
  | .bl a, n, v, h, r => by simp only [RelD] at r; subst r; simp only [D.py]; exact .bl _
  | .int i, n, v, h, r => by simp only [RelD] at r; subst r; simp only [D.py]; exact .int _
  | .str a, n, v, h, r => by simp only [RelD] at r; subst r; simp only [D.py]; exact .str _
  | .tup xs, n, v, h, r => by
    cases n with
    | zero => simp [okD] at h
    | succ n =>
      simp only [RelD] at r
      obtain ⟨a, vs, rfl, q, r⟩ := r
      simp only [D.py]
      exact .tup (q.elim (fun q => .inl q.1) .inr) (dp_ofL xs n vs (by simpa only [okD] using h) r)
  | .lst xs, n, v, h, r => by
    cases n with
    | zero => simp [okD] at h
    | succ n =>
      simp only [RelD] at r
      obtain ⟨a, vs, rfl, q, _, r⟩ := r
      simp only [D.py]
      exact .lst (.inl (.inl q)) (dp_ofL xs n vs (by simpa only [okD] using h) r)
  | .scr _, n, v, h, r => by simp [okD] at h
  | .dct _ _, n, v, h, r => by simp [okD] at h
  | .dtp _ _, n, v, h, r => by simp [okD] at h
theorem dp_ofL {K : PySem.W.Frag} {H : Hp} {O : Addr → Prop} : ∀ (ds : List D) (n : Nat) (vs : List V), okL n ds = true → RelL K H O ds vs → DpAll K H vs (pyL ds)
  | [], n, vs, h, r => by simp only [RelL] at r; subst r; simp only [pyL]; exact .nil
  | d :: ds, n, vs, h, r => by
    simp only [okL] at h
    split at h
    · rename_i h1
      simp only [RelL] at r
      obtain ⟨v, u, rfl, r1, r2⟩ := r
      simp only [pyL]
      exact .cons (dp_of d n v h1 r1) (dp_ofL ds n u h r2)
    · cases h
end
theorem dp_p {K : PySem.W.Frag} {H : Hp} {O : Addr → Prop} {d : D} {v : V} (h : okD 64 d = true) (r : PRel K H O d v) : Dp K H v d.py := by
  rcases r with r | ⟨a, rfl, r⟩
  · exact dp_of d 64 v h r
  · cases d with
    | lst xs =>
      simp only [CRel] at r
      obtain ⟨vs, q, r⟩ := r
      simp only [D.py]
      exact .lst (.inl (.inl q)) (dp_ofL xs 63 vs (by simpa only [okD] using h) r)
    | dct a b => simp [okD] at h
    | dtp a b => simp [okD] at h
    | _ => simp only [CRel] at r
def fEq : D → D → Option D := fun x y => match okD 64 x with
  | true => (match okD 64 y with
    | true => some (.bl (eqD x y))
    | false => none)
  | false => none
def fNe : D → D → Option D := fun x y => match okD 64 x with
  | true => (match okD 64 y with
    | true => some (.bl (!eqD x y))
    | false => none)
  | false => none
theorem s_eq {K : PySem.W.Frag} : OpS K (rEqD K) fEq := by
  intro H O x y v u Q d dom px py e q
  unfold fEq at e
  split at e
  · rename_i h1
    split at e
    · rename_i h2
      cases e
      refine ⟨x.py, y.py, dp_p h1 px, dp_p h2 py, okD_shaped h1, okD_shaped h2, q _ H (Same.refl H) ?_⟩
      simp only [RelD]
      rw [eqD_py x y 64 64 h1 h2]
    · cases e
  · cases e
theorem s_ne {K : PySem.W.Frag} : OpS K (rNeD K) fNe := by
  intro H O x y v u Q d dom px py e q
  unfold fNe at e
  split at e
  · rename_i h1
    split at e
    · rename_i h2
      cases e
      refine ⟨x.py, y.py, dp_p h1 px, dp_p h2 py, okD_shaped h1, okD_shaped h2, q _ H (Same.refl H) ?_⟩
      simp only [RelD]
      rw [eqD_py x y 64 64 h1 h2]
    · cases e
  · cases e

/-! ### subscripts -/
def ixD {α : Type} (xs : List α) (i : Int) : Option α := match decide (0 ≤ i) with
  | true => xs[i.toNat]?
  | false => (match decide (-(xs.length : Int) ≤ i) with
    | true => xs[(i + xs.length).toNat]?
    | false => none)
theorem ixD_atI {α : Type} {xs : List α} {i : Int} {x : α} (h : ixD xs i = some x) : ∃ j, ixN xs.length i = some j ∧ xs[j]? = some x := by
  unfold ixD at h
  split at h
  · rename_i h0
    have h0 := of_decide_eq_true h0
    have hl : i.toNat < xs.length := (List.getElem?_eq_some_iff.mp h).1
    refine ⟨i.toNat, ?_, h⟩
    unfold ixN
    rw [if_pos h0, if_pos (by omega)]
  · rename_i h0
    have h0 := of_decide_eq_false h0
    split at h
    · rename_i h1
      have h1 := of_decide_eq_true h1
      refine ⟨_, ?_, h⟩
      unfold ixN
      rw [if_neg h0, if_pos h1]
    · cases h
def fIx : D → D → Option D
  | .lst xs, .int i => ixD xs i
  | .tup xs, .int i => ixD xs i
  | .str cs, .int i => (match Nat.ble cs.length line with
    | true => (match ixD cs i with
      | some c => some (.str [c])
      | none => none)
    | false => none)
  | .scr ns, .int i => (match ixD ns i with
      | some c => some (.int c)
      | none => none)
  | _, _ => none
theorem s_ix {K : PySem.W.Frag} : OpS K (rIx K) fIx := by
  intro H O x y v u Q d dom px py e q
  cases x <;> cases y <;> simp only [fIx] at e <;> try (cases e; done)
  · rename_i cs i
    split at e
    · rename_i hl
      split at e
      · rename_i c hc
        cases e
        obtain ⟨j, h1, h2⟩ := ixD_atI hc
        refine .inr (.inr ⟨_, i, c, p_str px, p_int py, ?_, ?_, q _ H (Same.refl H) ?_⟩)
        · have := line_le hl
          simpa [Str.length] using this
        · show atI (cs.toArray).toList i = some c
          unfold atI
          rw [List.toList_toArray, h1]
          exact h2
        · simp only [RelD]
      · cases e
    · cases e
  · rename_i xs i
    obtain ⟨j, h1, h2⟩ := ixD_atI e
    obtain ⟨a, vs, rfl, e1, r1⟩ := p_tup px |>.2
    obtain ⟨w, hw, rw1⟩ := relL_get r1 h2
    refine .inr (.inl ⟨a, vs, i, w, rfl, p_int py, e1, ?_, q _ H (Same.refl H) rw1⟩)
    unfold atI
    rw [← relL_len r1, h1]
    exact hw
  · rename_i xs i
    obtain ⟨j, h1, h2⟩ := ixD_atI e
    obtain ⟨a, vs, rfl, e1, r1⟩ := p_lst px
    obtain ⟨w, hw, rw1⟩ := relL_get r1 h2
    refine .inl ⟨a, vs, i, w, rfl, p_int py, .inl (.inl e1), ?_, q _ H (Same.refl H) rw1⟩
    unfold atI
    rw [← relL_len r1, h1]
    exact hw
  · rename_i ns i
    split at e
    · rename_i c hc
      cases e
      obtain ⟨j, h1, h2⟩ := ixD_atI hc
      obtain ⟨a, rfl, e1⟩ := p_scr px
      refine .inl ⟨a, _, i, .int c, rfl, p_int py, e1, ?_, q _ H (Same.refl H) (by simp only [RelD])⟩
      unfold atI
      rw [List.length_map, h1]
      show (ns.map V.int)[j]? = _
      rw [List.getElem?_map, h2]
      rfl
    · cases e
end MP

set_option Elab.async false
set_option linter.all false
set_option maxRecDepth 100000
set_option maxHeartbeats 4000000
namespace MP
open PySem PySem.Spec L2
open PyProof.Rows hiding St

section
variable {K : PySem.W.Frag} {H H' : Hp} {O : Addr → Prop}
theorem pRelL_one {d : D} {vs : List V} (h : PRelL K H O [d] vs) : ∃ v, vs = [v] ∧ PRel K H O d v := by
  simp only [PRelL] at h
  obtain ⟨v, r, rfl, h1, rfl⟩ := h
  exact ⟨v, rfl, h1⟩
theorem pRelL_two {d e : D} {vs : List V} (h : PRelL K H O [d, e] vs) : ∃ v u, vs = [v, u] ∧ PRel K H O d v ∧ PRel K H O e u := by
  simp only [PRelL] at h
  obtain ⟨v, r, rfl, h1, u, r2, rfl, h2, rfl⟩ := h
  exact ⟨v, u, rfl, h1, h2⟩
end
/-! ### lists of operands -/
def maNil : MA := fun e => .ok [] e
def laNil : Ev → List D → Option (List D) := fun _ _ => some []
def maCons (m : ME) (ma : MA) : MA := fun e => match m e with
  | .ok x e1 => (match ma e1 with
    | .ok xs e2 => .ok (x :: xs) e2
    | .ex c e2 => .ex c e2
    | .bad => .bad)
  | .ex c e1 => .ex c e1
  | .bad => .bad
def laCons (l : Ev → D → Option D) (la : Ev → List D → Option (List D)) : Ev → List D → Option (List D) := fun e ds => match ds with
  | x :: xs => (match l e x with
    | some d => (match la e xs with
      | some r => some (d :: r)
      | none => none)
    | none => none)
  | [] => none
section
variable {X : Cx} {C : CT} {W : WX}
theorem j_anil : JA X C W [] maNil laNil := by
  refine ⟨_, pa_nil, fun F env σ H Q k s z => z [] H s .refl fun env2 H2 s2 x d2 e => ?_⟩
  cases e
  simp only [PRelL]
theorem j_acons {e : Expr} {es : List Expr} {m : ME} {l : Ev → D → Option D} {ma : MA} {la : Ev → List D → Option (List D)} (ha : JO X C W e m l) (hr : JA X C W es ma la)
    (hs : starEach (e :: es) X.env = (false, eval e X.env) :: starEach es X.env) : JA X C W (e :: es) (maCons m ma) (laCons l la) := by
  obtain ⟨t, p, q⟩ := ha.run
  obtain ⟨t2, p2, q2⟩ := hr.run
  refine ⟨_, pa_cons p p2 hs, fun F env σ H Q k s z => q F env σ H _ k s ?_⟩
  unfold maCons at z
  cases e1 : m env with
  | ok x env1 =>
    rw [e1] at z
    refine fun v H1 s1 x1 lt1 => q2 F env1 σ H1 _ k s1 ?_
    dsimp only at z
    cases e2 : ma env1 with
    | ok xs env2 =>
      rw [e2] at z
      refine fun vs H2 s2 x2 lt2 => z (v :: vs) H2 s2 (x1.trans x2) fun env3 H3 s3 x3 d3 e3 => ?_
      simp only [laCons] at e3
      cases e4 : l env3 x with
      | none => rw [e4] at e3; cases e3
      | some a =>
        rw [e4] at e3
        dsimp only at e3
        cases e5 : la env3 xs with
        | none => rw [e5] at e3; cases e3
        | some r =>
          rw [e5] at e3
          cases e3
          simp only [PRelL]
          exact ⟨v, vs, rfl, lt1 env3 H3 s3 (x2.trans x3) a e4, lt2 env3 H3 s3 x3 r e5⟩
    | ex c env2 => rw [e2] at z; exact fun H' s' x' => z H' s' (x1.trans x')
    | bad => rw [e2] at z; exact z
  | ex c env1 => rw [e1] at z; exact z
  | bad => rw [e1] at z; exact z

/-! ### calls of built-ins -/
def mCall (f : List D → Option D) (ma : MA) (la : Ev → List D → Option (List D)) : ME := fun e => match ma e with
  | .ok xs e1 => (match la e1 xs with
    | some ds => (match f ds with
      | some d => .ok d e1
      | none => .bad)
    | none => .bad)
  | .ex c e1 => .ex c e1
  | .bad => .bad
theorem call_run {F : Fx} {env : Ev} {σ : St} {H : Hp} {Q : VK} {r : List V → Hp → VK → Prop} {f : List D → Option D} {t : TA} {ma : MA} {la : Ev → List D → Option (List D)} (k : FX F X.K C)
    (qa : ∀ F env σ H Q, FX F X.K C → SR F env σ H → PostA F C W env σ H la Q (ma env) → t σ H Q) (hs : CaS X.K r f) (s : SR F env σ H) (z : PostE F C W env σ H Q (mCall f ma la env)) : tCB r t σ H Q := by
  refine qa F env σ H _ k s ?_
  unfold mCall at z
  cases e1 : ma env with
  | ok xs env1 =>
    rw [e1] at z
    refine fun vs H1 s1 x1 lt => ?_
    dsimp only at z
    cases e2 : la env1 xs with
    | none => rw [e2] at z; exact z.elim
    | some ds =>
      rw [e2] at z
      dsimp only at z
      cases e3 : f ds with
      | none => rw [e3] at z; exact z.elim
      | some d =>
        rw [e3] at z
        refine hs H1 (Ow F env1 σ) ds vs _ d (fun a => s1.dom) (by rw [← k.1]; exact lt env1 H1 s1 .refl ds e2) e3 fun v' H' g rel => ?_
        exact fin_op s1 x1 g (by rw [k.1]; exact rel) z
  | ex c env1 => rw [e1] at z; exact z
  | bad => rw [e1] at z; exact z
theorem j_callB {id : String} {r : List V → Hp → VK → Prop} {f : List D → Option D} {x : Str} {e : Expr} {es : List Expr} {ma : MA} {la : Ev → List D → Option (List D)} {p pos : Pos} (hc : CallR X (.builtin id) r) (hs : CaS X.K r f) (hg : Gl X x) (hm : X.mg x = none)
    (hv : bootBuiltins x = some (.builtin id)) (hn : x ≠ "__name__") (hdb : (x == ("__debug__" : Str)) = false) (ha : JA X C W (e :: es) ma la)
    (he : starEach (e :: es) X.env = (false, eval e X.env) :: starEach es X.env) (hpl : (backTo pos (starEach es X.env)).any (·.1) = false) : JE X C W (.Call (.Name x p) (e :: es) [] pos) (mCall f ma la) := by
  obtain ⟨t, p, q⟩ := ha.run
  exact ⟨_, pe_callB hc hg hm hv p hn hdb he hpl, fun F env σ H Q k s z => call_run k q hs s z⟩
theorem j_callT {T : String} {r : List V → Hp → VK → Prop} {f : List D → Option D} {x : Str} {e : Expr} {es : List Expr} {ma : MA} {la : Ev → List D → Option (List D)} {p pos : Pos} (hc : CallR X (.type T) r) (hs : CaS X.K r f) (hg : Gl X x) (hm : X.mg x = none)
    (hv : bootBuiltins x = some (.type T)) (hn : x ≠ "__name__") (hdb : (x == ("__debug__" : Str)) = false) (ha : JA X C W (e :: es) ma la)
    (he : starEach (e :: es) X.env = (false, eval e X.env) :: starEach es X.env) (hpl : (backTo pos (starEach es X.env)).any (·.1) = false) : JE X C W (.Call (.Name x p) (e :: es) [] pos) (mCall f ma la) := by
  obtain ⟨t, p, q⟩ := ha.run
  exact ⟨_, pe_callTy hc hg hm hv p hn hdb he hpl, fun F env σ H Q k s z => call_run k q hs s z⟩
/-! ### displays: their items are values -/
def mvNil : MA := fun e => .ok [] e
/-- values in a row: the first holds while the rest is reckoned -/
def mvCons (m : ME) (ma : MA) : MA := maCons m ma
def PostV (F : Fx) (C : CT) (W : WX) (env : Ev) (σ : St) (H : Hp) (Q : List V → Hp → Prop) : RA → Prop
  | .ok ds env' => ∀ vs H', SR F env' σ H' → Ext (Ow F env σ) H (Ow F env' σ) H' → RelL F.K H' (Ow F env' σ) ds vs → Q vs H'
  | .ex c env' => ∀ H', SR F env' σ H' → Ext (Ow F env σ) H (Ow F env' σ) H' → ∀ d, XD C c d H' → W (C c) d σ H'
  | .bad => False
structure JV (X : Cx) (C : CT) (W : WX) (es : List Expr) (m : MA) : Prop where
  run : ∃ t, PA X es t ∧ ∀ F env σ H Q, FX F X.K C → SR F env σ H → PostV F C W env σ H Q (m env) → t σ H Q
theorem j_vnil : JV X C W [] maNil := ⟨_, pa_nil, fun F env σ H Q k s z => z [] H s .refl (by simp only [RelL])⟩
theorem j_vcons {e : Expr} {es : List Expr} {m : ME} {ma : MA} (ha : JE X C W e m) (hr : JV X C W es ma) (hs : starEach (e :: es) X.env = (false, eval e X.env) :: starEach es X.env) : JV X C W (e :: es) (maCons m ma) := by
  obtain ⟨t, p, q⟩ := ha.run
  obtain ⟨t2, p2, q2⟩ := hr.run
  refine ⟨_, pa_cons p p2 hs, fun F env σ H Q k s z => q F env σ H _ k s ?_⟩
  unfold maCons at z
  cases e1 : m env with
  | ok x env1 =>
    rw [e1] at z
    refine fun v H1 s1 x1 r1 => q2 F env1 σ H1 _ k s1 ?_
    dsimp only at z
    cases e2 : ma env1 with
    | ok xs env2 =>
      rw [e2] at z
      refine fun vs H2 s2 x2 r2 => z (v :: vs) H2 s2 (x1.trans x2) ?_
      simp only [RelL]
      exact ⟨v, vs, rfl, r1.ext x2, r2⟩
    | ex c env2 => rw [e2] at z; exact fun H' s' x' => z H' s' (x1.trans x')
    | bad => rw [e2] at z; exact z
  | ex c env1 => rw [e1] at z; exact z
  | bad => rw [e1] at z; exact z
def mTup (ma : MA) : ME := fun e => match ma e with
  | .ok xs e1 => (match Nat.ble xs.length line with
    | true => .ok (.tup xs) e1
    | false => .bad)
  | .ex c e1 => .ex c e1
  | .bad => .bad
def mLst (ma : MA) : ME := fun e => match ma e with
  | .ok xs e1 => (match Nat.ble xs.length line with
    | true => .ok (.lst xs) e1
    | false => .bad)
  | .ex c e1 => .ex c e1
  | .bad => .bad
theorem j_tup {es : List Expr} {ma : MA} {x1 : Nat} {pos : Pos} (h : JV X C W es ma) : JE X C W (.Tuple es x1 pos) (mTup ma) := by
  obtain ⟨t, p, q⟩ := h.run
  refine ⟨_, pe_tup p, fun F env σ H Q k s z => q F env σ H _ k s ?_⟩
  unfold mTup at z
  cases e1 : ma env with
  | ok xs env1 =>
    rw [e1] at z
    dsimp only at z
    cases hl : Nat.ble xs.length line with
    | true =>
      rw [hl] at z
      refine fun vs H1 s1 x1 r => ⟨by rw [← relL_len r]; exact line_le hl, fun p np => ?_⟩
      exact z _ _ (s1.grow (same_upd np)) (x1.trans (Ext.of (same_upd np))) (rel_newT np (fun a => s1.dom) r)
    | false => rw [hl] at z; exact z.elim
  | ex c env1 => rw [e1] at z; exact z
  | bad => rw [e1] at z; exact z
theorem j_lst {es : List Expr} {ma : MA} {pos : Pos} (h : JV X C W es ma) : JE X C W (.List es pos) (mLst ma) := by
  obtain ⟨t, p, q⟩ := h.run
  refine ⟨_, pe_lst p, fun F env σ H Q k s z => q F env σ H _ k s ?_⟩
  unfold mLst at z
  cases e1 : ma env with
  | ok xs env1 =>
    rw [e1] at z
    dsimp only at z
    cases hl : Nat.ble xs.length line with
    | true =>
      rw [hl] at z
      refine fun vs H1 s1 x1 r => ⟨by rw [← relL_len r]; exact line_le hl, fun p np => ?_⟩
      exact z _ _ (s1.grow (same_upd np)) (x1.trans (Ext.of (same_upd np))) (rel_newL np (fun a => s1.dom) r)
    | false => rw [hl] at z; exact z.elim
  | ex c env1 => rw [e1] at z; exact z
  | bad => rw [e1] at z; exact z
/-! ### and, or, not, if -/
def mAnd (m1 m2 : ME) : ME := fun e => match m1 e with
  | .ok (.bl true) e1 => m2 e1
  | .ok (.bl false) e1 => .ok (.bl false) e1
  | .ok _ _ => .bad
  | .ex c e1 => .ex c e1
  | .bad => .bad
def mOr (m1 m2 : ME) : ME := fun e => match m1 e with
  | .ok (.bl true) e1 => .ok (.bl true) e1
  | .ok (.bl false) e1 => m2 e1
  | .ok _ _ => .bad
  | .ex c e1 => .ex c e1
  | .bad => .bad
def mNot (m : ME) : ME := fun e => match m e with
  | .ok (.bl b) e1 => .ok (.bl (!b)) e1
  | .ok _ _ => .bad
  | .ex c e1 => .ex c e1
  | .bad => .bad
def mIf (mc m1 m2 : ME) : ME := fun e => match mc e with
  | .ok (.bl true) e1 => m1 e1
  | .ok (.bl false) e1 => m2 e1
  | .ok _ _ => .bad
  | .ex c e1 => .ex c e1
  | .bad => .bad
theorem PostE.after {F : Fx} {env env1 : Ev} {σ : St} {H H1 : Hp} {Q : VK} (x : Ext (Ow F env σ) H (Ow F env1 σ) H1) : ∀ {r : RE}, PostE F C W env σ H Q r → PostE F C W env1 σ H1 Q r
  | .ok d env2, z => fun v H2 s2 x2 rel => z v H2 s2 (x.trans x2) rel
  | .ex c env2, z => fun H2 s2 x2 => z H2 s2 (x.trans x2)
  | .bad, z => z
theorem PostT.after {F : Fx} {env env1 : Ev} {σ : St} {H H1 : Hp} {Q : Bool → Hp → Prop} (x : Ext (Ow F env σ) H (Ow F env1 σ) H1) : ∀ {r : RE}, PostT F C W env σ H Q r → PostT F C W env1 σ H1 Q r
  | .ok d env2, z => by
    obtain ⟨b, rfl, z⟩ := z
    exact ⟨b, rfl, fun H2 s2 x2 => z H2 s2 (x.trans x2)⟩
  | .ex c env2, z => fun H2 s2 x2 => z H2 s2 (x.trans x2)
  | .bad, z => z
theorem rel_bl {K : PySem.W.Frag} {H : Hp} {O : Addr → Prop} {b : Bool} {v : V} (h : RelD K H O (.bl b) v) : v = .bl b := by simpa only [RelD] using h
theorem jv_one {op : BoolOp} {a : Expr} {m : ME} {pos : Pos} (h : JE X C W a m) : JE X C W (.BoolOp op [a] pos) m := by
  obtain ⟨t, p, q⟩ := h.run
  exact ⟨_, pe_one p, q⟩
theorem jv_and {a b : Expr} {rest : List Expr} {m1 m2 : ME} {pos : Pos} (ha : JE X C W a m1) (hb : JE X C W (.BoolOp .And (b :: rest) pos) m2) : JE X C W (.BoolOp .And (a :: b :: rest) pos) (mAnd m1 m2) := by
  obtain ⟨ta, pa, qa⟩ := ha.run
  obtain ⟨tb, pb, qb⟩ := hb.run
  refine ⟨_, pe_and pa pb, fun F env σ H Q k s z => qa F env σ H _ k s ?_⟩
  unfold mAnd at z
  cases e1 : m1 env with
  | ok x env1 =>
    rw [e1] at z
    refine fun v H1 s1 x1 r => ?_
    cases x with
    | bl c =>
      refine ⟨c, rel_bl r, ?_⟩
      cases c with
      | true => exact iteT (qb F env1 σ H1 Q k s1 (PostE.after x1 z))
      | false => exact iteF (z _ H1 s1 x1 (by simp only [RelD]))
    | _ => exact z.elim
  | ex c env1 => rw [e1] at z; exact z
  | bad => rw [e1] at z; exact z
theorem jv_or {a b : Expr} {rest : List Expr} {m1 m2 : ME} {pos : Pos} (ha : JE X C W a m1) (hb : JE X C W (.BoolOp .Or (b :: rest) pos) m2) : JE X C W (.BoolOp .Or (a :: b :: rest) pos) (mOr m1 m2) := by
  obtain ⟨ta, pa, qa⟩ := ha.run
  obtain ⟨tb, pb, qb⟩ := hb.run
  refine ⟨_, pe_or pa pb, fun F env σ H Q k s z => qa F env σ H _ k s ?_⟩
  unfold mOr at z
  cases e1 : m1 env with
  | ok x env1 =>
    rw [e1] at z
    refine fun v H1 s1 x1 r => ?_
    cases x with
    | bl c =>
      refine ⟨c, rel_bl r, ?_⟩
      cases c with
      | true => exact iteT (z _ H1 s1 x1 (by simp only [RelD]))
      | false => exact iteF (qb F env1 σ H1 Q k s1 (PostE.after x1 z))
    | _ => exact z.elim
  | ex c env1 => rw [e1] at z; exact z
  | bad => rw [e1] at z; exact z
theorem jv_not {a : Expr} {m : ME} {pos : Pos} (ha : JE X C W a m) : JE X C W (.UnaryOp .Not a pos) (mNot m) := by
  obtain ⟨ta, pa, qa⟩ := ha.run
  refine ⟨_, pe_not pa, fun F env σ H Q k s z => qa F env σ H _ k s ?_⟩
  unfold mNot at z
  cases e1 : m env with
  | ok x env1 =>
    rw [e1] at z
    refine fun v H1 s1 x1 r => ?_
    cases x with
    | bl c => exact ⟨c, rel_bl r, z _ H1 s1 x1 (by simp only [RelD])⟩
    | _ => exact z.elim
  | ex c env1 => rw [e1] at z; exact z
  | bad => rw [e1] at z; exact z
/-- a value that is True or False, as a test -/
theorem jt_val {a : Expr} {m : ME} (ha : JE X C W a m) (he : ∀ whole, isTrue a X.env whole = (do let v ← whole; standAt a.pos; holding [v] (truthy v))) : JT X C W a m := by
  obtain ⟨t, p, q⟩ := ha.run
  refine ⟨_, pt_val p he, fun F env σ H Q k s z => q F env σ H _ k s ?_⟩
  cases e1 : m env with
  | ok x env1 =>
    rw [e1] at z
    obtain ⟨b, rfl, z⟩ := z
    exact fun v H1 s1 x1 r => ⟨b, rel_bl r, z H1 s1 x1⟩
  | ex c env1 => rw [e1] at z; exact z
  | bad => rw [e1] at z; exact z
theorem jt_cmp {op : CmpOp} {r : R2} {f : D → D → Option D} {a b : Expr} {m1 m2 : ME} {l1 l2 : Ev → D → Option D} {pos : Pos} (hr : OpR X (compareOp op) r) (hs : OpS X.K r f) (ha : JO X C W a m1 l1) (hb : JO X C W b m2 l2) (hm : behindInMarks op b = false) :
    JT X C W (.Compare a [op] [b] pos) (mB f m1 l1 m2 l2) := by
  obtain ⟨ta, pa, qa⟩ := ha.run
  obtain ⟨tb, pb, qb⟩ := hb.run
  refine ⟨_, pt_cmpR hr pa pb hm, fun F env σ H Q k s z => ?_⟩
  show tOp r ta tb σ H _
  refine two_ops k qa qb hs s ?_
  cases e1 : mB f m1 l1 m2 l2 env with
  | ok x env1 =>
    rw [e1] at z
    obtain ⟨b, rfl, z⟩ := z
    exact fun v H1 s1 x1 r => ⟨b, rel_bl r, z H1 s1 x1⟩
  | ex c env1 => rw [e1] at z; exact z
  | bad => rw [e1] at z; exact z
/-- a test whatever its whole -/
structure JW (X : Cx) (C : CT) (W : WX) (e : Expr) (m : ME) : Prop where
  run : ∃ t, PW X e t ∧ ∀ F env σ H Q, FX F X.K C → SR F env σ H → PostT F C W env σ H Q (m env) → t σ H Q
theorem JW.t {e : Expr} {m : ME} (h : JW X C W e m) : JT X C W e m := by
  obtain ⟨t, p, q⟩ := h.run
  exact ⟨_, p.pt, q⟩
theorem jt_not {a : Expr} {m : ME} {pos : Pos} (ha : JT X C W a m) : JT X C W (.UnaryOp .Not a pos) (mNot m) := by
  obtain ⟨ta, pa, qa⟩ := ha.run
  refine ⟨_, pt_not pa, fun F env σ H Q k s z => qa F env σ H _ k s ?_⟩
  unfold mNot at z
  cases e1 : m env with
  | ok x env1 =>
    rw [e1] at z
    cases x with
    | bl c =>
      obtain ⟨b, e, z⟩ := z
      cases e
      exact ⟨c, rfl, z⟩
    | _ => exact z.elim
  | ex c env1 => rw [e1] at z; exact z
  | bad => rw [e1] at z; exact z
theorem jw_and1 {a : Expr} {m : ME} {pos : Pos} (ha : JT X C W a m) : JW X C W (.BoolOp .And [a] pos) m := by
  obtain ⟨ta, pa, qa⟩ := ha.run
  exact ⟨_, pw_and1 pa, qa⟩
theorem jw_or1 {a : Expr} {m : ME} {pos : Pos} (ha : JT X C W a m) : JW X C W (.BoolOp .Or [a] pos) m := by
  obtain ⟨ta, pa, qa⟩ := ha.run
  exact ⟨_, pw_or1 pa, qa⟩
theorem jw_and {a b : Expr} {rest : List Expr} {m1 m2 : ME} {pos : Pos} (ha : JT X C W a m1) (hb : JW X C W (.BoolOp .And (b :: rest) pos) m2) : JW X C W (.BoolOp .And (a :: b :: rest) pos) (mAnd m1 m2) := by
  obtain ⟨ta, pa, qa⟩ := ha.run
  obtain ⟨tb, pb, qb⟩ := hb.run
  refine ⟨_, pw_and pa pb, fun F env σ H Q k s z => qa F env σ H _ k s ?_⟩
  unfold mAnd at z
  cases e1 : m1 env with
  | ok x env1 =>
    rw [e1] at z
    cases x with
    | bl c =>
      refine ⟨c, rfl, fun H1 s1 x1 => ?_⟩
      cases c with
      | true => exact iteT (qb F env1 σ H1 Q k s1 (PostT.after x1 z))
      | false =>
        obtain ⟨b, e, z⟩ := z
        cases e
        exact iteF (z H1 s1 x1)
    | _ => exact z.elim
  | ex c env1 => rw [e1] at z; exact z
  | bad => rw [e1] at z; exact z
theorem jw_or {a b : Expr} {rest : List Expr} {m1 m2 : ME} {pos : Pos} (ha : JT X C W a m1) (hb : JW X C W (.BoolOp .Or (b :: rest) pos) m2) : JW X C W (.BoolOp .Or (a :: b :: rest) pos) (mOr m1 m2) := by
  obtain ⟨ta, pa, qa⟩ := ha.run
  obtain ⟨tb, pb, qb⟩ := hb.run
  refine ⟨_, pw_or pa pb, fun F env σ H Q k s z => qa F env σ H _ k s ?_⟩
  unfold mOr at z
  cases e1 : m1 env with
  | ok x env1 =>
    rw [e1] at z
    cases x with
    | bl c =>
      refine ⟨c, rfl, fun H1 s1 x1 => ?_⟩
      cases c with
      | true =>
        obtain ⟨b, e, z⟩ := z
        cases e
        exact iteT (z H1 s1 x1)
      | false => exact iteF (qb F env1 σ H1 Q k s1 (PostT.after x1 z))
    | _ => exact z.elim
  | ex c env1 => rw [e1] at z; exact z
  | bad => rw [e1] at z; exact z
theorem j_if {c a b : Expr} {mc m1 m2 : ME} {pos : Pos} (hc : JT X C W c mc) (ha : JE X C W a m1) (hb : JE X C W b m2) : JE X C W (.IfExp c a b pos) (mIf mc m1 m2) := by
  obtain ⟨tc, pc, qc⟩ := hc.run
  obtain ⟨ta, pa, qa⟩ := ha.run
  obtain ⟨tb, pb, qb⟩ := hb.run
  refine ⟨_, pe_ifExp pc pa pb, fun F env σ H Q k s z => qc F env σ H _ k s ?_⟩
  unfold mIf at z
  cases e1 : mc env with
  | ok x env1 =>
    rw [e1] at z
    cases x with
    | bl c =>
      refine ⟨c, rfl, fun H1 s1 x1 => ?_⟩
      cases c with
      | true => exact iteT (qa F env1 σ H1 Q k s1 (PostE.after x1 z))
      | false => exact iteF (qb F env1 σ H1 Q k s1 (PostE.after x1 z))
    | _ => exact z.elim
  | ex c env1 => rw [e1] at z; exact z
  | bad => rw [e1] at z; exact z
/-! ### a < b < c -/
def mChain (f g : D → D → Option D) (m1 : ME) (l1 : Ev → D → Option D) (m2 : ME) (l2 : Ev → D → Option D) (m3 : ME) (l3 : Ev → D → Option D) : ME := fun e => match m1 e with
  | .ok x e1 => (match m2 e1 with
    | .ok y e2 => (match l1 e2 x with
      | some a => (match l2 e2 y with
        | some b => (match f a b with
          | some (.bl true) => (match m3 e2 with
            | .ok w e3 => (match l2 e3 y with
              | some b' => (match l3 e3 w with
                | some c => (match g b' c with
                  | some d => .ok d e3
                  | none => .bad)
                | none => .bad)
              | none => .bad)
            | .ex c e3 => .ex c e3
            | .bad => .bad)
          | some (.bl false) => .ok (.bl false) e2
          | _ => .bad)
        | none => .bad)
      | none => .bad)
    | .ex c e2 => .ex c e2
    | .bad => .bad)
  | .ex c e1 => .ex c e1
  | .bad => .bad
theorem j_chain {op op' : CmpOp} {r r' : R2} {f g : D → D → Option D} {a b c : Expr} {m1 m2 m3 : ME} {l1 l2 l3 : Ev → D → Option D} {pos : Pos} (hr : OpR X (compareOp op) r) (hs : OpS X.K r f) (hr' : OpR X (compareOp op') r') (hs' : OpS X.K r' g)
    (ha : JO X C W a m1 l1) (hb : JO X C W b m2 l2) (hc : JO X C W c m3 l3) (hm : lastMarks [op, op'] [b, c] = false) : JE X C W (.Compare a [op, op'] [b, c] pos) (mChain f g m1 l1 m2 l2 m3 l3) := by
  obtain ⟨ta, pa, qa⟩ := ha.run
  obtain ⟨tb, pb, qb⟩ := hb.run
  obtain ⟨tc, pc, qc⟩ := hc.run
  refine ⟨_, pe_chain hr hr' pa pb pc hm, fun F env σ H Q k s z => qa F env σ H _ k s ?_⟩
  unfold mChain at z
  cases e1 : m1 env with
  | ok x env1 =>
    rw [e1] at z
    refine fun v H1 s1 x1 lt1 => qb F env1 σ H1 _ k s1 ?_
    dsimp only at z
    cases e2 : m2 env1 with
    | ok y env2 =>
      rw [e2] at z
      refine fun u H2 s2 x2 lt2 => ?_
      dsimp only at z
      cases e3 : l1 env2 x with
      | none => rw [e3] at z; exact z.elim
      | some a1 =>
        rw [e3] at z
        dsimp only at z
        cases e4 : l2 env2 y with
        | none => rw [e4] at z; exact z.elim
        | some b1 =>
          rw [e4] at z
          dsimp only at z
          cases e5 : f a1 b1 with
          | none => rw [e5] at z; exact z.elim
          | some d =>
            rw [e5] at z
            refine hs H2 (Ow F env2 σ) a1 b1 v u _ d (fun a => s2.dom) (by rw [← k.1]; exact lt1 env2 H2 s2 x2 a1 e3) (by rw [← k.1]; exact lt2 env2 H2 s2 .refl b1 e4) e5 fun v' H3 g3 rel => ?_
            cases d with
            | bl bb =>
              refine ⟨bb, rel_bl rel, ?_⟩
              have s3 := s2.grow g3
              have x3 := x2.trans (Ext.of (O := Ow F env2 σ) g3)
              cases bb with
              | false => exact iteF (z _ H3 s3 (x1.trans x3) (by simp only [RelD]))
              | true =>
                refine iteT (qc F env2 σ H3 _ k s3 ?_)
                dsimp only at z
                cases e6 : m3 env2 with
                | ok w env3 =>
                  rw [e6] at z
                  refine fun u3 H4 s4 x4 lt4 => ?_
                  dsimp only at z
                  cases e7 : l2 env3 y with
                  | none => rw [e7] at z; exact z.elim
                  | some b2 =>
                    rw [e7] at z
                    dsimp only at z
                    cases e8 : l3 env3 w with
                    | none => rw [e8] at z; exact z.elim
                    | some c2 =>
                      rw [e8] at z
                      dsimp only at z
                      cases e9 : g b2 c2 with
                      | none => rw [e9] at z; exact z.elim
                      | some d2 =>
                        rw [e9] at z
                        refine hs' H4 (Ow F env3 σ) b2 c2 u u3 _ d2 (fun a => s4.dom) (by rw [← k.1]; exact lt2 env3 H4 s4 ((Ext.of (O := Ow F env2 σ) g3).trans x4) b2 e7) (by rw [← k.1]; exact lt4 env3 H4 s4 .refl c2 e8) e9 fun v5 H5 g5 rel5 => ?_
                        exact fin_op s4 ((x1.trans x3).trans x4) g5 (by rw [k.1]; exact rel5) z
                | ex c env3 => rw [e6] at z; exact fun H' s' x' => z H' s' ((x1.trans x3).trans x')
                | bad => rw [e6] at z; exact z
            | _ => exact z.elim
    | ex c env2 => rw [e2] at z; exact fun H' s' x' => z H' s' (x1.trans x')
    | bad => rw [e2] at z; exact z
  | ex c env1 => rw [e1] at z; exact z
  | bad => rw [e1] at z; exact z
end
end MP

set_option Elab.async false
set_option linter.all false
set_option maxRecDepth 100000
set_option maxHeartbeats 4000000
namespace MP
open PySem PySem.Spec L2
open PyProof.Rows hiding St

/-! ### slices -/
def prt : D → Option (Option Int)
  | .non => some none
  | .int i => some (some i)
  | _ => none
def PostP (F : Fx) (C : CT) (W : WX) (env : Ev) (σ : St) (H : Hp) (Q : Option Int → Hp → Prop) : RE → Prop
  | .ok d env' => ∃ o, prt d = some o ∧ ∀ H', SR F env' σ H' → Ext (Ow F env σ) H (Ow F env' σ) H' → Q o H'
  | .ex c env' => ∀ H', SR F env' σ H' → Ext (Ow F env σ) H (Ow F env' σ) H' → ∀ d, XD C c d H' → W (C c) d σ H'
  | .bad => False
structure JP (X : Cx) (C : CT) (W : WX) (e : Option Expr) (m : ME) : Prop where
  run : ∃ t, PO X e t ∧ ∀ F env σ H Q, FX F X.K C → SR F env σ H → PostP F C W env σ H Q (m env) → t σ H Q
def cutD {α : Type} (xs : List α) (lo hi : Option Int) : List α := (xs.drop (HT.sIx xs.length 0 lo)).take (HT.sIx xs.length xs.length hi - HT.sIx xs.length 0 lo)
def fSl : D → Option Int → Option Int → Option D
  | .lst xs, lo, hi => some (.lst (cutD xs lo hi))
  | .tup xs, lo, hi => some (.tup (cutD xs lo hi))
  | .str cs, lo, hi => (match Nat.ble cs.length line with
    | true => some (.str (cutD cs lo hi))
    | false => none)
  | _, _, _ => none
def mSl (m : ME) (l : Ev → D → Option D) (m1 m2 : ME) : ME := fun e => match m e with
  | .ok x e1 => (match m1 e1 with
    | .ok a e2 => (match prt a with
      | some lo => (match m2 e2 with
        | .ok b e3 => (match prt b with
          | some hi => (match l e3 x with
            | some y => (match fSl y lo hi with
              | some d => .ok d e3
              | none => .bad)
            | none => .bad)
          | none => .bad)
        | .ex c e3 => .ex c e3
        | .bad => .bad)
      | none => .bad)
    | .ex c e2 => .ex c e2
    | .bad => .bad)
  | .ex c e1 => .ex c e1
  | .bad => .bad
section
variable {X : Cx} {C : CT} {W : WX}
theorem jp_none : JP X C W none (mC .non) := ⟨_, po_none, fun F env σ H Q k s z => by
  obtain ⟨o, e, z⟩ := z
  cases e
  exact z H s .refl⟩
theorem jp_some {e : Expr} {m : ME} (h : JE X C W e m) : JP X C W (some e) (fun env => match m env with
  | .ok (.int i) e1 => .ok (.int i) e1
  | .ok _ _ => .bad
  | .ex c e1 => .ex c e1
  | .bad => .bad) := by
  obtain ⟨t, p, q⟩ := h.run
  refine ⟨_, po_some p, fun F env σ H Q k s z => q F env σ H _ k s ?_⟩
  cases e1 : m env with
  | ok x env1 =>
    rw [e1] at z
    refine fun v H1 s1 x1 r => ?_
    cases x with
    | int i =>
      obtain ⟨o, e, z⟩ := z
      cases e
      refine ⟨i, by simpa only [RelD] using r, z H1 s1 x1⟩
    | _ => exact z.elim
  | ex c env1 => rw [e1] at z; exact z
  | bad => rw [e1] at z; exact z
def rSlAll (K : PySem.W.Frag) : V → Option Int → Option Int → Hp → VK → Prop := fun x lo hi H Q => rSlL K x lo hi H Q ∨ (rSlA K x lo hi H Q ∨ rSlS x lo hi H Q)
theorem sl_all : SlR X (rSlAll X.K) := sl_list.or (sl_tupA.or sl_str)
theorem s_sl {K : PySem.W.Frag} {H : Hp} {O : Addr → Prop} {x : D} {v : V} {lo hi : Option Int} {Q : VK} {d : D} (dom : ∀ a, O a → H a ≠ none) (px : PRel K H O x v) (e : fSl x lo hi = some d)
    (q : ∀ v' H', Same H H' → RelD K H' O d v' → Q v' H') : rSlAll K v lo hi H Q := by
  cases x <;> simp only [fSl] at e <;> try (cases e; done)
  · rename_i cs
    split at e
    · rename_i hl
      cases e
      refine .inr (.inr ⟨_, p_str px, ?_, q _ H (Same.refl H) ?_⟩)
      · have := line_le hl
        simpa [Str.length] using this
      · simp only [RelD]
        rfl
    · cases e
  · rename_i xs
    cases e
    obtain ⟨a, vs, rfl, e1, r1⟩ := p_tup px |>.2
    have l1 := relL_len r1
    have rc : RelL K H O (cutD xs lo hi) (cutV vs lo hi) := by
      unfold cutD cutV
      rw [l1]
      exact relL_take _ (relL_drop _ r1)
    refine .inr (.inl ⟨a, vs, rfl, e1, fun h => ?_, fun h p np => q _ _ (same_upd np) (rel_newT np dom rc)⟩)
    have : cutD xs lo hi = xs := by
      unfold cutD
      rw [l1, h.1, h.2, List.drop_zero, ← l1]
      exact List.take_of_length_le (by omega)
    rw [this] at q
    exact q _ H (Same.refl H) (p_tup px).1
  · rename_i xs
    cases e
    obtain ⟨a, vs, rfl, e1, r1⟩ := p_lst px
    have l1 := relL_len r1
    have rc : RelL K H O (cutD xs lo hi) (cutV vs lo hi) := by
      unfold cutD cutV
      rw [l1]
      exact relL_take _ (relL_drop _ r1)
    exact .inl ⟨a, vs, rfl, .inl (.inl e1), fun p np => q _ _ (same_upd np) (rel_newL np dom rc)⟩
theorem j_sl {e : Expr} {lo hi : Option Expr} {m m1 m2 : ME} {l : Ev → D → Option D} {p2 pos : Pos} (he : JO X C W e m l) (h1 : JP X C W lo m1) (h2 : JP X C W hi m2) : JE X C W (.Subscript e (.Slice lo hi none p2) pos) (mSl m l m1 m2) := by
  obtain ⟨t, p, q⟩ := he.run
  obtain ⟨t1, p1, q1⟩ := h1.run
  obtain ⟨t2, pp2, q2⟩ := h2.run
  refine ⟨_, pe_slice sl_all p p1 pp2, fun F env σ H Q k s z => q F env σ H _ k s ?_⟩
  unfold mSl at z
  cases e1 : m env with
  | ok x env1 =>
    rw [e1] at z
    refine fun v H1 s1 x1 lt => q1 F env1 σ H1 _ k s1 ?_
    dsimp only at z
    cases e2 : m1 env1 with
    | ok a env2 =>
      rw [e2] at z
      dsimp only at z
      cases e5 : prt a with
      | none => rw [e5] at z; exact z.elim
      | some o1 =>
        rw [e5] at z
        dsimp only at z
        refine ⟨o1, e5, fun H2 s2 x2 => q2 F env2 σ H2 _ k s2 ?_⟩
        cases e3 : m2 env2 with
        | ok b env3 =>
          rw [e3] at z
          dsimp only at z
          cases e6 : prt b with
          | none => rw [e6] at z; exact z.elim
          | some o2 =>
            rw [e6] at z
            dsimp only at z
            refine ⟨o2, e6, fun H3 s3 x3 => ?_⟩
            cases e4 : l env3 x with
            | none => rw [e4] at z; exact z.elim
            | some y =>
              rw [e4] at z
              dsimp only at z
              cases e7 : fSl y o1 o2 with
              | none => rw [e7] at z; exact z.elim
              | some d =>
                rw [e7] at z
                refine s_sl (fun a => s3.dom) (by rw [← k.1]; exact lt env3 H3 s3 (x2.trans x3) y e4) e7 fun v' H' g rel => ?_
                exact fin_op s3 ((x1.trans x2).trans x3) g (by rw [k.1]; exact rel) z
        | ex c env3 => rw [e3] at z; exact fun H' s' x' => z H' s' ((x1.trans x2).trans x')
        | bad => rw [e3] at z; exact z
    | ex c env2 => rw [e2] at z; exact fun H' s' x' => z H' s' (x1.trans x')
    | bad => rw [e2] at z; exact z
  | ex c env1 => rw [e1] at z; exact z
  | bad => rw [e1] at z; exact z
/-! ### [::-1] of a list -/
def fRev : D → Option D
  | .lst xs => some (.lst xs.reverse)
  | _ => none
theorem j_revL {e : Expr} {m : ME} {l : Ev → D → Option D} {k : Nat} {p1 p2 p3 pos : Pos} (he : JO X C W e m l) : JE X C W (.Subscript e (.Slice none none (some (.UnaryOp .USub (.Constant (.int 1) k p1) p2)) p3) pos) (mU fRev m l) := by
  obtain ⟨t, p, q⟩ := he.run
  refine ⟨_, pe_revL p, fun F env σ H Q k s z => q F env σ H _ k s ?_⟩
  unfold mU at z
  cases e1 : m env with
  | ok x env1 =>
    rw [e1] at z
    refine fun v H1 s1 x1 lt => ?_
    dsimp only at z
    cases e2 : l env1 x with
    | none => rw [e2] at z; exact z.elim
    | some a1 =>
      rw [e2] at z
      dsimp only at z
      cases a1 with
      | lst xs =>
        obtain ⟨a, vs, rfl, q1, r1⟩ := p_lst (lt env1 H1 s1 .refl _ e2)
        refine ⟨a, vs, rfl, .inl (.inl q1), fun p np => ?_⟩
        exact z _ _ (s1.grow (same_upd np)) (x1.trans (Ext.of (same_upd np))) (rel_newL np (fun a => s1.dom) (relL_rev r1))
      | _ => exact z.elim
  | ex c env1 => rw [e1] at z; exact z
  | bad => rw [e1] at z; exact z
end

/-! ### built-ins -/
theorem CallR.or' {X : Cx} {f : Value} {r r' : List V → Hp → VK → Prop} (h : CallR X f r) (h' : CallR X f r') : CallR X f (fun xs H Q => r xs H Q ∨ r' xs H Q) := h.or h'
section
variable {K : PySem.W.Frag}
def bLen : List D → Option D
  | [.lst xs] => some (.int xs.length)
  | [.tup xs] => some (.int xs.length)
  | [.scr xs] => some (.int xs.length)
  | [.str cs] => (match Nat.ble cs.length line with
    | true => some (.int cs.length)
    | false => none)
  | _ => none
theorem s_len : CaS K (fun xs H Q => ∃ x n, xs = [x] ∧ LenV K x H n ∧ Q (.int n) H) bLen := by
  intro H O xs vs Q d dom pp e q
  match xs, e with
  | [x], e =>
    obtain ⟨v, rfl, px⟩ := pRelL_one pp
    cases x <;> simp only [bLen] at e <;> try (cases e; done)
    · rename_i cs
      split at e
      · rename_i hl
        cases e
        rw [p_str px]
        exact ⟨_, _, rfl, ⟨by have := line_le hl; simpa [Str.length] using this, rfl⟩, by
          have := q (.int cs.length) H (Same.refl H) (by simp only [RelD])
          simpa [Str.length] using this⟩
      · cases e
    · cases e
      obtain ⟨a, ws, rfl, q1, r1⟩ := p_tup px |>.2
      exact ⟨_, _, rfl, .inr ⟨ws, q1, rfl⟩, q _ H (Same.refl H) (by simp only [RelD]; rw [relL_len r1])⟩
    · cases e
      obtain ⟨a, ws, rfl, q1, r1⟩ := p_lst px
      exact ⟨_, _, rfl, .inl ⟨ws, .inl (.inl q1), rfl⟩, q _ H (Same.refl H) (by simp only [RelD]; rw [relL_len r1])⟩
    · cases e
      obtain ⟨a, rfl, q1⟩ := p_scr px
      exact ⟨_, _, rfl, .inl ⟨_, q1, rfl⟩, q _ H (Same.refl H) (by simp only [RelD]; rw [List.length_map])⟩
  | [], e => simp [bLen] at e
  | _ :: _ :: _, e => simp [bLen] at e
def bAbs : List D → Option D
  | [.int i] => some (.int (if i < 0 then -i else i))
  | _ => none
theorem s_abs : CaS K (fun xs H Q => ∃ i, xs = [.int i] ∧ Q (.int (if i < 0 then -i else i)) H) bAbs := by
  intro H O xs vs Q d dom pp e q
  match xs, e with
  | [x], e =>
    obtain ⟨v, rfl, px⟩ := pRelL_one pp
    cases x <;> simp only [bAbs] at e <;> cases e
    rw [p_int px]
    exact ⟨_, rfl, q _ H (Same.refl H) (by simp only [RelD])⟩
  | [], e => simp [bAbs] at e
  | _ :: _ :: _, e => simp [bAbs] at e
def bInt : List D → Option D
  | [.int i] => some (.int i)
  | [.bl b] => some (.int (b2iD b))
  | _ => none
theorem s_int : CaS K (fun xs H Q => (∃ i, xs = [.int i] ∧ Q (.int i) H) ∨ ∃ k, xs = [.bl k] ∧ Q (.int (if k then 1 else 0)) H) bInt := by
  intro H O xs vs Q d dom pp e q
  match xs, e with
  | [x], e =>
    obtain ⟨v, rfl, px⟩ := pRelL_one pp
    cases x <;> simp only [bInt] at e <;> cases e
    · rename_i b
      rw [p_bl px]
      exact .inr ⟨b, rfl, q _ H (Same.refl H) (by simp only [RelD]; cases b <;> rfl)⟩
    · rw [p_int px]
      exact .inl ⟨_, rfl, q _ H (Same.refl H) (by simp only [RelD])⟩
  | [], e => simp [bInt] at e
  | _ :: _ :: _, e => simp [bInt] at e
def bMax : List D → Option D
  | [.int i, .int j] => some (.int (if j > i then j else i))
  | [.lst xs] => (match intsOf xs with
    | some (n :: r) => some (.int (r.foldl max n))
    | _ => none)
  | _ => none
def bMin : List D → Option D
  | [.int i, .int j] => some (.int (if j < i then j else i))
  | [.lst xs] => (match intsOf xs with
    | some (n :: r) => some (.int (r.foldl min n))
    | _ => none)
  | _ => none
theorem foldl_max : ∀ (r : List Int) (n m : Int), m ∈ n :: r → (∀ y, y ∈ n :: r → y ≤ m) → r.foldl max n = m
  | [], n, m, h, k => by simp at h; rw [h]; rfl
  | x :: r, n, m, h, k => by
    show r.foldl max (max n x) = m
    have hn := k n (by simp)
    have hx := k x (by simp)
    refine foldl_max r (max n x) m ?_ fun y hy => ?_
    · simp only [List.mem_cons] at h ⊢
      rcases h with h | h | h
      · left; omega
      · left; omega
      · right; exact h
    · simp only [List.mem_cons] at hy
      rcases hy with rfl | hy
      · omega
      · exact k y (by simp [hy])
theorem foldl_min : ∀ (r : List Int) (n m : Int), m ∈ n :: r → (∀ y, y ∈ n :: r → m ≤ y) → r.foldl min n = m
  | [], n, m, h, k => by simp at h; rw [h]; rfl
  | x :: r, n, m, h, k => by
    show r.foldl min (min n x) = m
    have hn := k n (by simp)
    have hx := k x (by simp)
    refine foldl_min r (min n x) m ?_ fun y hy => ?_
    · simp only [List.mem_cons] at h ⊢
      rcases h with h | h | h
      · left; omega
      · left; omega
      · right; exact h
    · simp only [List.mem_cons] at hy
      rcases hy with rfl | hy
      · omega
      · exact k y (by simp [hy])
def rMaxA (K : PySem.W.Frag) : List V → Hp → VK → Prop := fun xs H Q => (∃ i j, xs = [.int i, .int j] ∧ Q (.int (if j > i then j else i)) H) ∨ rMax K xs H Q
def rMinA (K : PySem.W.Frag) : List V → Hp → VK → Prop := fun xs H Q => (∃ i j, xs = [.int i, .int j] ∧ Q (.int (if j < i then j else i)) H) ∨ rMin K xs H Q
theorem c_max {X : Cx} (hc : X.calm = true) : CallR X (.builtin "max") (rMaxA X.K) := (call_max2 hc).or (cr_max hc)
theorem c_min {X : Cx} (hc : X.calm = true) : CallR X (.builtin "min") (rMinA X.K) := (call_min2 hc).or (cr_min hc)
theorem s_max : CaS K (rMaxA K) bMax := by
  intro H O xs vs Q d dom pp e q
  match xs, e with
  | [x], e =>
    obtain ⟨v, rfl, px⟩ := pRelL_one pp
    cases x <;> simp only [bMax] at e <;> try (cases e; done)
    rename_i ys
    split at e <;> cases e
    rename_i n r he
    obtain ⟨a, ws, rfl, q1, r1⟩ := p_lst px
    have i1 := intsOf_ok he
    subst i1
    rw [p_ints r1] at q1
    refine .inr ⟨a, n :: r, rfl, .inl (.inl q1), by simp, fun m hm hk => ?_⟩
    rw [← foldl_max r n m hm hk]
    exact q _ H (Same.refl H) (by simp only [RelD])
  | [x, y], e =>
    obtain ⟨v, u, rfl, px, py⟩ := pRelL_two pp
    cases x <;> cases y <;> simp only [bMax] at e <;> cases e
    rw [p_int px, p_int py]
    exact .inl ⟨_, _, rfl, q _ H (Same.refl H) (by simp only [RelD])⟩
  | [], e => simp [bMax] at e
  | _ :: _ :: _ :: _, e => simp [bMax] at e
theorem s_min : CaS K (rMinA K) bMin := by
  intro H O xs vs Q d dom pp e q
  match xs, e with
  | [x], e =>
    obtain ⟨v, rfl, px⟩ := pRelL_one pp
    cases x <;> simp only [bMin] at e <;> try (cases e; done)
    rename_i ys
    split at e <;> cases e
    rename_i n r he
    obtain ⟨a, ws, rfl, q1, r1⟩ := p_lst px
    have i1 := intsOf_ok he
    subst i1
    rw [p_ints r1] at q1
    refine .inr ⟨a, n :: r, rfl, .inl (.inl q1), by simp, fun m hm hk => ?_⟩
    rw [← foldl_min r n m hm hk]
    exact q _ H (Same.refl H) (by simp only [RelD])
  | [x, y], e =>
    obtain ⟨v, u, rfl, px, py⟩ := pRelL_two pp
    cases x <;> cases y <;> simp only [bMin] at e <;> cases e
    rw [p_int px, p_int py]
    exact .inl ⟨_, _, rfl, q _ H (Same.refl H) (by simp only [RelD])⟩
  | [], e => simp [bMin] at e
  | _ :: _ :: _ :: _, e => simp [bMin] at e
def bSum : List D → Option D
  | [.lst xs] => (match intsOf xs with
    | some ns => some (.int ns.sum)
    | none => none)
  | _ => none
theorem s_sum : CaS K (rSum K) bSum := by
  intro H O xs vs Q d dom pp e q
  match xs, e with
  | [x], e =>
    obtain ⟨v, rfl, px⟩ := pRelL_one pp
    cases x <;> simp only [bSum] at e <;> try (cases e; done)
    split at e <;> cases e
    rename_i he
    obtain ⟨a, ws, rfl, q1, r1⟩ := p_lst px
    have i1 := intsOf_ok he
    subst i1
    rw [p_ints r1] at q1
    exact ⟨a, _, rfl, .inl (.inl q1), q _ H (Same.refl H) (by simp only [RelD])⟩
  | [], e => simp [bSum] at e
  | _ :: _ :: _, e => simp [bSum] at e
def bAll : List D → Option D
  | [.lst xs] => (match blsOf xs with
    | some ns => some (.bl (ns.all id))
    | none => none)
  | _ => none
theorem s_all : CaS K (rAll K) bAll := by
  intro H O xs vs Q d dom pp e q
  match xs, e with
  | [x], e =>
    obtain ⟨v, rfl, px⟩ := pRelL_one pp
    cases x <;> simp only [bAll] at e <;> try (cases e; done)
    split at e <;> cases e
    rename_i he
    obtain ⟨a, ws, rfl, q1, r1⟩ := p_lst px
    have i1 := blsOf_ok he
    subst i1
    rw [p_bls r1] at q1
    exact ⟨a, _, rfl, .inl (.inl q1), q _ H (Same.refl H) (by simp only [RelD])⟩
  | [], e => simp [bAll] at e
  | _ :: _ :: _, e => simp [bAll] at e
def bAny : List D → Option D
  | [.lst xs] => (match blsOf xs with
    | some ns => some (.bl (ns.any id))
    | none => none)
  | _ => none
theorem s_any : CaS K (rAny K) bAny := by
  intro H O xs vs Q d dom pp e q
  match xs, e with
  | [x], e =>
    obtain ⟨v, rfl, px⟩ := pRelL_one pp
    cases x <;> simp only [bAny] at e <;> try (cases e; done)
    split at e <;> cases e
    rename_i he
    obtain ⟨a, ws, rfl, q1, r1⟩ := p_lst px
    have i1 := blsOf_ok he
    subst i1
    rw [p_bls r1] at q1
    exact ⟨a, _, rfl, .inl (.inl q1), q _ H (Same.refl H) (by simp only [RelD])⟩
  | [], e => simp [bAny] at e
  | _ :: _ :: _, e => simp [bAny] at e
def bList : List D → Option D
  | [.lst xs] => some (.lst xs)
  | [.tup xs] => some (.lst xs)
  | _ => none
theorem s_list : CaS K (fun xs H Q => ∃ p ys, xs = [.ref p] ∧ (SqL K H p ys ∨ SqT K H p ys) ∧ ∀ l, H l = none → Q (.ref l) (upd H l (.lst ys))) bList := by
  intro H O xs vs Q d dom pp e q
  match xs, e with
  | [x], e =>
    obtain ⟨v, rfl, px⟩ := pRelL_one pp
    cases x <;> simp only [bList] at e <;> try (cases e; done)
    · cases e
      obtain ⟨a, ws, rfl, q1, r1⟩ := p_tup px |>.2
      exact ⟨a, ws, rfl, .inr q1, fun p np => q _ _ (same_upd np) (rel_newL np dom r1)⟩
    · cases e
      obtain ⟨a, ws, rfl, q1, r1⟩ := p_lst px
      exact ⟨a, ws, rfl, .inl (.inl (.inl q1)), fun p np => q _ _ (same_upd np) (rel_newL np dom r1)⟩
  | [], e => simp [bList] at e
  | _ :: _ :: _, e => simp [bList] at e
def bTuple : List D → Option D
  | [.lst xs] => some (.tup xs)
  | [.tup xs] => some (.tup xs)
  | _ => none
theorem s_tuple : CaS K (fun xs H Q => ∃ p ys, xs = [.ref p] ∧ ((SqL K H p ys ∧ ∀ l, H l = none → Q (.ref l) (upd H l (.tup ys))) ∨ (SqT K H p ys ∧ Q (.ref p) H))) bTuple := by
  intro H O xs vs Q d dom pp e q
  match xs, e with
  | [x], e =>
    obtain ⟨v, rfl, px⟩ := pRelL_one pp
    cases x <;> simp only [bTuple] at e <;> try (cases e; done)
    · cases e
      obtain ⟨r0, a, ws, rfl, q1, r1⟩ := p_tup px
      exact ⟨a, ws, rfl, .inr ⟨q1, q _ H (Same.refl H) r0⟩⟩
    · cases e
      obtain ⟨a, ws, rfl, q1, r1⟩ := p_lst px
      exact ⟨a, ws, rfl, .inl ⟨.inl (.inl q1), fun p np => q _ _ (same_upd np) (rel_newT np dom r1)⟩⟩
  | [], e => simp [bTuple] at e
  | _ :: _ :: _, e => simp [bTuple] at e
/-- the sorted list of some ints -/
def insI (x : Int) : List Int → List Int
  | [] => [x]
  | y :: r => (match decide (x ≤ y) with
    | true => x :: y :: r
    | false => y :: insI x r)
def sortI : List Int → List Int
  | [] => []
  | x :: r => insI x (sortI r)
theorem insI_perm (x : Int) : ∀ l : List Int, (insI x l).Perm (x :: l)
  | [] => .refl _
  | y :: r => by
    unfold insI
    split
    · exact .refl _
    · exact ((insI_perm x r).cons y).trans (.swap x y r)
theorem sortI_perm : ∀ l : List Int, (sortI l).Perm l
  | [] => .refl _
  | x :: r => (insI_perm x _).trans ((sortI_perm r).cons x)
theorem insI_sorted (x : Int) : ∀ l : List Int, l.Pairwise (· ≤ ·) → (insI x l).Pairwise (· ≤ ·)
  | [], _ => by simp [insI]
  | y :: r, h => by
    obtain ⟨h1, h2⟩ := List.pairwise_cons.mp h
    unfold insI
    split
    · rename_i q
      have q := of_decide_eq_true q
      refine List.pairwise_cons.mpr ⟨fun z hz => ?_, h⟩
      rcases List.mem_cons.mp hz with rfl | hz
      · exact q
      · exact Int.le_trans q (h1 z hz)
    · rename_i q
      have q := of_decide_eq_false q
      refine List.pairwise_cons.mpr ⟨fun z hz => ?_, insI_sorted x r h2⟩
      have := (insI_perm x r).mem_iff.mp hz
      rcases List.mem_cons.mp this with rfl | hz
      · omega
      · exact h1 z hz
theorem sortI_sorted : ∀ l : List Int, (sortI l).Pairwise (· ≤ ·)
  | [] => .nil
  | x :: r => insI_sorted x _ (sortI_sorted r)
theorem sorted_one : ∀ {l l' : List Int}, l.Perm l' → l.Pairwise (· ≤ ·) → l'.Pairwise (· ≤ ·) → l = l'
  | [], l', p, _, _ => (List.Perm.nil_eq p)
  | x :: r, [], p, _, _ => absurd p.length_eq (by simp)
  | x :: r, y :: r', p, h, h' => by
    obtain ⟨h1, h2⟩ := List.pairwise_cons.mp h
    obtain ⟨h3, h4⟩ := List.pairwise_cons.mp h'
    have a : x ≤ y := by
      have : y ∈ x :: r := p.mem_iff.mpr (by simp)
      rcases List.mem_cons.mp this with e | e
      · omega
      · exact h1 y e
    have b : y ≤ x := by
      have : x ∈ y :: r' := p.mem_iff.mp (by simp)
      rcases List.mem_cons.mp this with e | e
      · omega
      · exact h3 x e
    have e : x = y := by omega
    subst e
    rw [sorted_one (p.cons_inv) h2 h4]
def bSorted : List D → Option D
  | [.lst xs] => (match intsOf xs with
    | some ns => (match Nat.blt ns.length 64 with
      | true => some (.lst ((sortI ns).map D.int))
      | false => none)
    | none => none)
  | _ => none
theorem s_sorted : CaS K (rSorted K) bSorted := by
  intro H O xs vs Q d dom pp e q
  match xs, e with
  | [x], e =>
    obtain ⟨v, rfl, px⟩ := pRelL_one pp
    cases x <;> simp only [bSorted] at e <;> try (cases e; done)
    split at e
    · rename_i he
      split at e <;> cases e
      rename_i hl
      obtain ⟨a, ws, rfl, q1, r1⟩ := p_lst px
      have i1 := intsOf_ok he
      subst i1
      rw [p_ints r1] at q1
      refine ⟨a, _, rfl, .inl (.inl q1), Nat.le_of_ble_eq_true hl, fun ns' p pm pw np => ?_⟩
      rw [sorted_one (pm.trans (sortI_perm _).symm) pw (sortI_sorted _)]
      exact q _ _ (same_upd np) (rel_newL np dom (r_ints _))
    · cases e
  | [], e => simp [bSorted] at e
  | _ :: _ :: _, e => simp [bSorted] at e
end
end MP

set_option Elab.async false
set_option linter.all false
set_option maxRecDepth 100000
set_option maxHeartbeats 4000000
namespace MP
open PySem PySem.Spec L2
open PyProof.Rows hiding St

/-! ### isinstance -/
def tyStr : D → Option String
  | .non => some "NoneType"
  | .bl _ => some "bool"
  | .int _ => some "int"
  | .str _ => some "str"
  | .tup _ => some "tuple"
  | .lst _ => some "list"
  | _ => none
def isInt : D → Option D
  | .int _ => some (.bl true)
  | .bl _ => some (.bl true)
  | .non => some (.bl false)
  | .str _ => some (.bl false)
  | .tup _ => some (.bl false)
  | .lst _ => some (.bl false)
  | _ => none
def isBool : D → Option D
  | .bl _ => some (.bl true)
  | .int _ => some (.bl false)
  | .non => some (.bl false)
  | .str _ => some (.bl false)
  | .tup _ => some (.bl false)
  | .lst _ => some (.bl false)
  | _ => none
def isTup : D → Option D
  | .tup _ => some (.bl true)
  | .bl _ => some (.bl false)
  | .int _ => some (.bl false)
  | .non => some (.bl false)
  | .str _ => some (.bl false)
  | .lst _ => some (.bl false)
  | _ => none
def isStr : D → Option D
  | .str _ => some (.bl true)
  | .bl _ => some (.bl false)
  | .int _ => some (.bl false)
  | .non => some (.bl false)
  | .tup _ => some (.bl false)
  | .lst _ => some (.bl false)
  | _ => none
theorem ty_of {K : PySem.W.Frag} {H : Hp} {O : Addr → Prop} {x : D} {v : V} {T : String} (px : PRel K H O x v) (e : tyStr x = some T) : TyX K H v (.type T) := by
  cases x <;> simp only [tyStr] at e <;> cases e
  · rw [p_non px]; exact .base .non
  · rw [p_bl px]; exact .base (.bl _)
  · rw [p_int px]; exact .base (.int _)
  · rw [p_str px]; exact .base (.str _)
  · rcases px with h | ⟨a, e, h⟩
    · simp only [RelD] at h
      obtain ⟨a, vs, rfl, q, r⟩ := h
      rcases q with ⟨q, n⟩ | ⟨o, its, n, q, c, _⟩
      · rcases q with q | ⟨o, q⟩
        · exact .base (.tup q)
        · exact .fTuple q
      · exact .kTuple q c
    · simp only [CRel] at h
  · obtain ⟨a, vs, rfl, q, r⟩ := p_lst px
    exact .base (.lst q)
def tIsi (K : PySem.W.Frag) (T : String) (ta : TE) : TE := tCB (rIsi K) (tCons ta (tCons (tC (.ty T)) tNil))
/-- which answers isinstance(x, T) has -/
def IsiOk (T : String) (f : D → Option D) : Prop := ∀ x d, f x = some d → ∃ S b, tyStr x = some S ∧ d = .bl b ∧ kitB S T = some b
theorem isi_int : IsiOk "int" isInt := by
  intro x d e
  cases x <;> simp only [isInt] at e <;> cases e <;> exact ⟨_, _, rfl, rfl, by decide +kernel⟩
theorem isi_bool : IsiOk "bool" isBool := by
  intro x d e
  cases x <;> simp only [isBool] at e <;> cases e <;> exact ⟨_, _, rfl, rfl, by decide +kernel⟩
theorem isi_tup : IsiOk "tuple" isTup := by
  intro x d e
  cases x <;> simp only [isTup] at e <;> cases e <;> exact ⟨_, _, rfl, rfl, by decide +kernel⟩
theorem isi_str : IsiOk "str" isStr := by
  intro x d e
  cases x <;> simp only [isStr] at e <;> cases e <;> exact ⟨_, _, rfl, rfl, by decide +kernel⟩
section
variable {X : Cx} {C : CT} {W : WX}
theorem j_isi {T : String} {f : D → Option D} {x y : Str} {a : Expr} {m : ME} {l : Ev → D → Option D} {p p2 pos : Pos} (hi : IsiOk T f) (ha : JO X C W a m l) (hg : Gl X x) (hm : X.mg x = none) (hv : bootBuiltins x = some (.builtin "isinstance"))
    (hn : x ≠ "__name__") (hdb : (x == ("__debug__" : Str)) = false) (hg2 : Gl X y) (hm2 : X.mg y = none) (hv2 : bootBuiltins y = some (.type T)) (hn2 : y ≠ "__name__") (hdb2 : (y == ("__debug__" : Str)) = false)
    (hs : starEach [a, .Name y p2] X.env = (false, eval a X.env) :: starEach [.Name y p2] X.env) (hs2 : starEach [.Name y p2] X.env = (false, eval (.Name y p2) X.env) :: starEach [] X.env) (hpl : (backTo pos (starEach [.Name y p2] X.env)).any (·.1) = false) :
    JE X C W (.Call (.Name x p) [a, .Name y p2] [] pos) (mU f m l) := by
  obtain ⟨t, pt, q⟩ := ha.run
  have h2 : PE X (.Name y p2) (tC (.ty T)) := pe_bltn hg2 hm2 hv2 rfl hn2 hdb2
  refine ⟨_, pe_callB call_isi hg hm hv (pa_cons pt (pa_cons h2 pa_nil hs2) hs) hn hdb hs hpl, fun F env σ H Q k s z => q F env σ H _ k s ?_⟩
  unfold mU at z
  cases e1 : m env with
  | ok d env1 =>
    rw [e1] at z
    refine fun v H1 s1 x1 lt => ?_
    dsimp only at z
    cases e2 : l env1 d with
    | none => rw [e2] at z; exact z.elim
    | some b =>
      rw [e2] at z
      dsimp only at z
      cases e3 : f b with
      | none => rw [e3] at z; exact z.elim
      | some r =>
        rw [e3] at z
        obtain ⟨S, bb, h3, rfl, h4⟩ := hi b r e3
        have px := lt env1 H1 s1 .refl b e2
        rw [k.1] at px
        exact ⟨v, .ty T, .type S, .type T, bb, rfl, .ty T, ty_of px h3, kit_ty h4, z _ H1 s1 x1 (by simp only [RelD])⟩
  | ex c env1 => rw [e1] at z; exact z
  | bad => rw [e1] at z; exact z
end
/-! ### in -/
def flatD : D → Bool
  | .non => true
  | .bl _ => true
  | .int _ => true
  | .str _ => true
  | _ => false
theorem flat_of {K : PySem.W.Frag} {H : Hp} {O : Addr → Prop} {x : D} {v : V} (f : flatD x = true) (h : RelD K H O x v) : flatV v = true := by
  cases x <;> simp only [flatD] at f <;> (try cases f) <;> simp only [RelD] at h <;> subst h <;> rfl
theorem p_flat {K : PySem.W.Frag} {H : Hp} {O : Addr → Prop} {x : D} {v : V} (f : flatD x = true) (h : PRel K H O x v) : RelD K H O x v := by
  rcases h with h | ⟨a, e, h⟩
  · exact h
  · cases x <;> simp only [flatD] at f <;> (try cases f) <;> simp only [CRel] at h
theorem eqV_of {K : PySem.W.Frag} {H : Hp} {O : Addr → Prop} {x y : D} {v u : V} (f : flatD x = true) (g : flatD y = true) (h : RelD K H O x v) (h' : RelD K H O y u) : eqV v u = eqD x y := by
  cases x <;> simp only [flatD] at f <;> (try cases f) <;> simp only [RelD] at h <;> subst h <;>
    cases y <;> simp only [flatD] at g <;> (try cases g) <;> simp only [RelD] at h' <;> subst h' <;> simp only [eqV, eqD]
  · rename_i a b
    cases a <;> simp [b2iD] <;> (rw [Bool.eq_iff_iff]; simp only [beq_iff_eq]; exact ⟨fun h => decide_eq_true h, fun h => of_decide_eq_true h⟩)
  · rename_i a b
    cases b <;> simp [b2iD] <;> (rw [Bool.eq_iff_iff]; simp only [beq_iff_eq]; exact ⟨fun h => decide_eq_true h, fun h => of_decide_eq_true h⟩)
  · rw [Bool.eq_iff_iff]; simp only [beq_iff_eq]; exact ⟨fun h => decide_eq_true h, fun h => of_decide_eq_true h⟩
  · rw [natsEq_eq, Bool.eq_iff_iff]
    simp
def anyEq (x : D) : List D → Bool
  | [] => false
  | y :: r => (match eqD y x with
    | true => true
    | false => anyEq x r)
def allFlat : List D → Bool
  | [] => true
  | y :: r => (match flatD y with
    | true => allFlat r
    | false => false)
theorem inV_of {K : PySem.W.Frag} {H : Hp} {O : Addr → Prop} {x : D} {v : V} (f : flatD x = true) (h : RelD K H O x v) : ∀ (ys : List D) (us : List V), allFlat ys = true → RelL K H O ys us → us.all flatV = true ∧ inV v us = anyEq x ys
  | [], us, _, r => by simp only [RelL] at r; subst r; exact ⟨rfl, rfl⟩
  | y :: ys, us, g, r => by
    simp only [RelL] at r
    obtain ⟨u, us', rfl, r1, r2⟩ := r
    unfold allFlat at g
    split at g
    · rename_i g1
      obtain ⟨h1, h2⟩ := inV_of f h ys us' g r2
      refine ⟨by rw [List.all_cons, flat_of g1 r1, h1]; rfl, ?_⟩
      show (eqV u v || us'.any fun y => eqV y v) = _
      unfold anyEq
      rw [eqV_of g1 f r1 h]
      have h2' : (us'.any fun y => eqV y v) = anyEq x ys := h2
      rw [h2']
      cases eqD y x <;> rfl
    · cases g
def inOf (x : D) : D → Option Bool
  | .lst ys => (match flatD x with
    | true => (match allFlat ys with
      | true => some (anyEq x ys)
      | false => none)
    | false => none)
  | .tup ys => (match flatD x with
    | true => (match allFlat ys with
      | true => some (anyEq x ys)
      | false => none)
    | false => none)
  | _ => none
def fIn : D → D → Option D := fun x y => match inOf x y with
  | some b => some (.bl b)
  | none => none
def fNotIn : D → D → Option D := fun x y => match inOf x y with
  | some b => some (.bl (!b))
  | none => none
theorem inOf_ok {K : PySem.W.Frag} {H : Hp} {O : Addr → Prop} {x y : D} {v u : V} {b : Bool} (px : PRel K H O x v) (py : PRel K H O y u) (e : inOf x y = some b) :
    ∃ p xs, u = .ref p ∧ (SqL K H p xs ∨ SqT K H p xs) ∧ flatV v = true ∧ xs.all flatV = true ∧ inV v xs = b := by
  cases y <;> simp only [inOf] at e <;> try (cases e; done)
  · split at e
    · rename_i f
      split at e
      · rename_i g
        cases e
        obtain ⟨a, ws, rfl, q1, r1⟩ := p_tup py |>.2
        have rx := p_flat f px
        obtain ⟨h1, h2⟩ := inV_of f rx _ _ g r1
        exact ⟨a, ws, rfl, .inr q1, flat_of f rx, h1, h2⟩
      · cases e
    · cases e
  · split at e
    · rename_i f
      split at e
      · rename_i g
        cases e
        obtain ⟨a, ws, rfl, q1, r1⟩ := p_lst py
        have rx := p_flat f px
        obtain ⟨h1, h2⟩ := inV_of f rx _ _ g r1
        exact ⟨a, ws, rfl, .inl (.inl (.inl q1)), flat_of f rx, h1, h2⟩
      · cases e
    · cases e
theorem s_in {K : PySem.W.Frag} : OpS K (rIn K false) fIn := by
  intro H O x y v u Q d dom px py e q
  unfold fIn at e
  split at e <;> cases e
  rename_i b he
  obtain ⟨p, xs, rfl, h1, h2, h3, h4⟩ := inOf_ok px py he
  refine ⟨p, xs, rfl, h1, h2, h3, ?_⟩
  rw [h4]
  exact q _ H (Same.refl H) (by simp only [RelD]; rfl)
theorem s_notIn {K : PySem.W.Frag} : OpS K (rIn K true) fNotIn := by
  intro H O x y v u Q d dom px py e q
  unfold fNotIn at e
  split at e <;> cases e
  rename_i b he
  obtain ⟨p, xs, rfl, h1, h2, h3, h4⟩ := inOf_ok px py he
  refine ⟨p, xs, rfl, h1, h2, h3, ?_⟩
  rw [h4]
  exact q _ H (Same.refl H) (by simp only [RelD]; rfl)

/-! ### what is walked -/
def ItOk (F : Fx) (σ : St) (J : It) (ds : List D) (env1 : Ev) (H1 : Hp) : Prop :=
  ∃ (G : Hp → Prop) (Y : Nat → Hp → V → Hp → Prop), Walk J ds.length G Y ∧ (∀ O2 H2, Ext (Ow F env1 σ) H1 O2 H2 → G H2) ∧
    ∀ O2 i H2 x H3 d, Ext (Ow F env1 σ) H1 O2 H2 → (∀ a, O2 a → H2 a ≠ none) → Y i H2 x H3 → ds[i]? = some d → Same H2 H3 ∧ RelD F.K H3 O2 d x
def PostI (F : Fx) (C : CT) (W : WX) (env : Ev) (σ : St) (H : Hp) (R : It → Hp → Prop) : RA → Prop
  | .ok ds env' => ∀ J H', SR F env' σ H' → Ext (Ow F env σ) H (Ow F env' σ) H' → ItOk F σ J ds env' H' → R J H'
  | .ex c env' => ∀ H', SR F env' σ H' → Ext (Ow F env σ) H (Ow F env' σ) H' → ∀ d, XD C c d H' → W (C c) d σ H'
  | .bad => False
structure JI (X : Cx) (C : CT) (W : WX) (tg e : Expr) (m : MA) : Prop where
  run : ∃ t, PI X tg e t ∧ ∀ F env σ H R, FX F X.K C → SR F env σ H → PostI F C W env σ H R (m env) → t σ H R
theorem PI.or {X : Cx} {tg e : Expr} {w w' : TI} (h : PI X tg e w) (h' : PI X tg e w') : PI X tg e (fun σ H R => w σ H R ∨ w' σ H R) :=
  ⟨fun pins s σ H R I q => q.elim (h.run pins s σ H R I) (h'.run pins s σ H R I)⟩
theorem relD_tupC {K : PySem.W.Frag} {O O' : Addr → Prop} {H H' : Hp} {xs : List D} {a : Addr} {vs : List V} (q : (Rd H a (.tup vs) ∧ ¬ O a) ∨ KT K a vs) (x : Ext O H O' H') : SqT K H' a vs := by
  rcases q with ⟨q, n⟩ | q
  · exact .inl (x.rd q n nt_tup).1
  · exact .inr q
def mIt (m : ME) : MA := fun e => match m e with
  | .ok (.lst xs) e1 => .ok xs e1
  | .ok (.tup xs) e1 => .ok xs e1
  | .ok _ _ => .bad
  | .ex c e1 => .ex c e1
  | .bad => .bad
section
variable {X : Cx} {C : CT} {W : WX}
theorem it_list {F : Fx} {σ : St} {a : Addr} {vs : List V} {xs : List D} {env1 : Ev} {H1 : Hp} (q : H1 a = some (.lst vs)) (n : ¬ Ow F env1 σ a) (r : RelL F.K H1 (Ow F env1 σ) xs vs) : ItOk F σ (Itl F.K a) xs env1 H1 := by
  refine ⟨fun H => SqL F.K H a vs, YAt vs, (by rw [relL_len r]; exact walk_list (xs := vs)), fun O2 H2 x => Or.inl (Or.inl (x.1 a _ q n nt_lst)), fun O2 i H2 x H3 d e dom y hd => ?_⟩
  obtain ⟨rfl, hx⟩ := y
  obtain ⟨v, hv, rv⟩ := relL_get r hd
  rw [hv] at hx
  cases hx
  exact ⟨Same.refl _, rv.ext e⟩
theorem it_tup {F : Fx} {σ : St} {a : Addr} {vs : List V} {xs : List D} {env1 : Ev} {H1 : Hp} (q : (Rd H1 a (.tup vs) ∧ ¬ Ow F env1 σ a) ∨ KT F.K a vs) (r : RelL F.K H1 (Ow F env1 σ) xs vs) : ItOk F σ (Itt F.K a) xs env1 H1 := by
  refine ⟨fun H => SqT F.K H a vs, YAt vs, (by rw [relL_len r]; exact walk_tup (xs := vs)), fun O2 H2 x => relD_tupC (xs := xs) q x, fun O2 i H2 x H3 d e dom y hd => ?_⟩
  obtain ⟨rfl, hx⟩ := y
  obtain ⟨v, hv, rv⟩ := relL_get r hd
  rw [hv] at hx
  cases hx
  exact ⟨Same.refl _, rv.ext e⟩
theorem j_it {tg e : Expr} {m : ME} (h : JE X C W e m) : JI X C W tg e (mIt m) := by
  obtain ⟨t, p, q⟩ := h.run
  refine ⟨_, PI.or (pi_list p) (pi_tup p), fun F env σ H R k s z => ?_⟩
  unfold mIt at z
  cases e1 : m env with
  | ok x env1 =>
    rw [e1] at z
    cases x with
    | lst xs =>
      refine .inl (q F env σ H _ k s ?_)
      rw [e1]
      refine fun v H1 s1 x1 r => ?_
      simp only [RelD] at r
      obtain ⟨a, vs, rfl, q1, n1, r1⟩ := r
      refine ⟨a, rfl, ⟨vs, .inl (.inl q1)⟩, ?_⟩
      rw [← k.1]
      exact z _ H1 s1 x1 (it_list q1 n1 r1)
    | tup xs =>
      refine .inr (q F env σ H _ k s ?_)
      rw [e1]
      refine fun v H1 s1 x1 r => ?_
      simp only [RelD] at r
      obtain ⟨a, vs, rfl, q1, r1⟩ := r
      refine ⟨a, rfl, ⟨vs, by rw [← k.1]; exact relD_tupC (xs := xs) q1 .refl⟩, ?_⟩
      rw [← k.1]
      exact z _ H1 s1 x1 (it_tup q1 r1)
    | _ => exact z.elim
  | ex c env1 =>
    rw [e1] at z
    refine .inl (q F env σ H _ k s ?_)
    rw [e1]
    exact z
  | bad => rw [e1] at z; exact z.elim
/-- range -/
def ups (lo : Int) : Nat → List D
  | 0 => []
  | n + 1 => .int lo :: ups (lo + 1) n
theorem ups_len : ∀ (n : Nat) (lo : Int), (ups lo n).length = n
  | 0, _ => rfl
  | n + 1, lo => by unfold ups; rw [List.length_cons, ups_len n]
theorem ups_get : ∀ (n : Nat) (lo : Int) (i : Nat) (d : D), (ups lo n)[i]? = some d → d = .int (lo + i)
  | 0, _, i, d, h => by simp [ups] at h
  | n + 1, lo, 0, d, h => by simp [ups] at h; rw [← h]; simp
  | n + 1, lo, i + 1, d, h => by
    have := ups_get n (lo + 1) i d (by simpa [ups] using h)
    rw [this]
    congr 1
    simp only [Int.natCast_add]
    omega
def big (i : Int) : Bool := decide (-(2 ^ 62) ≤ i) && decide (i < 2 ^ 62)
theorem big_ok {i : Int} (h : big i = true) : -(2 ^ 62) ≤ i ∧ i < 2 ^ 62 := by
  unfold big at h
  simpa [Bool.and_eq_true, decide_eq_true_eq] using h
def mRange1 (ma : MA) : MA := fun e => match ma e with
  | .ok [.int j] e1 => (match big j with
    | true => .ok (ups 0 j.toNat) e1
    | false => .bad)
  | .ok _ _ => .bad
  | .ex c e1 => .ex c e1
  | .bad => .bad
def mRange2 (ma : MA) : MA := fun e => match ma e with
  | .ok [.int i, .int j] e1 => (match big i && big j with
    | true => .ok (ups i (j - i).toNat) e1
    | false => .bad)
  | .ok _ _ => .bad
  | .ex c e1 => .ex c e1
  | .bad => .bad
theorem it_range {F : Fx} {σ : St} {lo : Int} {n : Nat} {env1 : Ev} {H1 : Hp} : ItOk F σ (Itr lo n) (ups lo n) env1 H1 := by
  refine ⟨_, _, (by rw [ups_len]; exact walk_range (lo := lo) (n := n)), fun _ _ _ => trivial, fun O2 i H2 x H3 d e dom y hd => ?_⟩
  obtain ⟨rfl, rfl⟩ := y
  refine ⟨Same.refl _, ?_⟩
  rw [ups_get n lo i d hd]
  simp only [RelD]
theorem rel1 {K : PySem.W.Frag} {H : Hp} {O : Addr → Prop} {i : Int} {vs : List V} (h : RelL K H O [.int i] vs) : vs = [.int i] := by
  simp only [RelL, RelD] at h
  obtain ⟨v, r, rfl, rfl, rfl⟩ := h
  rfl
theorem rel2 {K : PySem.W.Frag} {H : Hp} {O : Addr → Prop} {i j : Int} {vs : List V} (h : RelL K H O [.int i, .int j] vs) : vs = [.int i, .int j] := by
  simp only [RelL, RelD] at h
  obtain ⟨v, r, rfl, rfl, u, r2, rfl, rfl, rfl⟩ := h
  rfl
theorem j_range1 {tg a : Expr} {ma : MA} {p pos : Pos} (hg : Gl X "range") (hm : X.mg "range" = none) (ha : JV X C W [a] ma) (hs : starEach [a] X.env = [(false, eval a X.env)]) : JI X C W tg (.Call (.Name "range" p) [a] [] pos) (mRange1 ma) := by
  obtain ⟨t, pa, q⟩ := ha.run
  refine ⟨_, pi_range1 hg hm pa hs, fun F env σ H R k s z => q F env σ H _ k s ?_⟩
  unfold mRange1 at z
  cases e1 : ma env with
  | ok xs env1 =>
    rw [e1] at z
    match xs, z with
    | [.int j], z =>
      dsimp only at z
      cases e2 : big j with
      | false => rw [e2] at z; exact z.elim
      | true =>
        rw [e2] at z
        obtain ⟨b1, b2⟩ := big_ok e2
        exact fun vs H1 s1 x1 r => ⟨j, rel1 r, b1, b2, z _ H1 s1 x1 it_range⟩
    | [], z => exact z.elim
    | [.non], z => exact z.elim
    | [.bl _], z => exact z.elim
    | [.str _], z => exact z.elim
    | [.tup _], z => exact z.elim
    | [.lst _], z => exact z.elim
    | [.dct _ _], z => exact z.elim
    | [.dtp _ _], z => exact z.elim
    | [.scr _], z => exact z.elim
    | a :: b :: c, z => cases a <;> exact z.elim
  | ex c env1 => rw [e1] at z; exact z
  | bad => rw [e1] at z; exact z
theorem j_range2 {tg a b : Expr} {ma : MA} {p pos : Pos} (hg : Gl X "range") (hm : X.mg "range" = none) (ha : JV X C W [a, b] ma) (hs : starEach [a, b] X.env = [(false, eval a X.env), (false, eval b X.env)]) (hs2 : starEach [b] X.env = [(false, eval b X.env)]) :
    JI X C W tg (.Call (.Name "range" p) [a, b] [] pos) (mRange2 ma) := by
  obtain ⟨t, pa, q⟩ := ha.run
  refine ⟨_, pi_range2 hg hm pa hs hs2, fun F env σ H R k s z => q F env σ H _ k s ?_⟩
  unfold mRange2 at z
  cases e1 : ma env with
  | ok xs env1 =>
    rw [e1] at z
    split at z
    · rename_i i j e e2
      cases e2
      split at z
      · rename_i e2
        rw [Bool.and_eq_true] at e2
        obtain ⟨b1, b2⟩ := big_ok e2.1
        obtain ⟨b3, b4⟩ := big_ok e2.2
        exact fun vs H1 s1 x1 r => ⟨i, j, rel2 r, ⟨b1, b2, b3, b4⟩, z _ H1 s1 x1 it_range⟩
      · exact z.elim
    · exact z.elim
    · rename_i h
      cases h
    · exact z.elim
  | ex c env1 => rw [e1] at z; exact z
  | bad => rw [e1] at z; exact z
/-- zip of two lists, or of two tuples -/
def pairs : List D → List D → List D
  | x :: xs, y :: ys => .tup [x, y] :: pairs xs ys
  | _, _ => []
theorem pairs_len : ∀ xs ys : List D, (pairs xs ys).length = min xs.length ys.length
  | [], ys => by simp [pairs]
  | _ :: _, [] => by simp [pairs]
  | x :: xs, y :: ys => by unfold pairs; simp only [List.length_cons]; rw [pairs_len xs ys]; omega
theorem pairs_get : ∀ (xs ys : List D) (i : Nat) (d : D), (pairs xs ys)[i]? = some d → ∃ x y, xs[i]? = some x ∧ ys[i]? = some y ∧ d = .tup [x, y]
  | [], ys, i, d, h => by simp [pairs] at h
  | _ :: _, [], i, d, h => by simp [pairs] at h
  | x :: xs, y :: ys, 0, d, h => by simp [pairs] at h; exact ⟨x, y, rfl, rfl, h.symm⟩
  | x :: xs, y :: ys, i + 1, d, h => by
    obtain ⟨a, b, h1, h2, h3⟩ := pairs_get xs ys i d (by simpa [pairs] using h)
    exact ⟨a, b, by simpa using h1, by simpa using h2, h3⟩
def mZip (ma : MA) : MA := fun e => match ma e with
  | .ok [.lst xs, .lst ys] e1 => .ok (pairs xs ys) e1
  | .ok [.tup xs, .tup ys] e1 => .ok (pairs xs ys) e1
  | .ok _ _ => .bad
  | .ex c e1 => .ex c e1
  | .bad => .bad
theorem it_pair {F : Fx} {σ : St} {J : It} {G : Hp → Prop} {vs us : List V} {xs ys : List D} {env1 : Ev} {H1 : Hp} {n : Nat} (hn : n = min vs.length us.length) (w : Walk J n G (YPair (fun i => vs[i]?) (fun i => us[i]?))) (g : ∀ O2 H2, Ext (Ow F env1 σ) H1 O2 H2 → G H2)
    (r : RelL F.K H1 (Ow F env1 σ) xs vs) (r' : RelL F.K H1 (Ow F env1 σ) ys us) : ItOk F σ J (pairs xs ys) env1 H1 := by
  refine ⟨_, _, (by rw [pairs_len, relL_len r, relL_len r', ← hn]; exact w), g, fun O2 i H2 x H3 d e dom y hd => ?_⟩
  obtain ⟨T, x1, x2, rfl, nT, rfl, e1, e2⟩ := y
  obtain ⟨a, b, h1, h2, rfl⟩ := pairs_get xs ys i d hd
  obtain ⟨v, hv, rv⟩ := relL_get r h1
  obtain ⟨u, hu, ru⟩ := relL_get r' h2
  dsimp only at e1 e2
  rw [hv] at e1
  rw [hu] at e2
  cases e1
  cases e2
  refine ⟨same_upd nT, rel_newT nT dom ?_⟩
  simp only [RelL]
  exact ⟨_, _, rfl, rv.ext e, _, _, rfl, ru.ext e, rfl⟩
theorem walk_zipT {K : PySem.W.Frag} {a b : Addr} {xs ys : List V} {n : Nat} (hn : n = min xs.length ys.length) : Walk (RZ.ItzT K a b) n (fun H => SqT K H a xs ∧ SqT K H b ys) (YPair (fun i => xs[i]?) (fun i => ys[i]?)) := by
  subst hn
  refine ⟨fun i H hi q => ?_, fun H q => ?_, fun i H x H' hi q y => ?_⟩
  · have h1 : i < xs.length := by omega
    have h2 : i < ys.length := by omega
    exact ⟨xs, ys, xs[i], ys[i], q.1, q.2, by simp [h1], by simp [h2]⟩
  · exact ⟨xs, ys, q.1, q.2, by omega⟩
  · obtain ⟨T, x1, x2, e1, e2, e3, f1, f2⟩ := y
    exact ⟨T, x1, x2, e1, e2, e3, f1 xs q.1, f2 ys q.2⟩
theorem j_zip {a b : Expr} {ma : MA} {p pos tpos : Pos} {elts : List Expr} {kk : Nat} (hg : Gl X "zip") (hm : X.mg "zip" = none) (ha : JV X C W [a, b] ma) (hs : starEach [a, b] X.env = (false, eval a X.env) :: starEach [b] X.env) (hpl : (backTo pos (starEach [b] X.env)).any (·.1) = false) :
    JI X C W (.Tuple elts kk tpos) (.Call (.Name "zip" p) [a, b] [] pos) (mZip ma) := by
  obtain ⟨t, pa, q⟩ := ha.run
  refine ⟨_, RZ.pi_zipA hg hm pa hs hpl, fun F env σ H R k s z => q F env σ H _ k s ?_⟩
  unfold mZip at z
  cases e1 : ma env with
  | ok xs env1 =>
    rw [e1] at z
    split at z
    · rename_i xs ys e e2
      cases e2
      refine fun vs H1 s1 x1 r => ?_
      simp only [RelL, RelD] at r
      obtain ⟨v, r0, rfl, ⟨a1, ws, rfl, q1, n1, r1⟩, u, r3, rfl, ⟨a2, us, rfl, q2, n2, r2⟩, rfl⟩ := r
      refine ⟨a1, a2, ws, us, rfl, .inl ⟨.inl (.inl q1), .inl (.inl q2), ?_⟩⟩
      refine z _ H1 s1 x1 (it_pair rfl (walk_zip rfl) (fun O2 H2 x => ⟨.inl (.inl (x.1 _ _ q1 n1 nt_lst)), .inl (.inl (x.1 _ _ q2 n2 nt_lst))⟩) r1 r2)
    · rename_i xs ys e e2
      cases e2
      refine fun vs H1 s1 x1 r => ?_
      simp only [RelL, RelD] at r
      obtain ⟨v, r0, rfl, ⟨a1, ws, rfl, q1, r1⟩, u, r3, rfl, ⟨a2, us, rfl, q2, r2⟩, rfl⟩ := r
      rw [← k.1]
      refine ⟨a1, a2, ws, us, rfl, .inr ⟨relD_tupC (xs := xs) q1 .refl, relD_tupC (xs := ys) q2 .refl, ?_⟩⟩
      refine z _ H1 s1 x1 (it_pair rfl (walk_zipT rfl) (fun O2 H2 x => ⟨relD_tupC (xs := xs) q1 x, relD_tupC (xs := ys) q2 x⟩) r1 r2)
    · exact z.elim
    · rename_i h
      cases h
    · exact z.elim
  | ex c env1 => rw [e1] at z; exact z
  | bad => rw [e1] at z; exact z
end
end MP

set_option Elab.async false
set_option linter.all false
set_option maxRecDepth 100000
set_option maxHeartbeats 4000000
namespace MP
open PySem PySem.Spec L2
open PyProof.Rows hiding St

/-! ### a slot gets a value -/
theorem lt_of_get {α : Type} {l : List α} {i : Nat} {x : α} (h : l[i]? = some x) : i < l.length := (List.getElem?_eq_some_iff.mp h).1
theorem get_set {α : Type} {l : List α} {i j : Nat} {x y : α} (h : (l.set i x)[j]? = some y) : (i = j ∧ y = x ∧ i < l.length) ∨ (i ≠ j ∧ l[j]? = some y) := by
  by_cases e : i = j
  · subst e
    have hl : i < l.length := by
      have := lt_of_get h
      rwa [List.length_set] at this
    rw [List.getElem?_set_self hl] at h
    exact .inl ⟨rfl, (Option.some.inj h).symm, hl⟩
  · rw [List.getElem?_set_ne e] at h
    exact .inr ⟨e, h⟩
section
variable {F : Fx} {env : Ev} {σ : St} {H : Hp}
theorem ow_set {i : Nat} {d : D} {v : V} (b : Addr) (h : Ow F (env.set i (.va d)) (σ.set i (some v)) b) : Ow F env σ b := by
  rcases h with h | ⟨j, d', h1, h2⟩
  · exact .inl h
  · rcases get_set h1 with ⟨_, z, _⟩ | ⟨e, h1⟩
    · cases z
    · rw [List.getElem?_set_ne e] at h2
      exact .inr ⟨j, d', h1, h2⟩
theorem SR.set (s : SR F env σ H) {i : Nat} {d : D} {v : V} (hi : i < env.length) (r : RelD F.K H (Ow F env σ) d v) : SR F (env.set i (.va d)) (σ.set i (some v)) H := by
  have x : Ext (Ow F env σ) H (Ow F (env.set i (.va d)) (σ.set i (some v))) H := Ext.sub fun b h => ow_set b h
  have hs : i < σ.length := by rw [← s.len]; exact hi
  refine ⟨s.fr, s.od, s.bo0, by rw [List.length_set, List.length_set]; exact s.len, fun j d' q => ?_, fun j d' q => ?_, fun j d' q => ?_, fun j d' q => ?_, fun j k b d1 d2 q1 q2 q3 q4 => ?_, fun j k b d1 d2 q1 q2 q3 q4 => ?_, s.tO, s.tb, fun j f H1 Om q => ?_⟩
  · rcases get_set q with ⟨e, z, _⟩ | ⟨e, q⟩
    · subst e
      cases z
      exact ⟨v, List.getElem?_set_self hs, r.ext x⟩
    · obtain ⟨w, w1, w2⟩ := s.va j d' q
      exact ⟨w, by rw [List.getElem?_set_ne e]; exact w1, w2.ext x⟩
  · rcases get_set q with ⟨_, z, _⟩ | ⟨e, q⟩
    · cases z
    · obtain ⟨w, w1, w2, w3, w4⟩ := s.ow j d' q
      exact ⟨w, by rw [List.getElem?_set_ne e]; exact w1, w2, w3, w4.ext x rfl⟩
  · rcases get_set q with ⟨_, z, _⟩ | ⟨e, q⟩
    · cases z
    · obtain ⟨w, w1, w2, w4⟩ := s.bo j d' q
      exact ⟨w, by rw [List.getElem?_set_ne e]; exact w1, w2, w4.ext x rfl⟩
  · rcases get_set q with ⟨_, z, _⟩ | ⟨e, q⟩
    · cases z
    · obtain ⟨w, w1, w2, w3, w4⟩ := s.ro j d' q
      exact ⟨w, by rw [List.getElem?_set_ne e]; exact w1, w2, w3, w4.ext x rfl⟩
  · rcases get_set q1 with ⟨_, z, _⟩ | ⟨e1, q1⟩
    · cases z
    · rcases get_set q2 with ⟨_, z, _⟩ | ⟨e2, q2⟩
      · cases z
      · rw [List.getElem?_set_ne e1] at q3
        rw [List.getElem?_set_ne e2] at q4
        exact s.dj j k b d1 d2 q1 q2 q3 q4
  · rcases get_set q1 with ⟨_, z, _⟩ | ⟨e1, q1⟩
    · cases z
    · rcases get_set q2 with ⟨_, z, _⟩ | ⟨e2, q2⟩
      · cases z
      · rw [List.getElem?_set_ne e1] at q3
        rw [List.getElem?_set_ne e2] at q4
        exact s.djb j k b d1 d2 q1 q2 q3 q4
  · rcases get_set q with ⟨_, z, _⟩ | ⟨e, q⟩
    · cases z
    · rw [List.getElem?_set_ne e]; exact s.fx j f H1 Om q
end
/-! ### targets -/
abbrev MT := D → Ev → Option Ev
structure JG (X : Cx) (tg : Expr) (mg : MT) (js : List Nat) : Prop where
  run : ∃ g, PG X tg g ∧ ∀ F env σ H d v env' Q, F.K = X.K → SR F env σ H → RelD F.K H (Ow F env σ) d v → mg d env = some env' →
    (∀ σ', SR F env' σ' H → (∀ b, Ow F env' σ' b → Ow F env σ b) → (∀ vs : List Nat, (∀ j ∈ js, j ∈ vs) → wipe σ' vs = wipe σ vs) → Q σ' H) → g v σ H Q
structure JGs (X : Cx) (tgs : List Expr) (mg : List D → Ev → Option Ev) (js : List Nat) : Prop where
  run : ∃ g, PGs X tgs g ∧ ∀ F env σ H ds vs env' Q, F.K = X.K → SR F env σ H → RelL F.K H (Ow F env σ) ds vs → mg ds env = some env' →
    (∀ σ', SR F env' σ' H → (∀ b, Ow F env' σ' b → Ow F env σ b) → (∀ vs : List Nat, (∀ j ∈ js, j ∈ vs) → wipe σ' vs = wipe σ vs) → Q σ' H) → g vs σ H Q
def mgName (i : Nat) : MT := fun d env => match Nat.blt i env.length with
  | true => some (env.set i (.va d))
  | false => none
theorem wipe_set {σ : St} {i : Nat} {v : Option V} : ∀ {vs : List Nat}, i ∈ vs → wipe (σ.set i v) vs = wipe σ vs
  | [], h => by simp at h
  | w :: ws, h => by
    unfold wipe
    by_cases hi : i ∈ ws
    · rw [wipe_set hi]
    · have e : i = w := by
        rcases List.mem_cons.mp h with h | h
        · exact h
        · exact absurd h hi
      subst e
      have gen : ∀ (ws : List Nat), i ∉ ws → (wipe (σ.set i v) ws) = (wipe σ ws).set i v := by
        intro ws
        induction ws with
        | nil => intro _; rfl
        | cons a r ih =>
          intro hn
          simp only [List.mem_cons, not_or] at hn
          show (wipe (σ.set i v) r).set a none = ((wipe σ r).set a none).set i v
          rw [ih hn.2]
          exact List.set_comm _ _ hn.1
      rw [gen ws hi, List.set_set]
theorem jg_name {X : Cx} {i : Nat} {x : Str} {pos : Pos} (hN : X.N.Nodup) (hi : X.N[i]? = some x) (hx : Loc X.env.scope x) (hf : X.fn x = true ∨ X.env.scope.names.lookup x = some .local) : JG X (.Name x pos) (mgName i) [i] := by
  refine ⟨gName i, pg_name hN hi hx hf, fun F env σ H d v env' Q k s r e z => ?_⟩
  unfold mgName at e
  split at e <;> cases e
  rename_i hl
  exact z _ (s.set (Nat.le_of_ble_eq_true hl) r) (fun b h => ow_set b h) fun vs h => wipe_set (h i (by simp))
def mgsNil : List D → Ev → Option Ev := fun ds env => match ds with
  | [] => some env
  | _ => none
def mgsCons (m : MT) (ms : List D → Ev → Option Ev) : List D → Ev → Option Ev := fun ds env => match ds with
  | d :: r => (match m d env with
    | some e1 => ms r e1
    | none => none)
  | [] => none
theorem jgs_nil {X : Cx} : JGs X [] mgsNil [] := by
  refine ⟨gNil, pgs_nil, fun F env σ H ds vs env' Q k s r e z => ?_⟩
  unfold mgsNil at e
  split at e <;> cases e
  simp only [RelL] at r
  exact ⟨r, z σ s (fun _ h => h) fun _ _ => rfl⟩
theorem jgs_cons {X : Cx} {tg : Expr} {tgs : List Expr} {m : MT} {ms : List D → Ev → Option Ev} {js ks : List Nat} (h : JG X tg m js) (hs : JGs X tgs ms ks) (hz : (assignEach (tg :: tgs) X.env).map (·.2) = assign tg X.env :: (assignEach tgs X.env).map (·.2)) : JGs X (tg :: tgs) (mgsCons m ms) (js ++ ks) := by
  obtain ⟨g, pg, q⟩ := h.run
  obtain ⟨g2, pg2, q2⟩ := hs.run
  refine ⟨_, pgs_cons pg pg2 hz, fun F env σ H ds vs env' Q k s r e z => ?_⟩
  unfold mgsCons at e
  split at e
  · rename_i d ds'
    split at e
    · rename_i e1 he
      simp only [RelL] at r
      obtain ⟨v, u, rfl, r1, r2⟩ := r
      refine ⟨v, u, rfl, q F env σ H d v e1 _ k s r1 he fun σ1 s1 sub w1 => ?_⟩
      refine q2 F e1 σ1 H ds' u env' _ k s1 (RelL.ext (Ext.sub sub) _ _ r2) e fun σ2 s2 sub2 w2 => ?_
      exact z σ2 s2 (fun b h => sub b (sub2 b h)) fun vs h => (w2 vs fun j hj => h j (List.mem_append_right _ hj)).trans (w1 vs fun j hj => h j (List.mem_append_left _ hj))
    · cases e
  · cases e
def mgTup (n : Nat) (ms : List D → Ev → Option Ev) : MT := fun d env => match d with
  | .tup ds => (match Nat.beq ds.length n with
    | true => ms ds env
    | false => none)
  | _ => none
theorem jg_tup {X : Cx} {es : List Expr} {ms : List D → Ev → Option Ev} {js : List Nat} {kk n : Nat} {pos : Pos} (hc : X.calm = true) (h : JGs X es ms js) (hn : (assignEach es X.env).length = n) (hst : (assignEach es X.env).findIdx? (·.1) = none) :
    JG X (.Tuple es kk pos) (mgTup n ms) js := by
  obtain ⟨g, pg, q⟩ := h.run
  refine ⟨_, pg_tup hc pg hn hst, fun F env σ H d v env' Q k s r e z => ?_⟩
  unfold mgTup at e
  split at e
  · rename_i ds
    split at e
    · rename_i hl
      simp only [RelD] at r
      obtain ⟨a, vs, rfl, q1, r1⟩ := r
      refine ⟨a, vs, rfl, by rw [← k]; exact relD_tupC (xs := ds) q1 .refl, by rw [← relL_len r1]; exact Nat.eq_of_beq_eq_true hl, ?_⟩
      exact q F env σ H ds vs env' _ k s r1 e z
    · cases e
  · cases e

/-! ### comprehensions -/
def roE : Sl → Sl
  | .ow d => .ro d
  | .bo d => .ro d
  | x => x
def wipeE (env : Ev) : List Nat → Ev
  | [] => env
  | v :: vs => (wipeE env vs).set v .no
def lcGo (mg : MT) (mt : ME) (me : ME) (benv : Ev) : List D → List D → Option (List D)
  | [], acc => some acc
  | d :: ds, acc => (match mg d benv with
    | some e1 => (match mt e1 with
      | .ok (.bl true) e2 => (match me e2 with
        | .ok y _ => lcGo mg mt me benv ds (acc ++ [y])
        | _ => none)
      | .ok (.bl false) _ => lcGo mg mt me benv ds acc
      | _ => none)
    | none => none)
def mLc (mi : MA) (vs : List Nat) (mg : MT) (mt : ME) (me : ME) : ME := fun env => match mi env with
  | .ok ds e1 => (match Nat.blt ds.length line with
    | true => (match lcGo mg mt me (wipeE (e1.map roE) vs) ds [] with
      | some ys => .ok (.lst ys) e1
      | none => .bad)
    | false => .bad)
  | .ex c e1 => .ex c e1
  | .bad => .bad
theorem wipeE_len (env : Ev) : ∀ vs : List Nat, (wipeE env vs).length = env.length
  | [] => rfl
  | v :: vs => by unfold wipeE; rw [List.length_set, wipeE_len env vs]
theorem wipe_both {env : Ev} {σ : St} (hl : env.length = σ.length) : ∀ {vs : List Nat} {i : Nat} {x : Sl}, (wipeE env vs)[i]? = some x → x = .no ∨ (env[i]? = some x ∧ (wipe σ vs)[i]? = σ[i]?)
  | [], i, x, h => .inr ⟨h, rfl⟩
  | v :: vs, i, x, h => by
    unfold wipeE at h
    rcases get_set h with ⟨_, z, _⟩ | ⟨e, h⟩
    · exact .inl z
    · rcases wipe_both hl h with z | ⟨h1, h2⟩
      · exact .inl z
      · refine .inr ⟨h1, ?_⟩
        unfold wipe
        rw [List.getElem?_set_ne e]
        exact h2
theorem roE_get {env : Ev} {i : Nat} {x : Sl} (h : (env.map roE)[i]? = some x) : ∃ y, env[i]? = some y ∧ x = roE y := by
  rw [List.getElem?_map] at h
  cases e : env[i]? with
  | none => rw [e] at h; cases h
  | some y => rw [e] at h; exact ⟨y, rfl, (Option.some.inj h).symm⟩
/-- what is around a comprehension's block -/
def blkF (F : Fx) (env : Ev) (σ : St) (D0 : Addr) (H : Hp) : Fx := ⟨F.K, fun a => Ow F env σ a ∨ a = D0, H, fun a => ∃ p ∈ F.T, p.1 = a, F.T⟩
/-- the state of a comprehension's block -/
theorem SR.block {F : Fx} {env : Ev} {σ : St} {H1 H : Hp} {D0 : Addr} {vs : List Nat} (s : SR F env σ H1) (n : H1 D0 = none) (g : GrowT F.T H1 H) (t : Dm F.T H D0) :
    SR (blkF F env σ D0 H) (wipeE (env.map roE) vs) (wipe σ vs) H ∧
      ∀ b, Ow (blkF F env σ D0 H) (wipeE (env.map roE) vs) (wipe σ vs) b ↔ (Ow F env σ b ∨ b = D0) := by
  have noow : ∀ {i : Nat} {d : D}, (wipeE (env.map roE) vs)[i]? = some (.ow d) → False := fun {i d} h => by
    rcases wipe_both (σ := σ) (by rw [List.length_map]; exact s.len) h with z | ⟨h1, _⟩
    · cases z
    · obtain ⟨y, _, e⟩ := roE_get h1
      cases y <;> cases e
  have nobo : ∀ {i : Nat} {d : D}, (wipeE (env.map roE) vs)[i]? = some (.bo d) → False := fun {i d} h => by
    rcases wipe_both (σ := σ) (by rw [List.length_map]; exact s.len) h with z | ⟨h1, _⟩
    · cases z
    · obtain ⟨y, _, e⟩ := roE_get h1
      cases y <;> cases e
  have oeq : ∀ b, Ow (blkF F env σ D0 H) (wipeE (env.map roE) vs) (wipe σ vs) b ↔ (Ow F env σ b ∨ b = D0) := fun b =>
    ⟨fun h => h.elim id fun ⟨i, d, h1, _⟩ => (noow h1).elim, fun h => .inl h⟩
  have x : Ext (Ow F env σ) H1 (Ow (blkF F env σ D0 H) (wipeE (env.map roE) vs) (wipe σ vs)) H :=
    s.ext_t g (fun b h => (oeq b).mpr (.inl h)) fun b h => ((oeq b).mp h).elim .inl fun e => .inr (e ▸ n)
  have nt : ∀ {d : D} {a : Addr}, CRel F.K H1 (Ow F env σ) d a → ¬ (blkF F env σ D0 H).B a := fun {d a} c ⟨p, hp, e⟩ => by
    obtain ⟨ps, h1, _⟩ := s.tb p hp
    rw [e] at h1
    exact crel_tbl c h1
  refine ⟨⟨fun b o h _ _ => h, fun a h => ?_, fun a ⟨p, hp, e⟩ => .inl (e ▸ s.own_t hp), by rw [wipeE_len, wipe_length, List.length_map]; exact s.len, fun i d h => ?_, fun i d h => (noow h).elim, fun i d h => (nobo h).elim, fun i d h => ?_,
    fun i j a d d' h => (noow h).elim, fun i j a d d' h => (nobo h).elim, fun p hp => ⟨p, hp, rfl⟩, g.t, fun i f H9 Om h => ?_⟩, oeq⟩
  · rcases h with h | h
    · exact (s.dm h).growT g
    · rw [h]; exact t
  · rcases wipe_both (σ := σ) (by rw [List.length_map]; exact s.len) h with z | ⟨h1, h2⟩
    · cases z
    · obtain ⟨y, hy, e⟩ := roE_get h1
      cases y <;> cases e
      obtain ⟨v, w1, w2⟩ := s.va i d hy
      exact ⟨v, h2.trans w1, w2.ext x⟩
  · rcases wipe_both (σ := σ) (by rw [List.length_map]; exact s.len) h with z | ⟨h1, h2⟩
    · cases z
    · obtain ⟨y, hy, e⟩ := roE_get h1
      cases y <;> cases e
      · obtain ⟨a, w1, _, _, w4⟩ := s.ow i d hy
        exact ⟨a, h2.trans w1, .inl (.inr ⟨i, d, hy, w1⟩), nt w4, w4.ext x (s.st_t g w4)⟩
      · obtain ⟨a, w1, w2, w4⟩ := s.bo i d hy
        exact ⟨a, h2.trans w1, .inl (.inl (s.bo0 a w2)), nt w4, w4.ext x (s.st_t g w4)⟩
      · obtain ⟨a, w1, w2, _, w4⟩ := s.ro i d hy
        exact ⟨a, h2.trans w1, .inl (.inl w2), nt w4, w4.ext x (s.st_t g w4)⟩
  · rcases wipe_both (σ := σ) (by rw [List.length_map]; exact s.len) h with z | ⟨h1, h2⟩
    · cases z
    · obtain ⟨y, hy, e⟩ := roE_get h1
      cases y <;> cases e
      obtain ⟨w1, w2⟩ := s.fx i f H9 Om hy
      refine ⟨h2.trans w1, fun c o e q nt => ?_, fun b h => ?_, fun b o e nt => ?_⟩
      · obtain ⟨k1, k2⟩ := w2.k c o e q nt
        exact ⟨g.k c o (s.fr c o k1 k2 nt) q nt, fun ⟨p, hp, e⟩ => q p hp e⟩
      · have back : ∀ b, (Om b ∨ H9 b = none ∨ ∃ ps, H9 b = some (.tbl ps)) ∨ (∃ o, H9 b = some o ∧ NTb o ∧ ¬ Om b) := fun b => by
          by_cases q : Om b
          · exact .inl (.inl q)
          · cases e : H9 b with
            | none => exact .inl (.inr (.inl rfl))
            | some o =>
              by_cases t : NTb o
              · exact .inr ⟨o, rfl, t, q⟩
              · obtain ⟨ps, hp⟩ := Classical.not_forall.mp t
                exact .inl (.inr (.inr ⟨ps, by rw [Classical.not_not.mp hp]⟩))
        rcases back b with q | ⟨o, e, nt, nO⟩
        · exact q
        · exfalso
          have nO0 : ¬ F.O0 b := fun q => by
            rcases w2.o b q with q | q | ⟨ps, q⟩
            · exact nO q
            · rw [e] at q; cases q
            · rw [e] at q; cases q; exact nt ps rfl
          have nT : ∀ p ∈ F.T, p.1 ≠ b := fun p hp z => nO0 (z ▸ s.bo0 _ (s.tO p hp))
          obtain ⟨k1, k2⟩ := w2.k b o e nT nt
          have hb := s.fr b o k1 k2 nt
          rcases h with (h | ⟨i, d, h3, h4⟩) | h
          · exact nO0 h
          · obtain ⟨a, e1, e2, _⟩ := s.ow i d h3
            rw [h4] at e1; cases e1
            exact e2 o k1 nt
          · rw [h, n] at hb; cases hb
      · by_cases q : ∀ p ∈ F.T, p.1 ≠ b
        · obtain ⟨k1, k2⟩ := w2.k b o e q nt
          rw [show (blkF F env σ D0 H).H0 = H from rfl, g.k b o (s.fr b o k1 k2 nt) q nt]
          intro z; cases z
        · obtain ⟨p, hp⟩ := Classical.not_forall.mp q
          obtain ⟨hp, e2⟩ := Classical.not_imp.mp hp
          rw [← Decidable.not_not.mp e2]
          exact g.n p hp
/-- what a block's steps leave -/
theorem SR.blk_gt {F : Fx} {env env' : Ev} {σ σ' σ2 : St} {H H' : Hp} {D0 : Addr} (s : SR (blkF F env' σ' D0 H) env σ H') : GrowT F.T H H' :=
  ⟨fun c o h q t => s.fr c o h (fun ⟨p, hp, e⟩ => q p hp e) t, fun p hp => s.dom (s.own_t (p := p) hp), s.tb⟩
def mYes : ME := fun e => .ok (.bl true) e
/-- a clause's tests -/
structure JTs (X : Cx) (C : CT) (W : WX) (ifs : List Expr) (m : ME) : Prop where
  run : ∃ t, PTs X ifs t ∧ ∀ F env σ H Q, FX F X.K C → SR F env σ H → PostT F C W env σ H Q (m env) → t σ H Q
theorem jts_nil {X : Cx} {C : CT} {W : WX} : JTs X C W [] mYes := ⟨_, pts_nil, fun F env σ H Q k s z => by
  obtain ⟨b, e, z⟩ := z
  cases e
  exact z H s .refl⟩
theorem jts_one {X : Cx} {C : CT} {W : WX} {e : Expr} {m : ME} (h : JT X C W e m) : JTs X C W [e] m := by
  obtain ⟨t, p, q⟩ := h.run
  exact ⟨_, pts_one p, q⟩
abbrev W0 : WX := fun _ _ _ _ => False
section
variable {X : Cx} {C : CT} {W : WX}
/-- a comprehension: what it makes is new (Q is asked at a new place) -/
theorem lc_run {wi : TI} {g : TG} {tt : TT} {te : TE} {vs js : List Nat} {mi : MA} {mg : MT} {mt me : ME} {F : Fx} {env : Ev} {σ : St} {H : Hp} {Q : VK} (k : FX F X.K C)
    (qi : ∀ F env σ H R, FX F X.K C → SR F env σ H → PostI F C W env σ H R (mi env) → wi σ H R)
    (qg : ∀ F env σ H d v env' Q, F.K = X.K → SR F env σ H → RelD F.K H (Ow F env σ) d v → mg d env = some env' →
      (∀ σ', SR F env' σ' H → (∀ b, Ow F env' σ' b → Ow F env σ b) → (∀ vs : List Nat, (∀ j ∈ js, j ∈ vs) → wipe σ' vs = wipe σ vs) → Q σ' H) → g v σ H Q)
    (qt : ∀ F env σ H Q, FX F X.K C → SR F env σ H → PostT F C W0 env σ H Q (mt env) → tt σ H Q)
    (qe : ∀ F env σ H Q, FX F X.K C → SR F env σ H → PostE F C W0 env σ H Q (me env) → te σ H Q) (hj : ∀ j ∈ js, j ∈ vs) (s : SR F env σ H)
    (z : match mLc mi vs mg mt me env with
      | .ok d env' => ∃ ys, d = .lst ys ∧ ∀ p H1 H' ws, SR F env' σ H1 → Ext (Ow F env σ) H (Ow F env' σ) H1 → H1 p = none → GrowT F.T H1 H' → H' p = some (.lst ws) → RelL F.K H' (fun a => Ow F env' σ a ∨ a = p) ys ws → Q (.ref p) H'
      | .ex c env' => ∀ H', SR F env' σ H' → Ext (Ow F env σ) H (Ow F env' σ) H' → ∀ d, XD C c d H' → W (C c) d σ H'
      | .bad => False) : tLc wi g tt te vs σ H Q := by
  refine qi F env σ H _ k s ?_
  unfold mLc at z
  cases e1 : mi env with
  | bad => rw [e1] at z; exact z
  | ex c env1 => rw [e1] at z; exact z
  | ok ds env1 =>
    rw [e1] at z
    dsimp only at z
    cases hl : Nat.blt ds.length line with
    | false => rw [hl] at z; exact z.elim
    | true =>
      rw [hl] at z
      dsimp only at z
      have hlen : ds.length < sizeLine := line_lt hl
      cases e2 : lcGo mg mt me (wipeE (env1.map roE) vs) ds [] with
      | none => rw [e2] at z; exact z.elim
      | some ys =>
        rw [e2] at z
        obtain ⟨_, e0, z⟩ := z
        cases e0
        intro J H1 s1 x1 it D0 nD
        obtain ⟨G, Y, wk, hG, hY⟩ := it
        refine lc_it wk (fun i H2 => GrowT F.T H1 H2 ∧ ∃ acc ws, acc.length ≤ i ∧ lcGo mg mt me (wipeE (env1.map roE) vs) (ds.drop i) acc = some ys ∧ H2 D0 = some (.lst ws) ∧ RelL F.K H2 (fun a => Ow F env1 σ a ∨ a = D0) acc ws) ?_ ?_ ?_ ?_
        · refine ⟨s1.gt (same_upd nD), [], [], Nat.le_refl _, by rw [List.drop_zero]; exact e2, upd_same, by simp only [RelL]⟩
        · rintro i H2 hi ⟨g, _⟩
          exact hG _ _ (s1.growT g).2
        · rintro i x H2 H3 hi ⟨g, acc, ws, hac, e3, hD, ra⟩ y
          obtain ⟨d, hd⟩ : ∃ d, ds[i]? = some d := ⟨_, List.getElem?_eq_getElem hi⟩
          have ex : Ext (Ow F env1 σ) H1 (fun a => Ow F env1 σ a ∨ a = D0) H2 := s1.ext_t g (fun b h => .inl h) fun b h => h.elim .inl fun e => .inr (e ▸ nD)
          have dom2 : ∀ a, (Ow F env1 σ a ∨ a = D0) → H2 a ≠ none := fun a h => by
            rcases h with h | h
            · exact s1.some_t g h
            · rw [h, hD]; intro z; cases z
          obtain ⟨g23, rx⟩ := hY _ i H2 x H3 d ex dom2 y hd
          have g3 : GrowT F.T H1 H3 := g.trans ((s1.growT g).1.gt g23)
          have nDt : ∀ p ∈ F.T, p.1 ≠ D0 := fun p hp e => (s1.dom (s1.own_t hp)) (e ▸ nD)
          have hD3 : H3 D0 = some (.lst ws) := g23 _ _ hD
          obtain ⟨sb, ob⟩ := s1.block (D0 := D0) (vs := vs) nD g3 ⟨(by rw [hD3]; intro z; cases z), fun ps z => (by rw [hD3] at z; cases z)⟩
          rw [List.drop_eq_getElem_cons hi] at e3
          have ed : ds[i] = d := by
            have := List.getElem?_eq_getElem hi
            rw [hd] at this
            exact (Option.some.inj this).symm
          rw [ed] at e3
          simp only [lcGo] at e3
          cases e4 : mg d (wipeE (env1.map roE) vs) with
          | none => rw [e4] at e3; cases e3
          | some env2 =>
            rw [e4] at e3
            dsimp only at e3
            refine qg (blkF F env1 σ D0 H3) _ _ H3 d x env2 _ k.1 sb ?_ e4 fun σ2 s2 sub2 w2 => ⟨?_, ?_⟩
            · exact rx.ext (Ext.sub fun b h => (ob b).mp h)
            · rw [w2 vs hj]
              clear w2 e4 e2
              have idem : ∀ ws : List Nat, (∀ w ∈ ws, w ∈ vs) → wipe (wipe σ vs) ws = wipe σ vs := by
                intro ws
                induction ws with
                | nil => intro _; rfl
                | cons w r ih =>
                  intro h
                  show (wipe (wipe σ vs) r).set w none = wipe σ vs
                  rw [ih fun u hu => h u (List.mem_cons_of_mem _ hu)]
                  have hw := h w (List.mem_cons_self ..)
                  have gen : ∀ us : List Nat, w ∈ us → (wipe σ us).set w none = wipe σ us := by
                    intro us
                    induction us with
                    | nil => intro h; simp at h
                    | cons u us ih2 =>
                      intro h
                      show ((wipe σ us).set u none).set w none = (wipe σ us).set u none
                      by_cases e : u = w
                      · subst e; rw [List.set_set]
                      · rw [List.set_comm _ _ e]
                        rcases List.mem_cons.mp h with h | h
                        · exact absurd h.symm e
                        · rw [ih2 h]
                  exact gen vs hw
              exact idem vs fun _ h => h
            · refine qt (blkF F env1 σ D0 H3) _ _ H3 _ k s2 ?_
              cases e5 : mt env2 with
              | bad => rw [e5] at e3; cases e3
              | ex c env3 => rw [e5] at e3; cases e3
              | ok b env3 =>
                rw [e5] at e3
                cases b with
                | bl c =>
                  refine ⟨c, rfl, fun H4 s4 x4 => ?_⟩
                  have g34 : GrowT F.T H3 H4 := SR.blk_gt (σ2 := σ) s4
                  cases c with
                  | false =>
                    refine iteF ⟨g3.trans g34, acc, ws, by omega, ?_, g34.k _ _ hD3 nDt nt_lst, ?_⟩
                    · exact e3
                    · exact RelL.ext ((Ext.of g23).trans (O1 := fun a => Ow F env1 σ a ∨ a = D0) ⟨fun b o h n t => g34.k b o h (fun p hp e => n (.inl (e ▸ s1.own_t hp))) t, fun b h => .inl h⟩) _ _ ra
                  | true =>
                    dsimp only at e3
                    refine iteT (qe (blkF F env1 σ D0 H3) _ _ H4 _ k s4 ?_)
                    cases e6 : me env3 with
                    | bad => rw [e6] at e3; cases e3
                    | ex c env4 => rw [e6] at e3; cases e3
                    | ok w env4 =>
                      rw [e6] at e3
                      refine fun v5 H5 s5 x5 r5 => ?_
                      have g35 : GrowT F.T H3 H5 := SR.blk_gt (σ2 := σ) s5
                      have x23 : Ext (fun a => Ow F env1 σ a ∨ a = D0) H2 (fun a => Ow F env1 σ a ∨ a = D0) H3 := Ext.of g23
                      have x35 : Ext (fun a => Ow F env1 σ a ∨ a = D0) H3 (fun a => Ow F env1 σ a ∨ a = D0) H5 := ⟨fun b o h n t => g35.k b o h (fun p hp e => n (.inl (e ▸ s1.own_t hp))) t, fun b h => .inl h⟩
                      have hD5 : H5 D0 = some (.lst ws) := g35.k _ _ hD3 nDt nt_lst
                      have r5' : RelD F.K H5 (fun a => Ow F env1 σ a ∨ a = D0) w v5 := r5.ext (Ext.sub fun b h => .inl h)
                      have ra5 : RelL F.K H5 (fun a => Ow F env1 σ a ∨ a = D0) acc ws := RelL.ext (x23.trans x35) _ _ ra
                      have up : Ext (fun a => Ow F env1 σ a ∨ a = D0) H5 (fun a => Ow F env1 σ a ∨ a = D0) (upd H5 D0 (.lst (ws ++ [v5]))) := by
                        refine ⟨fun b o h n _ => ?_, fun b h => .inl h⟩
                        have : b ≠ D0 := fun e => n (.inr e)
                        rw [upd_ne this]; exact h
                      refine ⟨ws, hD5, by rw [← relL_len ra5]; omega, ?_, acc ++ [w], ws ++ [v5], by rw [List.length_append]; simp; omega, ?_, upd_same, ?_⟩
                      · have gg := g3.trans g35
                        refine ⟨fun b o h q t => ?_, fun p hp => ?_, ?_⟩
                        · have : b ≠ D0 := ne_of_none h nD
                          rw [upd_ne this]
                          exact gg.k b o h q t
                        · rw [upd_ne (nDt p hp)]
                          exact gg.n p hp
                        · exact tabs_put (K := F.K) (O := fun a => Ow F env1 σ a ∨ a = D0) (d := .lst acc) (a := D0) gg.t (by simp only [CRel]; exact ⟨ws, hD5, ra5⟩) fun b hb _ => upd_ne hb
                      · exact e3
                      · refine relL_app (RelL.ext up _ _ ra5) ?_
                        simp only [RelL]
                        exact ⟨v5, [], rfl, r5'.ext up, rfl⟩
                | _ => cases e3
        · rintro H2 ⟨g, acc, ws, hac, e3, hD, ra⟩
          rw [List.drop_length] at e3
          simp only [lcGo, Option.some.injEq] at e3
          subst e3
          exact z D0 H1 H2 ws s1 x1 nD g hD ra
end
end MP

set_option Elab.async false
set_option linter.all false
set_option maxRecDepth 100000
set_option maxHeartbeats 4000000
namespace MP
open PySem PySem.Spec L2
open PyProof.Rows hiding St

/-! ### what is new: at a place that was free -/
def PostF (F : Fx) (C : CT) (W : WX) (env : Ev) (σ : St) (H : Hp) (Q : VK) : RE → Prop
  | .ok d env' => ∀ p H1 H', SR F env' σ H1 → Ext (Ow F env σ) H (Ow F env' σ) H1 → H1 p = none → GrowT F.T H1 H' → CRel F.K H' (fun a => Ow F env' σ a ∨ a = p) d p → Q (.ref p) H'
  | .ex c env' => ∀ H', SR F env' σ H' → Ext (Ow F env σ) H (Ow F env' σ) H' → ∀ d, XD C c d H' → W (C c) d σ H'
  | .bad => False
structure JF (X : Cx) (C : CT) (W : WX) (e : Expr) (m : ME) : Prop where
  run : ∃ t, PE X e t ∧ ∀ F env σ H Q, FX F X.K C → SR F env σ H → PostF F C W env σ H Q (m env) → t σ H Q
/-- a new list as a value -/
def isLst : D → Bool
  | .lst _ => true
  | _ => false
def mAsV (m : ME) : ME := fun e => match m e with
  | .ok (.lst xs) e1 => .ok (.lst xs) e1
  | .ok _ _ => .bad
  | .ex c e1 => .ex c e1
  | .bad => .bad
section
variable {X : Cx} {C : CT} {W : WX}
theorem JF.e {e : Expr} {m : ME} (h : JF X C W e m) : JE X C W e (mAsV m) := by
  obtain ⟨t, p, q⟩ := h.run
  refine ⟨t, p, fun F env σ H Q k s z => q F env σ H Q k s ?_⟩
  unfold mAsV at z
  cases e1 : m env with
  | ok d env1 =>
    rw [e1] at z
    cases d with
    | lst xs =>
      refine fun p H1 H' s1 x1 n g c => z _ H' (s1.growT g).1 (x1.trans (s1.growT g).2) ?_
      simp only [CRel] at c
      obtain ⟨vs, c1, c2⟩ := c
      simp only [RelD]
      exact ⟨p, vs, rfl, c1, s1.new n, RelL.ext (Ext.sub fun b h => .inl h) _ _ c2⟩
    | _ => exact z.elim
  | ex c env1 => rw [e1] at z; exact z
  | bad => rw [e1] at z; exact z
theorem ext_new {F : Fx} {env : Ev} {σ : St} {H : Hp} {p : Addr} (n : H p = none) {H' : Hp} (g : Same H H') : Ext (Ow F env σ) H (fun a => Ow F env σ a ∨ a = p) H' :=
  ⟨fun b o h _ _ => g b o h, fun b h => h.elim .inl fun e => .inr (.inl (e ▸ n))⟩
theorem jf_lst {es : List Expr} {ma : MA} {pos : Pos} (h : JV X C W es ma) : JF X C W (.List es pos) (mLst ma) := by
  obtain ⟨t, p, q⟩ := h.run
  refine ⟨_, pe_lst p, fun F env σ H Q k s z => q F env σ H _ k s ?_⟩
  unfold mLst at z
  cases e1 : ma env with
  | ok xs env1 =>
    rw [e1] at z
    dsimp only at z
    cases hl : Nat.ble xs.length line with
    | true =>
      rw [hl] at z
      refine fun vs H1 s1 x1 r => ⟨by rw [← relL_len r]; exact line_le hl, fun p np => ?_⟩
      refine z p H1 _ s1 x1 np (s1.gt (same_upd np)) ?_
      simp only [CRel]
      exact ⟨vs, upd_same, RelL.ext (ext_new np (same_upd np)) _ _ r⟩
    | false => rw [hl] at z; exact z.elim
  | ex c env1 => rw [e1] at z; exact z
  | bad => rw [e1] at z; exact z
def mNewD : ME := fun e => .ok (.dct [] []) e
def mNewT : ME := fun e => .ok (.dtp [] []) e
theorem jf_dict {pos : Pos} : JF X C W (.Dict [] [] pos) mNewD := by
  refine ⟨_, pe_dnewK, fun F env σ H Q k s z p n => z p H _ s .refl n (s.gt (same_upd n)) ?_⟩
  simp only [CRel]
  exact ⟨[], upd_same, rfl, by simp only [RelL]⟩
theorem jf_dictT {pos : Pos} : JF X C W (.Dict [] [] pos) mNewT := by
  refine ⟨_, pe_dnewT, fun F env σ H Q k s z p n => z p H _ s .refl n (s.gt (same_upd n)) ?_⟩
  simp only [CRel]
  exact ⟨[], upd_same, rfl, by simp only [RelL]⟩
/-- [0] * n -/
def mRep (m1 m2 : ME) : ME := fun e => match m1 e with
  | .ok (.lst a) e1 => (match m2 e1 with
    | .ok (.int k) e2 => (match Nat.ble (a.length * k.toNat) line && (decide (-(2 ^ 63) ≤ k) && decide (k < 2 ^ 63)) with
      | true => .ok (.lst (List.replicate k.toNat a).flatten) e2
      | false => .bad)
    | .ok _ _ => .bad
    | .ex c e2 => .ex c e2
    | .bad => .bad)
  | .ok _ _ => .bad
  | .ex c e1 => .ex c e1
  | .bad => .bad
theorem jf_rep {a b : Expr} {m1 m2 : ME} {pos : Pos} (ha : JE X C W a m1) (hb : JE X C W b m2) : JF X C W (.BinOp a .Mult b pos) (mRep m1 m2) := by
  obtain ⟨t, p, q⟩ := ha.run
  obtain ⟨t2, p2, q2⟩ := hb.run
  refine ⟨_, pe_op op_rep p p2, fun F env σ H Q k s z => q F env σ H _ k s ?_⟩
  unfold mRep at z
  cases e1 : m1 env with
  | ok d env1 =>
    rw [e1] at z
    refine fun v H1 s1 x1 r1 => q2 F env1 σ H1 _ k s1 ?_
    cases d with
    | lst xs =>
      dsimp only at z
      cases e2 : m2 env1 with
      | ok d2 env2 =>
        rw [e2] at z
        refine fun u H2 s2 x2 r2 => ?_
        cases d2 with
        | int kk =>
          dsimp only at z
          split at z
          · rename_i hl
            simp only [Bool.and_eq_true, decide_eq_true_eq] at hl
            obtain ⟨h1, h2, h3⟩ := hl
            have r1 := r1.ext x2
            simp only [RelD] at r1 r2
            obtain ⟨w, ws, rfl, q1, n1, r1⟩ := r1
            refine ⟨w, kk, ws, rfl, r2, q1, h2, h3, by rw [← relL_len r1]; exact line_le h1, fun p np => ?_⟩
            refine z p H2 _ s2 (x1.trans x2) np (s2.gt (same_upd np)) ?_
            simp only [CRel]
            exact ⟨_, upd_same, RelL.ext (ext_new np (same_upd np)) _ _ (relL_repL r1 _)⟩
          · exact z.elim
        | _ => exact z.elim
      | ex c env2 => rw [e2] at z; exact fun H' s' x' => z H' s' (x1.trans x')
      | bad => rw [e2] at z; exact z
    | _ => exact z.elim
  | ex c env1 => rw [e1] at z; exact z
  | bad => rw [e1] at z; exact z
def cE (K : PySem.W.Frag) (C : CT) (W : WX) (m : ME) : TE := fun σ H Q => ∃ F env, FX F K C ∧ SR F env σ H ∧ PostE F C W env σ H Q (m env)
theorem JE.canon {e : Expr} {m : ME} (h : JE X C W e m) : PE X e (cE X.K C W m) := by
  obtain ⟨t, p, q⟩ := h.run
  exact ⟨fun pins s σ H Q I z => by
    obtain ⟨F, env, k, sr, z⟩ := z
    exact p.run pins s σ H Q I (q F env σ H Q k sr z)⟩
def cTs (K : PySem.W.Frag) (C : CT) (W : WX) (m : ME) : TT := fun σ H Q => ∃ F env, FX F K C ∧ SR F env σ H ∧ PostT F C W env σ H Q (m env)
theorem JTs.canon {es : List Expr} {m : ME} (h : JTs X C W es m) : PTs X es (cTs X.K C W m) := by
  obtain ⟨t, p, q⟩ := h.run
  exact ⟨fun pins s σ H Q I z => by
    obtain ⟨F, env, k, sr, z⟩ := z
    exact p.run pins s σ H Q I (q F env σ H Q k sr z)⟩
def cG (K : PySem.W.Frag) (mg : MT) (js : List Nat) : TG := fun v σ H Q => ∃ F env d env', F.K = K ∧ SR F env σ H ∧ RelD F.K H (Ow F env σ) d v ∧ mg d env = some env' ∧
  (∀ σ', SR F env' σ' H → (∀ b, Ow F env' σ' b → Ow F env σ b) → (∀ vs : List Nat, (∀ j ∈ js, j ∈ vs) → wipe σ' vs = wipe σ vs) → Q σ' H)
theorem JG.canon {e : Expr} {mg : MT} {js : List Nat} (h : JG X e mg js) : PG X e (cG X.K mg js) := by
  obtain ⟨g, p, q⟩ := h.run
  exact ⟨fun pins s σ H v u Q I r z => by
    obtain ⟨F, env, d, env', k, sr, rel, e, z⟩ := z
    exact p.run pins s σ H v u Q I r (q F env σ H d v env' Q k sr rel e z)⟩
/-- [e for x in xs if t] -/
theorem jf_lc {elt tg iter : Expr} {ifs : List Expr} {scope : Scope} {own : List (Str × Nat)} {pos : Pos} {js : List Nat} {mi : MA} {mg : MT} {mt me : ME} (hc : X.calm = true) (hN : X.N.Nodup) (hi : JI X C W tg iter mi) (ok : BlkOk X.N X.env.scope scope own)
    (hg : ∀ (s : Shared) (H : Hp) (A : Addr) (cl : List (Str × Addr)) (fp : List Addr), JG (X.blk s H scope (compEnvC scope cl A X.env) fp) tg mg js)
    (ht : ∀ (s : Shared) (H : Hp) (A : Addr) (cl : List (Str × Addr)) (fp : List Addr), JTs (X.blk s H scope (compEnvC scope cl A X.env) fp) C W0 ifs mt)
    (he : ∀ (s : Shared) (H : Hp) (A : Addr) (cl : List (Str × Addr)) (fp : List Addr), JE (X.blk s H scope (compEnvC scope cl A X.env) fp) C W0 elt me)
    (hj : ∀ j ∈ js, j ∈ own.map (·.2)) (hs : ∀ x, foldedSetIterable iter X.env x = pure x) : JF X C W (.ListComp elt [⟨tg, iter, ifs, 0⟩] scope pos) (mLc mi (own.map (·.2)) mg mt me) := by
  obtain ⟨wi, pi, qi⟩ := hi.run
  have pg := fun s H A cl fp => (hg s H A cl fp).canon
  have pt := fun s H A cl fp => (ht s H A cl fp).canon
  have pe := fun s H A cl fp => (he s H A cl fp).canon
  have qg : ∀ F env σ H d v env' Q, F.K = X.K → SR F env σ H → RelD F.K H (Ow F env σ) d v → mg d env = some env' → (∀ σ', SR F env' σ' H → (∀ b, Ow F env' σ' b → Ow F env σ b) → (∀ vs : List Nat, (∀ j ∈ js, j ∈ vs) → wipe σ' vs = wipe σ vs) → Q σ' H) → cG X.K mg js v σ H Q :=
    fun F env σ H d v env' Q k sr rel e z => ⟨F, env, d, env', k, sr, rel, e, z⟩
  have qt : ∀ F env σ H Q, FX F X.K C → SR F env σ H → PostT F C W0 env σ H Q (mt env) → cTs X.K C W0 mt σ H Q := fun F env σ H Q k sr z => ⟨F, env, k, sr, z⟩
  have qe : ∀ F env σ H Q, FX F X.K C → SR F env σ H → PostE F C W0 env σ H Q (me env) → cE X.K C W0 me σ H Q := fun F env σ H Q k sr z => ⟨F, env, k, sr, z⟩
  refine ⟨_, pe_lc hc hN pi ok pg pt pe hs, fun F env σ H Q k s z => lc_run k qi qg qt qe hj s ?_⟩
  revert z
  cases e1 : mLc mi (own.map (·.2)) mg mt me env with
  | bad => exact fun z => z
  | ex c env1 => exact fun z => z
  | ok d env1 =>
    intro z
    have hd : ∃ ys, d = .lst ys := by
      unfold mLc at e1
      split at e1 <;> try (cases e1; done)
      split at e1 <;> try (cases e1; done)
      split at e1 <;> cases e1
      exact ⟨_, rfl⟩
    obtain ⟨ys, rfl⟩ := hd
    refine ⟨ys, rfl, fun p H1 H' ws s1 x1 n g hp r => z p H1 H' s1 x1 n g ?_⟩
    simp only [CRel]
    exact ⟨ws, hp, r⟩
end

/-! ### own defs -/
inductive RF where
  | ok (d : D) (out : Option D) | ex (c : Nat) (out : Option D) | bad
abbrev UF := List Sl → RF
def ArgR (K : PySem.W.Frag) (H : Hp) (O : Addr → Prop) : List Sl → List V → Prop
  | [], vs => vs = []
  | .va d :: r, vs => ∃ v u, vs = v :: u ∧ RelD K H O d v ∧ ArgR K H O r u
  | .ro d :: r, vs => ∃ a u, vs = .ref a :: u ∧ O a ∧ CRel K H O d a ∧ ArgR K H O r u
  | _ :: _, _ => False
/-- the arguments, the first of them perhaps borrowed -/
def ArgsR (K : PySem.W.Frag) (H : Hp) (O : Addr → Prop) (b : Option Addr) : List Sl → List V → Prop
  | .bo d :: r, vs => ∃ a u, vs = .ref a :: u ∧ b = some a ∧ O a ∧ CRel K H O d a ∧ (∃ ds : List D, r = ds.map Sl.va) ∧ ArgR K H O r u
  | xs, vs => b = none ∧ ArgR K H O xs vs
def EndF (K : PySem.W.Frag) (T : List (Addr × Str)) (H : Hp) (O : Addr → Prop) (b : Option Addr) (out : Option D) (H' : Hp) : Prop :=
  (∀ c o, H c = some o → b ≠ some c → (∀ p ∈ T, p.1 ≠ c) → NTb o → H' c = some o) ∧ (∀ a, O a → H' a ≠ none) ∧ (∀ a d, b = some a → out = some d → CRel K H' O d a) ∧ LamX.Tabs T H'
/-- what a def promises: its function of trees -/
def spU (K : PySem.W.Frag) (C : CT) (n : Nat) (f : UF) : Sp := fun vs H Q E => ∃ (O : Addr → Prop) (b : Option Addr) (args : List Sl), vs.length = n ∧ (∀ a, O a → Dm C.T H a) ∧ (∀ p ∈ C.T, O p.1) ∧ LamX.Tabs C.T H ∧ ArgsR K H O b args vs ∧ match f args with
  | .ok d out => ∀ v H', EndF K C.T H O b out H' → RelD K H' O d v → Q v H'
  | .ex c out => ∀ H', EndF K C.T H O b out H' → ∀ d, XD C c d H' → E (C c) d H'
  | .bad => False
theorem argR_map {K : PySem.W.Frag} {H : Hp} {O : Addr → Prop} : ∀ {ds : List D} {vs : List V}, RelL K H O ds vs → ArgR K H O (ds.map Sl.va) vs
  | [], vs, h => by simpa only [List.map_nil, ArgR, RelL] using h
  | d :: ds, vs, h => by
    simp only [RelL] at h
    obtain ⟨v, r, rfl, h1, h2⟩ := h
    simp only [List.map_cons, ArgR]
    exact ⟨v, r, rfl, h1, argR_map h2⟩
/-- behind a call: the borrowed slot -/
def wback (env : Ev) (i : Nat) : Option D → Ev
  | some d => (match env[i]? with
    | some (.ow _) => env.set i (.ow d)
    | some (.bo _) => env.set i (.bo d)
    | _ => env.set i .no)
  | none => env.set i .no
section
variable {X : Cx} {C : CT} {W : WX}
/-- f(e, ..): values alone -/
def mUser (f : UF) (ma : MA) : ME := fun e => match ma e with
  | .ok ds e1 => (match f (ds.map Sl.va) with
    | .ok d _ => .ok d e1
    | .ex c _ => .ex c e1
    | .bad => .bad)
  | .ex c e1 => .ex c e1
  | .bad => .bad
theorem user_end {F : Fx} {env1 : Ev} {σ : St} {H1 H' : Hp} {out : Option D} (s1 : SR F env1 σ H1) (x : EndF F.K F.T H1 (Ow F env1 σ) none out H') : GrowT F.T H1 H' :=
  ⟨fun c o h q t => x.1 c o h (fun z => by cases z) q t, fun p hp => x.2.1 _ (s1.own_t hp), x.2.2.2⟩
theorem user_va {F : Fx} {env : Ev} {σ : St} {H : Hp} {Q : VK} {f : UF} {n : Nat} {t : TA} {ma : MA} (k : FX F X.K C) (qa : ∀ F env σ H Q, FX F X.K C → SR F env σ H → PostV F C W env σ H Q (ma env) → t σ H Q) (hn : ∀ ds e env, ma env = .ok ds e → ds.length = n) (s : SR F env σ H)
    (z : PostE F C W env σ H Q (mUser f ma env)) : t σ H (fun vs H1 => spU X.K C n f vs H1 Q (fun cls d H2 => W cls d σ H2)) := by
  refine qa F env σ H _ k s ?_
  unfold mUser at z
  cases e1 : ma env with
  | bad => rw [e1] at z; exact z
  | ex c env1 => rw [e1] at z; exact z
  | ok ds env1 =>
    rw [e1] at z
    dsimp only at z
    refine fun vs H1 s1 x1 r => ?_
    have hl := relL_len r
    refine ⟨Ow F env1 σ, none, ds.map Sl.va, by rw [← hl]; exact hn ds env1 env e1, fun a h => (by rw [← k.2]; exact s1.dm h), fun p hp => s1.own_t (by rw [k.2]; exact hp), by rw [← k.2]; exact s1.tb, ?_, ?_⟩
    · have := argR_map r
      rw [← k.1]
      cases ds with
      | nil => exact ⟨rfl, this⟩
      | cons d r => exact ⟨rfl, this⟩
    · cases e2 : f (ds.map Sl.va) with
      | bad => rw [e2] at z; exact z
      | ok d out =>
        rw [e2] at z
        refine fun v H2 en rel => ?_
        rw [← k.1, ← k.2] at en
        rw [← k.1] at rel
        have g := s1.growT (user_end s1 en)
        exact z v H2 g.1 (x1.trans g.2) rel
      | ex c out =>
        rw [e2] at z
        refine fun H2 en => ?_
        rw [← k.1, ← k.2] at en
        have g := s1.growT (user_end s1 en)
        exact z H2 g.1 (x1.trans g.2)
theorem j_user {f : UF} {n k : Nat} {fa : Addr} {fd : FuncData} {ps : List Str} {x : Str} {e : Expr} {es : List Expr} {ma : MA} {p pos : Pos} (tk : Takes X W) (G : FnOk X.prog X.w X.K X.mg X.base (L2.CX X.prog X.w) k fa fd ps (spU X.K C n f)) (hr : Room k X.A) (hg : Gl X x)
    (hm : X.mg x = some (.ref fa)) (hk : PySem.W.keepIn X.K (.ref fa) = true) (hb : Binds X.K fd ps []) (ha : JV X C W (e :: es) ma) (hn : ∀ ds e env, ma env = .ok ds e → ds.length = n) (hdb : (x == ("__debug__" : Str)) = false)
    (he : starEach (e :: es) X.env = (false, eval e X.env) :: starEach es X.env) (hpl : (backTo pos (starEach es X.env)).any (·.1) = false) : JE X C W (.Call (.Name x p) (e :: es) [] pos) (mUser f ma) := by
  obtain ⟨t, pa, q⟩ := ha.run
  exact ⟨_, pe_callS G hr hg hm hk hb (fun σ => passAt tk σ) pa hdb he hpl, fun F env σ H Q k s z => user_va k q hn s z⟩
/-- f() -/
def mUser0 (f : UF) : ME := fun e => match f [] with
  | .ok d _ => .ok d e
  | _ => .bad
theorem j_user0 {f : UF} {k : Nat} {fa : Addr} {fd : FuncData} {ps : List Str} {x : Str} {p pos : Pos} (tk : Takes X W) (G : FnOk X.prog X.w X.K X.mg X.base (L2.CX X.prog X.w) k fa fd ps (spU X.K C 0 f)) (hr : Room k X.A) (hg : Gl X x)
    (hm : X.mg x = some (.ref fa)) (hk : PySem.W.keepIn X.K (.ref fa) = true) (hb : Binds X.K fd ps []) (hdb : (x == ("__debug__" : Str)) = false) : JE X C W (.Call (.Name x p) [] [] pos) (mUser0 f) := by
  refine ⟨_, pe_call0 (E := E0) (dvs := []) G hr hg hm hk hb .nil (passes_call tk fun _ _ _ _ h => h.elim) hdb, fun F env σ H Q k s z => ?_⟩
  unfold mUser0 at z
  refine ⟨Ow F env σ, none, [], rfl, fun a h => (by rw [← k.2]; exact s.dm h), fun p hp => s.own_t (by rw [k.2]; exact hp), by rw [← k.2]; exact s.tb, ⟨rfl, rfl⟩, ?_⟩
  cases e2 : f [] with
  | bad => rw [e2] at z; exact z
  | ok d out =>
    rw [e2] at z
    refine fun v H2 en rel => ?_
    rw [← k.1, ← k.2] at en
    rw [← k.1] at rel
    have g := s.growT (user_end s en)
    exact z v H2 g.1 g.2 rel
  | ex c out => rw [e2] at z; exact z.elim
end
/-! ### the borrowed slot behind a call -/
theorem SR.put {F : Fx} {env : Ev} {σ : St} {H H' : Hp} (s : SR F env σ H) {i : Nat} {a : Addr} {d' : D} {z' : Sl} (h : (∃ d, env[i]? = some (.ow d) ∧ z' = .ow d') ∨ (∃ d, env[i]? = some (.bo d) ∧ z' = .bo d')) (ha : σ[i]? = some (some (.ref a)))
    (st : ∀ c, c ≠ a → H c ≠ none → H' c = H c) (c : CRel F.K H' (Ow F env σ) d' a) : SR F (env.set i z') σ H' ∧ ∀ b, Ow F (env.set i z') σ b ↔ Ow F env σ b := by
  have own : Ow F env σ a := by
    rcases h with ⟨d, h, _⟩ | ⟨d, h, _⟩
    · exact .inr ⟨i, d, h, ha⟩
    · obtain ⟨b, e1, e2, _⟩ := s.bo i d h
      rw [ha] at e1; cases e1
      exact .inl (s.bo0 a e2)
  have hi : i < env.length := by
    rcases h with ⟨d, h, _⟩ | ⟨d, h, _⟩ <;> exact lt_of_get h
  have oeq : ∀ b, Ow F (env.set i z') σ b ↔ Ow F env σ b := fun b => by
    constructor
    · rintro (q | ⟨j, d, q1, q2⟩)
      · exact .inl q
      · rcases get_set q1 with ⟨e, e2, _⟩ | ⟨e, q1⟩
        · subst e
          rcases h with ⟨d0, h, e3⟩ | ⟨d0, h, e3⟩
          · exact .inr ⟨i, d0, h, q2⟩
          · rw [e3] at e2; cases e2
        · exact .inr ⟨j, d, q1, q2⟩
    · rintro (q | ⟨j, d, q1, q2⟩)
      · exact .inl q
      · by_cases e : i = j
        · subst e
          rcases h with ⟨d0, h, e3⟩ | ⟨d0, h, e3⟩
          · exact .inr ⟨i, d', by rw [List.getElem?_set_self hi, e3], q2⟩
          · rw [h] at q1; cases q1
        · exact .inr ⟨j, d, by rw [List.getElem?_set_ne e]; exact q1, q2⟩
  have x : Ext (Ow F env σ) H (Ow F (env.set i z') σ) H' := by
    refine ⟨fun b o e n _ => ?_, fun b q => .inl ((oeq b).mp q)⟩
    have : b ≠ a := fun z => n (z ▸ own)
    rw [st b this (by rw [e]; intro z; cases z)]
    exact e
  have c' : CRel F.K H' (Ow F (env.set i z') σ) d' a := c.ext (Ext.sub fun b q => (oeq b).mp q) rfl
  have notA : ∀ {j : Nat} {d : D} {b : Addr}, i ≠ j → (env[j]? = some (.ow d) ∨ env[j]? = some (.bo d) ∨ env[j]? = some (.ro d)) → σ[j]? = some (some (V.ref b)) → b ≠ a := by
    intro j d b hij hj hb e
    subst e
    rcases h with ⟨d0, h, _⟩ | ⟨d0, h, _⟩
    · rcases hj with hj | hj | hj
      · exact hij (s.dj i j b _ _ h hj ha hb)
      · obtain ⟨b', e1, e2, _⟩ := s.bo j d hj
        rw [hb] at e1; cases e1
        obtain ⟨b2, e3, _, e4, _⟩ := s.ow i _ h
        rw [ha] at e3; cases e3
        exact e4 (s.bo0 b e2)
      · obtain ⟨b', e1, e2, _⟩ := s.ro j d hj
        rw [hb] at e1; cases e1
        obtain ⟨b2, e3, _, e4, _⟩ := s.ow i _ h
        rw [ha] at e3; cases e3
        exact e4 e2
    · rcases hj with hj | hj | hj
      · obtain ⟨b', e1, _, e2, _⟩ := s.ow j d hj
        rw [hb] at e1; cases e1
        obtain ⟨b2, e3, e4, _⟩ := s.bo i _ h
        rw [ha] at e3; cases e3
        exact e2 (s.bo0 b e4)
      · exact hij (s.djb i j b _ _ h hj ha hb)
      · obtain ⟨b', e1, _, e2, _⟩ := s.ro j d hj
        rw [hb] at e1; cases e1
        obtain ⟨b2, e3, e4, _⟩ := s.bo i _ h
        rw [ha] at e3; cases e3
        exact e2 e4
  refine ⟨⟨fun b o e n t => ?_, fun b q => ?_, s.bo0, by rw [List.length_set]; exact s.len, fun j d q => ?_, fun j d q => ?_, fun j d q => ?_, fun j d q => ?_, fun j k b d1 d2 q1 q2 q3 q4 => ?_, fun j k b d1 d2 q1 q2 q3 q4 => ?_, s.tO, ?_, fun j f H1 Om q => ?_⟩, oeq⟩
  · have hb := s.fr b o e n t
    by_cases hba : b = a
    · subst hba
      rcases h with ⟨d, h, _⟩ | ⟨d, h, _⟩
      · obtain ⟨b', e1, e2, _⟩ := s.ow i d h
        rw [ha] at e1; cases e1
        exact absurd t (e2 o e)
      · obtain ⟨b', e1, e2, _⟩ := s.bo i d h
        rw [ha] at e1; cases e1
        exact absurd e2 n
    · rw [st b hba (by rw [hb]; intro z; cases z)]; exact hb
  · by_cases hba : b = a
    · rw [hba]
      exact ⟨c.some, fun ps z => absurd z (crel_tbl c)⟩
    · have d := s.od b q
      have e := st b hba d.n
      exact ⟨(by rw [e]; exact d.n), fun ps z => d.t ps (by rw [← e]; exact z)⟩
  · rcases get_set q with ⟨e, z, _⟩ | ⟨e, q⟩
    · rcases h with ⟨_, _, e3⟩ | ⟨_, _, e3⟩ <;> rw [e3] at z <;> cases z
    · obtain ⟨w, w1, w2⟩ := s.va j d q
      exact ⟨w, w1, w2.ext x⟩
  · rcases get_set q with ⟨e, z, _⟩ | ⟨e, q⟩
    · subst e
      rcases h with ⟨d0, h, e3⟩ | ⟨_, _, e3⟩
      · rw [e3] at z; cases z
        obtain ⟨b, w1, w2, w3, _⟩ := s.ow i d0 h
        rw [ha] at w1; cases w1
        exact ⟨a, ha, w2, w3, c'⟩
      · rw [e3] at z; cases z
    · obtain ⟨b, w1, w2, w3, w4⟩ := s.ow j d q
      exact ⟨b, w1, w2, w3, w4.ext x (st b (notA e (.inl q) w1) w4.some)⟩
  · rcases get_set q with ⟨e, z, _⟩ | ⟨e, q⟩
    · subst e
      rcases h with ⟨_, _, e3⟩ | ⟨d0, h, e3⟩
      · rw [e3] at z; cases z
      · rw [e3] at z; cases z
        obtain ⟨b, w1, w2, _⟩ := s.bo i d0 h
        rw [ha] at w1; cases w1
        exact ⟨a, ha, w2, c'⟩
    · obtain ⟨b, w1, w2, w4⟩ := s.bo j d q
      exact ⟨b, w1, w2, w4.ext x (st b (notA e (.inr (.inl q)) w1) w4.some)⟩
  · rcases get_set q with ⟨e, z, _⟩ | ⟨e, q⟩
    · rcases h with ⟨_, _, e3⟩ | ⟨_, _, e3⟩ <;> rw [e3] at z <;> cases z
    · obtain ⟨b, w1, w2, w3, w4⟩ := s.ro j d q
      exact ⟨b, w1, w2, w3, w4.ext x (st b (notA e (.inr (.inr q)) w1) w4.some)⟩
  · have key : ∀ {j : Nat} {d : D}, (env.set i z')[j]? = some (.ow d) → ∃ d0, env[j]? = some (.ow d0) := fun {j d} q => by
      rcases get_set q with ⟨e, z, _⟩ | ⟨e, q⟩
      · subst e
        rcases h with ⟨d0, h, e3⟩ | ⟨_, _, e3⟩
        · exact ⟨d0, h⟩
        · rw [e3] at z; cases z
      · exact ⟨_, q⟩
    obtain ⟨d3, q1⟩ := key q1
    obtain ⟨d4, q2⟩ := key q2
    exact s.dj j k b d3 d4 q1 q2 q3 q4
  · have key : ∀ {j : Nat} {d : D}, (env.set i z')[j]? = some (.bo d) → ∃ d0, env[j]? = some (.bo d0) := fun {j d} q => by
      rcases get_set q with ⟨e, z, _⟩ | ⟨e, q⟩
      · subst e
        rcases h with ⟨_, _, e3⟩ | ⟨d0, h, e3⟩
        · rw [e3] at z; cases z
        · exact ⟨d0, h⟩
      · exact ⟨_, q⟩
    obtain ⟨d3, q1⟩ := key q1
    obtain ⟨d4, q2⟩ := key q2
    exact s.djb j k b d3 d4 q1 q2 q3 q4
  · rcases h with ⟨d0, h, _⟩ | ⟨d0, h, _⟩
    · obtain ⟨b, w1, _, _, w4⟩ := s.ow i d0 h
      rw [ha] at w1; cases w1
      exact tabs_put s.tb w4 st
    · obtain ⟨b, w1, _, w4⟩ := s.bo i d0 h
      rw [ha] at w1; cases w1
      exact tabs_put s.tb w4 st
  · rcases get_set q with ⟨e, z, _⟩ | ⟨e, q⟩
    · rcases h with ⟨_, _, e3⟩ | ⟨_, _, e3⟩ <;> rw [e3] at z <;> cases z
    · exact s.fx j f H1 Om q
end MP

set_option Elab.async false
set_option linter.all false
set_option maxRecDepth 100000
set_option maxHeartbeats 4000000
namespace MP
open PySem PySem.Spec L2
open PyProof.Rows hiding St

/-! ### statements -/
def PostS (F : Fx) (C : CT) (W : WX) (env : Ev) (σ : St) (H : Hp) (D : Ends) : RS → Prop
  | .nx env' => ∀ σ' H', SR F env' σ' H' → Ext (Ow F env σ) H (Ow F env' σ') H' → D.nx σ' H'
  | .rt d env' => ∀ v σ' H', SR F env' σ' H' → RelD F.K H' F.O0 d v → D.rt v H'
  | .bk env' => ∀ σ' H', SR F env' σ' H' → Ext (Ow F env σ) H (Ow F env' σ') H' → D.bk σ' H'
  | .ct env' => ∀ σ' H', SR F env' σ' H' → Ext (Ow F env σ) H (Ow F env' σ') H' → D.ct σ' H'
  | .ex c env' => ∀ σ' H', SR F env' σ' H' → Ext (Ow F env σ) H (Ow F env' σ') H' → ∀ d, XD C c d H' → W (C c) d σ' H'
  | .bad => False
structure JS (X : Cx) (C : CT) (W : WX) (st : Stmt) (m : MS) : Prop where
  run : ∃ t, PS X st t ∧ ∀ F env σ H D, FX F X.K C → SR F env σ H → PostS F C W env σ H D (m env) → t D σ H
structure JB (X : Cx) (C : CT) (W : WX) (st : List Stmt) (m : MS) : Prop where
  run : ∃ t, PSs X st t ∧ ∀ F env σ H D, FX F X.K C → SR F env σ H → PostS F C W env σ H D (m env) → t D σ H
theorem PostS.after {C : CT} {W : WX} {F : Fx} {env env1 : Ev} {σ σ1 : St} {H H1 : Hp} {D : Ends} (x : Ext (Ow F env σ) H (Ow F env1 σ1) H1) : ∀ {r : RS}, PostS F C W env σ H D r → PostS F C W env1 σ1 H1 D r
  | .nx _, z => fun σ2 H2 s2 x2 => z σ2 H2 s2 (x.trans x2)
  | .rt _ _, z => z
  | .bk _, z => fun σ2 H2 s2 x2 => z σ2 H2 s2 (x.trans x2)
  | .ct _, z => fun σ2 H2 s2 x2 => z σ2 H2 s2 (x.trans x2)
  | .ex _ _, z => fun σ2 H2 s2 x2 => z σ2 H2 s2 (x.trans x2)
  | .bad, z => z
section
variable {X : Cx} {C : CT} {W : WX}
def mSeq (m1 m2 : MS) : MS := fun e => match m1 e with
  | .nx e1 => m2 e1
  | r => r
def mSkip : MS := fun e => .nx e
theorem jb_nil : JB X C W [] mSkip := ⟨_, pss_nil, fun F env σ H D k s z => z σ H s .refl⟩
theorem jb_one {st : Stmt} {m : MS} (h : JS X C W st m) : JB X C W [st] m := by
  obtain ⟨t, p, q⟩ := h.run
  exact ⟨_, pss_one p, q⟩
theorem jb_cons {st : Stmt} {sts : List Stmt} {m1 m2 : MS} (h : JS X C W st m1) (h2 : JB X C W sts m2) : JB X C W (st :: sts) (mSeq m1 m2) := by
  obtain ⟨t, p, q⟩ := h.run
  obtain ⟨t2, p2, q2⟩ := h2.run
  refine ⟨_, pss_cons p p2, fun F env σ H D k s z => q F env σ H _ k s ?_⟩
  unfold mSeq at z
  cases e1 : m1 env with
  | nx env1 =>
    rw [e1] at z
    exact fun σ1 H1 s1 x1 => q2 F env1 σ1 H1 D k s1 (PostS.after x1 z)
  | rt d env1 => rw [e1] at z; exact z
  | bk env1 => rw [e1] at z; exact z
  | ct env1 => rw [e1] at z; exact z
  | ex c env1 => rw [e1] at z; exact z
  | bad => rw [e1] at z; exact z
def mDoc : MS := fun e => .nx e
theorem js_pass {pos : Pos} : JS X C W (.Pass pos) mSkip := ⟨_, ps_pass, fun F env σ H D k s z => z σ H s .refl⟩
def mBrk : MS := fun e => .bk e
def mCnt : MS := fun e => .ct e
theorem js_break {pos : Pos} : JS X C W (.Break pos) mBrk := ⟨_, ps_break, fun F env σ H D k s z => z σ H s .refl⟩
theorem js_continue {pos : Pos} : JS X C W (.Continue pos) mCnt := ⟨_, ps_continue, fun F env σ H D k s z => z σ H s .refl⟩
def mRet (m : ME) : MS := fun e => match m e with
  | .ok d e1 => .rt d e1
  | .ex c e1 => .ex c e1
  | .bad => .bad
theorem PostS.ex {F : Fx} {env env1 : Ev} {σ : St} {H : Hp} {D : Ends} {c : Nat} (z : PostS F C W env σ H D (.ex c env1)) : ∀ H', SR F env1 σ H' → Ext (Ow F env σ) H (Ow F env1 σ) H' → ∀ d, XD C c d H' → W (C c) d σ H' := fun H' s x => z σ H' s x
theorem js_ret {e : Expr} {m : ME} {pos : Pos} (h : JE X C W e m) : JS X C W (.Return (some e) pos) (mRet m) := by
  obtain ⟨t, p, q⟩ := h.run
  refine ⟨_, ps_ret p, fun F env σ H D k s z => q F env σ H _ k s ?_⟩
  unfold mRet at z
  cases e1 : m env with
  | ok d env1 =>
    rw [e1] at z
    exact fun v H1 s1 x1 r => z v σ H1 s1 (r.ext (Ext.sub fun b h => .inl h))
  | ex c env1 => rw [e1] at z; exact PostS.ex z
  | bad => rw [e1] at z; exact z
def mRetN : MS := fun e => .rt .non e
theorem js_retN {pos : Pos} : JS X C W (.Return none pos) mRetN := ⟨_, ps_retN, fun F env σ H D k s z => z .non σ H s (by simp only [RelD])⟩
def mDrop (m : ME) : MS := fun e => match m e with
  | .ok _ e1 => .nx e1
  | .ex c e1 => .ex c e1
  | .bad => .bad
theorem js_expr {e : Expr} {m : ME} {pos : Pos} (h : JE X C W e m) (hs : swapsWith e none pos.line X.env = pure false) : JS X C W (.Expr e pos) (mDrop m) := by
  obtain ⟨t, p, q⟩ := h.run
  refine ⟨_, ps_expr p hs, fun F env σ H D k s z => q F env σ H _ k s ?_⟩
  unfold mDrop at z
  cases e1 : m env with
  | ok d env1 =>
    rw [e1] at z
    exact fun v H1 s1 x1 r => z σ H1 s1 x1
  | ex c env1 => rw [e1] at z; exact PostS.ex z
  | bad => rw [e1] at z; exact z
def mIfS (mc : ME) (m1 m2 : MS) : MS := fun e => match mc e with
  | .ok (.bl true) e1 => m1 e1
  | .ok (.bl false) e1 => m2 e1
  | .ok _ _ => .bad
  | .ex c e1 => .ex c e1
  | .bad => .bad
theorem js_if {c : Expr} {a b : List Stmt} {mc : ME} {m1 m2 : MS} {pos : Pos} (hc : JT X C W c mc) (ha : JB X C W a m1) (hb : JB X C W b m2) : JS X C W (.If c a b pos) (mIfS mc m1 m2) := by
  obtain ⟨tc, pc, qc⟩ := hc.run
  obtain ⟨ta, pa, qa⟩ := ha.run
  obtain ⟨tb, pb, qb⟩ := hb.run
  refine ⟨_, ps_if pc pa pb, fun F env σ H D k s z => qc F env σ H _ k s ?_⟩
  unfold mIfS at z
  cases e1 : mc env with
  | ok x env1 =>
    rw [e1] at z
    cases x with
    | bl b =>
      refine ⟨b, rfl, fun H1 s1 x1 => ?_⟩
      cases b with
      | true => exact iteT (qa F env1 σ H1 D k s1 (PostS.after x1 z))
      | false => exact iteF (qb F env1 σ H1 D k s1 (PostS.after x1 z))
    | _ => exact z.elim
  | ex c env1 => rw [e1] at z; exact PostS.ex z
  | bad => rw [e1] at z; exact z
/-! ### x = e -/
def mSet (i : Nat) (m : ME) : MS := fun e => match m e with
  | .ok d e1 => (match Nat.blt i e1.length with
    | true => .nx (e1.set i (.va d))
    | false => .bad)
  | .ex c e1 => .ex c e1
  | .bad => .bad
theorem set_run {F : Fx} {env : Ev} {σ : St} {H : Hp} {D : Ends} {te : TE} {m : ME} {i : Nat} (k : FX F X.K C) (q : ∀ F env σ H Q, FX F X.K C → SR F env σ H → PostE F C W env σ H Q (m env) → te σ H Q) (s : SR F env σ H)
    (z : PostS F C W env σ H D (mSet i m env)) : tAsg te (gName i) D σ H := by
  refine q F env σ H _ k s ?_
  unfold mSet at z
  cases e1 : m env with
  | ok d env1 =>
    rw [e1] at z
    dsimp only at z
    cases hl : Nat.blt i env1.length with
    | false => rw [hl] at z; exact z.elim
    | true =>
      rw [hl] at z
      exact fun v H1 s1 x1 r => z _ H1 (s1.set (Nat.le_of_ble_eq_true hl) r) (x1.trans (Ext.sub fun b h => ow_set b h))
  | ex c env1 => rw [e1] at z; exact PostS.ex z
  | bad => rw [e1] at z; exact z
theorem js_set {i : Nat} {x : Str} {e : Expr} {m : ME} {pos' pos : Pos} (hN : X.N.Nodup) (hi : X.N[i]? = some x) (hx : Loc X.env.scope x) (hf : X.fn x = true ∨ X.env.scope.names.lookup x = some .local) (h : JE X C W e m)
    (hs : swapsWithSole [.Name x pos'] e pos.line X.env = pure false) (hw : swappedStores [.Name x pos'] e X.env = pure none) : JS X C W (.Assign [.Name x pos'] e pos) (mSet i m) := by
  obtain ⟨t, p, q⟩ := h.run
  exact ⟨_, ps_asg p (pg_name hN hi hx hf) hs hw, fun F env σ H D k s z => set_run k q s z⟩
def mOwn (i : Nat) (m : ME) : MS := fun e => match m e with
  | .ok d e1 => (match Nat.blt i e1.length with
    | true => .nx (e1.set i (.ow d))
    | false => .bad)
  | .ex c e1 => .ex c e1
  | .bad => .bad
/-- a new list or dict, owned -/
theorem SR.own {F : Fx} {env : Ev} {σ : St} {H H' : Hp} {p : Addr} (s : SR F env σ H) {i : Nat} {d : D} (hi : i < env.length) (n : H p = none) (g : GrowT F.T H H') (c : CRel F.K H' (fun a => Ow F env σ a ∨ a = p) d p) :
    SR F (env.set i (.ow d)) (σ.set i (some (.ref p))) H' ∧ Ext (Ow F env σ) H (Ow F (env.set i (.ow d)) (σ.set i (some (.ref p)))) H' := by
  have hs : i < σ.length := by rw [← s.len]; exact hi
  have sub : ∀ b, Ow F (env.set i (.ow d)) (σ.set i (some (.ref p))) b → Ow F env σ b ∨ b = p := fun b q => by
    rcases q with q | ⟨j, d', q1, q2⟩
    · exact .inl (.inl q)
    · rcases get_set q1 with ⟨e, _, _⟩ | ⟨e, q1⟩
      · subst e
        rw [List.getElem?_set_self hs] at q2
        cases q2
        exact .inr rfl
      · rw [List.getElem?_set_ne e] at q2
        exact .inl (.inr ⟨j, d', q1, q2⟩)
  have sup : ∀ b, Ow F env σ b → F.O0 b ∨ ∃ (j : Nat) (d' : D), env[j]? = some (.ow d') ∧ σ[j]? = some (some (.ref b)) := fun b q => q
  have x : Ext (Ow F env σ) H (Ow F (env.set i (.ow d)) (σ.set i (some (.ref p)))) H' := ⟨fun b o h nn t => g.k b o h (fun q hq e => nn (.inl (e ▸ s.bo0 _ (s.tO q hq)))) t, fun b q => (sub b q).elim .inl fun e => .inr (.inl (e ▸ n))⟩
  have nO : ¬ Ow F env σ p := s.new n
  have notP : ∀ {j : Nat} {d' : D}, i ≠ j → env[j]? = some (.ow d') → σ[j]? ≠ some (some (V.ref p)) := fun {j d'} _ h1 h2 => nO (.inr ⟨j, d', h1, h2⟩)
  refine ⟨⟨fun b o h m t => g.k b o (s.fr b o h m t) (fun q hq e => m (e ▸ s.tO q hq)) t, fun a h => (s.od a h).growT g, s.bo0, by rw [List.length_set, List.length_set]; exact s.len, fun j d' q => ?_, fun j d' q => ?_, fun j d' q => ?_, fun j d' q => ?_, fun j k b d1 d2 q1 q2 q3 q4 => ?_, fun j k b d1 d2 q1 q2 q3 q4 => ?_, s.tO, g.t, fun j f H9 Om q => ?_⟩, x⟩
  · rcases get_set q with ⟨_, z, _⟩ | ⟨e, q⟩
    · cases z
    · obtain ⟨w, w1, w2⟩ := s.va j d' q
      exact ⟨w, by rw [List.getElem?_set_ne e]; exact w1, w2.ext x⟩
  · rcases get_set q with ⟨e, z, _⟩ | ⟨e, q⟩
    · subst e
      cases z
      refine ⟨p, List.getElem?_set_self hs, fun o e0 nt => ?_, fun h => nO (.inl h), c.ext (Ext.sub sub) rfl⟩
      by_cases hb : F.B p
      · exact absurd (.inl (s.bo0 p hb)) nO
      · rw [s.fr p o e0 hb nt] at n; cases n
    · obtain ⟨w, w1, w2, w3, w4⟩ := s.ow j d' q
      exact ⟨w, by rw [List.getElem?_set_ne e]; exact w1, w2, w3, w4.ext x (s.st_t g w4)⟩
  · rcases get_set q with ⟨_, z, _⟩ | ⟨e, q⟩
    · cases z
    · obtain ⟨w, w1, w2, w4⟩ := s.bo j d' q
      exact ⟨w, by rw [List.getElem?_set_ne e]; exact w1, w2, w4.ext x (s.st_t g w4)⟩
  · rcases get_set q with ⟨_, z, _⟩ | ⟨e, q⟩
    · cases z
    · obtain ⟨w, w1, w2, w3, w4⟩ := s.ro j d' q
      exact ⟨w, by rw [List.getElem?_set_ne e]; exact w1, w2, w3, w4.ext x (s.st_t g w4)⟩
  · rcases get_set q1 with ⟨e1, _, _⟩ | ⟨e1, q1⟩
    · subst e1
      rw [List.getElem?_set_self hs] at q3
      cases q3
      rcases get_set q2 with ⟨e2, _, _⟩ | ⟨e2, q2⟩
      · exact e2
      · rw [List.getElem?_set_ne e2] at q4
        exact absurd q4 (notP e2 q2)
    · rw [List.getElem?_set_ne e1] at q3
      rcases get_set q2 with ⟨e2, _, _⟩ | ⟨e2, q2⟩
      · subst e2
        rw [List.getElem?_set_self hs] at q4
        cases q4
        exact absurd q3 (notP e1 q1)
      · rw [List.getElem?_set_ne e2] at q4
        exact s.dj j k b d1 d2 q1 q2 q3 q4
  · rcases get_set q1 with ⟨_, z, _⟩ | ⟨e1, q1⟩
    · cases z
    · rcases get_set q2 with ⟨_, z, _⟩ | ⟨e2, q2⟩
      · cases z
      · rw [List.getElem?_set_ne e1] at q3
        rw [List.getElem?_set_ne e2] at q4
        exact s.djb j k b d1 d2 q1 q2 q3 q4
  · rcases get_set q with ⟨_, z, _⟩ | ⟨e, q⟩
    · cases z
    · rw [List.getElem?_set_ne e]; exact s.fx j f H9 Om q
theorem own_run {F : Fx} {env : Ev} {σ : St} {H : Hp} {D : Ends} {te : TE} {m : ME} {i : Nat} (k : FX F X.K C) (q : ∀ F env σ H Q, FX F X.K C → SR F env σ H → PostF F C W env σ H Q (m env) → te σ H Q) (s : SR F env σ H)
    (z : PostS F C W env σ H D (mOwn i m env)) : tAsg te (gName i) D σ H := by
  refine q F env σ H _ k s ?_
  unfold mOwn at z
  cases e1 : m env with
  | ok d env1 =>
    rw [e1] at z
    dsimp only at z
    cases hl : Nat.blt i env1.length with
    | false => rw [hl] at z; exact z.elim
    | true =>
      rw [hl] at z
      refine fun p H1 H' s1 x1 n g c => ?_
      obtain ⟨s2, x2⟩ := s1.own (Nat.le_of_ble_eq_true hl) n g c
      exact z _ H' s2 (x1.trans x2)
  | ex c env1 => rw [e1] at z; exact PostS.ex z
  | bad => rw [e1] at z; exact z
theorem js_own {i : Nat} {x : Str} {e : Expr} {m : ME} {pos' pos : Pos} (hN : X.N.Nodup) (hi : X.N[i]? = some x) (hx : Loc X.env.scope x) (hf : X.fn x = true ∨ X.env.scope.names.lookup x = some .local) (h : JF X C W e m)
    (hs : swapsWithSole [.Name x pos'] e pos.line X.env = pure false) (hw : swappedStores [.Name x pos'] e X.env = pure none) : JS X C W (.Assign [.Name x pos'] e pos) (mOwn i m) := by
  obtain ⟨t, p, q⟩ := h.run
  exact ⟨_, ps_asg p (pg_name hN hi hx hf) hs hw, fun F env σ H D k s z => own_run k q s z⟩
/-- x, y = e; any target -/
def mAsg (mg : MT) (m : ME) : MS := fun e => match m e with
  | .ok d e1 => (match mg d e1 with
    | some e2 => .nx e2
    | none => .bad)
  | .ex c e1 => .ex c e1
  | .bad => .bad
theorem js_asg {tg e : Expr} {mg : MT} {js : List Nat} {m : ME} {pos : Pos} (hg : JG X tg mg js) (h : JE X C W e m) (hs : swapsWithSole [tg] e pos.line X.env = pure false) (hw : swappedStores [tg] e X.env = pure none) (h1 : (assignEach [tg] X.env).map (·.2) = [assign tg X.env]) : JS X C W (.Assign [tg] e pos) (mAsg mg m) := by
  obtain ⟨t, p, q⟩ := h.run
  obtain ⟨g, pg, qg⟩ := hg.run
  refine ⟨_, ps_asg p pg hs hw h1, fun F env σ H D k s z => q F env σ H _ k s ?_⟩
  unfold mAsg at z
  cases e1 : m env with
  | ok d env1 =>
    rw [e1] at z
    dsimp only at z
    cases e2 : mg d env1 with
    | none => rw [e2] at z; exact z.elim
    | some env2 =>
      rw [e2] at z
      exact fun v H1 s1 x1 r => qg F env1 σ H1 d v env2 _ k.1 s1 r e2 fun σ2 s2 sub w => z σ2 H1 s2 (x1.trans (Ext.sub sub))
  | ex c env1 => rw [e1] at z; exact PostS.ex z
  | bad => rw [e1] at z; exact z
/-- x, y = e1, e2 -/
def mPar (i j : Nat) (ma : MA) : MS := fun e => match ma e with
  | .ok [a, b] e1 => (match Nat.blt i e1.length && Nat.blt j e1.length with
    | true => .nx ((e1.set i (.va a)).set j (.va b))
    | false => .bad)
  | .ok _ _ => .bad
  | .ex c e1 => .ex c e1
  | .bad => .bad
theorem js_par {i j : Nat} {x y : Str} {a b : Expr} {ma : MA} {px py pt pos : Pos} {kt k2 : Nat} {pt2 : Pos} (hc : X.calm = true) (hN : X.N.Nodup) (hi : X.N[i]? = some x) (hj : X.N[j]? = some y) (hij : i ≠ j)
    (hx : X.env.scope.names.lookup x = some .local) (hy : X.env.scope.names.lookup y = some .local) (ha : JV X C W [a, b] ma)
    (hw : swappedStores [.Tuple [.Name x px, .Name y py] kt pt] (.Tuple [a, b] k2 pt2) X.env = pure (some [x, y])) (hs : swapsWithSole [.Tuple [.Name x px, .Name y py] kt pt] (.Tuple [a, b] k2 pt2) pos.line X.env = pure false) :
    JS X C W (.Assign [.Tuple [.Name x px, .Name y py] kt pt] (.Tuple [a, b] k2 pt2) pos) (mPar i j ma) := by
  obtain ⟨t, p, q⟩ := ha.run
  refine ⟨_, ps_par hc hN hi hj hij hx hy p hw hs, fun F env σ H D k s z => q F env σ H _ k s ?_⟩
  unfold mPar at z
  cases e1 : ma env with
  | ok ds env1 =>
    rw [e1] at z
    split at z
    · rename_i d1 d2 e0 e2
      cases e2
      split at z
      · rename_i hl
        rw [Bool.and_eq_true] at hl
        refine fun vs H1 s1 x1 r => ?_
        simp only [RelL] at r
        obtain ⟨v, r0, rfl, r1, u, r3, rfl, r2, rfl⟩ := r
        refine ⟨v, u, rfl, ?_⟩
        have s2 := s1.set (Nat.le_of_ble_eq_true hl.1) r1
        have x2 : Ext (Ow F env1 σ) H1 (Ow F (env1.set i (.va d1)) (σ.set i (some v))) H1 := Ext.sub fun b h => ow_set b h
        have s3 := s2.set (i := j) (by rw [List.length_set]; exact Nat.le_of_ble_eq_true hl.2) (r2.ext x2)
        exact z _ H1 s3 ((x1.trans x2).trans (Ext.sub fun b h => ow_set b h))
      · exact z.elim
    · exact z.elim
    · rename_i h
      cases h
    · exact z.elim
  | ex c env1 => rw [e1] at z; exact PostS.ex z
  | bad => rw [e1] at z; exact z
/-- x += e (ints) -/
def mAug (i : Nat) (f : D → D → Option D) (m : ME) : MS := fun e => match e[i]? with
  | some (.va x) => (match m e with
    | .ok y e1 => (match f x y with
      | some d => (match Nat.blt i e1.length with
        | true => .nx (e1.set i (.va d))
        | false => .bad)
      | none => .bad)
    | .ex c e1 => .ex c e1
    | .bad => .bad)
  | _ => .bad
/-! ### for -/
def forGo (mg : MT) (mb : MS) : List D → Ev → RS
  | [], e => .nx e
  | d :: ds, e => (match mg d e with
    | some e1 => (match mb e1 with
      | .nx e2 => forGo mg mb ds e2
      | .ct e2 => forGo mg mb ds e2
      | .bk e2 => .nx e2
      | .rt r e2 => .rt r e2
      | .ex c e2 => .ex c e2
      | .bad => .bad)
    | none => .bad)
def mFor (mi : MA) (mg : MT) (mb : MS) : MS := fun e => match mi e with
  | .ok ds e1 => forGo mg mb ds e1
  | .ex c e1 => .ex c e1
  | .bad => .bad
theorem js_for {tg iter : Expr} {body : List Stmt} {mi : MA} {mg : MT} {js : List Nat} {mb : MS} {pos : Pos} (hp : PassesOwn (model X.prog X.w) X.A X.env X.xe) (hc : X.calm = true) (hi : JI X C W tg iter mi) (hg : JG X tg mg js) (hb : JB X C W body mb) (hs : ∀ x, foldedSetIterable iter X.env x = pure x) :
    JS X C W (.For tg iter body [] pos) (mFor mi mg mb) := by
  obtain ⟨wi, pi, qi⟩ := hi.run
  obtain ⟨g, pg, qg⟩ := hg.run
  obtain ⟨tb, pb, qb⟩ := hb.run
  refine ⟨_, ps_for hp hc pi pg pb hs, fun F env σ H D k s z => qi F env σ H _ k s ?_⟩
  unfold mFor at z
  cases e1 : mi env with
  | bad => rw [e1] at z; exact z
  | ex c env1 => rw [e1] at z; exact PostS.ex z
  | ok ds env1 =>
    rw [e1] at z
    dsimp only at z
    intro J H1 s1 x1 it
    obtain ⟨G, Y, wk, hG, hY⟩ := it
    refine for_it wk (fun i σ2 H2 => ∃ env2, SR F env2 σ2 H2 ∧ Ext (Ow F env1 σ) H1 (Ow F env2 σ2) H2 ∧ PostS F C W env2 σ2 H2 D (forGo mg mb (ds.drop i) env2)) ?_ ?_ ?_ ?_
    · exact ⟨env1, s1, .refl, by rw [List.drop_zero]; exact PostS.after x1 z⟩
    · rintro i σ2 H2 hi ⟨env2, s2, x2, _⟩
      exact hG _ _ x2
    · rintro i x σ2 H2 H3 hi ⟨env2, s2, x2, z2⟩ y
      obtain ⟨g3, rx⟩ := hY _ i H2 x H3 ds[i] x2 (fun a => s2.dom) y (List.getElem?_eq_getElem hi)
      rw [List.drop_eq_getElem_cons hi] at z2
      simp only [forGo] at z2
      have s3 := s2.grow g3
      have x3 : Ext (Ow F env2 σ2) H2 (Ow F env2 σ2) H3 := Ext.of g3
      cases e2 : mg ds[i] env2 with
      | none => rw [e2] at z2; exact z2.elim
      | some env3 =>
        rw [e2] at z2
        dsimp only at z2
        refine qg F env2 σ2 H3 _ x env3 _ k.1 s3 rx e2 fun σ4 s4 sub w => ?_
        have x4 : Ext (Ow F env2 σ2) H2 (Ow F env3 σ4) H3 := x3.trans (Ext.sub sub)
        refine qb F env3 σ4 H3 _ k s4 ?_
        cases e3 : mb env3 with
        | nx env4 =>
          rw [e3] at z2
          exact fun σ5 H5 s5 x5 => ⟨env4, s5, (x2.trans x4).trans x5, PostS.after (x4.trans x5) z2⟩
        | ct env4 =>
          rw [e3] at z2
          exact fun σ5 H5 s5 x5 => ⟨env4, s5, (x2.trans x4).trans x5, PostS.after (x4.trans x5) z2⟩
        | bk env4 =>
          rw [e3] at z2
          exact fun σ5 H5 s5 x5 => z2 σ5 H5 s5 (x4.trans x5)
        | rt r env4 => rw [e3] at z2; exact z2
        | ex c env4 => rw [e3] at z2; exact fun σ5 H5 s5 x5 => z2 σ5 H5 s5 (x4.trans x5)
        | bad => rw [e3] at z2; exact z2
    · rintro σ2 H2 ⟨env2, s2, x2, z2⟩
      rw [List.drop_length] at z2
      exact z2 σ2 H2 s2 .refl
/-! ### while -/
def whileGo (mc : ME) (mb : MS) : Nat → Ev → RS
  | 0, _ => .bad
  | n + 1, e => (match mc e with
    | .ok (.bl true) e1 => (match mb e1 with
      | .nx e2 => whileGo mc mb n e2
      | .ct e2 => whileGo mc mb n e2
      | .bk e2 => .nx e2
      | .rt r e2 => .rt r e2
      | .ex c e2 => .ex c e2
      | .bad => .bad)
    | .ok (.bl false) e1 => .nx e1
    | .ok _ _ => .bad
    | .ex c e1 => .ex c e1
    | .bad => .bad)
def mWhile (n : Nat) (mc : ME) (mb : MS) : MS := fun e => whileGo mc mb n e
theorem js_while {n : Nat} {c : Expr} {body : List Stmt} {mc : ME} {mb : MS} {pos : Pos} (hp : PassesOwn (model X.prog X.w) X.A X.env X.xe) (hc : JT X C W c mc) (hb : JB X C W body mb) : JS X C W (.While c body [] pos) (mWhile n mc mb) := by
  obtain ⟨tc, pc, qc⟩ := hc.run
  obtain ⟨tb, pb, qb⟩ := hb.run
  refine ⟨_, ps_while hp pc pb, fun F env σ H D k s z => ?_⟩
  unfold mWhile at z
  refine ⟨fun m σ2 H2 => ∃ env2, SR F env2 σ2 H2 ∧ PostS F C W env2 σ2 H2 D (whileGo mc mb m env2), ⟨n, env, s, z⟩, ?_⟩
  rintro m σ2 H2 ⟨env2, s2, z2⟩
  cases m with
  | zero => simp only [whileGo] at z2; exact z2.elim
  | succ m =>
    simp only [whileGo] at z2
    refine qc F env2 σ2 H2 _ k s2 ?_
    cases e1 : mc env2 with
    | bad => rw [e1] at z2; exact z2
    | ex c env3 => rw [e1] at z2; exact PostS.ex z2
    | ok x env3 =>
      rw [e1] at z2
      cases x with
      | bl b =>
        refine ⟨b, rfl, fun H3 s3 x3 => ?_⟩
        cases b with
        | false => exact iteF (z2 σ2 H3 s3 x3)
        | true =>
          dsimp only at z2
          refine iteT ⟨fun σ' H' => ∃ env2, SR F env2 σ' H' ∧ PostS F C W env2 σ' H' D (whileGo mc mb m env2), fun σ' H' w => ⟨m, Nat.lt_succ_self m, w⟩, ?_⟩
          refine qb F env3 σ2 H3 _ k s3 ?_
          cases e3 : mb env3 with
          | nx env4 =>
            rw [e3] at z2
            exact fun σ5 H5 s5 x5 => ⟨env4, s5, PostS.after (x3.trans x5) z2⟩
          | ct env4 =>
            rw [e3] at z2
            exact fun σ5 H5 s5 x5 => ⟨env4, s5, PostS.after (x3.trans x5) z2⟩
          | bk env4 =>
            rw [e3] at z2
            exact fun σ5 H5 s5 x5 => z2 σ5 H5 s5 (x3.trans x5)
          | rt r env4 => rw [e3] at z2; exact z2
          | ex c env4 => rw [e3] at z2; exact fun σ5 H5 s5 x5 => z2 σ5 H5 s5 (x3.trans x5)
          | bad => rw [e3] at z2; exact z2
      | _ => exact z2.elim
end
end MP

set_option Elab.async false
set_option linter.all false
set_option maxRecDepth 100000
set_option maxHeartbeats 4000000
namespace MP
open PySem PySem.Spec L2
open PyProof.Rows hiding St

/-! ### a def's body -/
def outOf (e : Ev) : Option D := match (e[0]? : Option Sl) with
  | some (Sl.bo d) => some d
  | _ => none
def runF (n tot : Nat) (m : MS) : UF := fun args => match m (args ++ List.replicate (tot - n) .no) with
  | .rt d e => .ok d (outOf e)
  | .nx e => .ok .non (outOf e)
  | .ex c e => .ex c (outOf e)
  | _ => .bad
theorem argR_len {K : PySem.W.Frag} {H : Hp} {O : Addr → Prop} : ∀ {xs : List Sl} {vs : List V}, ArgR K H O xs vs → xs.length = vs.length
  | [], vs, h => by simp only [ArgR] at h; rw [h]; rfl
  | .va d :: r, vs, h => by
    simp only [ArgR] at h
    obtain ⟨v, u, rfl, _, h⟩ := h
    simp only [List.length_cons]; rw [argR_len h]
  | .ro d :: r, vs, h => by
    simp only [ArgR] at h
    obtain ⟨a, u, rfl, _, _, h⟩ := h
    simp only [List.length_cons]; rw [argR_len h]
  | .no :: r, vs, h => by simp only [ArgR] at h
  | .ow _ :: r, vs, h => by simp only [ArgR] at h
  | .bo _ :: r, vs, h => by simp only [ArgR] at h
  | .fx _ _ _ :: r, vs, h => by simp only [ArgR] at h
theorem argR_get {K : PySem.W.Frag} {H : Hp} {O : Addr → Prop} : ∀ {xs : List Sl} {vs : List V} {i : Nat} {x : Sl}, ArgR K H O xs vs → xs[i]? = some x →
    (∃ d v, x = .va d ∧ vs[i]? = some v ∧ RelD K H O d v) ∨ ∃ d a, x = .ro d ∧ vs[i]? = some (.ref a) ∧ O a ∧ CRel K H O d a
  | [], vs, i, x, h, e => by simp at e
  | .va d :: r, vs, i, x, h, e => by
    simp only [ArgR] at h
    obtain ⟨v, u, rfl, h1, h2⟩ := h
    cases i with
    | zero => simp at e; subst e; exact .inl ⟨d, v, rfl, rfl, h1⟩
    | succ j => exact argR_get (i := j) h2 (by simpa using e)
  | .ro d :: r, vs, i, x, h, e => by
    simp only [ArgR] at h
    obtain ⟨a, u, rfl, h0, h1, h2⟩ := h
    cases i with
    | zero => simp at e; subst e; exact .inr ⟨d, a, rfl, rfl, h0, h1⟩
    | succ j => exact argR_get (i := j) h2 (by simpa using e)
  | .no :: r, vs, i, x, h, e => by simp only [ArgR] at h
  | .ow _ :: r, vs, i, x, h, e => by simp only [ArgR] at h
  | .bo _ :: r, vs, i, x, h, e => by simp only [ArgR] at h
  | .fx _ _ _ :: r, vs, i, x, h, e => by simp only [ArgR] at h
theorem rep_get {α : Type} {n i : Nat} {x y : α} (h : (List.replicate n x)[i]? = some y) : y = x := by
  rw [List.getElem?_replicate] at h
  split at h
  · exact (Option.some.inj h).symm
  · cases h
theorem pad_get {args : List Sl} {n i : Nat} {x : Sl} (h : (args ++ List.replicate n .no)[i]? = some x) : x = .no ∨ args[i]? = some x := by
  by_cases hi : i < args.length
  · rw [List.getElem?_append_left hi] at h
    exact .inr h
  · rw [List.getElem?_append_right (by omega)] at h
    exact .inl (rep_get h)
theorem start_get {N : List Str} {vs : List V} {i : Nat} {v : V} (h : vs[i]? = some v) : (L2.start N vs)[i]? = some (some v) := by
  unfold L2.start
  have hi : i < vs.length := lt_of_get h
  rw [List.getElem?_append_left (by rw [List.length_map]; exact hi), List.getElem?_map, h]
  rfl
theorem SR.begin {K : PySem.W.Frag} {H : Hp} {O : Addr → Prop} {b : Option Addr} {args : List Sl} {vs : List V} {N : List Str} {T : List (Addr × Str)} (hl : vs.length ≤ N.length) (dom : ∀ a, O a → Dm T H a) (tO : ∀ p ∈ T, O p.1) (tb : LamX.Tabs T H) (r : ArgsR K H O b args vs) :
    SR ⟨K, O, H, fun a => b = some a ∨ ∃ p ∈ T, p.1 = a, T⟩ (args ++ List.replicate (N.length - vs.length) .no) (L2.start N vs) H ∧ args.length = vs.length := by
  have oeq : ∀ c, Ow ⟨K, O, H, fun a => b = some a ∨ ∃ p ∈ T, p.1 = a, T⟩ (args ++ List.replicate (N.length - vs.length) .no) (L2.start N vs) c → O c := fun c q => by
    rcases q with q | ⟨i, d, q1, q2⟩
    · exact q
    · rcases pad_get q1 with z | q1
      · cases z
      · cases args with
        | nil => simp at q1
        | cons x xs =>
          cases x with
          | bo d0 =>
            simp only [ArgsR] at r
            obtain ⟨a, u, _, _, _, _, ⟨ds, rfl⟩, _⟩ := r
            cases i with
            | zero => simp at q1
            | succ j =>
              simp only [List.getElem?_cons_succ, List.getElem?_map] at q1
              cases e : ds[j]? with
              | none => rw [e] at q1; cases q1
              | some y => rw [e] at q1; cases q1
          | _ =>
            obtain ⟨_, r⟩ := r
            rcases argR_get r q1 with ⟨_, _, z, _⟩ | ⟨_, _, z, _⟩ <;> cases z
  have xx : Ext O H (Ow ⟨K, O, H, fun a => b = some a ∨ ∃ p ∈ T, p.1 = a, T⟩ (args ++ List.replicate (N.length - vs.length) .no) (L2.start N vs)) H := Ext.sub oeq
  have key : (args.length = vs.length) ∧ ∀ i y, args[i]? = some y → (∃ d v, y = .va d ∧ vs[i]? = some v ∧ RelD K H O d v) ∨ (∃ d a, y = .ro d ∧ vs[i]? = some (.ref a) ∧ O a ∧ b ≠ some a ∧ CRel K H O d a) ∨
      (i = 0 ∧ ∃ d a, y = .bo d ∧ vs[i]? = some (.ref a) ∧ b = some a ∧ O a ∧ CRel K H O d a) := by
    cases args with
    | nil =>
      obtain ⟨_, r⟩ := r
      exact ⟨argR_len r, fun i y h => by simp at h⟩
    | cons x xs =>
      cases x with
      | bo d0 =>
        simp only [ArgsR] at r
        obtain ⟨a, u, rfl, hb, ho, hc, ⟨ds, rfl⟩, r⟩ := r
        refine ⟨by simp only [List.length_cons]; rw [argR_len r], fun i y h => ?_⟩
        cases i with
        | zero => simp at h; subst h; exact .inr (.inr ⟨rfl, d0, a, rfl, rfl, hb, ho, hc⟩)
        | succ j =>
          rcases argR_get (i := j) r (by simpa using h) with ⟨d, v, e, e1, e2⟩ | ⟨d, a', e, _⟩
          · exact .inl ⟨d, v, e, by simpa using e1, e2⟩
          · exfalso
            simp only [List.getElem?_cons_succ, List.getElem?_map] at h
            cases e9 : ds[j]? with
            | none => rw [e9] at h; cases h
            | some w => rw [e9] at h; cases h; cases e
      | _ =>
        obtain ⟨hb, r⟩ := r
        refine ⟨argR_len r, fun i y h => ?_⟩
        rcases argR_get r h with ⟨d, v, e, e1, e2⟩ | ⟨d, a', e, e1, e2, e3⟩
        · exact .inl ⟨d, v, e, e1, e2⟩
        · exact .inr (.inl ⟨d, a', e, e1, e2, (by rw [hb]; intro z; cases z), e3⟩)
  obtain ⟨hlen, key⟩ := key
  have bsub : ∀ a, b = some a → O a := fun a e => by
    cases args with
    | nil => obtain ⟨hb, _⟩ := r; rw [hb] at e; cases e
    | cons x xs =>
      cases x with
      | bo d0 =>
        simp only [ArgsR] at r
        obtain ⟨a', u, _, hb, ho, _⟩ := r
        rw [hb] at e; cases e; exact ho
      | _ => obtain ⟨hb, _⟩ := r; rw [hb] at e; cases e
  have nT : ∀ {d : D} {a : Addr}, CRel K H O d a → ¬ ∃ p ∈ T, p.1 = a := fun {d a} c ⟨p, hp, e⟩ => by
    obtain ⟨ps, h1, _⟩ := tb p hp
    rw [e] at h1
    exact crel_tbl c h1
  refine ⟨⟨fun c o h _ _ => h, dom, fun a h => h.elim (bsub a) fun ⟨p, hp, e⟩ => e ▸ tO p hp, ?_, fun i d h => ?_, fun i d h => ?_, fun i d h => ?_, fun i d h => ?_, fun i j a d d' h _ => ?_, fun i j a d d' h h' => ?_, fun p hp => .inr ⟨p, hp, rfl⟩, tb, fun i f H9 Om h => ?_⟩, hlen⟩
  · rw [List.length_append, List.length_replicate, hlen]
    unfold L2.start
    rw [List.length_append, List.length_map, List.length_replicate]
  · rcases pad_get h with z | h
    · cases z
    · rcases key i _ h with ⟨d', v, e, e1, e2⟩ | ⟨_, _, e, _⟩ | ⟨_, _, _, e, _⟩ <;> cases e
      exact ⟨v, start_get e1, e2.ext xx⟩
  · rcases pad_get h with z | h
    · cases z
    · rcases key i _ h with ⟨d', v, e, e1, e2⟩ | ⟨_, _, e, _⟩ | ⟨_, _, _, e, _⟩ <;> cases e
  · rcases pad_get h with z | h
    · cases z
    · rcases key i _ h with ⟨d', v, e, e1, e2⟩ | ⟨_, _, e, _⟩ | ⟨_, d', a, e, e1, e2, e3, e4⟩ <;> cases e
      exact ⟨a, start_get e1, .inl e2, e4.ext xx rfl⟩
  · rcases pad_get h with z | h
    · cases z
    · rcases key i _ h with ⟨d', v, e, e1, e2⟩ | ⟨d', a, e, e1, e2, e3, e4⟩ | ⟨_, _, _, e, _⟩ <;> cases e
      exact ⟨a, start_get e1, e2, fun z => z.elim e3 (nT e4), e4.ext xx rfl⟩
  · rcases pad_get h with z | h
    · cases z
    · rcases key i _ h with ⟨d', v, e, e1, e2⟩ | ⟨_, _, e, _⟩ | ⟨_, _, _, e, _⟩ <;> cases e
  · rcases pad_get h with z | h
    · cases z
    · rcases pad_get h' with z | h'
      · cases z
      · rcases key i _ h with ⟨_, _, e, _⟩ | ⟨_, _, e, _⟩ | ⟨e0, _, _, e, _⟩ <;> cases e
        rcases key j _ h' with ⟨_, _, e, _⟩ | ⟨_, _, e, _⟩ | ⟨e0', _, _, e, _⟩ <;> cases e
        intro _ _
        rw [e0, e0']
  · rcases pad_get h with z | h
    · cases z
    · rcases key i _ h with ⟨d', v, e, e1, e2⟩ | ⟨d', a, e, e1, e2, e3, e4⟩ | ⟨_, _, _, e, _⟩ <;> cases e
/-- what stands around a body -/
structure Cxt (P : Program) (w : World) (K : PySem.W.Frag) (mg : Str → Option Value) (base : Heap) (N : List Str) (sc : Scope) (k : Nat) (X : Cx) : Prop where
  prog : X.prog = P
  w : X.w = w
  K : X.K = K
  mg : X.mg = mg
  base : X.base = base
  N : X.N = N
  sc : X.env.scope = sc
  calm : X.calm = true
  room : Room k X.A
theorem end_of {K : PySem.W.Frag} {T : List (Addr × Str)} {H : Hp} {O : Addr → Prop} {b : Option Addr} {env : Ev} {σ : St} {H' : Hp} (s : SR ⟨K, O, H, fun a => b = some a ∨ ∃ p ∈ T, p.1 = a, T⟩ env σ H') : EndF K T H O b (outOf env) H' := by
  refine ⟨fun c o h n q t => s.fr c o h (fun z => z.elim n fun ⟨p, hp, e⟩ => q p hp e) t, fun a h => (s.od a h).n, fun a d hb h => ?_, s.tb⟩
  unfold outOf at h
  split at h
  · rename_i d' e
    cases h
    obtain ⟨a', e1, e2, c⟩ := s.bo 0 _ e
    rcases e2 with e2 | ⟨p, hp, e2⟩
    · have : a = a' := Option.some.inj (hb.symm.trans e2)
      subst this
      exact c.ext (Ext.sub fun c q => .inl q) rfl
    · obtain ⟨ps, h1, _⟩ := s.tb p hp
      rw [e2] at h1
      exact absurd h1 (crel_tbl c)
  · cases h
section
variable {P : Program} {w : World} {K : PySem.W.Frag} {mg : Str → Option Value} {base : Heap}
/-- THE RULE for a def -/
theorem fn_ok {C : CT} {x qual : Str} {params : Arguments} {body : List Stmt} {scope : Scope} {f : Addr} {fd : FuncData} {N ps : List Str} {k : Nat} {m : MS} (F : FunD K x qual params body scope [] [] f fd) (S : FnScope N ps scope)
    (h : ∀ (X : Cx) (W : WX), Cxt P w K mg base N scope k X → (∀ x, X.fn x = true) → Takes X W → PassesOwn (model X.prog X.w) X.A X.env X.xe → X.stack = X.env :: X.outer → X.env.frame = some X.env.locals → JB X C W body m) :
    FnOk P w K mg base (L2.CX P w) (k + 1) f fd ps (spU K C ps.length (runF ps.length N.length m)) := by
  refine F.ok S (fun vs H Q E h => ?_) (fun cdv A outer s H vs Q E hr hsp => ?_)
  · obtain ⟨_, _, _, hl, _⟩ := h
    exact hl
  · obtain ⟨O, b, args, hl, dom, tO, tb, ra, z⟩ := hsp
    have hpl : ps.length ≤ N.length := by have := congrArg List.length S.pre; rw [List.length_take] at this; omega
    obtain ⟨s0, hlen⟩ := SR.begin (N := N) (T := C.T) (by omega) dom tO tb ra
    have tk : Takes (cxOf (L2.CX P w) P w K mg base N qual scope f cdv A outer s H E) (fun cls d _ H => E cls d H) := takes_of rfl rfl rfl rfl
    have po : PassesOwn (model (cxOf (L2.CX P w) P w K mg base N qual scope f cdv A outer s H E).prog (cxOf (L2.CX P w) P w K mg base N qual scope f cdv A outer s H E).w) (cxOf (L2.CX P w) P w K mg base N qual scope f cdv A outer s H E).A (cxOf (L2.CX P w) P w K mg base N qual scope f cdv A outer s H E).env (cxOf (L2.CX P w) P w K mg base N qual scope f cdv A outer s H E).xe := passes_of rfl
    obtain ⟨t, p, q⟩ := (h (cxOf (L2.CX P w) P w K mg base N qual scope f cdv A outer s H E) (fun cls d _ H => E cls d H) ⟨rfl, rfl, rfl, rfl, rfl, rfl, rfl, rfl, hr⟩ (fun _ => rfl) tk po rfl rfl).run
    refine ⟨t, p, q _ _ _ _ _ ⟨rfl, rfl⟩ s0 ?_⟩
    unfold runF at z
    rw [hl] at s0
    rw [hl]
    cases e1 : m (args ++ List.replicate (N.length - ps.length) .no) with
    | nx env1 =>
      rw [e1] at z
      exact fun σ1 H1 s1 x1 => z .non H1 (end_of s1) (by simp only [RelD])
    | rt d env1 =>
      rw [e1] at z
      exact fun v σ1 H1 s1 r => z v H1 (end_of s1) r
    | ex c env1 =>
      rw [e1] at z
      exact fun σ1 H1 s1 _ => z H1 (end_of s1)
    | bk env1 => rw [e1] at z; exact z.elim
    | ct env1 => rw [e1] at z; exact z.elim
    | bad => rw [e1] at z; exact z.elim
end
end MP

set_option Elab.async false
set_option linter.all false
set_option maxRecDepth 100000
set_option maxHeartbeats 4000000
namespace MP
open PySem PySem.Spec L2
open PyProof.Rows hiding St

/-! ### names -/
structure Nm (N : List Str) (sc : Scope) (i : Nat) (x : Str) : Prop where
  at_ : N[i]? = some x
  vis : Vis sc x
  d : (x == ("__debug__" : Str)) = false
  c : (x == ("__classdict__" : Str)) = false
def nmB (N : List Str) (sc : Scope) (i : Nat) (x : Str) : Bool := decide (N[i]? = some x) && ((match sc.names.lookup x with
  | some .local => true
  | some .cell => true
  | some .free => true
  | _ => false) && ((!(x == ("__debug__" : Str))) && (!(x == ("__classdict__" : Str)))))
theorem Nm.by {N : List Str} {sc : Scope} {i : Nat} {x : Str} (h : nmB N sc i x = true) : Nm N sc i x := by
  unfold nmB at h
  simp only [Bool.and_eq_true, decide_eq_true_eq, Bool.not_eq_true'] at h
  obtain ⟨h1, h2, h3, h4⟩ := h
  refine ⟨h1, ?_, h3, h4⟩
  unfold Vis
  split at h2
  · exact .inl ‹_›
  · exact .inr (.inl ‹_›)
  · exact .inr (.inr ‹_›)
  · cases h2
/-- a name that the block binds -/
structure Nl (N : List Str) (sc : Scope) (i : Nat) (x : Str) : Prop where
  at_ : N[i]? = some x
  loc : sc.names.lookup x = some .local
def nlB (N : List Str) (sc : Scope) (i : Nat) (x : Str) : Bool := decide (N[i]? = some x) && (match sc.names.lookup x with
  | some .local => true
  | _ => false)
theorem Nl.by {N : List Str} {sc : Scope} {i : Nat} {x : Str} (h : nlB N sc i x = true) : Nl N sc i x := by
  unfold nlB at h
  simp only [Bool.and_eq_true, decide_eq_true_eq] at h
  obtain ⟨h1, h2⟩ := h
  refine ⟨h1, ?_⟩
  split at h2
  · assumption
  · cases h2
structure Nc (N : List Str) (sc : Scope) (i : Nat) (x : Str) : Prop where
  at_ : N[i]? = some x
  loc : sc.names.lookup x = some .cell
def ncB (N : List Str) (sc : Scope) (i : Nat) (x : Str) : Bool := decide (N[i]? = some x) && (match sc.names.lookup x with
  | some .cell => true
  | _ => false)
theorem Nc.by {N : List Str} {sc : Scope} {i : Nat} {x : Str} (h : ncB N sc i x = true) : Nc N sc i x := by
  unfold ncB at h
  simp only [Bool.and_eq_true, decide_eq_true_eq] at h
  obtain ⟨h1, h2⟩ := h
  refine ⟨h1, ?_⟩
  split at h2
  · assumption
  · cases h2
/-- a name of the module or a built-in -/
structure Ng (sc : Scope) (x : Str) : Prop where
  gl : sc.names.lookup x = some .globalImplicit
  d : (x == ("__debug__" : Str)) = false
  n : x ≠ "__name__"
def ngB (sc : Scope) (x : Str) : Bool := (match sc.names.lookup x with
  | some .globalImplicit => true
  | _ => false) && ((!(x == ("__debug__" : Str))) && decide (x ≠ "__name__"))
theorem Ng.by {sc : Scope} {x : Str} (h : ngB sc x = true) : Ng sc x := by
  unfold ngB at h
  simp only [Bool.and_eq_true, decide_eq_true_eq, Bool.not_eq_true'] at h
  obtain ⟨h1, h2, h3⟩ := h
  refine ⟨?_, h2, h3⟩
  split at h1
  · assumption
  · cases h1
section
variable {P : Program} {w : World} {K : PySem.W.Frag} {mg : Str → Option Value} {base : Heap} {N : List Str} {sc : Scope} {k : Nat} {X : Cx} {C : CT} {W : WX}
theorem Cxt.gl (c : Cxt P w K mg base N sc k X) {x : Str} (n : Ng sc x) : Gl X x := by
  show X.env.scope.names.lookup x = _
  rw [c.sc]; exact n.gl
theorem Cxt.at_ (c : Cxt P w K mg base N sc k X) {x : Str} {i : Nat} (h : N[i]? = some x) : X.N[i]? = some x := by rw [c.N]; exact h
theorem Cxt.vis (c : Cxt P w K mg base N sc k X) {x : Str} (h : Vis sc x) : Vis X.env.scope x := by rw [c.sc]; exact h
theorem x_var (c : Cxt P w K mg base N sc k X) {x : Str} {i : Nat} {pos : Pos} (n : Nm N sc i x) : JE X C W (.Name x pos) (mVar i) := j_var (c.at_ n.at_) (c.vis n.vis) n.d n.c
theorem x_pk (c : Cxt P w K mg base N sc k X) {x : Str} {i : Nat} {pos : Pos} (n : Nm N sc i x) : JO X C W (.Name x pos) (mPk i) (lPk i) := j_pk (c.at_ n.at_) (c.vis n.vis) n.d n.c
theorem x_tgL (c : Cxt P w K mg base N sc k X) (nd : N.Nodup) {x : Str} {i : Nat} {pos : Pos} (n : Nl N sc i x) : JG X (.Name x pos) (mgName i) [i] :=
  jg_name (by rw [c.N]; exact nd) (c.at_ n.at_) (by rw [c.sc]; exact .inl n.loc) (.inr (by rw [c.sc]; exact n.loc))
theorem x_tgC (c : Cxt P w K mg base N sc k X) (nd : N.Nodup) (fn : ∀ x, X.fn x = true) {x : Str} {i : Nat} {pos : Pos} (n : Nc N sc i x) : JG X (.Name x pos) (mgName i) [i] :=
  jg_name (by rw [c.N]; exact nd) (c.at_ n.at_) (by rw [c.sc]; exact .inr n.loc) (.inl (fn x))
theorem x_setL (c : Cxt P w K mg base N sc k X) (nd : N.Nodup) {x : Str} {i : Nat} {e : Expr} {m : ME} {pos' pos : Pos} (n : Nl N sc i x) (h : JE X C W e m) (hs : swapsWithSole [.Name x pos'] e pos.line X.env = pure false) (hw : swappedStores [.Name x pos'] e X.env = pure none) :
    JS X C W (.Assign [.Name x pos'] e pos) (mSet i m) := js_set (by rw [c.N]; exact nd) (c.at_ n.at_) (by rw [c.sc]; exact .inl n.loc) (.inr (by rw [c.sc]; exact n.loc)) h hs hw
theorem x_setC (c : Cxt P w K mg base N sc k X) (nd : N.Nodup) (fn : ∀ x, X.fn x = true) {x : Str} {i : Nat} {e : Expr} {m : ME} {pos' pos : Pos} (n : Nc N sc i x) (h : JE X C W e m) (hs : swapsWithSole [.Name x pos'] e pos.line X.env = pure false) (hw : swappedStores [.Name x pos'] e X.env = pure none) :
    JS X C W (.Assign [.Name x pos'] e pos) (mSet i m) := js_set (by rw [c.N]; exact nd) (c.at_ n.at_) (by rw [c.sc]; exact .inr n.loc) (.inl (fn x)) h hs hw
theorem x_ownL (c : Cxt P w K mg base N sc k X) (nd : N.Nodup) {x : Str} {i : Nat} {e : Expr} {m : ME} {pos' pos : Pos} (n : Nl N sc i x) (h : JF X C W e m) (hs : swapsWithSole [.Name x pos'] e pos.line X.env = pure false) (hw : swappedStores [.Name x pos'] e X.env = pure none) :
    JS X C W (.Assign [.Name x pos'] e pos) (mOwn i m) := js_own (by rw [c.N]; exact nd) (c.at_ n.at_) (by rw [c.sc]; exact .inl n.loc) (.inr (by rw [c.sc]; exact n.loc)) h hs hw
theorem x_ownC (c : Cxt P w K mg base N sc k X) (nd : N.Nodup) (fn : ∀ x, X.fn x = true) {x : Str} {i : Nat} {e : Expr} {m : ME} {pos' pos : Pos} (n : Nc N sc i x) (h : JF X C W e m) (hs : swapsWithSole [.Name x pos'] e pos.line X.env = pure false) (hw : swappedStores [.Name x pos'] e X.env = pure none) :
    JS X C W (.Assign [.Name x pos'] e pos) (mOwn i m) := js_own (by rw [c.N]; exact nd) (c.at_ n.at_) (by rw [c.sc]; exact .inr n.loc) (.inl (fn x)) h hs hw
/-- a constant of the module -/
theorem x_glob (c : Cxt P w K mg base N sc k X) {x : Str} {d : D} {v : V} {u : Value} {pos : Pos} (n : Ng sc x) (hm : mg x = some u) (r : RelV v u) (h : ∀ H O, RelD K H O d v) : JE X C W (.Name x pos) (mC d) := by
  refine ⟨_, pe_glob (c.gl n) (by rw [c.mg]; exact hm) r n.d, fun F env σ H Q kk s z => z v H s .refl ?_⟩
  rw [kk.1, c.K]
  exact h _ _
theorem Cxt.blk (c : Cxt P w K mg base N sc k X) (s : Shared) (H : Hp) (scope : Scope) (A : Addr) (cl : List (Str × Addr)) (fp : List Addr) : Cxt P w K mg base N (relS scope sc) k (X.blk s H scope (compEnvC scope cl A X.env) fp) :=
  ⟨c.prog, c.w, c.K, c.mg, c.base, c.N, by show relS scope X.env.scope = _; rw [c.sc], c.calm, c.room⟩
/-- a def of the module, with its promise -/
structure Df (P : Program) (w : World) (K : PySem.W.Frag) (mg : Str → Option Value) (base : Heap) (C : CT) (x : Str) (n k : Nat) (f : UF) : Prop where
  ex : ∃ (fa : Addr) (fd : FuncData) (ps : List Str), mg x = some (.ref fa) ∧ PySem.W.keepIn K (.ref fa) = true ∧ Binds K fd ps [] ∧ FnOk P w K mg base (L2.CX P w) k fa fd ps (spU K C n f)
theorem Df.mono {x : Str} {n j : Nat} {f : UF} (h : Df P w K mg base C x n j f) (e : j ≤ k) : Df P w K mg base C x n k f := by
  obtain ⟨fa, fd, ps, a, b, c, d⟩ := h.ex
  exact ⟨fa, fd, ps, a, b, c, d.mono e⟩
theorem x_user (c : Cxt P w K mg base N sc k X) {x : Str} {n j : Nat} {f : UF} {e : Expr} {es : List Expr} {ma : MA} {p pos : Pos} (tk : Takes X W) (d : Df P w K mg base C x n j f) (hj : j ≤ k) (g : Ng sc x) (ha : JV X C W (e :: es) ma) (hn : ∀ ds e env, ma env = .ok ds e → ds.length = n)
    (he : starEach (e :: es) X.env = (false, eval e X.env) :: starEach es X.env) (hpl : (backTo pos (starEach es X.env)).any (·.1) = false) : JE X C W (.Call (.Name x p) (e :: es) [] pos) (mUser f ma) := by
  obtain ⟨fa, fd, ps, h1, h2, h3, h4⟩ := d.ex
  have gl := c.gl g
  obtain ⟨rfl, rfl, rfl, rfl, rfl, rfl, rfl, _, r⟩ := c
  exact j_user tk h4 (r.mono hj) gl h1 h2 h3 ha hn g.d he hpl
theorem x_user0 (c : Cxt P w K mg base N sc k X) {x : Str} {j : Nat} {f : UF} {p pos : Pos} (tk : Takes X W) (d : Df P w K mg base C x 0 j f) (hj : j ≤ k) (g : Ng sc x) : JE X C W (.Call (.Name x p) [] [] pos) (mUser0 f) := by
  obtain ⟨fa, fd, ps, h1, h2, h3, h4⟩ := d.ex
  have gl := c.gl g
  obtain ⟨rfl, rfl, rfl, rfl, rfl, rfl, rfl, _, r⟩ := c
  exact j_user0 tk h4 (r.mono hj) gl h1 h2 h3 g.d
/-- f(x, e, ..): the first argument is lent -/
def mUserB (f : UF) (i : Nat) (ma : MA) : ME := fun e => match slotD e[i]? with
  | some _ => (match ma e with
    | .ok ds e1 => (match (e1[i]? : Option Sl) with
      | some (Sl.ow d) => (match f (.bo d :: ds.map Sl.va) with
        | .ok r (some d') => .ok r (e1.set i (.ow d'))
        | .ex c (some d') => .ex c (e1.set i (.ow d'))
        | _ => .bad)
      | some (Sl.bo d) => (match f (.bo d :: ds.map Sl.va) with
        | .ok r (some d') => .ok r (e1.set i (.bo d'))
        | .ex c (some d') => .ex c (e1.set i (.bo d'))
        | _ => .bad)
      | _ => .bad)
    | .ex c e1 => .ex c e1
    | .bad => .bad)
  | none => .bad
theorem lent_end {F : Fx} {env1 : Ev} {σ : St} {H1 H2 : Hp} {i : Nat} {d' : D} {z' : Sl} {a : Addr} (s1 : SR F env1 σ H1) (hz : (∃ d, env1[i]? = some (Sl.ow d) ∧ z' = Sl.ow d') ∨ (∃ d, env1[i]? = some (Sl.bo d) ∧ z' = Sl.bo d')) (ha : σ[i]? = some (some (V.ref a)))
    (en : EndF F.K F.T H1 (Ow F env1 σ) (some a) (some d') H2) : SR F (env1.set i z') σ H2 ∧ (∀ b, Ow F (env1.set i z') σ b ↔ Ow F env1 σ b) ∧ Ext (Ow F env1 σ) H1 (Ow F (env1.set i z') σ) H2 := by
  obtain ⟨g, dom, cc, tb⟩ := en
  have c2 := cc a d' rfl rfl
  obtain ⟨d0, c0⟩ : ∃ d0, CRel F.K H1 (Ow F env1 σ) d0 a := by
    rcases hz with ⟨d, h1, _⟩ | ⟨d, h1, _⟩
    · obtain ⟨b', e1, _, _, e2⟩ := s1.ow i d h1
      rw [ha] at e1; cases e1
      exact ⟨d, e2⟩
    · obtain ⟨b', e1, _, e2⟩ := s1.bo i d h1
      rw [ha] at e1; cases e1
      exact ⟨d, e2⟩
  have nT : ∀ p ∈ F.T, p.1 ≠ a := fun p hp e => by
    obtain ⟨ps, h1, _⟩ := s1.tb p hp
    rw [e] at h1
    exact crel_tbl c0 h1
  have gm : GrowT F.T H1 (fun c => if c = a then H1 a else H2 c) := by
    refine ⟨fun c o h q t => ?_, fun p hp => ?_, tabs_put (H := H2) tb c2 fun b hb _ => by rw [if_neg hb]⟩
    · by_cases hc : c = a
      · rw [if_pos hc, ← hc]; exact h
      · rw [if_neg hc]
        exact g c o h (fun z => hc (Option.some.inj z).symm) q t
    · rw [if_neg (nT p hp)]
      exact dom _ (s1.own_t hp)
  obtain ⟨sm, xm⟩ := s1.growT gm
  have st : ∀ c, c ≠ a → (fun c => if c = a then H1 a else H2 c) c ≠ none → H2 c = (fun c => if c = a then H1 a else H2 c) c := fun c hc _ => by
    dsimp only
    rw [if_neg hc]
  obtain ⟨s2, oeq⟩ := sm.put hz ha st c2
  refine ⟨s2, oeq, fun b o h n t => ?_, fun b h => .inl ((oeq b).mp h)⟩
  refine g b o h (fun z => n ?_) (fun p hp e => n (e ▸ s1.own_t hp)) t
  cases z
  rcases hz with ⟨d, h1, _⟩ | ⟨d, h1, _⟩
  · exact .inr ⟨i, d, h1, ha⟩
  · obtain ⟨b', e1, e2, _⟩ := s1.bo i d h1
    rw [ha] at e1; cases e1
    exact .inl (s1.bo0 _ e2)
theorem x_lend (c : Cxt P w K mg base N sc k X) {x y : Str} {i n j : Nat} {f : UF} {es : List Expr} {ma : MA} {py p pos : Pos} (tk : Takes X W) (d : Df P w K mg base C x (n + 1) j f) (hj : j ≤ k) (g : Ng sc x) (nm : Nm N sc i y) (ha : JV X C W es ma) (hn : ∀ ds e env, ma env = .ok ds e → ds.length = n)
    (he : starEach (.Name y py :: es) X.env = (false, eval (.Name y py) X.env) :: starEach es X.env) (hpl : (backTo pos (starEach es X.env)).any (·.1) = false) : JE X C W (.Call (.Name x p) (.Name y py :: es) [] pos) (mUserB f i ma) := by
  obtain ⟨fa, fd, ps, h1, h2, h3, h4⟩ := d.ex
  have gl := c.gl g
  have hv : PE X (.Name y py) (tVar i) := pe_var (c.at_ nm.at_) (c.vis nm.vis) nm.d nm.c
  obtain ⟨rfl, rfl, rfl, rfl, rfl, rfl, rfl, _, r⟩ := c
  obtain ⟨t, pa, q⟩ := ha.run
  refine ⟨_, pe_callS h4 (r.mono hj) gl h1 h2 h3 (fun σ => passAt tk σ) (pa_cons hv pa he) g.d he hpl, fun F env σ H Q kk s z => ?_⟩
  unfold mUserB at z
  cases e0 : slotD env[i]? with
  | none => rw [e0] at z; exact z.elim
  | some d0 =>
    rw [e0] at z
    dsimp only at z
    obtain ⟨v, hv, _⟩ := s.slot e0
    refine ⟨v, hv, q F env σ H _ kk s ?_⟩
    cases e1 : ma env with
    | bad => rw [e1] at z; exact z
    | ex c env1 => rw [e1] at z; exact z
    | ok ds env1 =>
      rw [e1] at z
      dsimp only at z
      refine fun vs H1 s1 x1 rl => ?_
      have hl : vs.length = n := by rw [← relL_len rl]; exact hn ds env1 env e1
      split at z
      · rename_i dd e2
        obtain ⟨a, w1, w2, w3, w4⟩ := s1.ow i dd e2
        rw [hv] at w1
        cases w1
        refine ⟨Ow F env1 σ, some a, .bo dd :: ds.map Sl.va, by simp only [List.length_cons, hl], fun a h => (by rw [← kk.2]; exact s1.dm h), fun p hp => s1.own_t (by rw [kk.2]; exact hp), by rw [← kk.2]; exact s1.tb, ?_, ?_⟩
        · simp only [ArgsR]
          rw [← kk.1]
          exact ⟨a, vs, rfl, rfl, .inr ⟨i, dd, e2, hv⟩, w4, ⟨ds, rfl⟩, argR_map rl⟩
        · split at z
          · rename_i rr d' e3
            rw [e3]
            refine fun v2 H2 en rel => ?_
            rw [← kk.1, ← kk.2] at en
            rw [← kk.1] at rel
            obtain ⟨s2, oeq, x2⟩ := lent_end (z' := Sl.ow d') s1 (.inl ⟨dd, e2, rfl⟩) hv en
            exact z v2 H2 s2 (x1.trans x2) (rel.ext (Ext.sub fun b h => (oeq b).mp h))
          · rename_i cc d' e3
            rw [e3]
            refine fun H2 en => ?_
            rw [← kk.1, ← kk.2] at en
            obtain ⟨s2, oeq, x2⟩ := lent_end (z' := Sl.ow d') s1 (.inl ⟨dd, e2, rfl⟩) hv en
            exact z H2 s2 (x1.trans x2)
          · exact z.elim
      · rename_i dd e2
        obtain ⟨a, w1, w2, w4⟩ := s1.bo i dd e2
        rw [hv] at w1
        cases w1
        refine ⟨Ow F env1 σ, some a, .bo dd :: ds.map Sl.va, by simp only [List.length_cons, hl], fun a h => (by rw [← kk.2]; exact s1.dm h), fun p hp => s1.own_t (by rw [kk.2]; exact hp), by rw [← kk.2]; exact s1.tb, ?_, ?_⟩
        · simp only [ArgsR]
          rw [← kk.1]
          exact ⟨a, vs, rfl, rfl, .inl (s1.bo0 a w2), w4, ⟨ds, rfl⟩, argR_map rl⟩
        · split at z
          · rename_i rr d' e3
            rw [e3]
            refine fun v2 H2 en rel => ?_
            rw [← kk.1, ← kk.2] at en
            rw [← kk.1] at rel
            obtain ⟨s2, oeq, x2⟩ := lent_end (z' := Sl.bo d') s1 (.inr ⟨dd, e2, rfl⟩) hv en
            exact z v2 H2 s2 (x1.trans x2) (rel.ext (Ext.sub fun b h => (oeq b).mp h))
          · rename_i cc d' e3
            rw [e3]
            refine fun H2 en => ?_
            rw [← kk.1, ← kk.2] at en
            obtain ⟨s2, oeq, x2⟩ := lent_end (z' := Sl.bo d') s1 (.inr ⟨dd, e2, rfl⟩) hv en
            exact z H2 s2 (x1.trans x2)
          · exact z.elim
      · exact z.elim
end
end MP

set_option Elab.async false
set_option linter.all false
set_option maxRecDepth 100000
set_option maxHeartbeats 4000000
namespace MP
open PySem PySem.Spec L2
open PyProof.Rows hiding St

/-! ### changing what is owned -/
def atC (e : Ev) (i : Nat) : Option D := match (e[i]? : Option Sl) with
  | some (Sl.ow d) => some d
  | some (Sl.bo d) => some d
  | _ => none
def kput (e : Ev) (i : Nat) (d : D) : Ev := match (e[i]? : Option Sl) with
  | some (Sl.ow _) => e.set i (Sl.ow d)
  | some (Sl.bo _) => e.set i (Sl.bo d)
  | _ => e
theorem SR.atC {F : Fx} {env : Ev} {σ : St} {H : Hp} (s : SR F env σ H) {i : Nat} {d : D} (h : atC env i = some d) : ∃ a, σ[i]? = some (some (V.ref a)) ∧ CRel F.K H (Ow F env σ) d a ∧ Ow F env σ a := by
  unfold MP.atC at h
  split at h
  · rename_i d' e
    cases h
    obtain ⟨a, e1, _, _, c⟩ := s.ow i _ e
    exact ⟨a, e1, c, .inr ⟨i, _, e, e1⟩⟩
  · rename_i d' e
    cases h
    obtain ⟨a, e1, e2, c⟩ := s.bo i _ e
    exact ⟨a, e1, c, .inl (s.bo0 a e2)⟩
  · cases h
theorem SR.kput {F : Fx} {env : Ev} {σ : St} {H H' : Hp} (s : SR F env σ H) {i : Nat} {a : Addr} {d d' : D} (h : MP.atC env i = some d) (ha : σ[i]? = some (some (V.ref a))) (st : ∀ c, c ≠ a → H c ≠ none → H' c = H c) (c : CRel F.K H' (Ow F env σ) d' a) :
    SR F (kput env i d') σ H' ∧ Ext (Ow F env σ) H (Ow F (MP.kput env i d') σ) H' := by
  have own : Ow F env σ a := by
    obtain ⟨b, e1, _, o⟩ := s.atC h
    rw [ha] at e1; cases e1; exact o
  have ext : ∀ e' : Ev, (∀ b, Ow F e' σ b ↔ Ow F env σ b) → Ext (Ow F env σ) H (Ow F e' σ) H' := fun e' oeq => by
    refine ⟨fun b o e n => ?_, fun b q => .inl ((oeq b).mp q)⟩
    have : b ≠ a := fun z => n (z ▸ own)
    rw [st b this (by rw [e]; intro z; cases z)]
    exact fun _ => e
  unfold MP.atC at h
  unfold MP.kput
  split at h
  · rename_i d0 e
    obtain ⟨s2, oeq⟩ := s.put (z' := Sl.ow d') (.inl ⟨_, e, rfl⟩) ha st c
    exact ⟨s2, ext _ oeq⟩
  · rename_i d0 e
    obtain ⟨s2, oeq⟩ := s.put (z' := Sl.bo d') (.inr ⟨_, e, rfl⟩) ha st c
    exact ⟨s2, ext _ oeq⟩
  · cases h
theorem upd_else {H : Hp} {a : Addr} {o : HO} : ∀ c, c ≠ a → H c ≠ none → upd H a o c = H c := fun c n _ => upd_ne n
/-- to write at an owned place -/
theorem SR.wr {F : Fx} {env : Ev} {σ : St} {H : Hp} (s : SR F env σ H) {i : Nat} {a : Addr} {d : D} (h : MP.atC env i = some d) (ha : σ[i]? = some (some (V.ref a))) {o : HO} : Ext (Ow F env σ) H (Ow F env σ) (upd H a o) := by
  have own : Ow F env σ a := by
    obtain ⟨b, e1, _, o⟩ := s.atC h
    rw [ha] at e1; cases e1; exact o
  refine ⟨fun b o' e n => ?_, fun b q => .inl q⟩
  have : b ≠ a := fun z => n (z ▸ own)
  rw [upd_ne this]; exact fun _ => e
theorem relL_appE {K : PySem.W.Frag} {H : Hp} {O : Addr → Prop} : ∀ {xs ys : List D} {vs us : List V}, RelL K H O xs vs → RelL K H O ys us → RelL K H O (xs ++ ys) (vs ++ us)
  | [], ys, vs, us, h, h2 => by
    simp only [RelL] at h
    subst h
    simpa using h2
  | x :: xs, ys, vs, us, h, h2 => by
    simp only [RelL] at h
    obtain ⟨v, r, rfl, h1, h3⟩ := h
    simp only [List.cons_append, RelL]
    exact ⟨v, _, rfl, h1, relL_appE h3 h2⟩
theorem relL_setE {K : PySem.W.Frag} {H : Hp} {O : Addr → Prop} {d : D} {v : V} (r : RelD K H O d v) : ∀ {xs : List D} {vs : List V} (j : Nat), RelL K H O xs vs → RelL K H O (xs.set j d) (vs.set j v)
  | [], vs, j, h => by
    simp only [RelL] at h
    subst h
    simp [RelL]
  | x :: xs, vs, 0, h => by
    simp only [RelL] at h
    obtain ⟨u, w, rfl, h1, h3⟩ := h
    simp only [List.set_cons_zero, RelL]
    exact ⟨v, _, rfl, r, h3⟩
  | x :: xs, vs, j + 1, h => by
    simp only [RelL] at h
    obtain ⟨u, w, rfl, h1, h3⟩ := h
    simp only [List.set_cons_succ, RelL]
    exact ⟨u, _, rfl, h1, relL_setE r j h3⟩
section
variable {X : Cx} {C : CT} {W : WX}
/-- xs.append(e) -/
def mApp (i : Nat) (m : ME) : MS := fun e => match atC e i with
  | some (.lst _) => (match m e with
    | .ok d e1 => (match atC e1 i with
      | some (.lst xs) => (match Nat.blt xs.length line with
        | true => .nx (kput e1 i (.lst (xs ++ [d])))
        | false => .bad)
      | _ => .bad)
    | .ex c e1 => .ex c e1
    | .bad => .bad)
  | _ => .bad
theorem js_app {i : Nat} {x : Str} {e : Expr} {m : ME} {px apos cpos pos : Pos} (hN : X.N[i]? = some x) (hv : Vis X.env.scope x) (hd : (x == ("__debug__" : Str)) = false) (hcd : (x == ("__classdict__" : Str)) = false) (h : JE X C W e m)
    (hfew : ((backTo cpos (starEach [e] X.env)).all (fun x => !x.1) && (backToKw cpos (keywordEach [] X.env)).all (fun x => x.1.isSome) && decide (([e] : List Expr).length + ([] : List Keyword).length + (if ([] : List Keyword).isEmpty then 0 else 1) < 30)) = true)
    (hline : (apos.endLine == cpos.line) = true) (hs : starEach [e] X.env = (false, eval e X.env) :: starEach [] X.env) :
    JS X C W (.Expr (.Call (.Attribute (.Name x px) "append" apos) [e] [] cpos) pos) (mApp i m) := by
  obtain ⟨t, p, q⟩ := h.run
  refine ⟨_, ps_expr (pe_bm PySem.F.plainAttrs_list PySem.F.slot_list_append PySem.F.type_list_append mt_append (pe_var hN hv hd hcd) (pa_cons p pa_nil hs) rfl hfew hline hs rfl) rfl, fun F env σ H D k s z => ?_⟩
  unfold mApp at z
  split at z
  · rename_i xs0 e0
    obtain ⟨a, ha, c0, o0⟩ := s.atC e0
    simp only [CRel] at c0
    obtain ⟨vs0, h0, _⟩ := c0
    refine ⟨.ref a, ha, .inl ⟨rfl, _, .inl (.inl h0)⟩, ?_⟩
    refine q F env σ H _ k s ?_
    cases e1 : m env with
    | bad => rw [e1] at z; exact z.elim
    | ex c env1 => rw [e1] at z; exact PostS.ex z
    | ok d env1 =>
      rw [e1] at z
      dsimp only at z
      refine fun v H1 s1 x1 r => ?_
      split at z
      · rename_i xs e2
        split at z
        · rename_i hl
          obtain ⟨a', ha', c1, o1⟩ := s1.atC e2
          rw [ha] at ha'
          cases ha'
          simp only [CRel] at c1
          obtain ⟨vs, h1, r1⟩ := c1
          refine ⟨a, vs, v, rfl, rfl, h1, ?_, ?_⟩
          · rw [← relL_len r1]; exact line_lt hl
          · have w := s1.wr e2 ha (o := .lst (vs ++ [v]))
            obtain ⟨s2, x2⟩ := s1.kput (H' := upd H1 a (.lst (vs ++ [v]))) (d' := .lst (xs ++ [d])) e2 ha upd_else (by
              simp only [CRel]
              exact ⟨_, upd_same, relL_appE (RelL.ext w _ _ r1) (by simp only [RelL]; exact ⟨v, [], rfl, r.ext w, rfl⟩)⟩)
            exact z σ _ s2 (x1.trans x2)
        · exact z.elim
      · exact z.elim
  · exact z.elim
/-- xs[i] = e -/
def mSub (i : Nat) (mi mv : ME) : MS := fun e => match mv e with
  | .ok d e1 => (match atC e1 i with
    | some (.lst _) => (match mi e1 with
      | .ok (.int k) e2 => (match atC e2 i with
        | some (.lst xs) => (match ixN xs.length k with
          | some j => .nx (kput e2 i (.lst (xs.set j d)))
          | none => .bad)
        | _ => .bad)
      | .ok _ _ => .bad
      | .ex c e2 => .ex c e2
      | .bad => .bad)
    | _ => .bad)
  | .ex c e1 => .ex c e1
  | .bad => .bad
theorem js_sub {i : Nat} {x : Str} {ix e : Expr} {mi mv : ME} {px sp pos : Pos} (hN : X.N[i]? = some x) (hv : Vis X.env.scope x) (hd : (x == ("__debug__" : Str)) = false) (hcd : (x == ("__classdict__" : Str)) = false) (hi : JE X C W ix mi) (h : JE X C W e mv)
    (ha : ∀ v, assign (.Subscript (.Name x px) ix sp) X.env v = (do
      let ov ← holding [v] (eval (.Name x px) X.env)
      let iv ← holding [v, ov] (eval ix X.env)
      standAt sp
      holding [v, ov, iv] (setItem ov iv v)
      release [v, ov, iv] [])) (hs : swapsWithSole [.Subscript (.Name x px) ix sp] e pos.line X.env = pure false) :
    JS X C W (.Assign [.Subscript (.Name x px) ix sp] e pos) (mSub i mi mv) := by
  obtain ⟨t, p, q⟩ := h.run
  obtain ⟨t2, p2, q2⟩ := hi.run
  refine ⟨_, ps_asg p (pg_sub (pe_var hN hv hd hcd) p2 set_list ha) hs rfl, fun F env σ H D k s z => ?_⟩
  unfold mSub at z
  refine q F env σ H _ k s ?_
  cases e1 : mv env with
  | bad => rw [e1] at z; exact z.elim
  | ex c env1 => rw [e1] at z; exact PostS.ex z
  | ok d env1 =>
    rw [e1] at z
    dsimp only at z
    refine fun v H1 s1 x1 r => ?_
    split at z
    · rename_i xs0 e0
      obtain ⟨a, ha, _, _⟩ := s1.atC e0
      refine ⟨.ref a, ha, q2 F env1 σ H1 _ k s1 ?_⟩
      cases e2 : mi env1 with
      | bad => rw [e2] at z; exact z.elim
      | ex c env2 => rw [e2] at z; exact fun H' s' x' => z σ H' s' (x1.trans x')
      | ok d2 env2 =>
        rw [e2] at z
        refine fun u H2 s2 x2 r2 => ?_
        cases d2 <;> dsimp only at z <;> try exact z.elim
        rename_i kk
        simp only [RelD] at r2
        subst r2
        split at z
        · rename_i xs e3
          split at z
          · rename_i j e4
            obtain ⟨a', ha', c1, o1⟩ := s2.atC e3
            rw [ha] at ha'
            cases ha'
            simp only [CRel] at c1
            obtain ⟨vs, h1, r1⟩ := c1
            refine ⟨a, vs, kk, j, rfl, rfl, h1, by rw [← relL_len r1]; exact e4, ?_⟩
            have w := s2.wr e3 ha (o := .lst (vs.set j v))
            obtain ⟨s3, x3⟩ := s2.kput (H' := upd H2 a (.lst (vs.set j v))) (d' := .lst (xs.set j d)) e3 ha upd_else (by
              simp only [CRel]
              exact ⟨_, upd_same, relL_setE ((r.ext x2).ext w) j (RelL.ext w _ _ r1)⟩)
            exact z σ _ s3 ((x1.trans x2).trans x3)
          · exact z.elim
        · exact z.elim
    · exact z.elim
/-! ### raise -/
def mRaise (c : Nat) : MS := fun e => .ex c e
theorem js_raise {B newId initId : String} {bmB : List Value} {Cl : Addr} {c : Nat} {x m : Str} {j : Nat} {p p2 p3 pos : Pos} (hc : X.calm = true) (tk : Takes X W) (Fb : ExcBaseFacts B newId initId bmB) (q : PySem.W.excIn X.K Cl bmB newId = true) (gC : X.mg x = some (.ref Cl)) (kC : PySem.W.keepIn X.K (.ref Cl) = true)
    (h1 : PySem.W.subIn X.K (.ref Cl) (.type "BaseException") = some true) (h2 : PySem.W.typeIn X.K (.ref Cl) = some (.type "type")) (hg : Gl X x) (hdb : (x == ("__debug__" : Str)) = false) (hC : C c = .ref Cl) (hlt : c < 1000) :
    JS X C W (.Raise (some (.Call (.Name x p) [.Constant (.str m) j p2] [] p3)) none pos) (mRaise c) := by
  refine ⟨_, ps_raise hc tk (pmk_own Fb q gC kC (raises_own h1 h2) hg hdb), fun F env σ H D k s z => ?_⟩
  unfold mRaise at z
  rw [← hC]
  exact z σ H s .refl none ⟨fun _ => rfl, fun h => absurd hlt (Nat.not_lt.mpr h)⟩
/-- a statement that no run of the law reaches -/
def mNever : MS := fun _ => .bad
theorem js_never {st : Stmt} : JS X C W st mNever := ⟨fun _ _ _ => False, ⟨fun pins s σ H D I h => h.elim⟩, fun F env σ H D k s z => z.elim⟩
theorem je_never {e : Expr} : JE X C W e (fun _ => .bad) := ⟨fun _ _ _ => False, ⟨fun pins s σ H Q I h => h.elim⟩, fun F env σ H D k s z => z.elim⟩
end
end MP

set_option Elab.async false
set_option linter.all false
set_option maxRecDepth 100000
set_option maxHeartbeats 4000000
namespace MP
open PySem PySem.Spec L2
open PyProof.Rows hiding St

/-! ### dicts of int and text keys -/
theorem kyK_inj {a b : Ky} (h : kyK a = kyK b) : a = b := by
  cases a <;> cases b <;> simp only [kyK] at h <;> cases h <;> rfl
theorem kyK_dec (a b : Ky) : decide (kyK a = kyK b) = decide (a = b) := by
  by_cases h : a = b
  · subst h; simp
  · rw [decide_eq_false h, decide_eq_false fun e => h (kyK_inj e)]
def dget : List Ky → List D → Ky → Option D
  | k :: ks, x :: xs, q => (match decide (k = q) with
    | true => some x
    | false => dget ks xs q)
  | _, _, _ => none
def repl {α : Type} : List Ky → List α → Ky → α → List α
  | k :: ks, x :: xs, q, d => (match decide (k = q) with
    | true => d
    | false => x) :: repl ks xs q d
  | _, _, _, _ => []
def hasK (ks : List Ky) (q : Ky) : Bool := ks.any fun k => decide (k = q)
def kyD : D → Option Ky
  | .int i => some (.inl i)
  | .str cs => some (.inr cs)
  | _ => none
theorem kyD_v {K : PySem.W.Frag} {H : Hp} {O : Addr → Prop} {d : D} {v : V} {q : Ky} (r : RelD K H O d v) (e : kyD d = some q) : v = kV (kyK q) := by
  cases d <;> simp only [kyD] at e <;> try (cases e; done)
  · cases e; simp only [RelD] at r; exact r
  · cases e; simp only [RelD] at r; exact r
theorem dget_rel {K : PySem.W.Frag} {H : Hp} {O : Addr → Prop} {q : Ky} : ∀ {ks : List Ky} {xs : List D} {vs : List V}, RelL K H O xs vs → ks.length = vs.length →
    (∀ d, dget ks xs q = some d → ∃ v, valV ((ks.map kyK).zip vs) (kyK q) = some v ∧ RelD K H O d v) ∧ (dget ks xs q = none → valV ((ks.map kyK).zip vs) (kyK q) = none)
  | [], xs, vs, r, l => by
    refine ⟨fun d h => ?_, fun _ => rfl⟩
    simp only [dget] at h
    cases h
  | k :: ks, [], vs, r, l => by
    simp only [RelL] at r
    subst r
    simp at l
  | k :: ks, x :: xs, vs, r, l => by
    simp only [RelL] at r
    obtain ⟨v, u, rfl, r1, r2⟩ := r
    have ih := dget_rel (q := q) r2 (by simpa using l)
    simp only [dget, List.map_cons, List.zip_cons_cons]
    by_cases e : k = q
    · subst e
      simp only [decide_true]
      exact ⟨fun d h => ⟨v, valV_pos rfl, by cases h; exact r1⟩, fun h => by cases h⟩
    · rw [decide_eq_false e]
      rw [valV_neg (by exact fun z => e (kyK_inj z))]
      exact ih
theorem zip_any {q : Ky} : ∀ {ks : List Ky} {vs : List V}, ks.length = vs.length → (((ks.map kyK).zip vs).any fun kv => decide (kv.1 = kyK q)) = hasK ks q
  | [], vs, l => rfl
  | k :: ks, [], l => by simp at l
  | k :: ks, v :: vs, l => by
    have ih := zip_any (q := q) (ks := ks) (vs := vs) (by simpa using l)
    unfold hasK at ih ⊢
    simp only [List.map_cons, List.zip_cons_cons, List.any_cons, ih, kyK_dec]
theorem zip_map {q : Ky} {v0 : V} : ∀ {ks : List Ky} {vs : List V}, ks.length = vs.length → ((ks.map kyK).zip vs).map (fun kv => if kv.1 = kyK q then (kv.1, v0) else kv) = (ks.map kyK).zip (repl ks vs q v0)
  | [], vs, l => rfl
  | k :: ks, [], l => by simp at l
  | k :: ks, v :: vs, l => by
    have ih := zip_map (q := q) (v0 := v0) (ks := ks) (vs := vs) (by simpa using l)
    simp only [List.map_cons, List.zip_cons_cons, repl, ih]
    by_cases e : k = q
    · subst e; simp
    · rw [decide_eq_false e, if_neg fun z => e (kyK_inj z)]
theorem repl_len {α : Type} {q : Ky} {d : α} : ∀ {ks : List Ky} {xs : List α}, ks.length = xs.length → (repl ks xs q d).length = xs.length
  | [], [], l => rfl
  | [], _ :: _, l => by simp at l
  | _ :: _, [], l => by simp at l
  | k :: ks, x :: xs, l => by simp only [repl, List.length_cons]; rw [repl_len (by simpa using l)]
theorem repl_rel {K : PySem.W.Frag} {H : Hp} {O : Addr → Prop} {q : Ky} {d : D} {v : V} (rd : RelD K H O d v) : ∀ {ks : List Ky} {xs : List D} {vs : List V}, RelL K H O xs vs → RelL K H O (repl ks xs q d) (repl ks vs q v)
  | [], xs, vs, r => by simp only [repl, RelL]
  | k :: ks, [], vs, r => by
    simp only [RelL] at r
    subst r
    simp only [repl, RelL]
  | k :: ks, x :: xs, vs, r => by
    simp only [RelL] at r
    obtain ⟨w, u, rfl, r1, r2⟩ := r
    simp only [repl, RelL]
    refine ⟨_, _, rfl, ?_, repl_rel rd r2⟩
    cases decide (k = q) with
    | true => exact rd
    | false => exact r1
def dput (ks : List Ky) (xs : List D) (q : Ky) (d : D) : D := match hasK ks q with
  | true => .dct ks (repl ks xs q d)
  | false => .dct (ks ++ [q]) (xs ++ [d])
theorem dput_rel {K : PySem.W.Frag} {H : Hp} {O : Addr → Prop} {a : Addr} {ks : List Ky} {xs : List D} {vs : List V} {q : Ky} {d : D} {v : V} (r : RelL K (upd H a (.dK (putK ((ks.map kyK).zip vs) (kyK q) v))) O xs vs) (l : ks.length = vs.length) (rd : RelD K (upd H a (.dK (putK ((ks.map kyK).zip vs) (kyK q) v))) O d v) :
    CRel K (upd H a (.dK (putK ((ks.map kyK).zip vs) (kyK q) v))) O (dput ks xs q d) a := by
  have e0 := zip_any (q := q) l
  unfold dput
  cases h : hasK ks q with
  | true =>
    simp only [CRel]
    refine ⟨repl ks vs q v, ?_, by rw [repl_len l]; exact l, repl_rel rd r⟩
    rw [upd_same]
    unfold putK
    rw [e0, h, if_pos rfl, zip_map l]
  | false =>
    simp only [CRel]
    refine ⟨vs ++ [v], ?_, by simp [l], relL_appE r (by simp only [RelL]; exact ⟨v, [], rfl, rd, rfl⟩)⟩
    rw [upd_same]
    unfold putK
    rw [e0, h, if_neg (by simp), List.map_append, List.zip_append (by simpa using l)]
    rfl
/-- the keys of a dict of int keys -/
def intKs : List Ky → Option (List Int)
  | [] => some []
  | .inl i :: r => (match intKs r with
    | some ns => some (i :: ns)
    | none => none)
  | .inr _ :: _ => none
theorem intKs_ok : ∀ {ks : List Ky} {ns : List Int}, intKs ks = some ns → ks.map kyK = ns.map Sum.inl
  | [], ns, h => by simp only [intKs] at h; cases h; rfl
  | .inl i :: r, ns, h => by
    simp only [intKs] at h
    split at h
    · rename_i ms e
      cases h
      simp only [List.map_cons, kyK, intKs_ok e]
    · cases h
  | .inr _ :: _, ns, h => by simp [intKs] at h
section
variable {X : Cx} {C : CT} {W : WX}
/-- what a slot's dict is -/
def dctAt (e : Ev) (i : Nat) : Option (List Ky × List D) := match slotD (e[i]? : Option Sl) with
  | some (.dct ks xs) => some (ks, xs)
  | _ => none
theorem SR.dct {F : Fx} {env : Ev} {σ : St} {H : Hp} (s : SR F env σ H) {i : Nat} {ks : List Ky} {xs : List D} (h : dctAt env i = some (ks, xs)) :
    ∃ a vs, σ[i]? = some (some (V.ref a)) ∧ H a = some (.dK ((ks.map kyK).zip vs)) ∧ ks.length = vs.length ∧ RelL F.K H (Ow F env σ) xs vs := by
  unfold dctAt at h
  split at h
  · rename_i k1 x1 e
    cases h
    obtain ⟨v, e1, p⟩ := s.slot e
    rcases p with p | ⟨a, rfl, p⟩
    · simp only [RelD] at p
    · simp only [CRel] at p
      obtain ⟨vs, h1, h2, h3⟩ := p
      exact ⟨a, vs, e1, h1, h2, h3⟩
  · cases h
/-- d[k] -/
def mDGet (i : Nat) (mk : ME) : ME := fun e => match dctAt e i with
  | some _ => (match mk e with
    | .ok kd e1 => (match kyD kd with
      | some q => (match dctAt e1 i with
        | some (ks, xs) => (match dget ks xs q with
          | some d => .ok d e1
          | none => .bad)
        | none => .bad)
      | none => .bad)
    | .ex c e1 => .ex c e1
    | .bad => .bad)
  | none => .bad
theorem j_dget {i : Nat} {x : Str} {ix : Expr} {mk : ME} {px pos : Pos} (hu : X.A.units + 1 < cLine) (hN : X.N[i]? = some x) (hv : Vis X.env.scope x) (hd : (x == ("__debug__" : Str)) = false) (hcd : (x == ("__classdict__" : Str)) = false) (hk : JE X C W ix mk) (hs : NoSl ix) :
    JE X C W (.Subscript (.Name x px) ix pos) (mDGet i mk) := by
  obtain ⟨t, p, q⟩ := hk.run
  refine ⟨_, pe_dget hu (pe_var hN hv hd hcd) p hs, fun F env σ H Q k s z => ?_⟩
  unfold mDGet at z
  cases e0 : dctAt env i with
  | none => rw [e0] at z; exact z.elim
  | some kx =>
    obtain ⟨ks0, xs0⟩ := kx
    rw [e0] at z
    dsimp only at z
    obtain ⟨a, vs0, ha, _, _, _⟩ := s.dct e0
    refine ⟨.ref a, ha, q F env σ H _ k s ?_⟩
    cases e1 : mk env with
    | bad => rw [e1] at z; exact z
    | ex c env1 => rw [e1] at z; exact z
    | ok kd env1 =>
      rw [e1] at z
      refine fun v H1 s1 x1 r1 => ?_
      dsimp only at z
      cases e2 : kyD kd with
      | none => rw [e2] at z; exact z.elim
      | some qk =>
        rw [e2] at z
        dsimp only at z
        cases e3 : dctAt env1 i with
        | none => rw [e3] at z; exact z.elim
        | some kx =>
          obtain ⟨ks, xs⟩ := kx
          rw [e3] at z
          dsimp only at z
          cases e4 : dget ks xs qk with
          | none => rw [e4] at z; exact z.elim
          | some d =>
            rw [e4] at z
            obtain ⟨a', vs, ha', h1, l1, rl⟩ := s1.dct e3
            rw [ha] at ha'
            cases ha'
            obtain ⟨w, w1, w2⟩ := (dget_rel (q := qk) rl l1).1 d e4
            refine ⟨a, w, rfl, ?_, z w H1 s1 x1 w2⟩
            rw [kyD_v r1 e2, ← w1]
            exact DGet.k h1
/-- d.get(k, x) -/
def mDGet2 (i : Nat) (mk mx : ME) : ME := fun e => match dctAt e i with
  | some _ => (match mk e with
    | .ok kd e1 => (match mx e1 with
      | .ok dx e2 => (match kyD kd with
        | some q => (match dctAt e2 i with
          | some (ks, xs) => (match dget ks xs q with
            | some d => .ok d e2
            | none => .ok dx e2)
          | none => .bad)
        | none => .bad)
      | .ex c e2 => .ex c e2
      | .bad => .bad)
    | .ex c e1 => .ex c e1
    | .bad => .bad)
  | none => .bad
theorem j_dget2 {i : Nat} {x : Str} {ek ex : Expr} {mk mx : ME} {px apos cpos : Pos} (hu : X.A.units + 1 < cLine) (hN : X.N[i]? = some x) (hv : Vis X.env.scope x) (hd : (x == ("__debug__" : Str)) = false) (hcd : (x == ("__classdict__" : Str)) = false) (hk : JE X C W ek mk) (hx : JE X C W ex mx) (m : M2 X (.Name x px) "get" apos ek ex cpos) :
    JE X C W (.Call (.Attribute (.Name x px) "get" apos) [ek, ex] [] cpos) (mDGet2 i mk mx) := by
  obtain ⟨t, p, q⟩ := hk.run
  obtain ⟨t2, p2, q2⟩ := hx.run
  refine ⟨_, pe_dget2 hu (pe_var hN hv hd hcd) p p2 m, fun F env σ H Q k s z => ?_⟩
  unfold mDGet2 at z
  cases e0 : dctAt env i with
  | none => rw [e0] at z; exact z.elim
  | some kx =>
    obtain ⟨ks0, xs0⟩ := kx
    rw [e0] at z
    dsimp only at z
    obtain ⟨a, vs0, ha, h0, _, _⟩ := s.dct e0
    refine ⟨.ref a, ha, a, rfl, .inl ⟨_, .inl h0⟩, q F env σ H _ k s ?_⟩
    cases e1 : mk env with
    | bad => rw [e1] at z; exact z
    | ex c env1 => rw [e1] at z; exact z
    | ok kd env1 =>
      rw [e1] at z
      refine fun v H1 s1 x1 r1 => q2 F env1 σ H1 _ k s1 ?_
      dsimp only at z
      cases e2 : mx env1 with
      | bad => rw [e2] at z; exact z
      | ex c env2 => rw [e2] at z; exact fun H' s' x' => z H' s' (x1.trans x')
      | ok dx env2 =>
        rw [e2] at z
        refine fun u H2 s2 x2 r2 => ?_
        dsimp only at z
        cases e3 : kyD kd with
        | none => rw [e3] at z; exact z.elim
        | some qk =>
          rw [e3] at z
          dsimp only at z
          cases e4 : dctAt env2 i with
          | none => rw [e4] at z; exact z.elim
          | some kx =>
            obtain ⟨ks, xs⟩ := kx
            rw [e4] at z
            dsimp only at z
            obtain ⟨a', vs, ha', h1, l1, rl⟩ := s2.dct e4
            rw [ha] at ha'
            cases ha'
            rw [kyD_v r1 e3]
            refine ⟨_, DGet.k h1, ?_⟩
            cases e5 : dget ks xs qk with
            | none =>
              rw [e5] at z
              rw [(dget_rel (q := qk) rl l1).2 e5]
              exact z u H2 s2 (x1.trans x2) r2
            | some d =>
              rw [e5] at z
              obtain ⟨w, w1, w2⟩ := (dget_rel (q := qk) rl l1).1 d e5
              rw [w1]
              exact z w H2 s2 (x1.trans x2) w2
def dctC (e : Ev) (i : Nat) : Option (List Ky × List D) := match atC e i with
  | some (.dct ks xs) => some (ks, xs)
  | _ => none
theorem dctC_at {e : Ev} {i : Nat} {ks : List Ky} {xs : List D} (h : dctC e i = some (ks, xs)) : atC e i = some (.dct ks xs) := by
  unfold dctC at h
  split at h
  · rename_i e1
    cases h
    exact e1
  · cases h
/-- d[k] = e -/
def mDPut (i : Nat) (mk mv : ME) : MS := fun e => match mv e with
  | .ok d e1 => (match dctC e1 i with
    | some _ => (match mk e1 with
      | .ok kd e2 => (match kyD kd with
        | some q => (match dctC e2 i with
          | some (ks, xs) => (match Nat.blt ks.length line with
            | true => .nx (kput e2 i (dput ks xs q d))
            | false => .bad)
          | none => .bad)
        | none => .bad)
      | .ex c e2 => .ex c e2
      | .bad => .bad)
    | none => .bad)
  | .ex c e1 => .ex c e1
  | .bad => .bad
theorem js_dput {i : Nat} {x : Str} {ix e : Expr} {mk mv : ME} {px sp pos : Pos} (hu : X.A.units + 1 < cLine) (hN : X.N[i]? = some x) (hv : Vis X.env.scope x) (hd : (x == ("__debug__" : Str)) = false) (hcd : (x == ("__classdict__" : Str)) = false) (hk : JE X C W ix mk) (h : JE X C W e mv)
    (hs : swapsWith e (some (.Subscript (.Name x px) ix sp)) pos.line X.env = pure false) : JS X C W (.Assign [.Subscript (.Name x px) ix sp] e pos) (mDPut i mk mv) := by
  obtain ⟨t, p, q⟩ := h.run
  obtain ⟨t2, p2, q2⟩ := hk.run
  refine ⟨_, ps_dput hu (pe_var hN hv hd hcd) p2 p hs, fun F env σ H D k s z => q F env σ H _ k s ?_⟩
  unfold mDPut at z
  cases e1 : mv env with
  | bad => rw [e1] at z; exact z
  | ex c env1 => rw [e1] at z; exact PostS.ex z
  | ok d env1 =>
    rw [e1] at z
    refine fun v H1 s1 x1 r1 => ?_
    dsimp only at z
    cases e2 : dctC env1 i with
    | none => rw [e2] at z; exact z.elim
    | some kx =>
      obtain ⟨ks0, xs0⟩ := kx
      rw [e2] at z
      dsimp only at z
      obtain ⟨a, ha, _, _⟩ := s1.atC (dctC_at e2)
      refine ⟨.ref a, ha, q2 F env1 σ H1 _ k s1 ?_⟩
      cases e3 : mk env1 with
      | bad => rw [e3] at z; exact z
      | ex c env2 => rw [e3] at z; exact fun H' s' x' => z σ H' s' (x1.trans x')
      | ok kd env2 =>
        rw [e3] at z
        refine fun u H2 s2 x2 r2 => ?_
        dsimp only at z
        cases e4 : kyD kd with
        | none => rw [e4] at z; exact z.elim
        | some qk =>
          rw [e4] at z
          dsimp only at z
          cases e5 : dctC env2 i with
          | none => rw [e5] at z; exact z.elim
          | some kx =>
            obtain ⟨ks, xs⟩ := kx
            rw [e5] at z
            dsimp only at z
            split at z
            · rename_i hl
              obtain ⟨a', ha', c1, _⟩ := s2.atC (dctC_at e5)
              rw [ha] at ha'
              cases ha'
              simp only [CRel] at c1
              obtain ⟨vs, h1, l1, rl⟩ := c1
              have w := s2.wr (dctC_at e5) ha (o := .dK (putK ((ks.map kyK).zip vs) (kyK qk) v))
              obtain ⟨s3, x3⟩ := s2.kput (H' := upd H2 a (.dK (putK ((ks.map kyK).zip vs) (kyK qk) v))) (d' := dput ks xs qk d) (dctC_at e5) ha upd_else (dput_rel (RelL.ext w _ _ rl) l1 ((r1.ext x2).ext w))
              refine ⟨a, _, rfl, ?_, z σ _ s3 ((x1.trans x2).trans x3)⟩
              rw [kyD_v r2 e4]
              refine DPut.k h1 ?_
              rw [List.length_zip, List.length_map, ← l1, Nat.min_self]
              exact line_lt hl
            · exact z.elim
/-- sorted(d) -/
def rSortD : List V → Hp → VK → Prop := fun xs H Q => ∃ (a : Addr) (kvs : List (Key × V)) (ks : List Int), xs = [.ref a] ∧ Rd H a (.dK kvs) ∧ kvs.map (·.1) = ks.map Sum.inl ∧ ks.length < 64 ∧
    ∀ (ys : List Int) (p : Addr), ys.Perm ks → ys.Pairwise (· ≤ ·) → H p = none → Q (.ref p) (upd H p (.lst (ys.map V.int)))
def bSortedD : List D → Option D
  | [.dct ks xs] => (match intKs ks with
    | some ns => (match Nat.blt ns.length 64 with
      | true => some (.lst ((sortI ns).map D.int))
      | false => none)
    | none => none)
  | _ => none
theorem zip_fst {α β : Type} : ∀ {ks : List α} {vs : List β}, ks.length = vs.length → (ks.zip vs).map (·.1) = ks
  | [], vs, l => rfl
  | k :: ks, [], l => by simp at l
  | k :: ks, v :: vs, l => by simp only [List.zip_cons_cons, List.map_cons]; rw [zip_fst (by simpa using l)]
theorem s_sortedD {K : PySem.W.Frag} : CaS K rSortD bSortedD := by
  intro H O xs vs Q d dom pp e q
  match xs, e with
  | [x], e =>
    obtain ⟨v, rfl, px⟩ := pRelL_one pp
    cases x <;> simp only [bSortedD] at e <;> try (cases e; done)
    rename_i ks us
    split at e
    · rename_i ns he
      split at e <;> cases e
      rename_i hl
      rcases px with p | ⟨a, rfl, p⟩
      · simp only [RelD] at p
      · simp only [CRel] at p
        obtain ⟨ws, h1, l1, _⟩ := p
        have i1 := intKs_ok he
        refine ⟨a, _, ns, rfl, .inl h1, ?_, Nat.le_of_ble_eq_true hl, fun ns' p pm pw np => ?_⟩
        · rw [zip_fst (by simpa using l1)]; exact i1
        rw [sorted_one (pm.trans (sortI_perm _).symm) pw (sortI_sorted _)]
        exact q _ _ (same_upd np) (rel_newL np dom (r_ints _))
    · cases e
  | [], e => simp [bSortedD] at e
  | _ :: _ :: _, e => simp [bSortedD] at e
end
end MP

set_option Elab.async false
set_option linter.all false
set_option maxRecDepth 100000
set_option maxHeartbeats 4000000
namespace MP
open PySem PySem.Spec L2
open PyProof.Rows hiding St

section
variable {X : Cx} {C : CT} {W : WX}
/-! ### xs = [e for ..] on one line -/
theorem lc_parts {elt tg iter : Expr} {ifs : List Expr} {scope : Scope} {own : List (Str × Nat)} {pos spos py : Pos} {y : Str} {i : Nat} {js : List Nat} {mi : MA} {mg : MT} {mt me : ME} (hc : X.calm = true) (hN : X.N.Nodup) (hi : JI X C W tg iter mi) (ok : BlkOk X.N X.env.scope scope own)
    (hg : ∀ (s : Shared) (H : Hp) (A : Addr) (cl : List (Str × Addr)) (fp : List Addr), JG (X.blk s H scope (compEnvC scope cl A X.env) fp) tg mg js)
    (ht : ∀ (s : Shared) (H : Hp) (A : Addr) (cl : List (Str × Addr)) (fp : List Addr), JTs (X.blk s H scope (compEnvC scope cl A X.env) fp) C W0 ifs mt)
    (he : ∀ (s : Shared) (H : Hp) (A : Addr) (cl : List (Str × Addr)) (fp : List Addr), JE (X.blk s H scope (compEnvC scope cl A X.env) fp) C W0 elt me)
    (hj : ∀ j ∈ js, j ∈ own.map (·.2)) (hs : ∀ x, foldedSetIterable iter X.env x = pure x) (hy : X.N[i]? = some y) (hyl : X.env.scope.names.lookup y = some .local)
    (hsw : swapsWith (.ListComp elt [⟨tg, iter, ifs, 0⟩] scope pos) (some (.Name y py)) spos.line X.env = pure true) :
    ∃ te, PS X (.Assign [.Name y py] (.ListComp elt [⟨tg, iter, ifs, 0⟩] scope pos) spos) (tAsg te (gName i)) ∧ ∀ F env σ H Q, FX F X.K C → SR F env σ H → PostF F C W env σ H Q (mLc mi (own.map (·.2)) mg mt me env) → te σ H Q := by
  obtain ⟨wi, pi, qi⟩ := hi.run
  have pg := fun s H A cl fp => (hg s H A cl fp).canon
  have pt := fun s H A cl fp => (ht s H A cl fp).canon
  have pe := fun s H A cl fp => (he s H A cl fp).canon
  have qg : ∀ F env σ H d v env' Q, F.K = X.K → SR F env σ H → RelD F.K H (Ow F env σ) d v → mg d env = some env' → (∀ σ', SR F env' σ' H → (∀ b, Ow F env' σ' b → Ow F env σ b) → (∀ vs : List Nat, (∀ j ∈ js, j ∈ vs) → wipe σ' vs = wipe σ vs) → Q σ' H) → cG X.K mg js v σ H Q :=
    fun F env σ H d v env' Q k sr rel e z => ⟨F, env, d, env', k, sr, rel, e, z⟩
  have qt : ∀ F env σ H Q, FX F X.K C → SR F env σ H → PostT F C W0 env σ H Q (mt env) → cTs X.K C W0 mt σ H Q := fun F env σ H Q k sr z => ⟨F, env, k, sr, z⟩
  have qe : ∀ F env σ H Q, FX F X.K C → SR F env σ H → PostE F C W0 env σ H Q (me env) → cE X.K C W0 me σ H Q := fun F env σ H Q k sr z => ⟨F, env, k, sr, z⟩
  refine ⟨_, ps_setLc hc hN hy hyl hsw pi ok pg pt pe hs, fun F env σ H Q k s z => lc_run k qi qg qt qe hj s ?_⟩
  revert z
  cases e1 : mLc mi (own.map (·.2)) mg mt me env with
  | bad => exact fun z => z
  | ex c env1 => exact fun z => z
  | ok d env1 =>
    intro z
    have hd : ∃ ys, d = .lst ys := by
      unfold mLc at e1
      split at e1 <;> try (cases e1; done)
      split at e1 <;> try (cases e1; done)
      split at e1 <;> cases e1
      exact ⟨_, rfl⟩
    obtain ⟨ys, rfl⟩ := hd
    refine ⟨ys, rfl, fun p H1 H' ws s1 x1 n g hp r => z p H1 H' s1 x1 n g ?_⟩
    simp only [CRel]
    exact ⟨ws, hp, r⟩
theorem as_of {F : Fx} {env : Ev} {σ : St} {H : Hp} {Q : VK} {m : ME} (z : PostE F C W env σ H Q (mAsV m env)) : PostF F C W env σ H Q (m env) := by
  unfold mAsV at z
  cases e1 : m env with
  | ok d env1 =>
    rw [e1] at z
    cases d with
    | lst xs =>
      refine fun p H1 H' s1 x1 n g c => z _ H' (s1.growT g).1 (x1.trans (s1.growT g).2) ?_
      simp only [CRel] at c
      obtain ⟨vs, c1, c2⟩ := c
      simp only [RelD]
      exact ⟨p, vs, rfl, c1, s1.new n, RelL.ext (Ext.sub fun b h => .inl h) _ _ c2⟩
    | _ => exact z.elim
  | ex c env1 => rw [e1] at z; exact z
  | bad => rw [e1] at z; exact z
/-- a value -/
theorem js_setLc {elt tg iter : Expr} {ifs : List Expr} {scope : Scope} {own : List (Str × Nat)} {pos spos py : Pos} {y : Str} {i : Nat} {js : List Nat} {mi : MA} {mg : MT} {mt me : ME} (hc : X.calm = true) (hN : X.N.Nodup) (hi : JI X C W tg iter mi) (ok : BlkOk X.N X.env.scope scope own)
    (hg : ∀ (s : Shared) (H : Hp) (A : Addr) (cl : List (Str × Addr)) (fp : List Addr), JG (X.blk s H scope (compEnvC scope cl A X.env) fp) tg mg js)
    (ht : ∀ (s : Shared) (H : Hp) (A : Addr) (cl : List (Str × Addr)) (fp : List Addr), JTs (X.blk s H scope (compEnvC scope cl A X.env) fp) C W0 ifs mt)
    (he : ∀ (s : Shared) (H : Hp) (A : Addr) (cl : List (Str × Addr)) (fp : List Addr), JE (X.blk s H scope (compEnvC scope cl A X.env) fp) C W0 elt me)
    (hj : ∀ j ∈ js, j ∈ own.map (·.2)) (hs : ∀ x, foldedSetIterable iter X.env x = pure x) (hy : X.N[i]? = some y) (hyl : X.env.scope.names.lookup y = some .local)
    (hsw : swapsWith (.ListComp elt [⟨tg, iter, ifs, 0⟩] scope pos) (some (.Name y py)) spos.line X.env = pure true) :
    JS X C W (.Assign [.Name y py] (.ListComp elt [⟨tg, iter, ifs, 0⟩] scope pos) spos) (mSet i (mAsV (mLc mi (own.map (·.2)) mg mt me))) := by
  obtain ⟨te, p, q⟩ := lc_parts (spos := spos) hc hN hi ok hg ht he hj hs hy hyl hsw
  exact ⟨_, p, fun F env σ H D k s z => set_run k (fun F env σ H Q k s z => q F env σ H Q k s (as_of z)) s z⟩
/-- owned -/
theorem js_ownLc {elt tg iter : Expr} {ifs : List Expr} {scope : Scope} {own : List (Str × Nat)} {pos spos py : Pos} {y : Str} {i : Nat} {js : List Nat} {mi : MA} {mg : MT} {mt me : ME} (hc : X.calm = true) (hN : X.N.Nodup) (hi : JI X C W tg iter mi) (ok : BlkOk X.N X.env.scope scope own)
    (hg : ∀ (s : Shared) (H : Hp) (A : Addr) (cl : List (Str × Addr)) (fp : List Addr), JG (X.blk s H scope (compEnvC scope cl A X.env) fp) tg mg js)
    (ht : ∀ (s : Shared) (H : Hp) (A : Addr) (cl : List (Str × Addr)) (fp : List Addr), JTs (X.blk s H scope (compEnvC scope cl A X.env) fp) C W0 ifs mt)
    (he : ∀ (s : Shared) (H : Hp) (A : Addr) (cl : List (Str × Addr)) (fp : List Addr), JE (X.blk s H scope (compEnvC scope cl A X.env) fp) C W0 elt me)
    (hj : ∀ j ∈ js, j ∈ own.map (·.2)) (hs : ∀ x, foldedSetIterable iter X.env x = pure x) (hy : X.N[i]? = some y) (hyl : X.env.scope.names.lookup y = some .local)
    (hsw : swapsWith (.ListComp elt [⟨tg, iter, ifs, 0⟩] scope pos) (some (.Name y py)) spos.line X.env = pure true) :
    JS X C W (.Assign [.Name y py] (.ListComp elt [⟨tg, iter, ifs, 0⟩] scope pos) spos) (mOwn i (mLc mi (own.map (·.2)) mg mt me)) := by
  obtain ⟨te, p, q⟩ := lc_parts (spos := spos) hc hN hi ok hg ht he hj hs hy hyl hsw
  exact ⟨_, p, fun F env σ H D k s z => own_run k q s z⟩
end
/-! ### try .. except C as e: xs.append(isinstance(e, D)) -/
section
variable {F : Fx} {env : Ev} {σ : St} {H : Hp}
def freeS : Option Sl → Bool
  | some .no => true
  | some (.va _) => true
  | _ => false
theorem ow_no {i : Nat} {x : Option V} (b : Addr) (h : Ow F (env.set i .no) (σ.set i x) b) : Ow F env σ b := by
  rcases h with h | ⟨j, d', h1, h2⟩
  · exact .inl h
  · rcases get_set h1 with ⟨_, z, _⟩ | ⟨e, h1⟩
    · cases z
    · rw [List.getElem?_set_ne e] at h2
      exact .inr ⟨j, d', h1, h2⟩
theorem SR.no (s : SR F env σ H) {i : Nat} {x : Option V} : SR F (env.set i .no) (σ.set i x) H := by
  have x' : Ext (Ow F env σ) H (Ow F (env.set i .no) (σ.set i x)) H := Ext.sub fun b h => ow_no b h
  refine ⟨s.fr, s.od, s.bo0, by rw [List.length_set, List.length_set]; exact s.len, fun j d' q => ?_, fun j d' q => ?_, fun j d' q => ?_, fun j d' q => ?_, fun j k b d1 d2 q1 q2 q3 q4 => ?_, fun j k b d1 d2 q1 q2 q3 q4 => ?_, s.tO, s.tb, fun j f H1 Om q => ?_⟩
  · rcases get_set q with ⟨_, z, _⟩ | ⟨e, q⟩
    · cases z
    · obtain ⟨w, w1, w2⟩ := s.va j d' q
      exact ⟨w, by rw [List.getElem?_set_ne e]; exact w1, w2.ext x'⟩
  · rcases get_set q with ⟨_, z, _⟩ | ⟨e, q⟩
    · cases z
    · obtain ⟨w, w1, w2, w3, w4⟩ := s.ow j d' q
      exact ⟨w, by rw [List.getElem?_set_ne e]; exact w1, w2, w3, w4.ext x' rfl⟩
  · rcases get_set q with ⟨_, z, _⟩ | ⟨e, q⟩
    · cases z
    · obtain ⟨w, w1, w2, w4⟩ := s.bo j d' q
      exact ⟨w, by rw [List.getElem?_set_ne e]; exact w1, w2, w4.ext x' rfl⟩
  · rcases get_set q with ⟨_, z, _⟩ | ⟨e, q⟩
    · cases z
    · obtain ⟨w, w1, w2, w3, w4⟩ := s.ro j d' q
      exact ⟨w, by rw [List.getElem?_set_ne e]; exact w1, w2, w3, w4.ext x' rfl⟩
  · rcases get_set q1 with ⟨_, z, _⟩ | ⟨e1, q1⟩
    · cases z
    · rcases get_set q2 with ⟨_, z, _⟩ | ⟨e2, q2⟩
      · cases z
      · rw [List.getElem?_set_ne e1] at q3
        rw [List.getElem?_set_ne e2] at q4
        exact s.dj j k b d1 d2 q1 q2 q3 q4
  · rcases get_set q1 with ⟨_, z, _⟩ | ⟨e1, q1⟩
    · cases z
    · rcases get_set q2 with ⟨_, z, _⟩ | ⟨e2, q2⟩
      · cases z
      · rw [List.getElem?_set_ne e1] at q3
        rw [List.getElem?_set_ne e2] at q4
        exact s.djb j k b d1 d2 q1 q2 q3 q4
  · rcases get_set q with ⟨_, z, _⟩ | ⟨e, q⟩
    · cases z
    · rw [List.getElem?_set_ne e]; exact s.fx j f H1 Om q
end
/-- what is known of the classes: an error of class c is caught, and is of the class asked for or not -/
structure Caught (K : PySem.W.Frag) (C : CT) (cv jv : Value) (ex : Nat → Option Bool) : Prop where
  ok : ∀ c r, ex c = some r → c < 1000 ∧ PySem.W.exmOne K (C c) cv = some true ∧ ∃ D0, C c = .ref D0 ∧ ExcC K D0 ∧ PySem.W.kitOne K (.ref D0) jv = some r
def mTryApp (mb : MS) (ex : Nat → Option Bool) (i j : Nat) : MS := fun e => match mb e with
  | .ex c e1 => (match ex c with
    | some r => (match atC (e1.set i .no) j with
      | some (.lst xs) => (match Nat.blt i e1.length && Nat.blt xs.length line with
        | true => .nx ((kput (e1.set i .no) j (.lst (xs ++ [.bl r]))).set i .no)
        | false => .bad)
      | _ => .bad)
    | none => .bad)
  | r => r
def tSuite (K : PySem.W.Frag) (Ja : Addr) (i j : Nat) (a : Addr) (cls : Value) (d : Option Addr) : TS := fun D σ H => ∃ D0, cls = .ref D0 ∧ d = none ∧ ExcC K D0 ∧ tDrop (tBM K "list" rAppend (tVar j) (tCons (tCB (rIsE K D0 a) (tCons (tVar i) (tCons (tC (.ref Ja)) tNil))) tNil)) D σ H
section
variable {X : Cx} {C : CT} {W : WX}
theorem js_tryApp {x n y jn : Str} {cv : Value} {Ja : Addr} {i j : Nat} {body : List Stmt} {mb : MS} {ex : Nat → Option Bool} {np pos pos' p1 p2 p3 p4 p5 p6 p7 p8 : Pos} (hs : X.stack = X.env :: X.outer) (hf : X.env.frame = some X.env.locals) (hN : X.N.Nodup) (hi : X.N[i]? = some n) (hj : X.N[j]? = some y)
    (hln : X.env.scope.names.lookup n = some .local) (hvy : Vis X.env.scope y) (hdy : (y == ("__debug__" : Str)) = false) (hcy : (y == ("__classdict__" : Str)) = false) (hdn : (n == ("__debug__" : Str)) = false) (hcn : (n == ("__classdict__" : Str)) = false)
    (hc : Names X x cv) (gJ : Gl X jn) (mJ : X.mg jn = some (.ref Ja)) (dJ : (jn == ("__debug__" : Str)) = false) (gI : Gl X "isinstance") (mI : X.mg "isinstance" = none) (tk : Takes X W)
    (ca : Caught X.K C cv (.ref Ja) ex)
    (hb : ∀ (W : WX) (pn : List (Addr × Obj)) (xe : Value → Shared → Prop), Takes (X.tr pn xe) W → PassesOwn (model X.prog X.w) X.A X.env xe → JB (X.tr pn xe) C W body mb)
    (h1 : ∀ E, attributeBase (.Name y p1) "append" E (eval (.Name y p1) E) = eval (.Name y p1) E)
    (h2 : ∀ E, ((backTo p3 (starEach [.Call (.Name "isinstance" p4) [.Name n p5, .Name jn p6] [] p7] E)).all (fun x => !x.1) && (backToKw p3 (keywordEach [] E)).all (fun x => x.1.isSome) && decide (([.Call (.Name "isinstance" p4) [.Name n p5, .Name jn p6] [] p7] : List Expr).length + ([] : List Keyword).length + (if ([] : List Keyword).isEmpty then 0 else 1) < 30)) = true)
    (h3 : (p2.endLine == p3.line) = true) :
    JS X C W (.Try body [.ExceptHandler (some (.Name x np)) (some n) [.Expr (.Call (.Attribute (.Name y p1) "append" p2) [.Call (.Name "isinstance" p4) [.Name n p5, .Name jn p6] [] p7] [] p3) p8] pos'] [] [] pos) (mTryApp mb ex i j) := by
  have hij : i ≠ j → True := fun _ => trivial
  let tb : WX → TS := fun W' D σ H => ∃ F env, FX F X.K C ∧ SR F env σ H ∧ PostS F C W' env σ H D (mb env)
  have pb : ∀ (W' : WX) (pn : List (Addr × Obj)) (xe : Value → Shared → Prop), Takes (X.tr pn xe) W' → PassesOwn (model X.prog X.w) X.A X.env xe → PSs (X.tr pn xe) body (tb W') := fun W' pn xe t po => by
    obtain ⟨t0, p, q⟩ := (hb W' pn xe t po).run
    refine ⟨fun pins s σ H D I h => ?_⟩
    obtain ⟨F, env, k, sr, z⟩ := h
    exact p.run pins s σ H D I (q F env σ H D k sr z)
  have hsu : ∀ (a : Addr) (oe : Obj) (cls : Value) (d : Option Addr) (pn : List (Addr × Obj)), Zc cls d oe → (∃ vs, oe.data = .fields vs) →
      PSs (X.suite a ((a, oe) :: pn)) [.Expr (.Call (.Attribute (.Name y p1) "append" p2) [.Call (.Name "isinstance" p4) [.Name n p5, .Name jn p6] [] p7] [] p3) p8] (tSuite X.K Ja i j a cls d) := by
    intro a oe cls d pn hz hfl
    refine ⟨fun pins s σ H D I h => ?_⟩
    obtain ⟨D0, rfl, rfl, hE, h⟩ := h
    have pN : PE (X.suite a ((a, oe) :: pn)) (.Name n p5) (tVar i) := pe_var hi (.inl hln) hdn hcn
    have pY : PE (X.suite a ((a, oe) :: pn)) (.Name y p1) (tVar j) := pe_var hj hvy hdy hcy
    have pJ : PE (X.suite a ((a, oe) :: pn)) (.Name jn p6) (tC (.ref Ja)) := pe_glob gJ mJ rfl dJ
    have pI : PE (X.suite a ((a, oe) :: pn)) (.Call (.Name "isinstance" p4) [.Name n p5, .Name jn p6] [] p7) _ := pe_callB (call_isE hE hz hfl) gI mI rfl (pa_cons pN (pa_cons pJ pa_nil rfl) rfl)
    have := pss_one (ps_expr (pos := p8) (pe_bm PySem.F.plainAttrs_list PySem.F.slot_list_append PySem.F.type_list_append mt_append pY (pa_cons pI pa_nil rfl) (h1 _) (h2 _) h3 rfl rfl) rfl)
    exact this.run pins s σ H D I h
  refine ⟨_, ps_try_as hs hf hN hi hln hc tk pb hsu, fun F env σ H D k s z => ?_⟩
  refine ⟨F, env, k, s, ?_⟩
  unfold mTryApp at z
  cases e1 : mb env with
  | nx env1 => rw [e1] at z; exact z
  | rt d env1 => rw [e1] at z; exact z
  | bk env1 => rw [e1] at z; exact z
  | ct env1 => rw [e1] at z; exact z
  | bad => rw [e1] at z; exact z
  | ex c env1 =>
    rw [e1] at z
    dsimp only at z
    cases e2 : ex c with
    | none => rw [e2] at z; exact z.elim
    | some r =>
      rw [e2] at z
      dsimp only at z
      split at z
      · rename_i xs e3
        split at z
        · rename_i hl
          rw [Bool.and_eq_true] at hl
          intro σ1 H1 s1 x1 dd hdd
          obtain ⟨lt, m1, D0, m2, m3, m4⟩ := ca.ok c r e2
          obtain rfl := hdd.1 lt
          refine ⟨true, m1, fun _ a na => ?_, fun h => by cases h⟩
          have s2 := s1.no (i := i) (x := some (.ref a))
          have x2 : Ext (Ow F env1 σ1) H1 (Ow F (env1.set i .no) (σ1.set i (some (.ref a)))) H1 := Ext.sub fun b h => ow_no b h
          obtain ⟨b, hb', c1, _⟩ := s2.atC e3
          simp only [CRel] at c1
          obtain ⟨vs, h1', r1⟩ := c1
          have hii : (σ1.set i (some (.ref a)))[i]? = some (some (.ref a)) := List.getElem?_set_self (by rw [← s1.len]; exact Nat.le_of_ble_eq_true hl.1)
          refine ⟨D0, m2, rfl, m3, .ref b, hb', .inl ⟨rfl, _, .inl (.inl h1')⟩, .ref a, hii, .ref Ja, .ref Ja, r, rfl, fun u ru => by cases ru; rfl, m4, b, vs, .bl r, rfl, rfl, h1', by rw [← relL_len r1]; exact line_lt hl.2, ?_⟩
          have w := s2.wr e3 hb' (o := .lst (vs ++ [.bl r]))
          obtain ⟨s3, x3⟩ := s2.kput (H' := upd H1 b (.lst (vs ++ [.bl r]))) (d' := .lst (xs ++ [.bl r])) e3 hb' upd_else (by
            simp only [CRel]
            exact ⟨_, upd_same, relL_appE (RelL.ext w _ _ r1) (by simp only [RelL]; exact ⟨.bl r, [], rfl, (by simp only [RelD]), rfl⟩)⟩)
          have s4 := s3.no (i := i) (x := none)
          exact z _ _ s4 (((x1.trans x2).trans x3).trans (Ext.sub fun b h => ow_no b h))
        · exact z.elim
      · exact z.elim
end
end MP

set_option Elab.async false
set_option linter.all false
set_option maxRecDepth 100000
set_option maxHeartbeats 4000000
namespace HT
open PySem PySem.Spec PyProof.Rows L2
section
variable {prog : Program} {w : World} {A : Around} {E : Value → Shared → Prop} {s : Shared}
theorem adjust_rev (n : Nat) : Builtin.Slice.sliceAdjust none none (-1) (n : Int) = ((n : Int) - 1, -1) := by
  unfold Builtin.Slice.sliceAdjust
  have h1 : ((-1 : Int) < 0) := by omega
  simp only [h1, if_true]
theorem places_rev (n : Nat) : Builtin.Slice.slicePlaces ((n : Int) - 1) (-1) (-1) = n := by
  unfold Builtin.Slice.slicePlaces
  have h1 : ¬ ((-1 : Int) > 0) := by omega
  simp only [h1, if_false]
  by_cases h : n = 0
  · subst h; simp
  · have h2 : (-1 : Int) < (n : Int) - 1 := by omega
    simp only [h2, if_true]
    simp
theorem sliceApplied_rev {sl : Addr} {vl vu vs : Value} {n : Nat} {Q : Int × Int × Nat → Shared → Prop} (hs : s.heap.IsSliceOf sl vl vu vs) (pl : IsPart vl none) (pu : IsPart vu none) (ps : IsPart vs (some (-1)))
    (h : Q ((n : Int) - 1, -1, n) s) : wpAny (model prog w) A (Builtin.Slice.sliceApplied (.ref sl) (pure (n : Int))) Q E s := by
  obtain ⟨os, hos, hcs, hds⟩ := id hs
  unfold Builtin.Slice.sliceApplied Builtin.Slice.sliceFields
  refine wpAny_bind (wpAny_bind (wpAny_field hos hds (x := vl) rfl (wpAny_bind (wpAny_field hos hds (x := vu) rfl (wpAny_bind (wpAny_field hos hds (x := vs) rfl (wpAny_pure ?_)))))))
  refine wpAny_bind (slicePart_ ps ?_)
  show wpAny _ _ (if ((-1 : Int) == 0) = true then _ else _) _ _ s
  rw [if_neg (by decide)]
  refine wpAny_bind (slicePart_ pl (wpAny_bind (slicePart_ pu (wpAny_bind (wpAny_pure ?_)))))
  show wpAny _ _ (match Builtin.Slice.sliceAdjust none none (-1) (n : Int) with | (lo, hi) => pure (lo, (-1 : Int), Builtin.Slice.slicePlaces lo hi (-1))) _ _ s
  rw [adjust_rev n]
  show wpAny _ _ (pure ((n : Int) - 1, (-1 : Int), Builtin.Slice.slicePlaces ((n : Int) - 1) (-1) (-1))) _ _ s
  rw [places_rev]
  exact wpAny_pure h
theorem fm_congr {α β : Type} {f g : α → Option β} : ∀ {l : List α}, (∀ m ∈ l, f m = g m) → l.filterMap f = l.filterMap g
  | [], _ => rfl
  | x :: l, h => by
    rw [List.filterMap_cons, List.filterMap_cons, h x List.mem_cons_self, fm_congr fun m hm => h m (List.mem_cons_of_mem _ hm)]
theorem fm_all : ∀ (l : List Value), (List.range l.length).filterMap (fun m => l[m]?) = l
  | [] => rfl
  | a :: r => by
    rw [List.length_cons, List.range_succ_eq_map, List.filterMap_cons]
    simp only [List.getElem?_cons_zero, List.filterMap_map]
    congr 1
    exact fm_all r
theorem pick_rev (xs : Array Value) : ((List.range xs.size).filterMap fun (m : Nat) => xs[((xs.size : Int) - 1 + (m : Int) * -1).toNat]?).toArray = xs.toList.reverse.toArray := by
  have e : (List.range xs.size).filterMap (fun (m : Nat) => xs[((xs.size : Int) - 1 + (m : Int) * -1).toNat]?) = (List.range xs.size).filterMap (fun m => xs.toList.reverse[m]?) := by
    refine fm_congr fun m hm => ?_
    have hm := List.mem_range.mp hm
    rw [List.getElem?_reverse (by simpa using hm)]
    have : ((xs.size : Int) - 1 + (m : Int) * -1).toNat = xs.toList.length - 1 - m := by simp; omega
    rw [this]
    simp
  rw [e]
  have h2 := fm_all xs.toList.reverse
  rw [List.length_reverse, Array.length_toList] at h2
  rw [h2]
theorem getItem_tuple_rev {t sl : Addr} {items : Array Value} {vl vu vs : Value} {Q : Value → Shared → Prop} (ht : IsTup s.heap t items) (hs : s.heap.IsSliceOf sl vl vu vs) (pl : IsPart vl none) (pu : IsPart vu none) (ps : IsPart vs (some (-1)))
    (h : Q (.ref s.heap.objs.size) { s with heap := s.heap.push { cls := .type "tuple", data := .seq items.toList.reverse.toArray } })
    (hsz : items.size ≤ sizeLine) : wpAny (model prog w) A (getItem (.ref t) (.ref sl)) Q E s := by
  have htake : sizeOk (.seq items.toList.reverse.toArray) := by
    show (items.toList.reverse.toArray).size ≤ sizeLine
    rw [List.size_toArray, List.length_reverse, Array.length_toList]
    exact hsz
  obtain ⟨os, hos, hcs, hds⟩ := id hs
  have hTs : s.TypeIs (.ref sl) "slice" := ⟨os, hos, hcs⟩
  unfold getItem
  try with_reducible refine wpAny_holding ?_
  first | refine wpAny_bind (wpAny_pure ?_) | skip
  refine wpAny_bind (wpAny_sequenceKey ht.typeIs (by decide) ?_)
  refine wpAny_bind (wpAny_callSpecial?_slot (name := Str.ofString "__getitem__") ht.typeIs PyProof.Rows.slot_tuple_getitem
    (wpAny_call_entry PyProof.Rows.slot_tuple_getitem ht.typeIs entry_tuple_getitem ?_ (args_tuple_getitem _ _)))
  show wpAny _ _ (Builtin.Tuple.tupleItemsOf (.ref t) >>= _) _ _ s
  refine wpAny_bind (tupleItemsOf_ ht ?_)
  refine wpAny_bind (wpAny_typeOf hTs ?_)
  rw [if_pos (by decide)]
  refine wpAny_bind (sliceApplied_rev hs pl pu ps ?_)
  have hno : ¬ ((((items.size : Int) - 1) == 0 && (-1 : Int) == 1 && items.size == items.size) = true) := by
    intro q
    rw [Bool.and_eq_true, Bool.and_eq_true] at q
    have q1 : ((-1 : Int) == 1) = true := q.1.2
    exact absurd q1 (by decide)
  show wpAny _ _ (if (((items.size : Int) - 1) == 0 && (-1 : Int) == 1 && items.size == items.size) = true then _ else _) _ _ s
  rw [if_neg hno, pick_rev]
  first
    | exact wpAny_bind (m := Builtin.Tuple.tupleExact _) (wpAny_newObj_type (wpAny_pure ⟨_, rfl, wpAny_pure h⟩) htake)
    | exact wpAny_bind (m := Builtin.Tuple.tupleExact _) (wpAny_newObj_type (wpAny_bind (wpAny_pure (wpAny_pure ⟨_, rfl, wpAny_pure h⟩))) htake)
    | exact wpAny_bind (wpAny_bind (m := Builtin.Tuple.tupleExact _) (wpAny_newObj_type (wpAny_pure (wpAny_pure ⟨_, rfl, wpAny_pure h⟩)) htake))
    | exact wpAny_bind (wpAny_bind (m := Builtin.Tuple.tupleExact _) (wpAny_newObj_type (wpAny_pure ⟨_, rfl, wpAny_pure h⟩) htake))
end
end HT
namespace L2
open PySem PySem.Spec PyProof.Rows
variable {X : Cx}
def tRevT (K : PySem.W.Frag) (te : TE) : TE := fun σ H Q => te σ H fun x H1 => ∃ a xs, x = .ref a ∧ SqT K H1 a xs ∧ ∀ p, H1 p = none → Q (.ref p) (upd H1 p (.tup xs.reverse))
theorem pe_revT {e : Expr} {te : TE} {k : Nat} {p1 p2 p3 pos : Pos} (he : PE X e te) : PE X (.Subscript e (.Slice none none (some (.UnaryOp .USub (.Constant (.int 1) k p1) p2)) p3) pos) (tRevT X.K te) := by
  refine ⟨fun pins s σ H Q I h => ?_⟩
  refine Subscript_ (thn (he.run pins s σ H _ I h) fun v s1 ⟨x, H1, I1, r1, q1⟩ => ?_)
  obtain ⟨a, xs, ex, hx, q⟩ := q1
  subst ex
  cases r1
  have hst : PO X (some (.UnaryOp .USub (.Constant (.int 1) k p1) p2)) (tPart (tUn (rU fun i => .int (-i)) (tC (.int 1)))) := po_some (pe_un un_neg pe_int)
  refine wpAny_Slice (thn (po_none.run pins s1 σ H1 (fun o H2 => o = none ∧ H2 = H1) I1 ⟨rfl, rfl⟩) fun vl s2 ⟨l, H2, I2, pl, el, e2⟩ => ?_)
  subst el e2
  refine thn (po_none.run pins s2 σ H2 (fun o H3 => o = none ∧ H3 = H2) I2 ⟨rfl, rfl⟩) fun vu s3 ⟨u, H3, I3, pu, eu, e3⟩ => ?_
  subst eu e3
  refine thn (hst.run pins s3 σ H3 (fun o H4 => o = some (-1) ∧ H4 = H3) I3 ⟨1, rfl, -1, rfl, rfl, rfl⟩) fun vs s4 ⟨o, H4, I4, ps, eo, e4⟩ => ?_
  subst eo e4
  have I5 : Inv X pins σ H4 { s4 with heap := s4.heap.push { cls := .type "slice", data := .fields #[vl, vu, vs] } } := I4.kept (t' := s4.toks) fun b ob q => Heap.get?_push_of_some _ q
  obtain ⟨its, r, ht, hz⟩ := I5.tuple hx
  have hlen := r.length
  show wpAny (model X.prog X.w) X.A (subscriptTail e (.Slice none none (some (.UnaryOp .USub (.Constant (.int 1) k p1) p2)) p3) (.ref a) (.ref s4.heap.objs.size)) (EP X pins σ Q) X.xe { s4 with heap := s4.heap.push { cls := .type "slice", data := .fields #[vl, vu, vs] } }
  refine tail_any (ops := [.ref a, .ref s4.heap.objs.size]) ht.typeIs (PyProof.Rows.slot_tuple_getitem.lookup) ?_ (by with_unfolding_all rfl)
  refine HT.getItem_tuple_rev ht (Heap.IsSliceOf.new _ vl vu vs) pl pu ps ?_ (by rw [List.size_toArray]; omega)
  refine ⟨.ref _, _, I5.laid (t' := s4.toks) (o := .tup xs.reverse) (fun b ob q => Heap.get?_push_of_some _ q) (Nat.le_refl _) ?_, rfl, q _ (I5.hok.fresh (Nat.le_refl _))⟩
  refine ⟨by rw [List.length_reverse]; exact hz, _, r.reverse, IsTup.new _ _⟩
end L2

set_option Elab.async false
set_option linter.all false
set_option maxRecDepth 100000
set_option maxHeartbeats 4000000
namespace MP
open PySem PySem.Spec L2
open PyProof.Rows hiding St

section
variable {X : Cx} {C : CT} {W : WX}
/-! ### [::-1] of a tuple -/
def fRevT : D → Option D
  | .tup xs => some (.tup xs.reverse)
  | _ => none
theorem j_revT {e : Expr} {m : ME} {l : Ev → D → Option D} {k : Nat} {p1 p2 p3 pos : Pos} (he : JO X C W e m l) : JE X C W (.Subscript e (.Slice none none (some (.UnaryOp .USub (.Constant (.int 1) k p1) p2)) p3) pos) (mU fRevT m l) := by
  obtain ⟨t, p, q⟩ := he.run
  refine ⟨_, pe_revT p, fun F env σ H Q k s z => q F env σ H _ k s ?_⟩
  unfold mU at z
  cases e1 : m env with
  | ok x env1 =>
    rw [e1] at z
    refine fun v H1 s1 x1 lt => ?_
    dsimp only at z
    cases e2 : l env1 x with
    | none => rw [e2] at z; exact z.elim
    | some a1 =>
      rw [e2] at z
      dsimp only at z
      cases a1 with
      | tup xs =>
        obtain ⟨_, a, vs, rfl, q1, r1⟩ := p_tup (lt env1 H1 s1 .refl _ e2)
        rw [k.1] at q1
        refine ⟨a, vs, rfl, q1, fun p np => ?_⟩
        exact z _ _ (s1.grow (same_upd np)) (x1.trans (Ext.of (same_upd np))) (rel_newT np (fun a => s1.dom) (relL_rev r1))
      | _ => exact z.elim
  | ex c env1 => rw [e1] at z; exact z
  | bad => rw [e1] at z; exact z
/-! ### list(range(..)) -/
def upsD (a b : Int) : List D := (List.range (b - a).toNat).map fun i => D.int (a + (i : Nat))
def mListR1 (m : ME) : ME := fun e => match m e with
  | .ok (.int n) e1 => (match decide (0 ≤ n) && decide (n ≤ 16777216) with
    | true => .ok (.lst (upsD 0 n)) e1
    | false => .bad)
  | .ok _ _ => .bad
  | .ex c e1 => .ex c e1
  | .bad => .bad
def mListR2 (m1 m2 : ME) : ME := fun e => match m1 e with
  | .ok (.int a) e1 => (match m2 e1 with
    | .ok (.int b) e2 => (match (decide (0 ≤ a) && decide (a ≤ 16777216)) && (decide (0 ≤ b) && decide (b ≤ 16777216)) with
      | true => .ok (.lst (upsD a b)) e2
      | false => .bad)
    | .ok _ _ => .bad
    | .ex c e2 => .ex c e2
    | .bad => .bad)
  | .ok _ _ => .bad
  | .ex c e1 => .ex c e1
  | .bad => .bad
theorem rel_ups {K : PySem.W.Frag} {H : Hp} {O : Addr → Prop} (a : Int) : ∀ (l : List Nat), RelL K H O (l.map fun i => D.int (a + (i : Nat))) (l.map fun i => V.int (a + (i : Nat)))
  | [] => by simp [RelL]
  | x :: l => by
    simp only [List.map_cons, RelL]
    exact ⟨_, _, rfl, by simp only [RelD], rel_ups a l⟩
theorem rg_end {F : Fx} {env env1 : Ev} {σ : St} {H H1 : Hp} {Q : VK} {a b : Int} (s1 : SR F env1 σ H1) (x1 : Ext (Ow F env σ) H (Ow F env1 σ) H1) (z : PostE F C W env σ H Q (.ok (.lst (upsD a b)) env1)) :
    ∀ q, H1 q = none → Q (.ref q) (upd H1 q (.lst (rgV a b))) := fun p np => by
  refine z _ _ (s1.grow (same_upd np)) (x1.trans (Ext.of (same_upd np))) (rel_newL np (fun a => s1.dom) ?_)
  exact rel_ups a _
theorem j_listR1 {e : Expr} {m : ME} {p p2 pos pos2 : Pos} (hc : X.calm = true) (hg : Gl X "list") (hm : X.mg "list" = none) (hg2 : Gl X "range") (hm2 : X.mg "range" = none) (he : JE X C W e m) (na : starEach [e] X.env = (false, eval e X.env) :: starEach [] X.env) :
    JE X C W (.Call (.Name "list" p) [.Call (.Name "range" p2) [e] [] pos2] [] pos) (mListR1 m) := by
  obtain ⟨t, pe, q⟩ := he.run
  refine ⟨_, pe_listRg hc hg hm (prg_1 hg2 hm2 pe na) rfl, fun F env σ H Q k s z => q F env σ H _ k s ?_⟩
  unfold mListR1 at z
  cases e1 : m env with
  | ok x env1 =>
    rw [e1] at z
    refine fun v H1 s1 x1 r => ?_
    cases x <;> dsimp only at z <;> try exact z.elim
    simp only [RelD] at r
    split at z
    · rename_i hb
      simp only [Bool.and_eq_true, decide_eq_true_eq] at hb
      exact ⟨_, r, RgOk.of_le (by omega) (by omega) (by omega) (by omega), rg_end s1 x1 z⟩
    · exact z.elim
  | ex c env1 => rw [e1] at z; exact z
  | bad => rw [e1] at z; exact z
theorem j_listR2 {a b : Expr} {m1 m2 : ME} {p p2 pos pos2 : Pos} (hc : X.calm = true) (hg : Gl X "list") (hm : X.mg "list" = none) (hg2 : Gl X "range") (hm2 : X.mg "range" = none) (ha : JE X C W a m1) (hb : JE X C W b m2)
    (na : starEach [a, b] X.env = (false, eval a X.env) :: starEach [b] X.env) (nb : starEach [b] X.env = (false, eval b X.env) :: starEach [] X.env) :
    JE X C W (.Call (.Name "list" p) [.Call (.Name "range" p2) [a, b] [] pos2] [] pos) (mListR2 m1 m2) := by
  obtain ⟨t, pe, q⟩ := ha.run
  obtain ⟨t2, pe2, q2⟩ := hb.run
  refine ⟨_, pe_listRg hc hg hm (prg_2 hg2 hm2 pe pe2 na nb (by rw [nb]; rfl)) rfl, fun F env σ H Q k s z => q F env σ H _ k s ?_⟩
  unfold mListR2 at z
  cases e1 : m1 env with
  | ok x env1 =>
    rw [e1] at z
    refine fun v H1 s1 x1 r => q2 F env1 σ H1 _ k s1 ?_
    cases x <;> dsimp only at z <;> try exact z.elim
    simp only [RelD] at r
    cases e2 : m2 env1 with
    | ok y env2 =>
      rw [e2] at z
      refine fun u H2 s2 x2 r2 => ?_
      cases y <;> dsimp only at z <;> try exact z.elim
      simp only [RelD] at r2
      split at z
      · rename_i hb
        simp only [Bool.and_eq_true, decide_eq_true_eq] at hb
        exact ⟨_, _, r, r2, RgOk.of_le (by omega) (by omega) (by omega) (by omega), rg_end s2 (x1.trans x2) z⟩
      · exact z.elim
    | ex c env2 => rw [e2] at z; exact fun H' s' x' => z H' s' (x1.trans x')
    | bad => rw [e2] at z; exact z
  | ex c env1 => rw [e1] at z; exact z
  | bad => rw [e1] at z; exact z
end
/-! ### a def that returns a new list -/
def PostSF (F : Fx) (C : CT) (W : WX) (env : Ev) (σ : St) (H : Hp) (D : Ends) : RS → Prop
  | .nx env' => ∀ σ' H', SR F env' σ' H' → Ext (Ow F env σ) H (Ow F env' σ') H' → D.nx σ' H'
  | .rt d env' => ∀ p σ' H1 H', SR F env' σ' H1 → H1 p = none → GrowT F.T H1 H' → CRel F.K H' (fun a => Ow F env' σ' a ∨ a = p) d p → D.rt (.ref p) H'
  | _ => False
structure JSF (X : Cx) (C : CT) (W : WX) (st : Stmt) (m : MS) : Prop where
  run : ∃ t, PS X st t ∧ ∀ F env σ H D, FX F X.K C → SR F env σ H → PostSF F C W env σ H D (m env) → t D σ H
structure JBF (X : Cx) (C : CT) (W : WX) (st : List Stmt) (m : MS) : Prop where
  run : ∃ t, PSs X st t ∧ ∀ F env σ H D, FX F X.K C → SR F env σ H → PostSF F C W env σ H D (m env) → t D σ H
theorem PostSF.after {C : CT} {W : WX} {F : Fx} {env env1 : Ev} {σ σ1 : St} {H H1 : Hp} {D : Ends} (x : Ext (Ow F env σ) H (Ow F env1 σ1) H1) : ∀ {r : RS}, PostSF F C W env σ H D r → PostSF F C W env1 σ1 H1 D r
  | .nx _, z => fun σ2 H2 s2 x2 => z σ2 H2 s2 (x.trans x2)
  | .rt _ _, z => z
  | .bk _, z => z
  | .ct _, z => z
  | .ex _ _, z => z
  | .bad, z => z
def mNoRt (m : MS) : MS := fun e => match m e with
  | .nx e1 => .nx e1
  | _ => .bad
section
variable {X : Cx} {C : CT} {W : WX}
theorem JS.f {st : Stmt} {m : MS} (h : JS X C W st m) : JSF X C W st (mNoRt m) := by
  obtain ⟨t, p, q⟩ := h.run
  refine ⟨t, p, fun F env σ H D k s z => q F env σ H D k s ?_⟩
  unfold mNoRt at z
  cases e : m env <;> rw [e] at z <;> first | exact z | exact z.elim
theorem jbf_one {st : Stmt} {m : MS} (h : JSF X C W st m) : JBF X C W [st] m := by
  obtain ⟨t, p, q⟩ := h.run
  exact ⟨_, pss_one p, q⟩
theorem jbf_nil : JBF X C W [] mSkip := ⟨_, pss_nil, fun F env σ H D k s z => z σ H s .refl⟩
theorem jbf_cons {st : Stmt} {sts : List Stmt} {m1 m2 : MS} (h : JSF X C W st m1) (h2 : JBF X C W sts m2) : JBF X C W (st :: sts) (mSeq m1 m2) := by
  obtain ⟨t, p, q⟩ := h.run
  obtain ⟨t2, p2, q2⟩ := h2.run
  refine ⟨_, pss_cons p p2, fun F env σ H D k s z => q F env σ H _ k s ?_⟩
  unfold mSeq at z
  cases e1 : m1 env with
  | nx env1 =>
    rw [e1] at z
    exact fun σ1 H1 s1 x1 => q2 F env1 σ1 H1 D k s1 (PostSF.after x1 z)
  | rt d env1 => rw [e1] at z; exact z
  | bk env1 => rw [e1] at z; exact z
  | ct env1 => rw [e1] at z; exact z
  | ex c env1 => rw [e1] at z; exact z
  | bad => rw [e1] at z; exact z
theorem jsf_if {c : Expr} {a b : List Stmt} {mc : ME} {m1 m2 : MS} {pos : Pos} (hc : JT X C W c mc) (ha : JBF X C W a m1) (hb : JBF X C W b m2) : JSF X C W (.If c a b pos) (mIfS mc m1 m2) := by
  obtain ⟨tc, pc, qc⟩ := hc.run
  obtain ⟨ta, pa, qa⟩ := ha.run
  obtain ⟨tb, pb, qb⟩ := hb.run
  refine ⟨_, ps_if pc pa pb, fun F env σ H D k s z => qc F env σ H _ k s ?_⟩
  unfold mIfS at z
  cases e1 : mc env with
  | ok x env1 =>
    rw [e1] at z
    cases x with
    | bl b =>
      refine ⟨b, rfl, fun H1 s1 x1 => ?_⟩
      cases b with
      | true => exact iteT (qa F env1 σ H1 D k s1 (PostSF.after x1 z))
      | false => exact iteF (qb F env1 σ H1 D k s1 (PostSF.after x1 z))
    | _ => exact z.elim
  | ex c env1 => rw [e1] at z; exact z.elim
  | bad => rw [e1] at z; exact z
theorem jsf_ret {e : Expr} {m : ME} {pos : Pos} (h : JF X C W e m) : JSF X C W (.Return (some e) pos) (mRet m) := by
  obtain ⟨t, p, q⟩ := h.run
  refine ⟨_, ps_ret p, fun F env σ H D k s z => q F env σ H _ k s ?_⟩
  unfold mRet at z
  cases e1 : m env with
  | ok d env1 =>
    rw [e1] at z
    exact fun p H1 H' s1 x1 n g c => z p σ H1 H' s1 n g c
  | ex c env1 => rw [e1] at z; exact z.elim
  | bad => rw [e1] at z; exact z
end
/-- what such a def promises -/
def runN (n tot : Nat) (m : MS) : UF := fun args => match m (args ++ List.replicate (tot - n) .no) with
  | .rt d _ => .ok d none
  | _ => .bad
def spN (K : PySem.W.Frag) (C : CT) (n : Nat) (f : UF) : Sp := fun vs H Q E => ∃ (O : Addr → Prop) (args : List Sl), vs.length = n ∧ (∀ a, O a → Dm C.T H a) ∧ (∀ p ∈ C.T, O p.1) ∧ LamX.Tabs C.T H ∧ ArgsR K H O none args vs ∧ match f args with
  | .ok d _ => ∀ p H1 H', GrowT C.T H H1 → H1 p = none → GrowT C.T H1 H' → CRel K H' (fun a => O a ∨ a = p) d p → Q (.ref p) H'
  | _ => False
section
variable {P : Program} {w : World} {K : PySem.W.Frag} {mg : Str → Option Value} {base : Heap}
theorem fn_okN {C : CT} {x qual : Str} {params : Arguments} {body : List Stmt} {scope : Scope} {f : Addr} {fd : FuncData} {N ps : List Str} {k : Nat} {m : MS} (F : FunD K x qual params body scope [] [] f fd) (S : FnScope N ps scope)
    (h : ∀ (X : Cx) (W : WX), Cxt P w K mg base N scope k X → (∀ x, X.fn x = true) → Takes X W → PassesOwn (model X.prog X.w) X.A X.env X.xe → X.stack = X.env :: X.outer → X.env.frame = some X.env.locals → JBF X C W body m) :
    FnOk P w K mg base (L2.CX P w) (k + 1) f fd ps (spN K C ps.length (runN ps.length N.length m)) := by
  refine F.ok S (fun vs H Q E h => ?_) (fun cdv A outer s H vs Q E hr hsp => ?_)
  · obtain ⟨_, _, hl, _⟩ := h
    exact hl
  · obtain ⟨O, args, hl, dom, tO, tb, ra, z⟩ := hsp
    have hpl : ps.length ≤ N.length := by have := congrArg List.length S.pre; rw [List.length_take] at this; omega
    obtain ⟨s0, hlen⟩ := SR.begin (N := N) (T := C.T) (by omega) dom tO tb ra
    have tk : Takes (cxOf (L2.CX P w) P w K mg base N qual scope f cdv A outer s H E) (fun cls d _ H => E cls d H) := takes_of rfl rfl rfl rfl
    have po : PassesOwn (model (cxOf (L2.CX P w) P w K mg base N qual scope f cdv A outer s H E).prog (cxOf (L2.CX P w) P w K mg base N qual scope f cdv A outer s H E).w) (cxOf (L2.CX P w) P w K mg base N qual scope f cdv A outer s H E).A (cxOf (L2.CX P w) P w K mg base N qual scope f cdv A outer s H E).env (cxOf (L2.CX P w) P w K mg base N qual scope f cdv A outer s H E).xe := passes_of rfl
    obtain ⟨t, p, q⟩ := (h (cxOf (L2.CX P w) P w K mg base N qual scope f cdv A outer s H E) (fun cls d _ H => E cls d H) ⟨rfl, rfl, rfl, rfl, rfl, rfl, rfl, rfl, hr⟩ (fun _ => rfl) tk po rfl rfl).run
    refine ⟨t, p, q _ _ _ _ _ ⟨rfl, rfl⟩ s0 ?_⟩
    unfold runN at z
    rw [hl] at s0
    rw [hl]
    cases e1 : m (args ++ List.replicate (N.length - ps.length) .no) with
    | rt d env1 =>
      rw [e1] at z
      refine fun p σ1 H1 H' s1 n g c => z p H1 H' ⟨fun b o e q t => s1.fr b o e (fun z => z.elim (fun z => by cases z) fun ⟨p, hp, e⟩ => q p hp e) t, fun p hp => (s1.od _ (tO p hp)).n, s1.tb⟩ n g (c.ext (Ext.sub fun b q => q.elim (fun q => .inl (.inl q)) .inr) rfl)
    | nx env1 => rw [e1] at z; exact z.elim
    | ex c env1 => rw [e1] at z; exact z.elim
    | bk env1 => rw [e1] at z; exact z.elim
    | ct env1 => rw [e1] at z; exact z.elim
    | bad => rw [e1] at z; exact z.elim
end
end MP

set_option Elab.async false
set_option linter.all false
set_option maxRecDepth 100000
set_option maxHeartbeats 4000000
namespace MP
open PySem PySem.Spec L2
open PyProof.Rows hiding St

/-! ### what stands around an expression, a statement -/
structure Cw (P : Program) (w : World) (K : PySem.W.Frag) (mg : Str → Option Value) (base : Heap) (N : List Str) (sc : Scope) (k : Nat) (X : Cx) (W : WX) : Prop where
  c : Cxt P w K mg base N sc k X
  tk : Takes X W
  nd : N.Nodup
structure Cs (P : Program) (w : World) (K : PySem.W.Frag) (mg : Str → Option Value) (base : Heap) (N : List Str) (sc : Scope) (k : Nat) (X : Cx) (W : WX) : Prop where
  e : Cw P w K mg base N sc k X W
  fn : ∀ x, X.fn x = true
  po : PassesOwn (model X.prog X.w) X.A X.env X.xe
  hs : X.stack = X.env :: X.outer
  hf : X.env.frame = some X.env.locals
/-- the built-ins' names, as they were -/
structure Bts (mg : Str → Option Value) : Prop where
  len : mg "len" = none
  abs : mg "abs" = none
  int : mg "int" = none
  max : mg "max" = none
  min : mg "min" = none
  sum : mg "sum" = none
  all : mg "all" = none
  any : mg "any" = none
  list : mg "list" = none
  tuple : mg "tuple" = none
  sorted : mg "sorted" = none
  range : mg "range" = none
  zip : mg "zip" = none
  isinstance : mg "isinstance" = none
  bool : mg "bool" = none
  str : mg "str" = none
/-- a name that a block may bind -/
structure Nb (N : List Str) (sc : Scope) (i : Nat) (x : Str) : Prop where
  at_ : N[i]? = some x
  loc : sc.names.lookup x = some .local ∨ sc.names.lookup x = some .cell
def nbB (N : List Str) (sc : Scope) (i : Nat) (x : Str) : Bool := decide (N[i]? = some x) && (match sc.names.lookup x with
  | some .local => true
  | some .cell => true
  | _ => false)
theorem Nb.by {N : List Str} {sc : Scope} {i : Nat} {x : Str} (h : nbB N sc i x = true) : Nb N sc i x := by
  unfold nbB at h
  simp only [Bool.and_eq_true, decide_eq_true_eq] at h
  obtain ⟨h1, h2⟩ := h
  refine ⟨h1, ?_⟩
  split at h2
  · exact .inl ‹_›
  · exact .inr ‹_›
  · cases h2
theorem env_eta {env : Env} {sc : Scope} (h : env.scope = sc) : env = { env with scope := sc } := by
  cases env
  cases h
  rfl
theorem sw_by {env : Env} {sc : Scope} {t : List Expr} {v : Expr} {r : Sem (Option (List Str))} (h : env.scope = sc) (e : ∀ env : Env, swappedStores t v { env with scope := sc } = r) : swappedStores t v env = r := by
  rw [env_eta h]
  exact e env
section
variable {P : Program} {w : World} {K : PySem.W.Frag} {mg : Str → Option Value} {base : Heap} {N : List Str} {sc : Scope} {k : Nat} {X : Cx} {C : CT} {W : WX}
theorem Cw.blk (c : Cw P w K mg base N sc k X W) (s : Shared) (H : Hp) (scope : Scope) (A : Addr) (cl : List (Str × Addr)) (fp : List Addr) : Cw P w K mg base N (relS scope sc) k (X.blk s H scope (compEnvC scope cl A X.env) fp) W0 :=
  ⟨c.c.blk s H scope A cl fp, takes0, c.nd⟩
theorem Cs.tr {pn : List (Addr × Obj)} {xe : Value → Shared → Prop} {W' : WX} (c : Cs P w K mg base N sc k X W) (tk : Takes (X.tr pn xe) W') (po : PassesOwn (model X.prog X.w) X.A X.env xe) : Cs P w K mg base N sc k (X.tr pn xe) W' :=
  ⟨⟨⟨c.e.c.prog, c.e.c.w, c.e.c.K, c.e.c.mg, c.e.c.base, c.e.c.N, c.e.c.sc, c.e.c.calm, c.e.c.room⟩, tk, c.e.nd⟩, c.fn, po, c.hs, c.hf⟩
theorem Cw.mn (c : Cw P w K mg base N sc k X W) {x : Str} (h : mg x = none) : X.mg x = none := by rw [c.c.mg]; exact h
theorem Cw.xnd (c : Cw P w K mg base N sc k X W) : X.N.Nodup := by rw [c.c.N]; exact c.nd
theorem Cw.u64 (c : Cw P w K mg base N sc k X W) : X.A.units + 64 < cLine := by have := c.c.room.un; omega
theorem Cw.u1 (c : Cw P w K mg base N sc k X W) : X.A.units + 1 < cLine := by have := c.c.room.un; omega
theorem Cw.u0 (c : Cw P w K mg base N sc k X W) : X.A.units < cLine := by have := c.c.room.un; omega
theorem v_ (c : Cw P w K mg base N sc k X W) {x : Str} {i : Nat} {pos : Pos} (n : Nm N sc i x) : JE X C W (.Name x pos) (mVar i) := x_var c.c n
theorem p_ (c : Cw P w K mg base N sc k X W) {x : Str} {i : Nat} {pos : Pos} (n : Nm N sc i x) : JO X C W (.Name x pos) (mPk i) (lPk i) := x_pk c.c n
theorem g_int (c : Cw P w K mg base N sc k X W) {x : Str} {i : Int} {pos : Pos} (n : Ng sc x) (h : ∃ t, mg x = some (.int i t)) : JE X C W (.Name x pos) (mC (.int i)) := by
  obtain ⟨t, h⟩ := h
  exact x_glob (v := .int i) c.c n h ⟨t, rfl⟩ fun _ _ => by simp only [RelD]
/-! ### operators -/
section
variable {a b : Expr} {m1 m2 : ME} {l1 l2 : Ev → D → Option D} {pos : Pos} (ha : JO X C W a m1 l1) (hb : JO X C W b m2 l2)
include ha hb
theorem x_add : JE X C W (.BinOp a .Add b pos) (mB fAdd m1 l1 m2 l2) := j_bin o_add s_add ha hb
theorem x_sub : JE X C W (.BinOp a .Sub b pos) (mB fSub m1 l1 m2 l2) := j_bin o_sub s_sub ha hb
theorem x_mul : JE X C W (.BinOp a .Mult b pos) (mB fMul m1 l1 m2 l2) := j_bin o_mul s_mul ha hb
theorem x_div : JE X C W (.BinOp a .FloorDiv b pos) (mB fDiv m1 l1 m2 l2) := j_bin op_fdivW s_div ha hb
theorem x_mod : JE X C W (.BinOp a .Mod b pos) (mB fMod m1 l1 m2 l2) := j_bin o_mod s_mod ha hb
theorem x_pow : JE X C W (.BinOp a .Pow b pos) (mB fPow m1 l1 m2 l2) := j_bin op_pow s_pow ha hb
theorem x_ix (hp : PlainIx b) : JE X C W (.Subscript a b pos) (mB fIx m1 l1 m2 l2) := j_ix ix_seq s_ix ha hb hp
theorem x_lt (c : Cw P w K mg base N sc k X W) (hm : behindInMarks .Lt b = false) : JE X C W (.Compare a [.Lt] [b] pos) (mB fLt m1 l1 m2 l2) := j_cmp (o_lt c.u0) s_lt ha hb hm
theorem x_le (hm : behindInMarks .LtE b = false) : JE X C W (.Compare a [.LtE] [b] pos) (mB fLe m1 l1 m2 l2) := j_cmp op_le s_le ha hb hm
theorem x_gt (hm : behindInMarks .Gt b = false) : JE X C W (.Compare a [.Gt] [b] pos) (mB fGt m1 l1 m2 l2) := j_cmp op_gt s_gt ha hb hm
theorem x_ge (hm : behindInMarks .GtE b = false) : JE X C W (.Compare a [.GtE] [b] pos) (mB fGe m1 l1 m2 l2) := j_cmp op_ge s_ge ha hb hm
theorem x_eq (c : Cw P w K mg base N sc k X W) (hm : behindInMarks .Eq b = false) : JE X C W (.Compare a [.Eq] [b] pos) (mB fEq m1 l1 m2 l2) := j_cmp (op_eqD c.u64) s_eq ha hb hm
theorem x_ne (c : Cw P w K mg base N sc k X W) (hm : behindInMarks .NotEq b = false) : JE X C W (.Compare a [.NotEq] [b] pos) (mB fNe m1 l1 m2 l2) := j_cmp (op_neD c.u64) s_ne ha hb hm
theorem x_is (hm : behindInMarks .Is b = false) : JE X C W (.Compare a [.Is] [b] pos) (mB fIsN m1 l1 m2 l2) := j_cmp op_isN s_isN ha hb hm
theorem x_isnot (hm : behindInMarks .IsNot b = false) : JE X C W (.Compare a [.IsNot] [b] pos) (mB fNotN m1 l1 m2 l2) := j_cmp op_notN s_notN ha hb hm
theorem x_in (hm : behindInMarks .In b = false) : JE X C W (.Compare a [.In] [b] pos) (mB fIn m1 l1 m2 l2) := j_cmp op_in_seq s_in ha hb hm
theorem x_notin (hm : behindInMarks .NotIn b = false) : JE X C W (.Compare a [.NotIn] [b] pos) (mB fNotIn m1 l1 m2 l2) := j_cmp op_notIn_seq s_notIn ha hb hm
theorem t_lt (c : Cw P w K mg base N sc k X W) (hm : behindInMarks .Lt b = false) : JT X C W (.Compare a [.Lt] [b] pos) (mB fLt m1 l1 m2 l2) := jt_cmp (o_lt c.u0) s_lt ha hb hm
theorem t_le (hm : behindInMarks .LtE b = false) : JT X C W (.Compare a [.LtE] [b] pos) (mB fLe m1 l1 m2 l2) := jt_cmp op_le s_le ha hb hm
theorem t_gt (hm : behindInMarks .Gt b = false) : JT X C W (.Compare a [.Gt] [b] pos) (mB fGt m1 l1 m2 l2) := jt_cmp op_gt s_gt ha hb hm
theorem t_ge (hm : behindInMarks .GtE b = false) : JT X C W (.Compare a [.GtE] [b] pos) (mB fGe m1 l1 m2 l2) := jt_cmp op_ge s_ge ha hb hm
theorem t_eq (c : Cw P w K mg base N sc k X W) (hm : behindInMarks .Eq b = false) : JT X C W (.Compare a [.Eq] [b] pos) (mB fEq m1 l1 m2 l2) := jt_cmp (op_eqD c.u64) s_eq ha hb hm
theorem t_ne (c : Cw P w K mg base N sc k X W) (hm : behindInMarks .NotEq b = false) : JT X C W (.Compare a [.NotEq] [b] pos) (mB fNe m1 l1 m2 l2) := jt_cmp (op_neD c.u64) s_ne ha hb hm
theorem t_is (hm : behindInMarks .Is b = false) : JT X C W (.Compare a [.Is] [b] pos) (mB fIsN m1 l1 m2 l2) := jt_cmp op_isN s_isN ha hb hm
theorem t_isnot (hm : behindInMarks .IsNot b = false) : JT X C W (.Compare a [.IsNot] [b] pos) (mB fNotN m1 l1 m2 l2) := jt_cmp op_notN s_notN ha hb hm
theorem t_in (hm : behindInMarks .In b = false) : JT X C W (.Compare a [.In] [b] pos) (mB fIn m1 l1 m2 l2) := jt_cmp op_in_seq s_in ha hb hm
theorem t_notin (hm : behindInMarks .NotIn b = false) : JT X C W (.Compare a [.NotIn] [b] pos) (mB fNotIn m1 l1 m2 l2) := jt_cmp op_notIn_seq s_notIn ha hb hm
end
theorem x_neg {a : Expr} {m : ME} {l : Ev → D → Option D} {pos : Pos} (ha : JO X C W a m l) : JE X C W (.UnaryOp .USub a pos) (mU fNeg m l) := j_un un_neg s_neg ha
theorem x_ch {a b d : Expr} {m1 m2 m3 : ME} {l1 l2 l3 : Ev → D → Option D} {pos : Pos} (ha : JO X C W a m1 l1) (hb : JO X C W b m2 l2) (hd : JO X C W d m3 l3) (hm : lastMarks [.LtE, .LtE] [b, d] = false) :
    JE X C W (.Compare a [.LtE, .LtE] [b, d] pos) (mChain fLe fLe m1 l1 m2 l2 m3 l3) := j_chain op_le s_le op_le s_le ha hb hd hm
def mPrt (m : ME) : ME := fun env => match m env with
  | .ok (.int i) e1 => .ok (.int i) e1
  | .ok _ _ => .bad
  | .ex c e1 => .ex c e1
  | .bad => .bad
theorem jp_of {e : Expr} {m : ME} (h : JE X C W e m) : JP X C W (some e) (mPrt m) := jp_some h
/-! ### built-ins -/
section
variable {e : Expr} {es : List Expr} {ma : MA} {la : Ev → List D → Option (List D)} {p pos : Pos} (c : Cw P w K mg base N sc k X W) (B : Bts mg) (ha : JA X C W (e :: es) ma la) (he : starEach (e :: es) X.env = (false, eval e X.env) :: starEach es X.env) (hpl : (backTo pos (starEach es X.env)).any (·.1) = false)
include c B ha he hpl
theorem x_len (g : Ng sc "len") : JE X C W (.Call (.Name "len" p) (e :: es) [] pos) (mCall bLen ma la) := j_callB call_len s_len (c.c.gl g) (c.mn B.len) rfl (by decide) (by decide) ha he hpl
theorem x_abs (g : Ng sc "abs") : JE X C W (.Call (.Name "abs" p) (e :: es) [] pos) (mCall bAbs ma la) := j_callB call_abs s_abs (c.c.gl g) (c.mn B.abs) rfl (by decide) (by decide) ha he hpl
theorem x_max (g : Ng sc "max") : JE X C W (.Call (.Name "max" p) (e :: es) [] pos) (mCall bMax ma la) := j_callB (c_max c.c.calm) s_max (c.c.gl g) (c.mn B.max) rfl (by decide) (by decide) ha he hpl
theorem x_min (g : Ng sc "min") : JE X C W (.Call (.Name "min" p) (e :: es) [] pos) (mCall bMin ma la) := j_callB (c_min c.c.calm) s_min (c.c.gl g) (c.mn B.min) rfl (by decide) (by decide) ha he hpl
theorem x_sum (g : Ng sc "sum") : JE X C W (.Call (.Name "sum" p) (e :: es) [] pos) (mCall bSum ma la) := j_callB (cr_sum c.c.calm) s_sum (c.c.gl g) (c.mn B.sum) rfl (by decide) (by decide) ha he hpl
theorem x_all (g : Ng sc "all") : JE X C W (.Call (.Name "all" p) (e :: es) [] pos) (mCall bAll ma la) := j_callB (cr_all c.c.calm) s_all (c.c.gl g) (c.mn B.all) rfl (by decide) (by decide) ha he hpl
theorem x_any (g : Ng sc "any") : JE X C W (.Call (.Name "any" p) (e :: es) [] pos) (mCall bAny ma la) := j_callB (cr_any c.c.calm) s_any (c.c.gl g) (c.mn B.any) rfl (by decide) (by decide) ha he hpl
theorem x_sorted (g : Ng sc "sorted") : JE X C W (.Call (.Name "sorted" p) (e :: es) [] pos) (mCall bSorted ma la) := j_callB cr_sorted s_sorted (c.c.gl g) (c.mn B.sorted) rfl (by decide) (by decide) ha he hpl
theorem x_sortedD (g : Ng sc "sorted") : JE X C W (.Call (.Name "sorted" p) (e :: es) [] pos) (mCall bSortedD ma la) := j_callB (call_sortedDI c.c.calm) s_sortedD (c.c.gl g) (c.mn B.sorted) rfl (by decide) (by decide) ha he hpl
theorem x_int (g : Ng sc "int") : JE X C W (.Call (.Name "int" p) (e :: es) [] pos) (mCall bInt ma la) := j_callT call_int1 s_int (c.c.gl g) (c.mn B.int) rfl (by decide) (by decide) ha he hpl
theorem x_list (g : Ng sc "list") : JE X C W (.Call (.Name "list" p) (e :: es) [] pos) (mCall bList ma la) := j_callT call_list_of s_list (c.c.gl g) (c.mn B.list) rfl (by decide) (by decide) ha he hpl
theorem x_tuple (g : Ng sc "tuple") : JE X C W (.Call (.Name "tuple" p) (e :: es) [] pos) (mCall bTuple ma la) := j_callT call_tuple_of s_tuple (c.c.gl g) (c.mn B.tuple) rfl (by decide) (by decide) ha he hpl
end
section
variable {a : Expr} {m : ME} {l : Ev → D → Option D} {p p2 pos : Pos} (c : Cw P w K mg base N sc k X W) (B : Bts mg) (ha : JO X C W a m l) (g : Ng sc "isinstance")
include c B ha g
theorem x_isInt (g2 : Ng sc "int") (hs : starEach [a, .Name "int" p2] X.env = (false, eval a X.env) :: starEach [.Name "int" p2] X.env) : JE X C W (.Call (.Name "isinstance" p) [a, .Name "int" p2] [] pos) (mU isInt m l) :=
  j_isi isi_int ha (c.c.gl g) (c.mn B.isinstance) rfl (by decide) (by decide) (c.c.gl g2) (c.mn B.int) rfl (by decide) (by decide) hs rfl rfl
theorem x_isBool (g2 : Ng sc "bool") (hs : starEach [a, .Name "bool" p2] X.env = (false, eval a X.env) :: starEach [.Name "bool" p2] X.env) : JE X C W (.Call (.Name "isinstance" p) [a, .Name "bool" p2] [] pos) (mU isBool m l) :=
  j_isi isi_bool ha (c.c.gl g) (c.mn B.isinstance) rfl (by decide) (by decide) (c.c.gl g2) (c.mn B.bool) rfl (by decide) (by decide) hs rfl rfl
theorem x_isTup (g2 : Ng sc "tuple") (hs : starEach [a, .Name "tuple" p2] X.env = (false, eval a X.env) :: starEach [.Name "tuple" p2] X.env) : JE X C W (.Call (.Name "isinstance" p) [a, .Name "tuple" p2] [] pos) (mU isTup m l) :=
  j_isi isi_tup ha (c.c.gl g) (c.mn B.isinstance) rfl (by decide) (by decide) (c.c.gl g2) (c.mn B.tuple) rfl (by decide) (by decide) hs rfl rfl
theorem x_isStr (g2 : Ng sc "str") (hs : starEach [a, .Name "str" p2] X.env = (false, eval a X.env) :: starEach [.Name "str" p2] X.env) : JE X C W (.Call (.Name "isinstance" p) [a, .Name "str" p2] [] pos) (mU isStr m l) :=
  j_isi isi_str ha (c.c.gl g) (c.mn B.isinstance) rfl (by decide) (by decide) (c.c.gl g2) (c.mn B.str) rfl (by decide) (by decide) hs rfl rfl
end
theorem x_range1 {tg a : Expr} {ma : MA} {p pos : Pos} (c : Cw P w K mg base N sc k X W) (B : Bts mg) (g : Ng sc "range") (ha : JV X C W [a] ma) (hs : starEach [a] X.env = [(false, eval a X.env)]) : JI X C W tg (.Call (.Name "range" p) [a] [] pos) (mRange1 ma) := j_range1 (c.c.gl g) (c.mn B.range) ha hs
theorem x_range2 {tg a b : Expr} {ma : MA} {p pos : Pos} (c : Cw P w K mg base N sc k X W) (B : Bts mg) (g : Ng sc "range") (ha : JV X C W [a, b] ma) (hs : starEach [a, b] X.env = [(false, eval a X.env), (false, eval b X.env)]) (hs2 : starEach [b] X.env = [(false, eval b X.env)]) :
    JI X C W tg (.Call (.Name "range" p) [a, b] [] pos) (mRange2 ma) := j_range2 (c.c.gl g) (c.mn B.range) ha hs hs2
theorem x_zip {elts : List Expr} {kk : Nat} {tpos : Pos} {a b : Expr} {ma : MA} {p pos : Pos} (c : Cw P w K mg base N sc k X W) (B : Bts mg) (g : Ng sc "zip") (ha : JV X C W [a, b] ma) (hs : starEach [a, b] X.env = (false, eval a X.env) :: starEach [b] X.env) (hpl : (backTo pos (starEach [b] X.env)).any (·.1) = false) :
    JI X C W (.Tuple elts kk tpos) (.Call (.Name "zip" p) [a, b] [] pos) (mZip ma) := j_zip (c.c.gl g) (c.mn B.zip) ha hs hpl
theorem x_listR1 {e : Expr} {m : ME} {p p2 pos pos2 : Pos} (c : Cw P w K mg base N sc k X W) (B : Bts mg) (g : Ng sc "list") (g2 : Ng sc "range") (he : JE X C W e m) (na : starEach [e] X.env = (false, eval e X.env) :: starEach [] X.env) :
    JE X C W (.Call (.Name "list" p) [.Call (.Name "range" p2) [e] [] pos2] [] pos) (mListR1 m) := j_listR1 c.c.calm (c.c.gl g) (c.mn B.list) (c.c.gl g2) (c.mn B.range) he na
theorem x_listR2 {a b : Expr} {m1 m2 : ME} {p p2 pos pos2 : Pos} (c : Cw P w K mg base N sc k X W) (B : Bts mg) (g : Ng sc "list") (g2 : Ng sc "range") (ha : JE X C W a m1) (hb : JE X C W b m2) (na : starEach [a, b] X.env = (false, eval a X.env) :: starEach [b] X.env) (nb : starEach [b] X.env = (false, eval b X.env) :: starEach [] X.env) :
    JE X C W (.Call (.Name "list" p) [.Call (.Name "range" p2) [a, b] [] pos2] [] pos) (mListR2 m1 m2) := j_listR2 c.c.calm (c.c.gl g) (c.mn B.list) (c.c.gl g2) (c.mn B.range) ha hb na nb
/-! ### own defs -/
theorem x_call {x : Str} {n j : Nat} {f : UF} {e : Expr} {es : List Expr} {ma : MA} {p pos : Pos} (c : Cw P w K mg base N sc k X W) (d : Df P w K mg base C x n j f) (hj : j ≤ k) (g : Ng sc x) (ha : JV X C W (e :: es) ma) (hn : ∀ ds e env, ma env = .ok ds e → ds.length = n)
    (he : starEach (e :: es) X.env = (false, eval e X.env) :: starEach es X.env) (hpl : (backTo pos (starEach es X.env)).any (·.1) = false) : JE X C W (.Call (.Name x p) (e :: es) [] pos) (mUser f ma) := x_user c.c c.tk d hj g ha hn he hpl
theorem x_call0 {x : Str} {j : Nat} {f : UF} {p pos : Pos} (c : Cw P w K mg base N sc k X W) (d : Df P w K mg base C x 0 j f) (hj : j ≤ k) (g : Ng sc x) : JE X C W (.Call (.Name x p) [] [] pos) (mUser0 f) := x_user0 c.c c.tk d hj g
theorem x_lent {x y : Str} {i n j : Nat} {f : UF} {es : List Expr} {ma : MA} {py p pos : Pos} (c : Cw P w K mg base N sc k X W) (d : Df P w K mg base C x (n + 1) j f) (hj : j ≤ k) (g : Ng sc x) (nm : Nm N sc i y) (ha : JV X C W es ma) (hn : ∀ ds e env, ma env = .ok ds e → ds.length = n)
    (he : starEach (.Name y py :: es) X.env = (false, eval (.Name y py) X.env) :: starEach es X.env) (hpl : (backTo pos (starEach es X.env)).any (·.1) = false) : JE X C W (.Call (.Name x p) (.Name y py :: es) [] pos) (mUserB f i ma) := x_lend c.c c.tk d hj g nm ha hn he hpl
/-- how many values a row of operands has -/
theorem len0 : ∀ ds e env, maNil env = .ok ds e → ds.length = 0 := fun ds e env h => by
  cases h
  rfl
theorem lenS {m : ME} {ma : MA} {n : Nat} (h : ∀ ds e env, ma env = .ok ds e → ds.length = n) : ∀ ds e env, maCons m ma env = .ok ds e → ds.length = n + 1 := fun ds e env q => by
  unfold maCons at q
  split at q
  · split at q
    · rename_i e2
      cases q
      simp only [List.length_cons]
      rw [h _ _ _ e2]
    · cases q
    · cases q
  · cases q
  · cases q
/-- a def that returns a new list -/
structure DfN (P : Program) (w : World) (K : PySem.W.Frag) (mg : Str → Option Value) (base : Heap) (C : CT) (x : Str) (n k : Nat) (f : UF) : Prop where
  ex : ∃ (fa : Addr) (fd : FuncData) (ps : List Str), mg x = some (.ref fa) ∧ PySem.W.keepIn K (.ref fa) = true ∧ Binds K fd ps [] ∧ FnOk P w K mg base (L2.CX P w) k fa fd ps (spN K C n f)
def mUserN (f : UF) (ma : MA) : ME := fun e => match ma e with
  | .ok ds e1 => (match f (ds.map Sl.va) with
    | .ok d _ => .ok d e1
    | _ => .bad)
  | .ex c e1 => .ex c e1
  | .bad => .bad
theorem x_callN {x : Str} {n j : Nat} {f : UF} {e : Expr} {es : List Expr} {ma : MA} {p pos : Pos} (c : Cw P w K mg base N sc k X W) (d : DfN P w K mg base C x n j f) (hj : j ≤ k) (g : Ng sc x) (ha : JV X C W (e :: es) ma) (hn : ∀ ds e env, ma env = .ok ds e → ds.length = n)
    (he : starEach (e :: es) X.env = (false, eval e X.env) :: starEach es X.env) (hpl : (backTo pos (starEach es X.env)).any (·.1) = false) : JF X C W (.Call (.Name x p) (e :: es) [] pos) (mUserN f ma) := by
  obtain ⟨fa, fd, ps, h1, h2, h3, h4⟩ := d.ex
  have gl := c.c.gl g
  have tk := c.tk
  obtain ⟨rfl, rfl, rfl, rfl, rfl, rfl, rfl, _, r⟩ := c.c
  obtain ⟨t, pa, q⟩ := ha.run
  refine ⟨_, pe_callS h4 (r.mono hj) gl h1 h2 h3 (fun σ => passAt tk σ) pa g.d he hpl, fun F env σ H Q kk s z => q F env σ H _ kk s ?_⟩
  unfold mUserN at z
  cases e1 : ma env with
  | bad => rw [e1] at z; exact z
  | ex c env1 => rw [e1] at z; exact z
  | ok ds env1 =>
    rw [e1] at z
    dsimp only at z
    refine fun vs H1 s1 x1 rl => ?_
    refine ⟨Ow F env1 σ, ds.map Sl.va, by rw [← relL_len rl]; exact hn ds env1 env e1, fun a h => (by rw [← kk.2]; exact s1.dm h), fun p hp => s1.own_t (by rw [kk.2]; exact hp), by rw [← kk.2]; exact s1.tb, ?_, ?_⟩
    · have := argR_map rl
      rw [← kk.1]
      cases ds with
      | nil => exact ⟨rfl, this⟩
      | cons d r => exact ⟨rfl, this⟩
    · cases e2 : f (ds.map Sl.va) with
      | bad => rw [e2] at z; exact z
      | ex c out => rw [e2] at z; exact z.elim
      | ok d out =>
        rw [e2] at z
        refine fun p H2 H3 g1 n g2 cr => ?_
        rw [← kk.1] at cr
        rw [← kk.2] at g1 g2
        exact z p H2 H3 (s1.growT g1).1 (x1.trans (s1.growT g1).2) n g2 cr
/-! ### comprehensions -/
def blkB (N : List Str) (sc scope : Scope) (own : List (Str × Nat)) : Bool := decide (scope.kind = .function) && ((scope.names.all fun y => decide (scope.names.lookup y.1 = some y.2)) && ((own.all fun p => decide (N[p.2]? = some p.1)) &&
  ((scope.names.all fun y => !decide (y.2 = .free) || (decide (sc.names.lookup y.1 = some .cell) || decide (sc.names.lookup y.1 = some .free))) && (scope.names.all fun y => !(decide (y.2 = .local) || decide (y.2 = .cell)) || (decide (y.1 ∈ own.map (·.1)) || !decide (y.1 ∈ N))))))
theorem blk_by {N : List Str} {sc scope : Scope} {own : List (Str × Nat)} (h : blkB N sc scope own = true) : BlkOk N sc scope own := by
  unfold blkB at h
  simp only [Bool.and_eq_true, List.all_eq_true, decide_eq_true_eq, Bool.or_eq_true, Bool.not_eq_true', decide_eq_false_iff_not, Bool.or_eq_false_iff] at h
  obtain ⟨h1, h2, h3, h4, h5⟩ := h
  refine ⟨h1, h2, h3, fun y hy e => ?_, fun y hy e => ?_⟩
  · rcases h4 y hy with z | z
    · exact absurd e z
    · exact z
  · rcases h5 y hy with z | z
    · rcases e with e | e
      · exact absurd e z.1
      · exact absurd e z.2
    · exact z
theorem Cw.blkOk (c : Cw P w K mg base N sc k X W) {scope : Scope} {own : List (Str × Nat)} (h : BlkOk N sc scope own) : BlkOk X.N X.env.scope scope own := by
  rw [c.c.N, c.c.sc]
  exact h
theorem x_lc {elt tg iter : Expr} {ifs : List Expr} {scope : Scope} {pos : Pos} {js : List Nat} {mi : MA} {mg' : MT} {mt me : ME} (own : List (Str × Nat)) (c : Cw P w K mg base N sc k X W) (hi : JI X C W tg iter mi) (ok : BlkOk N sc scope own)
    (hg : ∀ X' : Cx, Cw P w K mg base N (relS scope sc) k X' W0 → JG X' tg mg' js) (ht : ∀ X' : Cx, Cw P w K mg base N (relS scope sc) k X' W0 → JTs X' C W0 ifs mt) (he : ∀ X' : Cx, Cw P w K mg base N (relS scope sc) k X' W0 → JE X' C W0 elt me)
    (hj : ∀ j ∈ js, j ∈ own.map (·.2)) (hs : ∀ x, foldedSetIterable iter X.env x = pure x) : JF X C W (.ListComp elt [⟨tg, iter, ifs, 0⟩] scope pos) (mLc mi (own.map (·.2)) mg' mt me) :=
  jf_lc c.c.calm c.xnd hi (c.blkOk ok) (fun s H A cl fp => hg _ (c.blk s H scope A cl fp)) (fun s H A cl fp => ht _ (c.blk s H scope A cl fp)) (fun s H A cl fp => he _ (c.blk s H scope A cl fp)) hj hs
theorem x_setLc {elt tg iter : Expr} {ifs : List Expr} {scope : Scope} {pos spos py : Pos} {y : Str} {i : Nat} {js : List Nat} {mi : MA} {mg' : MT} {mt me : ME} (own : List (Str × Nat)) (c : Cw P w K mg base N sc k X W) (hi : JI X C W tg iter mi) (ok : BlkOk N sc scope own)
    (hg : ∀ X' : Cx, Cw P w K mg base N (relS scope sc) k X' W0 → JG X' tg mg' js) (ht : ∀ X' : Cx, Cw P w K mg base N (relS scope sc) k X' W0 → JTs X' C W0 ifs mt) (he : ∀ X' : Cx, Cw P w K mg base N (relS scope sc) k X' W0 → JE X' C W0 elt me)
    (hj : ∀ j ∈ js, j ∈ own.map (·.2)) (hs : ∀ x, foldedSetIterable iter X.env x = pure x) (n : Nl N sc i y) (hk : sc.kind = .function) (hl : (py.line == pos.line) = true) (hn : (scope.names.any fun (n, k) => n == y && (k == .local || k == .cell)) = false) :
    JS X C W (.Assign [.Name y py] (.ListComp elt [⟨tg, iter, ifs, 0⟩] scope pos) spos) (mSet i (mAsV (mLc mi (own.map (·.2)) mg' mt me))) :=
  js_setLc c.c.calm c.xnd hi (c.blkOk ok) (fun s H A cl fp => hg _ (c.blk s H scope A cl fp)) (fun s H A cl fp => ht _ (c.blk s H scope A cl fp)) (fun s H A cl fp => he _ (c.blk s H scope A cl fp)) hj hs (c.c.at_ n.at_) (by rw [c.c.sc]; exact n.loc)
    (sw_true (by rw [c.c.sc]; exact hk) (by rw [c.c.sc]; exact n.loc) hl hn)
/-! ### targets, statements -/
theorem tg_ {x : Str} {i : Nat} {pos : Pos} (c : Cw P w K mg base N sc k X W) (n : Nl N sc i x) : JG X (.Name x pos) (mgName i) [i] := x_tgL c.c c.nd n
theorem tgC (c : Cs P w K mg base N sc k X W) {x : Str} {i : Nat} {pos : Pos} (n : Nb N sc i x) : JG X (.Name x pos) (mgName i) [i] :=
  jg_name c.e.xnd (c.e.c.at_ n.at_) (by unfold L2.Loc; rw [c.e.c.sc]; exact n.loc) (.inl (c.fn x))
theorem tg_cell {x : Str} {i : Nat} {pos : Pos} (c : Cw P w K mg base N sc k X W) (fn : X.fn x = true) (n : Nb N sc i x) : JG X (.Name x pos) (mgName i) [i] :=
  jg_name c.xnd (c.c.at_ n.at_) (by unfold L2.Loc; rw [c.c.sc]; exact n.loc) (.inl fn)
theorem st_set (c : Cs P w K mg base N sc k X W) {x : Str} {i : Nat} {e : Expr} {m : ME} {pos' pos : Pos} (n : Nb N sc i x) (h : JE X C W e m) (hs : swapsWithSole [.Name x pos'] e pos.line X.env = pure false) (hw : swappedStores [.Name x pos'] e X.env = pure none) :
    JS X C W (.Assign [.Name x pos'] e pos) (mSet i m) := js_set c.e.xnd (c.e.c.at_ n.at_) (by unfold L2.Loc; rw [c.e.c.sc]; exact n.loc) (.inl (c.fn x)) h hs hw
theorem st_own (c : Cs P w K mg base N sc k X W) {x : Str} {i : Nat} {e : Expr} {m : ME} {pos' pos : Pos} (n : Nb N sc i x) (h : JF X C W e m) (hs : swapsWithSole [.Name x pos'] e pos.line X.env = pure false) (hw : swappedStores [.Name x pos'] e X.env = pure none) :
    JS X C W (.Assign [.Name x pos'] e pos) (mOwn i m) := js_own c.e.xnd (c.e.c.at_ n.at_) (by unfold L2.Loc; rw [c.e.c.sc]; exact n.loc) (.inl (c.fn x)) h hs hw
theorem st_par (c : Cs P w K mg base N sc k X W) {i j : Nat} {x y : Str} {a b : Expr} {ma : MA} {px py pt pos : Pos} {kt k2 : Nat} {pt2 : Pos} (n1 : Nl N sc i x) (n2 : Nl N sc j y) (hij : i ≠ j) (ha : JV X C W [a, b] ma)
    (hw : ∀ env : Env, swappedStores [.Tuple [.Name x px, .Name y py] kt pt] (.Tuple [a, b] k2 pt2) { env with scope := sc } = pure (some [x, y])) (hs : swapsWithSole [.Tuple [.Name x px, .Name y py] kt pt] (.Tuple [a, b] k2 pt2) pos.line X.env = pure false) :
    JS X C W (.Assign [.Tuple [.Name x px, .Name y py] kt pt] (.Tuple [a, b] k2 pt2) pos) (mPar i j ma) :=
  js_par c.e.c.calm c.e.xnd (c.e.c.at_ n1.at_) (c.e.c.at_ n2.at_) hij (by rw [c.e.c.sc]; exact n1.loc) (by rw [c.e.c.sc]; exact n2.loc) ha (sw_by c.e.c.sc hw) hs
theorem st_for (c : Cs P w K mg base N sc k X W) {tg iter : Expr} {body : List Stmt} {mi : MA} {mg' : MT} {js : List Nat} {mb : MS} {pos : Pos} (hi : JI X C W tg iter mi) (hg : JG X tg mg' js) (hb : JB X C W body mb) (hs : ∀ x, foldedSetIterable iter X.env x = pure x) :
    JS X C W (.For tg iter body [] pos) (mFor mi mg' mb) := js_for c.po c.e.c.calm hi hg hb hs
theorem st_while (c : Cs P w K mg base N sc k X W) {n : Nat} {t : Expr} {body : List Stmt} {mc : ME} {mb : MS} {pos : Pos} (hc : JT X C W t mc) (hb : JB X C W body mb) : JS X C W (.While t body [] pos) (mWhile n mc mb) := js_while c.po hc hb
theorem st_app (c : Cs P w K mg base N sc k X W) {i : Nat} {x : Str} {e : Expr} {m : ME} {px apos cpos pos : Pos} (n : Nm N sc i x) (h : JE X C W e m)
    (hfew : ((backTo cpos (starEach [e] X.env)).all (fun x => !x.1) && (backToKw cpos (keywordEach [] X.env)).all (fun x => x.1.isSome) && decide (([e] : List Expr).length + ([] : List Keyword).length + (if ([] : List Keyword).isEmpty then 0 else 1) < 30)) = true)
    (hline : (apos.endLine == cpos.line) = true) (hs : starEach [e] X.env = (false, eval e X.env) :: starEach [] X.env) :
    JS X C W (.Expr (.Call (.Attribute (.Name x px) "append" apos) [e] [] cpos) pos) (mApp i m) := js_app (c.e.c.at_ n.at_) (c.e.c.vis n.vis) n.d n.c h hfew hline hs
theorem st_sub (c : Cs P w K mg base N sc k X W) {i : Nat} {x : Str} {ix e : Expr} {mi mv : ME} {px sp pos : Pos} (n : Nm N sc i x) (hi : JE X C W ix mi) (h : JE X C W e mv)
    (ha : ∀ v, assign (.Subscript (.Name x px) ix sp) X.env v = (do
      let ov ← holding [v] (eval (.Name x px) X.env)
      let iv ← holding [v, ov] (eval ix X.env)
      standAt sp
      holding [v, ov, iv] (setItem ov iv v)
      release [v, ov, iv] [])) (hs : swapsWithSole [.Subscript (.Name x px) ix sp] e pos.line X.env = pure false) :
    JS X C W (.Assign [.Subscript (.Name x px) ix sp] e pos) (mSub i mi mv) := js_sub (c.e.c.at_ n.at_) (c.e.c.vis n.vis) n.d n.c hi h ha hs
theorem st_dput (c : Cs P w K mg base N sc k X W) {i : Nat} {x : Str} {ix e : Expr} {mk mv : ME} {px sp pos : Pos} (n : Nm N sc i x) (hk : JE X C W ix mk) (h : JE X C W e mv) (hs : swapsWith e (some (.Subscript (.Name x px) ix sp)) pos.line X.env = pure false) :
    JS X C W (.Assign [.Subscript (.Name x px) ix sp] e pos) (mDPut i mk mv) := js_dput c.e.u1 (c.e.c.at_ n.at_) (c.e.c.vis n.vis) n.d n.c hk h hs
theorem x_dget (c : Cw P w K mg base N sc k X W) {i : Nat} {x : Str} {ix : Expr} {mk : ME} {px pos : Pos} (n : Nm N sc i x) (hk : JE X C W ix mk) (hs : NoSl ix) : JE X C W (.Subscript (.Name x px) ix pos) (mDGet i mk) := j_dget c.u1 (c.c.at_ n.at_) (c.c.vis n.vis) n.d n.c hk hs
theorem x_dget2 (c : Cw P w K mg base N sc k X W) {i : Nat} {x : Str} {ek ex : Expr} {mk mx : ME} {px apos cpos : Pos} (n : Nm N sc i x) (hk : JE X C W ek mk) (hx : JE X C W ex mx) (m : M2 X (.Name x px) "get" apos ek ex cpos) :
    JE X C W (.Call (.Attribute (.Name x px) "get" apos) [ek, ex] [] cpos) (mDGet2 i mk mx) := j_dget2 c.u1 (c.c.at_ n.at_) (c.c.vis n.vis) n.d n.c hk hx m
/-- an own error class -/
structure Er (K : PySem.W.Frag) (mg : Str → Option Value) (C : CT) (x : Str) (c : Nat) : Prop where
  lt : c < 1000
  ex : ∃ Cl : Addr, C c = .ref Cl ∧ mg x = some (.ref Cl) ∧ PySem.W.excIn K Cl [.type "ValueError", .type "Exception", .type "BaseException", .type "object"] "ValueError.__new__" = true ∧ PySem.W.keepIn K (.ref Cl) = true ∧ PySem.W.subIn K (.ref Cl) (.type "BaseException") = some true ∧ PySem.W.typeIn K (.ref Cl) = some (.type "type")
theorem st_raise (c : Cs P w K mg base N sc k X W) {n : Nat} {x m : Str} {j : Nat} {p p2 p3 pos : Pos} (e : Er K mg C x n) (g : Ng sc x) : JS X C W (.Raise (some (.Call (.Name x p) [.Constant (.str m) j p2] [] p3)) none pos) (mRaise n) := by
  obtain ⟨Cl, h1, h2, h3, h4, h5, h6⟩ := e.ex
  have hK := c.e.c.K
  exact js_raise c.e.c.calm c.e.tk PySem.F.excBase_ValueError (by rw [hK]; exact h3) (by rw [c.e.c.mg]; exact h2) (by rw [hK]; exact h4) (by rw [hK]; exact h5) (by rw [hK]; exact h6) (c.e.c.gl g) g.d h1 e.lt
theorem st_tryApp (c : Cs P w K mg base N sc k X W) (B : Bts mg) {x n y jn : Str} {cv : Value} {Ja : Addr} {i j : Nat} {body : List Stmt} {mb : MS} {ex : Nat → Option Bool} {np pos pos' p1 p2 p3 p4 p5 p6 p7 p8 : Pos} (nn : Nl N sc i n) (n2 : Nm N sc i n) (ny : Nm N sc j y)
    (gx : Ng sc x) (mx : mg x = some cv) (gJ : Ng sc jn) (mJ : mg jn = some (.ref Ja)) (gI : Ng sc "isinstance") (ca : Caught K C cv (.ref Ja) ex)
    (hb : ∀ (X' : Cx) (W' : WX), Cs P w K mg base N sc k X' W' → JB X' C W' body mb)
    (h1 : ∀ E, attributeBase (.Name y p1) "append" E (eval (.Name y p1) E) = eval (.Name y p1) E)
    (h2 : ∀ E, ((backTo p3 (starEach [.Call (.Name "isinstance" p4) [.Name n p5, .Name jn p6] [] p7] E)).all (fun x => !x.1) && (backToKw p3 (keywordEach [] E)).all (fun x => x.1.isSome) && decide (([.Call (.Name "isinstance" p4) [.Name n p5, .Name jn p6] [] p7] : List Expr).length + ([] : List Keyword).length + (if ([] : List Keyword).isEmpty then 0 else 1) < 30)) = true)
    (h3 : (p2.endLine == p3.line) = true) :
    JS X C W (.Try body [.ExceptHandler (some (.Name x np)) (some n) [.Expr (.Call (.Attribute (.Name y p1) "append" p2) [.Call (.Name "isinstance" p4) [.Name n p5, .Name jn p6] [] p7] [] p3) p8] pos'] [] [] pos) (mTryApp mb ex i j) :=
  js_tryApp c.hs c.hf c.e.xnd (c.e.c.at_ nn.at_) (c.e.c.at_ ny.at_) (by rw [c.e.c.sc]; exact nn.loc) (c.e.c.vis ny.vis) ny.d ny.c n2.d n2.c ⟨c.e.c.gl gx, gx.d, .inl (by rw [c.e.c.mg]; exact mx)⟩ (c.e.c.gl gJ) (by rw [c.e.c.mg]; exact mJ) gJ.d (c.e.c.gl gI) (c.e.mn B.isinstance) c.e.tk
    (by rw [c.e.c.K]; exact ca) (fun W' pn xe tk po => hb _ W' (c.tr tk po)) h1 h2 h3
/-! ### defs -/
theorem def_ok {x qual : Str} {params : Arguments} {body : List Stmt} {scope : Scope} {f : Addr} {fd : FuncData} {N ps : List Str} {k : Nat} {m : MS} (F : FunD K x qual params body scope [] [] f fd) (S : FnScope N ps scope) (hm : mg x = some (.ref f)) (kp : PySem.W.keepIn K (.ref f) = true) (b : Binds K fd ps [])
    (h : ∀ (X : Cx) (W : WX), Cs P w K mg base N scope k X W → JB X C W body m) : Df P w K mg base C x ps.length (k + 1) (runF ps.length N.length m) :=
  ⟨f, fd, ps, hm, kp, b, fn_ok F S fun X W c fn tk po hs hf => h X W ⟨⟨c, tk, S.nd⟩, fn, po, hs, hf⟩⟩
theorem def_okN {x qual : Str} {params : Arguments} {body : List Stmt} {scope : Scope} {f : Addr} {fd : FuncData} {N ps : List Str} {k : Nat} {m : MS} (F : FunD K x qual params body scope [] [] f fd) (S : FnScope N ps scope) (hm : mg x = some (.ref f)) (kp : PySem.W.keepIn K (.ref f) = true) (b : Binds K fd ps [])
    (h : ∀ (X : Cx) (W : WX), Cs P w K mg base N scope k X W → JBF X C W body m) : DfN P w K mg base C x ps.length (k + 1) (runN ps.length N.length m) :=
  ⟨f, fd, ps, hm, kp, b, fn_okN F S fun X W c fn tk po hs hf => h X W ⟨⟨c, tk, S.nd⟩, fn, po, hs, hf⟩⟩
/-- a def that is asked nothing -/
def runBad : UF := fun _ => .bad
theorem def_bad {x qual : Str} {params : Arguments} {body : List Stmt} {scope : Scope} {f : Addr} {fd : FuncData} {N ps : List Str} {k : Nat} (F : FunD K x qual params body scope [] [] f fd) (S : FnScope N ps scope) (hm : mg x = some (.ref f)) (kp : PySem.W.keepIn K (.ref f) = true) (b : Binds K fd ps []) :
    Df P w K mg base C x ps.length (k + 1) runBad := by
  refine ⟨f, fd, ps, hm, kp, b, F.ok S (fun vs H Q E h => ?_) (fun cdv A outer s H vs Q E hr hsp => ?_)⟩
  · obtain ⟨_, _, _, hl, _⟩ := h
    exact hl
  · obtain ⟨O, b, args, hl, dom, _, _, ra, z⟩ := hsp
    exact z.elim
end
end MP

set_option Elab.async false
set_option linter.all false
set_option maxRecDepth 100000
set_option maxHeartbeats 4000000
namespace MP
open PySem PySem.Spec L2 He
open PyProof.Rows hiding St

/-! ### the head's facts, with one more Bool -/
abbrev AlE : Type := AlD × Bool
def hookE (n : Nat) (fa : List Fa) (fn : List DefD) (ex : PySem.W.Frag → Bool) : PySem.W.Hook where
  α := AlE
  obs := fun s => (obsDG n fa fn s.heap.get?, ex (frG s.heap.get? (asD s.heap.get? n)))
  val := fun _ => (valD fn, true)
  says := fun _ h => ∃ K : PySem.W.Frag, K.In h ∧ SaysD fa fn K ∧ ex K = true
  of := fun _ _ e => ⟨_, frG_in, congrArg (fun z : AlE => z.1) e, congrArg (fun z : AlE => z.2) e⟩
  keeps := fun _ _ _ ⟨K, hK, c⟩ k => ⟨K, PySem.W.Frag.In.keeps hK k, c⟩
def obsEG (n : Nat) (fa : List Fa) (fn : List DefD) (ex : PySem.W.Frag → Bool) (g : Addr → Option Obj) : AlE := (obsDG n fa fn g, ex (frG g (asD g n)))
theorem obsEG_eq {n : Nat} {fa : List Fa} {fn : List DefD} {ex : PySem.W.Frag → Bool} {g : Addr → Option Obj} {s : Shared} (h : ∀ a, g a = s.heap.get? a) : obsEG n fa fn ex g = (hookE n fa fn ex).obs s := by
  have e : g = s.heap.get? := funext h
  rw [e] <;> rfl
/-! ### caught errors -/
def excB (K : PySem.W.Frag) (D0 : Addr) : Bool := eqO (PySem.W.findIn K (.ref D0) "__getattribute__") (some (some (.builtin "BaseException.__getattribute__"))) && (eqO (PySem.W.findIn K (.ref D0) "__getattr__") (some none) &&
  (decide (PySem.W.subIn K (.ref D0) (.type "BaseException") = some true) && (PySem.W.hasDictIn K D0 && (eqO (PySem.W.findIn K (.ref D0) "__class__") (some (some (.builtin "object.__class__"))) &&
  (eqO (PySem.W.specialIn K (.builtin "object.__class__") "__get__") (some (some (.builtin "getset_descriptor.__get__"))) && (decide (PySem.W.takesIn K (.builtin "object.__class__") = some true) && decide (PySem.W.mroIn K D0 (.type "object") = some true)))))))
theorem excB_ok {K : PySem.W.Frag} {D0 : Addr} (h : excB K D0 = true) : ExcC K D0 := by
  obtain ⟨h1, h⟩ := ba h
  obtain ⟨h2, h⟩ := ba h
  obtain ⟨h3, h⟩ := ba h
  obtain ⟨h4, h⟩ := ba h
  obtain ⟨h5, h⟩ := ba h
  obtain ⟨h6, h⟩ := ba h
  obtain ⟨h7, h8⟩ := ba h
  exact ⟨eqO_ok h1, eqO_ok h2, of_decide_eq_true h3, h4, eqO_ok h5, eqO_ok h6, of_decide_eq_true h7, of_decide_eq_true h8⟩
/-- an error of class x, an except clause of class y, isinstance asked of z -/
def caB (K : PySem.W.Frag) (x y z : Str) (r : Bool) : Bool := decide (PySem.W.exmOne K (.ref (ga K x)) (.ref (ga K y)) = some true) && (excB K (ga K x) && decide (PySem.W.kitOne K (.ref (ga K x)) (.ref (ga K z)) = some r))
theorem caB_ok {K : PySem.W.Frag} {x y z : Str} {r : Bool} (h : caB K x y z r = true) : PySem.W.exmOne K (.ref (ga K x)) (.ref (ga K y)) = some true ∧ ∃ D0, Value.ref (ga K x) = .ref D0 ∧ ExcC K D0 ∧ PySem.W.kitOne K (.ref D0) (.ref (ga K z)) = some r := by
  obtain ⟨h1, h⟩ := ba h
  obtain ⟨h2, h3⟩ := ba h
  exact ⟨of_decide_eq_true h1, _, rfl, excB_ok h2, of_decide_eq_true h3⟩
theorem er_of {K : PySem.W.Frag} {mg : Str → Option Value} {C : CT} {x : Str} {c : Nat} (hlt : c < 1000) (hC : C c = .ref (ga K x)) (hm : mg x = some (.ref (ga K x))) (h : (Fa.exc x).ok K = true) : Er K mg C x c := by
  obtain ⟨h1, h2, h3, h4⟩ := exc_ok h
  exact ⟨hlt, _, hC, hm, h1, h2, h3, h4⟩
/-! ### the end -/
theorem cx_no {P : Program} {w : World} {H : Hp} {s : Shared} {e : Value} {s' : Shared} (h : L2.CX P w [] H s (fun _ _ _ => False) e s') : False := by
  obtain ⟨a, B, H', cls, d, _, _, _, _, _, _, _, z⟩ := h
  exact z
theorem walk_lawT {l : PySem.W.OpenLaw} {n k : Nat} {q : Program} {loose : List Str} {XP : (Str → Option Value) → Heap → Prop} {YP : World → Heap → Prop} {d : DefRec} {x : Str} {f : UF}
    (hn : l.most = some n) (hn2 : n ≤ sizeLine) (hdf : d.params.defaults = []) (hr : Room k callerA) (hname : d.name = "law")
    (F : ∀ (w : World) (mg : Str → Option Value) (fa : Addr) (h : Heap), YP w h → h.Ns mainGlobals mg → mg "law" = some (.ref fa) →
      ∃ (K : PySem.W.Frag) (C : CT) (fd : FuncData) (cs : List (Addr × Addr)), K.In h ∧ (∀ p ∈ cs, h.get? p.2 = some { cls := .none, data := .fields #[] }) ∧ (∀ p ∈ cs, K.lookup p.2 = none) ∧ (∀ p ∈ cs, PySem.W.CodeHd h p.1 p.2) ∧ (∀ p ∈ C.T, ∃ q ∈ cs, q.2 = p.1) ∧ (∀ (s : Shared) (u : Value), BindsTo s fd ⟨[u], []⟩ [(x, u)]) ∧
        ∀ base : Heap, K.In base → base.Ns mainGlobals mg → (∀ p ∈ cs, LamX.TabB base mg p.1 p.2) → FnOk l.prog w K mg base (L2.CX l.prog w) k fa fd [x] (spU K C 1 f))
    (hf : ∀ ns : List Int, ns.length ≤ n → (∀ z ∈ ns, Builtin.Int.intBits z ≤ 1048576) → ∃ out, f [.va (.scr ns)] = .ok (.bl true) out) :
    PySem.W.WalkO q loose XP YP l.row.toRowW d [] (fun f vs => PySem.call f vs) := by
  refine Att.attach_callB hn hdf fun w s₀ s₁ mg mb fa o pm cd doc a vs ns G Y ho hd hcd hmg hobj hints hlen hbits hg => ?_
  obtain ⟨K, C, fd, cs, KX, hT, nT, hC, hTC, hb, hF⟩ := F w mg fa _ Y G.T.g (by rw [← hname]; exact hmg)
  refine LamX.law_callTs KX G.T.g G.T.b G.T.builtins G.T.nolimit hg hT nT hC G.T.bmain hobj hints (Nat.le_trans hlen hn2) hr hF hb (fun H hH hS => ?_) fun H e s' => cx_no
  obtain ⟨out, e⟩ := hf ns hlen hbits
  have at_ : ∀ p ∈ C.T, H p.1 = some (.tbl #[]) := fun p hp => by
    obtain ⟨q, hq, e⟩ := hTC p hp
    rw [← e]; exact hH q hq
  refine ⟨fun b => ∃ p ∈ C.T, p.1 = b, none, [.va (.scr ns)], rfl, fun b ⟨p, hp, e⟩ => ⟨(by rw [← e, at_ p hp]; intro z; cases z), fun ps _ => ⟨p, hp, e⟩⟩, fun p hp => ⟨p, hp, rfl⟩, fun p hp => LamX.TabS.nil (at_ p hp), ⟨rfl, ?_⟩, ?_⟩
  · simp only [ArgR]
    refine ⟨_, _, rfl, ?_, rfl⟩
    simp only [RelD]
    refine ⟨a, rfl, ?_⟩
    rcases hS with h | h
    · refine .inl ⟨h, fun ⟨p, hp, e⟩ => ?_⟩
      have := at_ p hp
      rw [e] at this
      rcases h with h | ⟨o, h⟩ <;> rw [this] at h <;> cases h
    · exact .inr h
  · rw [e]
    intro v H' _ r
    simp only [RelD] at r
    exact r
theorem walk_law {l : PySem.W.OpenLaw} {n k : Nat} {q : Program} {loose : List Str} {XP : (Str → Option Value) → Heap → Prop} {YP : World → Heap → Prop} {d : DefRec} {x : Str} {f : UF}
    (hn : l.most = some n) (hn2 : n ≤ sizeLine) (hdf : d.params.defaults = []) (hr : Room k callerA) (hname : d.name = "law")
    (F : ∀ (w : World) (mg : Str → Option Value) (fa : Addr) (h : Heap), YP w h → h.Ns mainGlobals mg → mg "law" = some (.ref fa) →
      ∃ (K : PySem.W.Frag) (C : Nat → Value) (fd : FuncData), K.In h ∧ (∀ (s : Shared) (u : Value), BindsTo s fd ⟨[u], []⟩ [(x, u)]) ∧
        ∀ base : Heap, K.In base → base.Ns mainGlobals mg → FnOk l.prog w K mg base (L2.CX l.prog w) k fa fd [x] (spU K ⟨C, [], fun _ => ""⟩ 1 f))
    (hf : ∀ ns : List Int, ns.length ≤ n → (∀ z ∈ ns, Builtin.Int.intBits z ≤ 1048576) → ∃ out, f [.va (.scr ns)] = .ok (.bl true) out) :
    PySem.W.WalkO q loose XP YP l.row.toRowW d [] (fun f vs => PySem.call f vs) :=
  walk_lawT hn hn2 hdf hr hname (fun w mg fa h Y hns hm => by
    obtain ⟨K, C, fd, KX, hb, hF⟩ := F w mg fa h Y hns hm
    exact ⟨K, ⟨C, [], fun _ => ""⟩, fd, [], KX, fun p hp => by simp at hp, fun p hp => by simp at hp, fun p hp => by simp at hp, fun p hp => by simp at hp, hb, fun base h1 h2 _ => hF base h1 h2⟩) hf
/-- what the law's def promises, with its parameter's name told -/
structure DfL (P : Program) (w : World) (K : PySem.W.Frag) (mg : Str → Option Value) (base : Heap) (C : CT) (fa : Addr) (fd : FuncData) (x : Str) (k : Nat) (f : UF) : Prop where
  ok : FnOk P w K mg base (L2.CX P w) k fa fd [x] (spU K C 1 f)
section
variable {P : Program} {w : World} {K : PySem.W.Frag} {mg : Str → Option Value} {base : Heap} {C : CT}
theorem law_ok {x qual : Str} {params : Arguments} {body : List Stmt} {scope : Scope} {f : Addr} {fd : FuncData} {N : List Str} {p : Str} {k : Nat} {m : MS} (F : FunD K x qual params body scope [] [] f fd) (S : FnScope N [p] scope)
    (h : ∀ (X : Cx) (W : WX), Cs P w K mg base N scope k X W → JB X C W body m) : FnOk P w K mg base (L2.CX P w) (k + 1) f fd [p] (spU K C 1 (runF 1 N.length m)) :=
  fn_ok F S fun X W c fn tk po hs hf => h X W ⟨⟨c, tk, S.nd⟩, fn, po, hs, hf⟩
end
theorem bts_of {K : PySem.W.Frag} {h : Heap} {mg : Str → Option Value} (X : K.In h) (G : h.Ns mainGlobals mg) (F : ∀ x, x ∈ (["len", "abs", "int", "max", "min", "sum", "all", "any", "list", "tuple", "sorted", "range", "zip", "isinstance", "bool", "str"] : List Str) → (Fa.free x).ok K = true) : Bts mg :=
  ⟨free_ok X G (F _ (by simp)), free_ok X G (F _ (by simp)), free_ok X G (F _ (by simp)), free_ok X G (F _ (by simp)), free_ok X G (F _ (by simp)), free_ok X G (F _ (by simp)), free_ok X G (F _ (by simp)), free_ok X G (F _ (by simp)),
   free_ok X G (F _ (by simp)), free_ok X G (F _ (by simp)), free_ok X G (F _ (by simp)), free_ok X G (F _ (by simp)), free_ok X G (F _ (by simp)), free_ok X G (F _ (by simp)), free_ok X G (F _ (by simp)), free_ok X G (F _ (by simp))⟩
end MP

set_option Elab.async false
set_option linter.all false
set_option maxRecDepth 100000
set_option maxHeartbeats 4000000
namespace MP
open PySem PySem.Spec L2
open PyProof.Rows hiding St

@[simp] theorem lId_ap  (v0 : Ev) (d : D) : lId  v0 d = (some d) := rfl
@[simp] theorem lPk_ap (i : Nat) (e : Ev) (v1 : D) : lPk i e v1 = (slotD e[i]?) := rfl
@[simp] theorem mPk_ap (i : Nat) (e : Ev) : mPk i e = (match slotD e[i]? with
  | some _ => .ok .non e
  | none => .bad) := rfl
@[simp] theorem mVar_ap (i : Nat) (e : Ev) : mVar i e = (match e[i]? with
  | some (Sl.va d) => .ok d e
  | some (Sl.ow (.lst xs)) => .ok (.lst xs) (e.set i (.va (.lst xs)))
  | _ => .bad) := rfl
@[simp] theorem mC_ap (d : D) (e : Ev) : mC d e = (.ok d e) := rfl
@[simp] theorem mU_ap (f : D → Option D) (m : ME) (l : Ev → D → Option D) (e : Ev) : mU f m l e = (match m e with
  | .ok x e1 => (match l e1 x with
    | some a => (match f a with
      | some d => .ok d e1
      | none => .bad)
    | none => .bad)
  | .ex c e1 => .ex c e1
  | .bad => .bad) := rfl
@[simp] theorem mB_ap (f : D → D → Option D) (m1 : ME) (l1 : Ev → D → Option D) (m2 : ME) (l2 : Ev → D → Option D) (e : Ev) : mB f m1 l1 m2 l2 e = (match m1 e with
  | .ok x e1 => (match m2 e1 with
    | .ok y e2 => (match l1 e2 x with
      | some a => (match l2 e2 y with
        | some b => (match f a b with
          | some d => .ok d e2
          | none => .bad)
        | none => .bad)
      | none => .bad)
    | .ex c e2 => .ex c e2
    | .bad => .bad)
  | .ex c e1 => .ex c e1
  | .bad => .bad) := rfl
@[simp] theorem maNil_ap  (e : Ev) : maNil  e = (.ok [] e) := rfl
@[simp] theorem laNil_ap  (v0 : Ev) (v1 : List D) : laNil  v0 v1 = (some []) := rfl
@[simp] theorem maCons_ap (m : ME) (ma : MA) (e : Ev) : maCons m ma e = (match m e with
  | .ok x e1 => (match ma e1 with
    | .ok xs e2 => .ok (x :: xs) e2
    | .ex c e2 => .ex c e2
    | .bad => .bad)
  | .ex c e1 => .ex c e1
  | .bad => .bad) := rfl
@[simp] theorem laCons_ap (l : Ev → D → Option D) (la : Ev → List D → Option (List D)) (e : Ev) (ds : List D) : laCons l la e ds = (match ds with
  | x :: xs => (match l e x with
    | some d => (match la e xs with
      | some r => some (d :: r)
      | none => none)
    | none => none)
  | [] => none) := rfl
@[simp] theorem mCall_ap (f : List D → Option D) (ma : MA) (la : Ev → List D → Option (List D)) (e : Ev) : mCall f ma la e = (match ma e with
  | .ok xs e1 => (match la e1 xs with
    | some ds => (match f ds with
      | some d => .ok d e1
      | none => .bad)
    | none => .bad)
  | .ex c e1 => .ex c e1
  | .bad => .bad) := rfl
@[simp] theorem mvNil_ap  (e : Ev) : mvNil  e = (.ok [] e) := rfl
@[simp] theorem mTup_ap (ma : MA) (e : Ev) : mTup ma e = (match ma e with
  | .ok xs e1 => (match Nat.ble xs.length line with
    | true => .ok (.tup xs) e1
    | false => .bad)
  | .ex c e1 => .ex c e1
  | .bad => .bad) := rfl
@[simp] theorem mLst_ap (ma : MA) (e : Ev) : mLst ma e = (match ma e with
  | .ok xs e1 => (match Nat.ble xs.length line with
    | true => .ok (.lst xs) e1
    | false => .bad)
  | .ex c e1 => .ex c e1
  | .bad => .bad) := rfl
@[simp] theorem mAnd_ap (m1 m2 : ME) (e : Ev) : mAnd m1 m2 e = (match m1 e with
  | .ok (.bl true) e1 => m2 e1
  | .ok (.bl false) e1 => .ok (.bl false) e1
  | .ok _ _ => .bad
  | .ex c e1 => .ex c e1
  | .bad => .bad) := rfl
@[simp] theorem mOr_ap (m1 m2 : ME) (e : Ev) : mOr m1 m2 e = (match m1 e with
  | .ok (.bl true) e1 => .ok (.bl true) e1
  | .ok (.bl false) e1 => m2 e1
  | .ok _ _ => .bad
  | .ex c e1 => .ex c e1
  | .bad => .bad) := rfl
@[simp] theorem mNot_ap (m : ME) (e : Ev) : mNot m e = (match m e with
  | .ok (.bl b) e1 => .ok (.bl (!b)) e1
  | .ok _ _ => .bad
  | .ex c e1 => .ex c e1
  | .bad => .bad) := rfl
@[simp] theorem mIf_ap (mc m1 m2 : ME) (e : Ev) : mIf mc m1 m2 e = (match mc e with
  | .ok (.bl true) e1 => m1 e1
  | .ok (.bl false) e1 => m2 e1
  | .ok _ _ => .bad
  | .ex c e1 => .ex c e1
  | .bad => .bad) := rfl
@[simp] theorem mChain_ap (f g : D → D → Option D) (m1 : ME) (l1 : Ev → D → Option D) (m2 : ME) (l2 : Ev → D → Option D) (m3 : ME) (l3 : Ev → D → Option D) (e : Ev) : mChain f g m1 l1 m2 l2 m3 l3 e = (match m1 e with
  | .ok x e1 => (match m2 e1 with
    | .ok y e2 => (match l1 e2 x with
      | some a => (match l2 e2 y with
        | some b => (match f a b with
          | some (.bl true) => (match m3 e2 with
            | .ok w e3 => (match l2 e3 y with
              | some b' => (match l3 e3 w with
                | some c => (match g b' c with
                  | some d => .ok d e3
                  | none => .bad)
                | none => .bad)
              | none => .bad)
            | .ex c e3 => .ex c e3
            | .bad => .bad)
          | some (.bl false) => .ok (.bl false) e2
          | _ => .bad)
        | none => .bad)
      | none => .bad)
    | .ex c e2 => .ex c e2
    | .bad => .bad)
  | .ex c e1 => .ex c e1
  | .bad => .bad) := rfl
@[simp] theorem mSl_ap (m : ME) (l : Ev → D → Option D) (m1 m2 : ME) (e : Ev) : mSl m l m1 m2 e = (match m e with
  | .ok x e1 => (match m1 e1 with
    | .ok a e2 => (match prt a with
      | some lo => (match m2 e2 with
        | .ok b e3 => (match prt b with
          | some hi => (match l e3 x with
            | some y => (match fSl y lo hi with
              | some d => .ok d e3
              | none => .bad)
            | none => .bad)
          | none => .bad)
        | .ex c e3 => .ex c e3
        | .bad => .bad)
      | none => .bad)
    | .ex c e2 => .ex c e2
    | .bad => .bad)
  | .ex c e1 => .ex c e1
  | .bad => .bad) := rfl
@[simp] theorem mIt_ap (m : ME) (e : Ev) : mIt m e = (match m e with
  | .ok (.lst xs) e1 => .ok xs e1
  | .ok (.tup xs) e1 => .ok xs e1
  | .ok _ _ => .bad
  | .ex c e1 => .ex c e1
  | .bad => .bad) := rfl
@[simp] theorem mRange1_ap (ma : MA) (e : Ev) : mRange1 ma e = (match ma e with
  | .ok [.int j] e1 => (match big j with
    | true => .ok (ups 0 j.toNat) e1
    | false => .bad)
  | .ok _ _ => .bad
  | .ex c e1 => .ex c e1
  | .bad => .bad) := rfl
@[simp] theorem mRange2_ap (ma : MA) (e : Ev) : mRange2 ma e = (match ma e with
  | .ok [.int i, .int j] e1 => (match big i && big j with
    | true => .ok (ups i (j - i).toNat) e1
    | false => .bad)
  | .ok _ _ => .bad
  | .ex c e1 => .ex c e1
  | .bad => .bad) := rfl
@[simp] theorem mZip_ap (ma : MA) (e : Ev) : mZip ma e = (match ma e with
  | .ok [.lst xs, .lst ys] e1 => .ok (pairs xs ys) e1
  | .ok [.tup xs, .tup ys] e1 => .ok (pairs xs ys) e1
  | .ok _ _ => .bad
  | .ex c e1 => .ex c e1
  | .bad => .bad) := rfl
@[simp] theorem mgName_ap (i : Nat) (d : D) (env : Ev) : mgName i d env = (match Nat.blt i env.length with
  | true => some (env.set i (.va d))
  | false => none) := rfl
@[simp] theorem mgsNil_ap  (ds : List D) (env : Ev) : mgsNil  ds env = (match ds with
  | [] => some env
  | _ => none) := rfl
@[simp] theorem mgsCons_ap (m : MT) (ms : List D → Ev → Option Ev) (ds : List D) (env : Ev) : mgsCons m ms ds env = (match ds with
  | d :: r => (match m d env with
    | some e1 => ms r e1
    | none => none)
  | [] => none) := rfl
@[simp] theorem mgTup_ap (n : Nat) (ms : List D → Ev → Option Ev) (d : D) (env : Ev) : mgTup n ms d env = (match d with
  | .tup ds => (match Nat.beq ds.length n with
    | true => ms ds env
    | false => none)
  | _ => none) := rfl
@[simp] theorem mLc_ap (mi : MA) (vs : List Nat) (mg : MT) (mt : ME) (me : ME) (env : Ev) : mLc mi vs mg mt me env = (match mi env with
  | .ok ds e1 => (match Nat.blt ds.length line with
    | true => (match lcGo mg mt me (wipeE (e1.map roE) vs) ds [] with
      | some ys => .ok (.lst ys) e1
      | none => .bad)
    | false => .bad)
  | .ex c e1 => .ex c e1
  | .bad => .bad) := rfl
@[simp] theorem mYes_ap  (e : Ev) : mYes  e = (.ok (.bl true) e) := rfl
@[simp] theorem mAsV_ap (m : ME) (e : Ev) : mAsV m e = (match m e with
  | .ok (.lst xs) e1 => .ok (.lst xs) e1
  | .ok _ _ => .bad
  | .ex c e1 => .ex c e1
  | .bad => .bad) := rfl
@[simp] theorem mNewD_ap  (e : Ev) : mNewD  e = (.ok (.dct [] []) e) := rfl
@[simp] theorem mNewT_ap  (e : Ev) : mNewT  e = (.ok (.dtp [] []) e) := rfl
@[simp] theorem mRep_ap (m1 m2 : ME) (e : Ev) : mRep m1 m2 e = (match m1 e with
  | .ok (.lst a) e1 => (match m2 e1 with
    | .ok (.int k) e2 => (match Nat.ble (a.length * k.toNat) line && (decide (-(2 ^ 63) ≤ k) && decide (k < 2 ^ 63)) with
      | true => .ok (.lst (List.replicate k.toNat a).flatten) e2
      | false => .bad)
    | .ok _ _ => .bad
    | .ex c e2 => .ex c e2
    | .bad => .bad)
  | .ok _ _ => .bad
  | .ex c e1 => .ex c e1
  | .bad => .bad) := rfl
@[simp] theorem mUser_ap (f : UF) (ma : MA) (e : Ev) : mUser f ma e = (match ma e with
  | .ok ds e1 => (match f (ds.map Sl.va) with
    | .ok d _ => .ok d e1
    | .ex c _ => .ex c e1
    | .bad => .bad)
  | .ex c e1 => .ex c e1
  | .bad => .bad) := rfl
@[simp] theorem mUser0_ap (f : UF) (e : Ev) : mUser0 f e = (match f [] with
  | .ok d _ => .ok d e
  | _ => .bad) := rfl
@[simp] theorem mSeq_ap (m1 m2 : MS) (e : Ev) : mSeq m1 m2 e = (match m1 e with
  | .nx e1 => m2 e1
  | r => r) := rfl
@[simp] theorem mSkip_ap  (e : Ev) : mSkip  e = (.nx e) := rfl
@[simp] theorem mDoc_ap  (e : Ev) : mDoc  e = (.nx e) := rfl
@[simp] theorem mBrk_ap  (e : Ev) : mBrk  e = (.bk e) := rfl
@[simp] theorem mCnt_ap  (e : Ev) : mCnt  e = (.ct e) := rfl
@[simp] theorem mRet_ap (m : ME) (e : Ev) : mRet m e = (match m e with
  | .ok d e1 => .rt d e1
  | .ex c e1 => .ex c e1
  | .bad => .bad) := rfl
@[simp] theorem mRetN_ap  (e : Ev) : mRetN  e = (.rt .non e) := rfl
@[simp] theorem mDrop_ap (m : ME) (e : Ev) : mDrop m e = (match m e with
  | .ok _ e1 => .nx e1
  | .ex c e1 => .ex c e1
  | .bad => .bad) := rfl
@[simp] theorem mIfS_ap (mc : ME) (m1 m2 : MS) (e : Ev) : mIfS mc m1 m2 e = (match mc e with
  | .ok (.bl true) e1 => m1 e1
  | .ok (.bl false) e1 => m2 e1
  | .ok _ _ => .bad
  | .ex c e1 => .ex c e1
  | .bad => .bad) := rfl
@[simp] theorem mSet_ap (i : Nat) (m : ME) (e : Ev) : mSet i m e = (match m e with
  | .ok d e1 => (match Nat.blt i e1.length with
    | true => .nx (e1.set i (.va d))
    | false => .bad)
  | .ex c e1 => .ex c e1
  | .bad => .bad) := rfl
@[simp] theorem mOwn_ap (i : Nat) (m : ME) (e : Ev) : mOwn i m e = (match m e with
  | .ok d e1 => (match Nat.blt i e1.length with
    | true => .nx (e1.set i (.ow d))
    | false => .bad)
  | .ex c e1 => .ex c e1
  | .bad => .bad) := rfl
@[simp] theorem mAsg_ap (mg : MT) (m : ME) (e : Ev) : mAsg mg m e = (match m e with
  | .ok d e1 => (match mg d e1 with
    | some e2 => .nx e2
    | none => .bad)
  | .ex c e1 => .ex c e1
  | .bad => .bad) := rfl
@[simp] theorem mPar_ap (i j : Nat) (ma : MA) (e : Ev) : mPar i j ma e = (match ma e with
  | .ok [a, b] e1 => (match Nat.blt i e1.length && Nat.blt j e1.length with
    | true => .nx ((e1.set i (.va a)).set j (.va b))
    | false => .bad)
  | .ok _ _ => .bad
  | .ex c e1 => .ex c e1
  | .bad => .bad) := rfl
@[simp] theorem mAug_ap (i : Nat) (f : D → D → Option D) (m : ME) (e : Ev) : mAug i f m e = (match e[i]? with
  | some (.va x) => (match m e with
    | .ok y e1 => (match f x y with
      | some d => (match Nat.blt i e1.length with
        | true => .nx (e1.set i (.va d))
        | false => .bad)
      | none => .bad)
    | .ex c e1 => .ex c e1
    | .bad => .bad)
  | _ => .bad) := rfl
@[simp] theorem mFor_ap (mi : MA) (mg : MT) (mb : MS) (e : Ev) : mFor mi mg mb e = (match mi e with
  | .ok ds e1 => forGo mg mb ds e1
  | .ex c e1 => .ex c e1
  | .bad => .bad) := rfl
@[simp] theorem mWhile_ap (n : Nat) (mc : ME) (mb : MS) (e : Ev) : mWhile n mc mb e = (whileGo mc mb n e) := rfl
@[simp] theorem mUserB_ap (f : UF) (i : Nat) (ma : MA) (e : Ev) : mUserB f i ma e = (match slotD e[i]? with
  | some _ => (match ma e with
    | .ok ds e1 => (match (e1[i]? : Option Sl) with
      | some (Sl.ow d) => (match f (.bo d :: ds.map Sl.va) with
        | .ok r (some d') => .ok r (e1.set i (.ow d'))
        | .ex c (some d') => .ex c (e1.set i (.ow d'))
        | _ => .bad)
      | some (Sl.bo d) => (match f (.bo d :: ds.map Sl.va) with
        | .ok r (some d') => .ok r (e1.set i (.bo d'))
        | .ex c (some d') => .ex c (e1.set i (.bo d'))
        | _ => .bad)
      | _ => .bad)
    | .ex c e1 => .ex c e1
    | .bad => .bad)
  | none => .bad) := rfl
@[simp] theorem mApp_ap (i : Nat) (m : ME) (e : Ev) : mApp i m e = (match atC e i with
  | some (.lst _) => (match m e with
    | .ok d e1 => (match atC e1 i with
      | some (.lst xs) => (match Nat.blt xs.length line with
        | true => .nx (kput e1 i (.lst (xs ++ [d])))
        | false => .bad)
      | _ => .bad)
    | .ex c e1 => .ex c e1
    | .bad => .bad)
  | _ => .bad) := rfl
@[simp] theorem mSub_ap (i : Nat) (mi mv : ME) (e : Ev) : mSub i mi mv e = (match mv e with
  | .ok d e1 => (match atC e1 i with
    | some (.lst _) => (match mi e1 with
      | .ok (.int k) e2 => (match atC e2 i with
        | some (.lst xs) => (match ixN xs.length k with
          | some j => .nx (kput e2 i (.lst (xs.set j d)))
          | none => .bad)
        | _ => .bad)
      | .ok _ _ => .bad
      | .ex c e2 => .ex c e2
      | .bad => .bad)
    | _ => .bad)
  | .ex c e1 => .ex c e1
  | .bad => .bad) := rfl
@[simp] theorem mRaise_ap (c : Nat) (e : Ev) : mRaise c e = (.ex c e) := rfl
@[simp] theorem mNever_ap  (v0 : Ev) : mNever  v0 = (.bad) := rfl
@[simp] theorem mDGet_ap (i : Nat) (mk : ME) (e : Ev) : mDGet i mk e = (match dctAt e i with
  | some _ => (match mk e with
    | .ok kd e1 => (match kyD kd with
      | some q => (match dctAt e1 i with
        | some (ks, xs) => (match dget ks xs q with
          | some d => .ok d e1
          | none => .bad)
        | none => .bad)
      | none => .bad)
    | .ex c e1 => .ex c e1
    | .bad => .bad)
  | none => .bad) := rfl
@[simp] theorem mDGet2_ap (i : Nat) (mk mx : ME) (e : Ev) : mDGet2 i mk mx e = (match dctAt e i with
  | some _ => (match mk e with
    | .ok kd e1 => (match mx e1 with
      | .ok dx e2 => (match kyD kd with
        | some q => (match dctAt e2 i with
          | some (ks, xs) => (match dget ks xs q with
            | some d => .ok d e2
            | none => .ok dx e2)
          | none => .bad)
        | none => .bad)
      | .ex c e2 => .ex c e2
      | .bad => .bad)
    | .ex c e1 => .ex c e1
    | .bad => .bad)
  | none => .bad) := rfl
@[simp] theorem mDPut_ap (i : Nat) (mk mv : ME) (e : Ev) : mDPut i mk mv e = (match mv e with
  | .ok d e1 => (match dctC e1 i with
    | some _ => (match mk e1 with
      | .ok kd e2 => (match kyD kd with
        | some q => (match dctC e2 i with
          | some (ks, xs) => (match Nat.blt ks.length line with
            | true => .nx (kput e2 i (dput ks xs q d))
            | false => .bad)
          | none => .bad)
        | none => .bad)
      | .ex c e2 => .ex c e2
      | .bad => .bad)
    | none => .bad)
  | .ex c e1 => .ex c e1
  | .bad => .bad) := rfl
@[simp] theorem mTryApp_ap (mb : MS) (ex : Nat → Option Bool) (i j : Nat) (e : Ev) : mTryApp mb ex i j e = (match mb e with
  | .ex c e1 => (match ex c with
    | some r => (match atC (e1.set i .no) j with
      | some (.lst xs) => (match Nat.blt i e1.length && Nat.blt xs.length line with
        | true => .nx ((kput (e1.set i .no) j (.lst (xs ++ [.bl r]))).set i .no)
        | false => .bad)
      | _ => .bad)
    | none => .bad)
  | r => r) := rfl
@[simp] theorem mListR1_ap (m : ME) (e : Ev) : mListR1 m e = (match m e with
  | .ok (.int n) e1 => (match decide (0 ≤ n) && decide (n ≤ 16777216) with
    | true => .ok (.lst (upsD 0 n)) e1
    | false => .bad)
  | .ok _ _ => .bad
  | .ex c e1 => .ex c e1
  | .bad => .bad) := rfl
@[simp] theorem mListR2_ap (m1 m2 : ME) (e : Ev) : mListR2 m1 m2 e = (match m1 e with
  | .ok (.int a) e1 => (match m2 e1 with
    | .ok (.int b) e2 => (match (decide (0 ≤ a) && decide (a ≤ 16777216)) && (decide (0 ≤ b) && decide (b ≤ 16777216)) with
      | true => .ok (.lst (upsD a b)) e2
      | false => .bad)
    | .ok _ _ => .bad
    | .ex c e2 => .ex c e2
    | .bad => .bad)
  | .ok _ _ => .bad
  | .ex c e1 => .ex c e1
  | .bad => .bad) := rfl
@[simp] theorem mNoRt_ap (m : MS) (e : Ev) : mNoRt m e = (match m e with
  | .nx e1 => .nx e1
  | _ => .bad) := rfl
@[simp] theorem mPrt_ap (m : ME) (env : Ev) : mPrt m env = (match m env with
  | .ok (.int i) e1 => .ok (.int i) e1
  | .ok _ _ => .bad
  | .ex c e1 => .ex c e1
  | .bad => .bad) := rfl
@[simp] theorem mUserN_ap (f : UF) (ma : MA) (e : Ev) : mUserN f ma e = (match ma e with
  | .ok ds e1 => (match f (ds.map Sl.va) with
    | .ok d _ => .ok d e1
    | _ => .bad)
  | .ex c e1 => .ex c e1
  | .bad => .bad) := rfl
end MP

set_option Elab.async false
set_option linter.all false
set_option maxRecDepth 100000
set_option maxHeartbeats 4000000
namespace MP
open PySem PySem.Spec L2
open PyProof.Rows hiding St

/-! ### how many different ints: len(set(..)) -/
def ddI : List Int → List Int
  | [] => []
  | x :: r => (match decide (x ∈ ddI r) with
    | true => ddI r
    | false => x :: ddI r)
theorem ddI_spec : ∀ l : List Int, (ddI l).Nodup ∧ ∀ k, k ∈ ddI l ↔ k ∈ l
  | [] => ⟨List.nodup_nil, fun k => Iff.rfl⟩
  | x :: r => by
    obtain ⟨h1, h2⟩ := ddI_spec r
    unfold ddI
    by_cases h : x ∈ ddI r
    · rw [decide_eq_true h]
      exact ⟨h1, fun k => by rw [List.mem_cons, h2]; exact ⟨.inr, fun q => q.elim (fun e => by rw [e]; exact (h2 x).mp h) id⟩⟩
    · rw [decide_eq_false h]
      exact ⟨List.nodup_cons.mpr ⟨h, h1⟩, fun k => by rw [List.mem_cons, List.mem_cons, h2]⟩
theorem dd_len {l ks : List Int} (h : ks.Nodup) (m : ∀ k, k ∈ ks ↔ k ∈ l) : ks.length = (ddI l).length :=
  ((List.perm_ext_iff_of_nodup h (ddI_spec l).1).mpr fun k => (m k).trans ((ddI_spec l).2 k).symm).length_eq
theorem first_spec (ns : List Int) : ∀ i, i ≤ ns.length → (firstMet (fun i => ns.getD i 0) i).Nodup ∧ ∀ k, k ∈ firstMet (fun i => ns.getD i 0) i ↔ k ∈ ns.take i
  | 0, _ => by rw [firstMet_zero]; simp
  | i + 1, hi => by
    obtain ⟨h1, h2⟩ := first_spec ns i (by omega)
    have hd : ns.getD i 0 = ns[i] := by rw [List.getD_eq_getElem?_getD, List.getElem?_eq_getElem (by omega)]; rfl
    rw [firstMet_succ, List.take_succ_eq_append_getElem (by omega), ← hd]
    generalize ns.getD i 0 = x
    unfold step_dedup
    split
    · rename_i q
      refine ⟨h1, fun k => ?_⟩
      rw [List.mem_append, h2, List.mem_singleton]
      refine ⟨.inl, fun z => z.elim id fun e => ?_⟩
      rw [e, ← h2]
      simpa using q
    · rename_i q
      refine ⟨List.nodup_append.mpr ⟨h1, by simp, fun a ha b hb e => q ?_⟩, fun k => by rw [List.mem_append, List.mem_append, h2]⟩
      rw [List.mem_singleton] at hb
      rw [← hb, ← e]
      simpa using ha
section
variable {X : Cx}
def tLenSetG (K : PySem.W.Frag) (ta : TE) : TE := fun σ H Q => ta σ H fun x H1 => ∃ (l : Addr) (ns : List Int), x = V.ref l ∧ (SqL K H1 l (ns.map V.int) ∨ SqT K H1 l (ns.map V.int)) ∧ ns.length < 64 ∧ Q (.int (ddI ns).length) H1
theorem pe_lenSetG {a : Expr} {ta : TE} {p p2 q pos : Pos} (hc : X.calm = true) (hg : Gl X "len") (hm : X.mg "len" = none) (hg2 : Gl X "set") (hm2 : X.mg "set" = none) (ha : PE X a ta)
    (na : starEach [a] X.env = (false, eval a X.env) :: starEach [] X.env) : PE X (.Call (.Name "len" p) [.Call (.Name "set" p2) [a] [] q] [] pos) (tLenSetG X.K ta) := by
  refine ⟨fun pins s σ H Q I h => ?_⟩
  refine Call_ (ld_blt I hg hm PySem.boot_len ?_)
  refine PyProof.Rows.callWith_builtin1 (PyProof.Rows.args_cons ?_ rfl) rfl rfl
  refine Call_ (ld_blt I hg2 hm2 PyProof.Rows.boot_set ?_)
  refine PyProof.Rows.callWith_type1 (PyProof.Rows.args_cons (thn (ha.run pins s σ H _ I h) fun v s1 ⟨x, H1, I1, r1, q1⟩ => PyProof.Rows.args_nil ?_) na) na rfl
  obtain ⟨l, ns, rfl, hq, h1, q1⟩ := q1
  cases r1
  rcases hq with hq | hq
  · obtain ⟨its, r, pl, hz⟩ := I1.list hq
    have hl : its.toArray.size = ns.length := by rw [List.size_toArray, ← r.length, List.length_map]
    refine call_set_list (I1.ok.hd hc) pl.isList (ns := ns) (by simpa using r.ints) (by unfold scanBound; omega) fun h' tk hS hk => ?_
    obtain ⟨f1, f2⟩ := first_spec ns ns.length (Nat.le_refl _)
    rw [List.take_length] at f2
    rw [hl, dd_len f1 f2] at hS
    refine PyProof.Rows.args_nil ?_
    obtain ⟨o, es, ep, t, ho, hex, hd, _, _, _, hf, hn⟩ := hS
    have le : (ddI ns).length ≤ 64 := by
      rw [← dd_len f1 f2]
      exact Nat.le_trans (firstMet_length_le _ _) (by omega)
    have I2 : Inv X pins σ H1 { s1 with heap := h', toks := tk } := I1.kept fun b o e => hk b o (Heap.lt_size e) e
    refine call_len_set ho hex hd hf (by rw [hn] <;> omega) ⟨.int (ddI ns).length, H1, I2.tok _, ⟨_, by rw [hn]⟩, q1⟩
  · obtain ⟨its, rv, pt, hz⟩ := I1.tuple hq
    have hi : IntsAre its.toArray.toList ns := ints_of_vals rv
    refine call_set_tupI ns (I1.ok.hd hc) (show s1.heap.IsTuple l its.toArray from pt) hi (by unfold scanBound; omega) fun h' tk c R1 hcn k => ?_
    obtain ⟨o, es, ep, t, ho, hex, hdt, g, nd, hm2, hb, hf, hn, hr, hl2⟩ := R1
    have e1 : (es.toList.map keyOf).length = (ddI ns).length := dd_len nd fun j => by rw [← hm2 j, decide_eq_true_eq]
    rw [List.length_map, Array.length_toList] at e1
    refine PyProof.Rows.args_nil ?_
    have I2 : Inv X pins σ H1 { s1 with heap := h', toks := tk } := I1.kept fun b o e => k b o e
    refine call_len_set ho hex hdt hf (by rw [hn] <;> omega) ⟨.int (ddI ns).length, H1, I2.tok _, ⟨_, by rw [e1]⟩, q1⟩
end
def bLenSet : D → Option D
  | .lst xs => (match intsOf xs with
    | some ns => (match Nat.blt ns.length 64 with
      | true => some (.int (ddI ns).length)
      | false => none)
    | none => none)
  | .tup xs => (match intsOf xs with
    | some ns => (match Nat.blt ns.length 64 with
      | true => some (.int (ddI ns).length)
      | false => none)
    | none => none)
  | _ => none
section
variable {X : Cx} {C : CT} {W : WX}
theorem j_lenSet {a : Expr} {m : ME} {l : Ev → D → Option D} {p p2 q pos : Pos} (hc : X.calm = true) (hg : Gl X "len") (hm : X.mg "len" = none) (hg2 : Gl X "set") (hm2 : X.mg "set" = none) (ha : JO X C W a m l)
    (na : starEach [a] X.env = (false, eval a X.env) :: starEach [] X.env) : JE X C W (.Call (.Name "len" p) [.Call (.Name "set" p2) [a] [] q] [] pos) (mU bLenSet m l) := by
  obtain ⟨t, pa, qa⟩ := ha.run
  refine ⟨_, pe_lenSetG hc hg hm hg2 hm2 pa na, fun F env σ H Q k s z => qa F env σ H _ k s ?_⟩
  unfold mU at z
  cases e1 : m env with
  | bad => rw [e1] at z; exact z
  | ex c env1 => rw [e1] at z; exact z
  | ok x env1 =>
    rw [e1] at z
    refine fun v H1 s1 x1 lt => ?_
    dsimp only at z
    cases e2 : l env1 x with
    | none => rw [e2] at z; exact z.elim
    | some a1 =>
      rw [e2] at z
      dsimp only at z
      have pr := lt env1 H1 s1 .refl a1 e2
      rw [k.1] at pr
      cases a1 with
      | lst xs =>
        obtain ⟨b, ws, rfl, q1, r1⟩ := p_lst pr
        cases e3 : intsOf xs with
        | none => simp only [bLenSet, e3] at z; exact z.elim
        | some ns =>
          simp only [bLenSet, e3] at z
          have i1 := intsOf_ok e3
          subst i1
          rw [p_ints r1] at q1
          cases hl : Nat.blt ns.length 64 with
          | false => rw [hl] at z; exact z.elim
          | true =>
            rw [hl] at z
            exact ⟨b, ns, rfl, .inl (.inl (.inl q1)), Nat.le_of_ble_eq_true hl, z _ H1 s1 x1 (by simp only [RelD])⟩
      | tup xs =>
        obtain ⟨_, b, ws, rfl, q1, r1⟩ := p_tup pr
        cases e3 : intsOf xs with
        | none => simp only [bLenSet, e3] at z; exact z.elim
        | some ns =>
          simp only [bLenSet, e3] at z
          have i1 := intsOf_ok e3
          subst i1
          rw [p_ints r1] at q1
          cases hl : Nat.blt ns.length 64 with
          | false => rw [hl] at z; exact z.elim
          | true =>
            rw [hl] at z
            exact ⟨b, ns, rfl, .inr q1, Nat.le_of_ble_eq_true hl, z _ H1 s1 x1 (by simp only [RelD])⟩
      | _ => exact z.elim
end
/-! ### a tuple of texts of the module -/
def strsB : List Value → List (List Nat) → Bool
  | [], ws => (match ws with
    | [] => true
    | _ => false)
  | u :: r, ws => (match ws with
    | [] => false
    | w :: ws => (match u with
      | .str s _ => decide (s = ⟨w.toArray⟩) && strsB r ws
      | _ => false))
theorem strsB_ok : ∀ {us : List Value} {ws : List (List Nat)}, strsB us ws = true → Vals (ws.map fun w => V.str ⟨w.toArray⟩) us
  | [], [], _ => .nil
  | [], _ :: _, h => by simp [strsB] at h
  | _ :: _, [], h => by simp [strsB] at h
  | u :: r, w :: ws, h => by
    cases u <;> simp only [strsB, Bool.and_eq_true, decide_eq_true_eq] at h <;> try (cases h; done)
    rename_i s t
    exact .cons ⟨t, by rw [h.1]⟩ (strsB_ok h.2)
/-- the module's name x: a tuple of texts -/
def tupSB (K : PySem.W.Frag) (x : Str) (ws : List (List Nat)) : Bool := match K.lookup (He.ga K x) with
  | some o => (match o.cls with
    | .type c => decide (c = "tuple")
    | _ => false) && (match o.data with
    | .seq its _ => decide (its.size ≤ 1000) && strsB its.toList ws
    | _ => false)
  | none => false
def tupSD (ws : List (List Nat)) : D := .tup (ws.map D.str)
theorem relL_strs {K : PySem.W.Frag} {H : Hp} {O : Addr → Prop} : ∀ ws : List (List Nat), RelL K H O (ws.map D.str) (ws.map fun w => V.str ⟨w.toArray⟩)
  | [] => by simp only [List.map_nil, RelL]
  | w :: ws => by
    simp only [List.map_cons, RelL]
    exact ⟨_, _, rfl, by simp only [RelD], relL_strs ws⟩
theorem tupSB_ok {K : PySem.W.Frag} {x : Str} {ws : List (List Nat)} (h : tupSB K x ws = true) (H : Hp) (O : Addr → Prop) : RelD K H O (tupSD ws) (.ref (He.ga K x)) := by
  unfold tupSB at h
  cases e : K.lookup (He.ga K x) with
  | none => rw [e] at h; cases h
  | some o =>
    rw [e] at h
    dsimp only at h
    rw [Bool.and_eq_true] at h
    obtain ⟨h1, h2⟩ := h
    cases e1 : o.cls <;> rw [e1] at h1 <;> simp only [decide_eq_true_eq] at h1 <;> try (cases h1; done)
    cases e2 : o.data <;> rw [e2] at h2 <;> simp only [Bool.and_eq_true, decide_eq_true_eq] at h2 <;> try (cases h2; done)
    unfold tupSD
    simp only [RelD]
    exact ⟨_, _, rfl, .inr ⟨o, _, _, e, by rw [e1, h1], e2, Nat.le_trans h2.1 (by rw [sizeLine_eq]; omega), strsB_ok h2.2⟩, relL_strs ws⟩
section
variable {P : Program} {w : World} {K : PySem.W.Frag} {mg : Str → Option Value} {base : Heap} {N : List Str} {sc : Scope} {k : Nat} {X : Cx} {C : CT} {W : WX}
theorem g_tupS (c : Cw P w K mg base N sc k X W) {x : Str} {ws : List (List Nat)} {pos : Pos} (n : Ng sc x) (h : mg x = some (.ref (He.ga K x)) ∧ tupSB K x ws = true) : JE X C W (.Name x pos) (mC (tupSD ws)) :=
  x_glob (v := .ref (He.ga K x)) c.c n h.1 rfl fun H O => tupSB_ok h.2 H O
theorem x_lenSet (c : Cw P w K mg base N sc k X W) (B : Bts mg) (hset : mg "set" = none) {a : Expr} {m : ME} {l : Ev → D → Option D} {p p2 q pos : Pos} (ha : JO X C W a m l) (g : Ng sc "len") (g2 : Ng sc "set")
    (na : starEach [a] X.env = (false, eval a X.env) :: starEach [] X.env) : JE X C W (.Call (.Name "len" p) [.Call (.Name "set" p2) [a] [] q] [] pos) (mU bLenSet m l) :=
  j_lenSet c.c.calm (c.c.gl g) (c.mn B.len) (c.c.gl g2) (c.mn hset) ha na
end
end MP

set_option Elab.async false
set_option linter.all false
set_option maxRecDepth 100000
set_option maxHeartbeats 4000000
namespace MP
open PySem PySem.Spec L2
open PyProof.Rows hiding St

/-! ### what a lambda's body sees -/
def lamF (F : Fx) (env : Ev) (σ : St) (H : Hp) : Fx := ⟨F.K, fun a => Ow F env σ a, H, fun a => ∃ p ∈ F.T, p.1 = a, F.T⟩
theorem SR.lam {F : Fx} {env : Ev} {σ : St} {H : Hp} (s : SR F env σ H) : SR (lamF F env σ H) (env.map roE) σ H := by
  have noow : ∀ {i : Nat} {d : D}, (env.map roE)[i]? = some (.ow d) → False := fun {i d} h => by
    obtain ⟨y, _, e⟩ := roE_get h
    cases y <;> cases e
  have nobo : ∀ {i : Nat} {d : D}, (env.map roE)[i]? = some (.bo d) → False := fun {i d} h => by
    obtain ⟨y, _, e⟩ := roE_get h
    cases y <;> cases e
  have oeq : ∀ b, Ow (lamF F env σ H) (env.map roE) σ b → Ow F env σ b := fun b h => h.elim id fun ⟨i, d, h1, _⟩ => (noow h1).elim
  have x : Ext (Ow F env σ) H (Ow (lamF F env σ H) (env.map roE) σ) H := Ext.sub oeq
  have nt : ∀ {d : D} {a : Addr}, CRel F.K H (Ow F env σ) d a → ¬ (lamF F env σ H).B a := fun {d a} c ⟨p, hp, e⟩ => by
    obtain ⟨ps, h1, _⟩ := s.tb p hp
    rw [e] at h1
    exact crel_tbl c h1
  refine ⟨fun b o h _ _ => h, fun a h => s.dm h, fun a ⟨p, hp, e⟩ => e ▸ s.own_t hp, by rw [List.length_map]; exact s.len, fun i d h => ?_, fun i d h => (noow h).elim, fun i d h => (nobo h).elim, fun i d h => ?_,
    fun i j a d d' h => (noow h).elim, fun i j a d d' h => (nobo h).elim, fun p hp => ⟨p, hp, rfl⟩, s.tb, fun i f H9 Om h => ?_⟩
  · obtain ⟨y, hy, e⟩ := roE_get h
    cases y <;> cases e
    obtain ⟨v, w1, w2⟩ := s.va i d hy
    exact ⟨v, w1, w2.ext x⟩
  · obtain ⟨y, hy, e⟩ := roE_get h
    cases y <;> cases e
    · obtain ⟨a, w1, _, _, w4⟩ := s.ow i d hy
      exact ⟨a, w1, .inr ⟨i, d, hy, w1⟩, nt w4, w4.ext x rfl⟩
    · obtain ⟨a, w1, w2, w4⟩ := s.bo i d hy
      exact ⟨a, w1, .inl (s.bo0 a w2), nt w4, w4.ext x rfl⟩
    · obtain ⟨a, w1, w2, _, w4⟩ := s.ro i d hy
      exact ⟨a, w1, .inl w2, nt w4, w4.ext x rfl⟩
  · obtain ⟨y, hy, e⟩ := roE_get h
    cases y <;> cases e
    obtain ⟨w1, w2⟩ := s.fx i f H9 Om hy
    refine ⟨w1, fun c o e q nt => ?_, fun b h => ?_, fun b o e nt => ?_⟩
    · obtain ⟨k1, k2⟩ := w2.k c o e q nt
      exact ⟨s.fr c o k1 k2 nt, fun ⟨p, hp, e⟩ => q p hp e⟩
    · rcases h with h | ⟨i, d, h3, h4⟩
      · exact w2.o b h
      · obtain ⟨a, e1, e2, nO, cr⟩ := s.ow i d h3
        rw [h4] at e1; cases e1
        cases e : H9 b with
        | none => exact .inr (.inl rfl)
        | some o =>
          by_cases t : NTb o
          · exfalso
            have nT : ∀ p ∈ F.T, p.1 ≠ b := fun p hp z => nO (z ▸ s.bo0 _ (s.tO p hp))
            exact e2 o (w2.k b o e nT t).1 t
          · obtain ⟨ps, hp⟩ := Classical.not_forall.mp t
            exact .inr (.inr ⟨ps, by rw [Classical.not_not.mp hp]⟩)
    · by_cases q : ∀ p ∈ F.T, p.1 ≠ b
      · obtain ⟨k1, k2⟩ := w2.k b o e q nt
        rw [show (lamF F env σ H).H0 = H from rfl, s.fr b o k1 k2 nt]
        intro z; cases z
      · obtain ⟨p, hp⟩ := Classical.not_forall.mp q
        obtain ⟨hp, e2⟩ := Classical.not_imp.mp hp
        rw [← Decidable.not_not.mp e2]
        exact s.dom (s.own_t hp)
theorem SR.lam_gt {F : Fx} {env env' : Ev} {σ σ' : St} {H H' : Hp} (s : SR (lamF F env' σ' H) env σ H') : GrowT F.T H H' :=
  ⟨fun c o h q t => s.fr c o h (fun ⟨p, hp, e⟩ => q p hp e) t, fun p hp => s.dom (s.own_t (p := p) hp), s.tb⟩
/-! ### a def that tells how its parameter ended: try: a() except C as e: return A if isinstance(e, J) else B; return N -/
def tSuiteR (K : PySem.W.Frag) (Ja : Addr) (i : Nat) (A B : Str) (a : Addr) (cls : Value) (d : Option Addr) : TS := fun D σ H => ∃ D0 r, cls = .ref D0 ∧ d = none ∧ ExcC K D0 ∧ PySem.W.kitOne K (.ref D0) (.ref Ja) = some r ∧ (i < σ.length → σ[i]? = some (some (.ref a))) ∧ D.rt (.str (if r then A else B)) H
theorem suiteR {X : Cx} {n jn : Str} {i : Nat} {Ja : Addr} {A B : Str} {j1 j2 : Nat} {p5 p6 p7 p8 p9 p10 p11 p12 : Pos} (hi : X.N[i]? = some n) (hln : X.env.scope.names.lookup n = some .local) (hdn : (n == ("__debug__" : Str)) = false) (hcn : (n == ("__classdict__" : Str)) = false)
    (gJ : Gl X jn) (mJ : X.mg jn = some (.ref Ja)) (dJ : (jn == ("__debug__" : Str)) = false) (gI : Gl X "isinstance") (mI : X.mg "isinstance" = none)
    (a : Addr) (oe : Obj) (cls : Value) (d : Option Addr) (pn : List (Addr × Obj)) (hz : Zc cls d oe) (hfl : ∃ vs, oe.data = .fields vs) :
    PSs (X.suite a ((a, oe) :: pn)) [.Return (some (.IfExp (.Call (.Name "isinstance" p5) [.Name n p6, .Name jn p7] [] p8) (.Constant (.str A) j1 p9) (.Constant (.str B) j2 p10) p11)) p12] (tSuiteR X.K Ja i A B a cls d) := by
  refine ⟨fun pins s σ H D I h => ?_⟩
  obtain ⟨D0, r, rfl, rfl, hE, hk, hσ, h⟩ := h
  have pN : PE (X.suite a ((a, oe) :: pn)) (.Name n p6) (tVar i) := pe_var hi (.inl hln) hdn hcn
  have pJ : PE (X.suite a ((a, oe) :: pn)) (.Name jn p7) (tC (.ref Ja)) := pe_glob gJ mJ rfl dJ
  have pI : PE (X.suite a ((a, oe) :: pn)) (.Call (.Name "isinstance" p5) [.Name n p6, .Name jn p7] [] p8) _ := pe_callB (call_isE hE hz hfl) gI mI rfl (pa_cons pN (pa_cons pJ pa_nil rfl) rfl)
  have ps := pss_one (ps_ret (pos := p12) (pe_ifExp (pos := p11) (pt_val pI) (pe_str (X := X.suite a ((a, oe) :: pn)) (x := A) (j := j1) (pos := p9)) (pe_str (X := X.suite a ((a, oe) :: pn)) (x := B) (j := j2) (pos := p10))))
  refine ps.run pins s σ H D I ?_
  have hl : i < σ.length := by rw [I.len]; exact lt_of_get hi
  refine ⟨.ref a, hσ hl, .ref Ja, .ref Ja, r, rfl, fun u ru => by cases ru; rfl, hk, r, rfl, ?_⟩
  cases r with
  | true => exact iteT h
  | false => exact iteF h
def TWord (K : PySem.W.Frag) (cv : Value) (Ja : Addr) (A B N0 : Str) : (XK → Hp → VK → Prop) → Hp → VK → Prop := fun tl H Q =>
  tl (fun cls d H' => ∃ D0 r, cls = .ref D0 ∧ d = none ∧ PySem.W.exmOne K cls cv = some true ∧ ExcC K D0 ∧ PySem.W.kitOne K (.ref D0) (.ref Ja) = some r ∧ Q (.str (if r then A else B)) H') H (fun _ H' => Q (.str N0) H')
theorem word_gives {X : Cx} {x a n cx jn q A B N0 : Str} {sg : Scope} {g Ja : Addr} {cdg cv : Value} {j1 j2 j3 : Nat} {p1 p2 p3 p4 p5 p6 p7 p8 p9 p10 p11 p12 p13 p14 p15 p16 p17 : Pos}
    (hna : ([a, n] : List Str).Nodup) (hla : Vis sg a) (hln : sg.names.lookup n = some .local) (hdn : (n == ("__debug__" : Str)) = false) (hcn : (n == ("__classdict__" : Str)) = false)
    (gC : sg.names.lookup cx = some .globalImplicit) (dC : (cx == ("__debug__" : Str)) = false) (mC : X.mg cx = some cv) (gJ : sg.names.lookup jn = some .globalImplicit) (dJ : (jn == ("__debug__" : Str)) = false) (mJ : X.mg jn = some (.ref Ja))
    (gI : sg.names.lookup ("isinstance" : Str) = some .globalImplicit) (mI : X.mg "isinstance" = none)
    (hsw : ∀ E : Env, E.scope = sg → swapsWith (.Call (.Name a p1) [] [] p2) none p3.line E = pure false) :
    LamX.GivesTo X [a, n] x sg g cdg [.Try [.Expr (.Call (.Name a p1) [] [] p2) p3] [.ExceptHandler (some (.Name cx p4)) (some n) [.Return (some (.IfExp (.Call (.Name "isinstance" p5) [.Name n p6, .Name jn p7] [] p8) (.Constant (.str A) j1 p9) (.Constant (.str B) j2 p10) p11)) p12] p13] [] [] p14, .Return (some (.Constant (.str N0) j3 p15)) p16] a q (TWord X.K cv Ja A B N0) := by
  intro f c' s H Q tl act hc h
  refine ⟨_, pss_cons (ps_try_as (X := (cxOf C8.CX0 X.prog X.w X.K X.mg X.base [a, n] x sg g cdg X.A X.stack s H C8.E0).nox) (c := cv) (i := 1) (Wout := W0)
      (tb := fun W D σ H => ∃ Ech : XK, (∀ cls d σ' H', Ech cls d H' → W cls d σ' H') ∧ σ[0]? = some (some (.ref f)) ∧ H c' = some (LamX.CodeO c' q) ∧ tl Ech H (fun _ H' => D.nx σ H'))
      rfl rfl hna rfl hln ⟨gC, dC, .inl mC⟩ LamX.takes0 (fun W pn xe tk _ => ?_) (fun a oe cls d pn hz hfl => suiteR (X := (cxOf C8.CX0 X.prog X.w X.K X.mg X.base _ x sg g cdg X.A X.stack s H C8.E0).nox) (i := 1) (A := A) (B := B) rfl hln hdn hcn gJ mJ dJ gI mI a oe cls d pn hz hfl)) (pss_one (ps_ret pe_str)), ?_⟩
  · refine ⟨fun pins s' σ H' D I h' => ?_⟩
    obtain ⟨Ech, hW, h1, h2, h3⟩ := h'
    have hp := act W pn xe Ech p1 p2 tk hW
    have hq := pss_one (ps_expr (pos := p3) hp (hsw _ rfl))
    exact hq.run pins s' σ H' D I ⟨h1, h2, h3⟩
  · refine ⟨_, fun cls d σ' H' hh => ?_, rfl, hc, h⟩
    obtain ⟨D0, r, e1, e2, e3, e4, e5, e6⟩ := hh
    exact ⟨true, e3, fun _ a _ => ⟨D0, r, e1, e2, e4, e5, fun hl => List.getElem?_set_self (by simpa using hl), e6⟩, fun z => by cases z⟩
/-! ### the maker -/
structure Mk (C : CT) (X : Cx) (c P : Addr) : Prop where
  tb : LamX.TabB X.base X.mg c P
  code : X.env.code = .ref c
  mem : (P, X.env.qual ++ "<lambda>") ∈ C.T
  un : ∀ p ∈ C.T, p.1 = P → p.2 = X.env.qual ++ "<lambda>"
abbrev WL (E : XK) : WX := fun cls d _ H => E cls d H
def mWord1 (ex : Nat → Option Bool) (A B N0 : List Nat) (m : ME) : ME := fun e => match m (e.map roE) with
  | .ok _ _ => .ok (.str N0) e
  | .ex c _ => (match ex c with
    | some true => .ok (.str A) e
    | some false => .ok (.str B) e
    | none => .bad)
  | .bad => .bad
theorem j_word1 {X : Cx} {C : CT} {W : WX} {x a n cx jn : Str} {A B N0 : List Nat} {sg : Scope} {g Ja c P : Addr} {fd : FuncData} {cv : Value} {j1 j2 j3 : Nat} {p1 p2 p3 p4 p5 p6 p7 p8 p9 p10 p11 p12 p13 p14 p15 p16 p17 lpos p pos : Pos} {k : Nat} {pg params : Arguments} {body : Expr} {scope : Scope} {m : ME} {ex : Nat → Option Bool}
    (Fg : FunD X.K x x pg [.Try [.Expr (.Call (.Name a p1) [] [] p2) p3] [.ExceptHandler (some (.Name cx p4)) (some n) [.Return (some (.IfExp (.Call (.Name "isinstance" p5) [.Name n p6, .Name jn p7] [] p8) (.Constant (.str ⟨A.toArray⟩) j1 p9) (.Constant (.str ⟨B.toArray⟩) j2 p10) p11)) p12] p13] [] [] p14, .Return (some (.Constant (.str ⟨N0.toArray⟩) j3 p15)) p16] sg [] [] g fd)
    (hb : Binds X.K fd [a] []) (Sg : FnScope [a, n] [a] sg) (hna : ([a, n] : List Str).Nodup) (hla : Vis sg a) (hln : sg.names.lookup n = some .local) (hdn : (n == ("__debug__" : Str)) = false) (hcn : (n == ("__classdict__" : Str)) = false) (hda : (a == ("__debug__" : Str)) = false) (hca : (a == ("__classdict__" : Str)) = false)
    (gC : sg.names.lookup cx = some .globalImplicit) (dC : (cx == ("__debug__" : Str)) = false) (mC : X.mg cx = some cv) (gJ : sg.names.lookup jn = some .globalImplicit) (dJ : (jn == ("__debug__" : Str)) = false) (mJ : X.mg jn = some (.ref Ja))
    (gI : sg.names.lookup ("isinstance" : Str) = some .globalImplicit) (mI : X.mg "isinstance" = none) (hsw : ∀ E : Env, E.scope = sg → swapsWith (.Call (.Name a p1) [] [] p2) none p3.line E = pure false) (ca : Caught X.K C cv (.ref Ja) ex)
    (hg : Gl X x) (hm : X.mg x = some (.ref g)) (hdb : (x == ("__debug__" : Str)) = false) (mk : Mk C X c P) (hr : Room (k + 2) X.A) (L : LamX.LamS X.env.scope scope) (hdef : defaultsOf params X.env = ([], []))
    (hbind : ∀ (q : Str) (cl : List (Str × Addr)) (pm cv ctv : Value), bindArgs (PySem.W.kla_fn "<lambda>" q params body scope cl pm cv ctv) ⟨[], []⟩ = pure [])
    (hl : ∀ (A : Around) (outer : List Env) (s : Shared) (H : Hp) (E : XK) (f c' : Addr), Room k (A.deeper (LamX.lamEnv X scope s.heap.objs.size f c')) → JE (LamX.lamCx X A outer s H E scope f c') C (WL E) body m) :
    JE X C W (.Call (.Name x p) [.Lambda params body scope lpos] [] pos) (mWord1 ex A B N0 m) := by
  obtain ⟨oc, od, dV, kV, doc, pm, an, cdv, ct, osl, rfl, lk, hcd, _, _⟩ := Fg.ex
  refine ⟨_, LamX.pe_lamcall (T := C.T) (t := fun E => cE X.K C (WL E) m) hg hm Fg.kp lk hcd hb Sg rfl hla (word_gives hna hla hln hdn hcn gC dC mC gJ dJ mJ gI mI hsw (p17 := p17)) mk.tb mk.code mk.mem mk.un hr L hdef hbind (fun A outer s H E f c' hr' => (hl A outer s H E f c' hr').canon) hdb hda hca, fun F env σ H Q kk s z => ?_⟩
  refine ⟨by rw [← kk.2]; exact s.tb, fun H1 eN T1 => ?_⟩
  rw [← kk.2] at T1
  have g1 : GrowT F.T H H1 := ⟨fun c o h _ nt => eN c o h nt, fun p hp => (by
    obtain ⟨ps, h1, _⟩ := T1 p hp
    rw [h1]; intro z; cases z), T1⟩
  obtain ⟨s1, x1⟩ := s.growT g1
  refine ⟨lamF F env σ H1, env.map roE, ⟨kk.1, kk.2⟩, s1.lam, ?_⟩
  unfold mWord1 at z
  cases e1 : m (env.map roE) with
  | bad => rw [e1] at z; exact z.elim
  | ok d env' =>
    rw [e1] at z
    intro v H' s' x' r'
    obtain ⟨s2, x2⟩ := s1.growT s'.lam_gt
    exact z _ H' s2 (x1.trans x2) (by simp only [RelD])
  | ex c env' =>
    rw [e1] at z
    dsimp only at z
    intro H' s' x'
    obtain ⟨s2, x2⟩ := s1.growT s'.lam_gt
    cases e2 : ex c with
    | none => rw [e2] at z; exact z.elim
    | some r =>
      rw [e2] at z
      obtain ⟨lt, m1, D0, m2, m3, m4⟩ := ca.ok c r e2
      intro dd hdd
      obtain rfl := hdd.1 lt
      refine ⟨D0, r, m2, rfl, m1, m3, m4, ?_⟩
      cases r with
      | true => exact z _ H' s2 (x1.trans x2) (by simp only [RelD]; rfl)
      | false => exact z _ H' s2 (x1.trans x2) (by simp only [RelD]; rfl)
end MP

set_option Elab.async false
set_option linter.all false
set_option maxRecDepth 100000
set_option maxHeartbeats 4000000
namespace MP
open PySem PySem.Spec L2
open PyProof.Rows hiding St

section
variable {P : Program} {w : World} {K : PySem.W.Frag} {mg : Str → Option Value} {base : Heap} {N : List Str} {sc : Scope} {k : Nat} {X : Cx} {C : CT} {W : WX}
/-- THE RULE for a def that makes lambdas -/
theorem fn_okL {x : Str} {params : Arguments} {body : List Stmt} {scope : Scope} {f : Addr} {fd : FuncData} {N ps : List Str} {k : Nat} {m : MS} (F : FunD K x x params body scope [] [] f fd) (S : FnScope N ps scope)
    (hf : He.fAd K (x, none) = f) (tbb : LamX.TabB base mg (He.cT K (x, none)).1 (He.cT K (x, none)).2) (mem : ((He.cT K (x, none)).2, x ++ ".<locals>." ++ "<lambda>") ∈ C.T) (un : ∀ p ∈ C.T, p.1 = (He.cT K (x, none)).2 → p.2 = x ++ ".<locals>." ++ "<lambda>")
    (h : ∀ (X : Cx) (W : WX), Cs P w K mg base N scope k X W → Mk C X (He.cT K (x, none)).1 (He.cT K (x, none)).2 → JB X C W body m) :
    FnOk P w K mg base (L2.CX P w) (k + 1) f fd ps (spU K C ps.length (runF ps.length N.length m)) := by
  obtain ⟨oc, od, dV, kV, doc, pm, an, cdv, ct, osl, rfl, lk, hcd, _, _⟩ := F.ex
  obtain ⟨c0, rfl⟩ := He.codeIn_ref hcd
  have hc : He.codeOf K (x, none) = c0 := He.codeOf_eq (by rw [hf]; exact lk) rfl
  refine fn_of lk hcd S (fun vs H Q E h => ?_) (fun A outer s H vs Q E hr hsp => ?_)
  · obtain ⟨_, _, _, hl, _⟩ := h
    exact hl
  · obtain ⟨O, b, args, hl, dom, tO, tb, ra, z⟩ := hsp
    have hpl : ps.length ≤ N.length := by have := congrArg List.length S.pre; rw [List.length_take] at this; omega
    obtain ⟨s0, hlen⟩ := SR.begin (N := N) (T := C.T) (by omega) dom tO tb ra
    have tk : Takes (cxOf (L2.CX P w) P w K mg base N x scope f (.ref c0) A outer s H E) (fun cls d _ H => E cls d H) := takes_of rfl rfl rfl rfl
    have po : PassesOwn (model (cxOf (L2.CX P w) P w K mg base N x scope f (.ref c0) A outer s H E).prog (cxOf (L2.CX P w) P w K mg base N x scope f (.ref c0) A outer s H E).w) (cxOf (L2.CX P w) P w K mg base N x scope f (.ref c0) A outer s H E).A (cxOf (L2.CX P w) P w K mg base N x scope f (.ref c0) A outer s H E).env (cxOf (L2.CX P w) P w K mg base N x scope f (.ref c0) A outer s H E).xe := passes_of rfl
    obtain ⟨t, p, q⟩ := (h (cxOf (L2.CX P w) P w K mg base N x scope f (.ref c0) A outer s H E) (fun cls d _ H => E cls d H) ⟨⟨⟨rfl, rfl, rfl, rfl, rfl, rfl, rfl, rfl, hr⟩, tk, S.nd⟩, (fun _ => rfl), po, rfl, rfl⟩ ⟨tbb, by show Value.ref c0 = .ref (He.codeOf K (x, none)); rw [hc], mem, un⟩).run
    refine ⟨t, p, q _ _ _ _ _ ⟨rfl, rfl⟩ s0 ?_⟩
    unfold runF at z
    rw [hl] at s0
    rw [hl]
    cases e1 : m (args ++ List.replicate (N.length - ps.length) .no) with
    | nx env1 =>
      rw [e1] at z
      exact fun σ1 H1 s1 x1 => z .non H1 (end_of s1) (by simp only [RelD])
    | rt d env1 =>
      rw [e1] at z
      exact fun v σ1 H1 s1 r => z v H1 (end_of s1) r
    | ex c env1 =>
      rw [e1] at z
      exact fun σ1 H1 s1 _ => z H1 (end_of s1)
    | bk env1 => rw [e1] at z; exact z.elim
    | ct env1 => rw [e1] at z; exact z.elim
    | bad => rw [e1] at z; exact z.elim
theorem def_okL {x : Str} {params : Arguments} {body : List Stmt} {scope : Scope} {f : Addr} {fd : FuncData} {N ps : List Str} {k : Nat} {m : MS} (F : FunD K x x params body scope [] [] f fd) (S : FnScope N ps scope) (hm : mg x = some (.ref f)) (kp : PySem.W.keepIn K (.ref f) = true) (b : Binds K fd ps [])
    (hf : He.fAd K (x, none) = f) (tbb : LamX.TabB base mg (He.cT K (x, none)).1 (He.cT K (x, none)).2) (mem : ((He.cT K (x, none)).2, x ++ ".<locals>." ++ "<lambda>") ∈ C.T) (un : ∀ p ∈ C.T, p.1 = (He.cT K (x, none)).2 → p.2 = x ++ ".<locals>." ++ "<lambda>")
    (h : ∀ (X : Cx) (W : WX), Cs P w K mg base N scope k X W → Mk C X (He.cT K (x, none)).1 (He.cT K (x, none)).2 → JB X C W body m) : Df P w K mg base C x ps.length (k + 1) (runF ps.length N.length m) :=
  ⟨f, fd, ps, hm, kp, b, fn_okL F S hf tbb mem un h⟩
theorem Mk.tr {c P : Addr} (mk : Mk C X c P) {pn : List (Addr × Obj)} {xe : Value → Shared → Prop} : Mk C (X.tr pn xe) c P := ⟨mk.tb, mk.code, mk.mem, mk.un⟩
/-- the tables of some makers -/
def tabL (K : PySem.W.Frag) (L : List Str) : List (Addr × Str) := L.map fun x => ((He.cT K (x, none)).2, x ++ ".<locals>." ++ "<lambda>")
def tabDiff (K : PySem.W.Frag) (L : List Str) : Bool := decide (L.map fun x => (He.cT K (x, none)).2).Nodup
theorem tab_mem {L : List Str} {x : Str} (h : x ∈ L) : ((He.cT K (x, none)).2, x ++ ".<locals>." ++ "<lambda>") ∈ tabL K L := List.mem_map.mpr ⟨x, h, rfl⟩
theorem nodup_un {α β : Type} {f : α → β} : ∀ {L : List α}, (L.map f).Nodup → ∀ {x y : α}, x ∈ L → y ∈ L → f x = f y → x = y
  | [], _, _, _, hx, _, _ => by simp at hx
  | a :: L, h, x, y, hx, hy, e => by
    rw [List.map_cons, List.nodup_cons] at h
    rcases List.mem_cons.mp hx with q1 | q1
    · rcases List.mem_cons.mp hy with q2 | q2
      · rw [q1, q2]
      · exact absurd (List.mem_map.mpr ⟨y, q2, by rw [← e, q1]⟩) h.1
    · rcases List.mem_cons.mp hy with q2 | q2
      · exact absurd (List.mem_map.mpr ⟨x, q1, by rw [e, q2]⟩) h.1
      · exact nodup_un h.2 q1 q2 e
theorem tab_un {L : List Str} (hd : tabDiff K L = true) {x : Str} (h : x ∈ L) : ∀ p ∈ tabL K L, p.1 = (He.cT K (x, none)).2 → p.2 = x ++ ".<locals>." ++ "<lambda>" := fun p hp e => by
  obtain ⟨y, hy, rfl⟩ := List.mem_map.mp hp
  have := nodup_un (of_decide_eq_true hd) hy h e
  subst this
  rfl
/-- what stands around a lambda's body -/
theorem lam_cw (c : Cs P w K mg base N sc k X W) {A : Around} {outer : List Env} {s : Shared} {H : Hp} {E : XK} {scope : Scope} {f c' : Addr} {j : Nat} (hr : Room j (A.deeper (LamX.lamEnv X scope s.heap.objs.size f c'))) :
    Cw P w K mg base N scope j (LamX.lamCx X A outer s H E scope f c') (WL E) :=
  ⟨⟨c.e.c.prog, c.e.c.w, c.e.c.K, c.e.c.mg, c.e.c.base, c.e.c.N, rfl, rfl, hr⟩, takes_of rfl rfl rfl rfl, c.e.nd⟩
/-- a def that tells in a word how its parameter ended -/
structure DfW (K : PySem.W.Frag) (mg : Str → Option Value) (C : CT) (x : Str) (ex : Nat → Option Bool) (A B N0 : List Nat) : Prop where
  ok : ∃ (a n cx jn : Str) (sg : Scope) (g Ja : Addr) (fd : FuncData) (cv : Value) (j1 j2 j3 : Nat) (p1 p2 p3 p4 p5 p6 p7 p8 p9 p10 p11 p12 p13 p14 p15 p16 : Pos) (pg : Arguments),
    FunD K x x pg [.Try [.Expr (.Call (.Name a p1) [] [] p2) p3] [.ExceptHandler (some (.Name cx p4)) (some n) [.Return (some (.IfExp (.Call (.Name "isinstance" p5) [.Name n p6, .Name jn p7] [] p8) (.Constant (.str ⟨A.toArray⟩) j1 p9) (.Constant (.str ⟨B.toArray⟩) j2 p10) p11)) p12] p13] [] [] p14, .Return (some (.Constant (.str ⟨N0.toArray⟩) j3 p15)) p16] sg [] [] g fd ∧
    Binds K fd [a] [] ∧ FnScope [a, n] [a] sg ∧ Vis sg a ∧ sg.names.lookup n = some .local ∧ (n == ("__debug__" : Str)) = false ∧ (n == ("__classdict__" : Str)) = false ∧ (a == ("__debug__" : Str)) = false ∧ (a == ("__classdict__" : Str)) = false ∧
    Ng sg cx ∧ mg cx = some cv ∧ Ng sg jn ∧ mg jn = some (.ref Ja) ∧ Ng sg "isinstance" ∧ mg "isinstance" = none ∧ (∀ E : Env, E.scope = sg → swapsWith (.Call (.Name a p1) [] [] p2) none p3.line E = pure false) ∧ Caught K C cv (.ref Ja) ex ∧ mg x = some (.ref g)
theorem x_word1 (c : Cs P w K mg base N sc k X W) {cc Pt : Addr} (mk : Mk C X cc Pt) {x : Str} {ex : Nat → Option Bool} {A B N0 : List Nat} {k0 : Nat} {params : Arguments} {body : Expr} {scope : Scope} {lpos p pos : Pos} {m : ME} (d : DfW K mg C x ex A B N0) (hk : k0 + 2 ≤ k) (g : Ng sc x) (L : LamX.LamS sc scope)
    (hdef : ∀ E : Env, defaultsOf params E = ([], [])) (hbind : ∀ (q : Str) (cl : List (Str × Addr)) (pm cv ctv : Value), bindArgs (PySem.W.kla_fn "<lambda>" q params body scope cl pm cv ctv) ⟨[], []⟩ = pure [])
    (hl : ∀ (X' : Cx) (W' : WX), Cw P w K mg base N scope k0 X' W' → JE X' C W' body m) : JE X C W (.Call (.Name x p) [.Lambda params body scope lpos] [] pos) (mWord1 ex A B N0 m) := by
  obtain ⟨a, n, cx, jn, sg, ga, Ja, fd, cv, j1, j2, j3, p1, p2, p3, p4, p5, p6, p7, p8, p9, p10, p11, p12, p13, p14, p15, p16, pg, F, b, S, v, ln, dn, cn, da, ca, gC, mC, gJ, mJ, gI, mI, sw, cau, mx⟩ := d.ok
  have hK := c.e.c.K
  have hmg := c.e.c.mg
  have hsc := c.e.c.sc
  have hroom := c.e.c.room
  exact j_word1 (p17 := pos) (k := k0) (by rw [hK]; exact F) (by rw [hK]; exact b) S S.nd v ln dn cn da ca gC.gl gC.d (by rw [hmg]; exact mC) gJ.gl gJ.d (by rw [hmg]; exact mJ) gI.gl (by rw [hmg]; exact mI) sw (by rw [hK]; exact cau) (c.e.c.gl g) (by rw [hmg]; exact mx) g.d mk (hroom.mono hk) (by rw [hsc]; exact L) (hdef _) hbind fun A outer s H E f c' hr => hl _ _ (lam_cw c hr)
end
end MP

set_option Elab.async false
set_option linter.all false
set_option maxRecDepth 100000
set_option maxHeartbeats 4000000
namespace MP
open PySem PySem.Spec L2
open PyProof.Rows hiding St

/-! ### sorted(t), t a tuple -/
section
variable {P : Program} {w : World} {A : Around} {E : Value → Shared → Prop} {s : Shared}
/-- what is gathered from a tuple -/
theorem gather_tup {t : Addr} {us : List Value} {Q : List Value → Shared → Prop} (ht : s.heap.IsTuple t us.toArray) (hn : us.length ≤ sizeLine)
    (hQ : Q us { s with heap := (s.heap.push (seqObj "list" #[] 0)).update s.heap.objs.size (Obj.mapSeq (· ++ us.toArray)) }) : wpAny (model P w) A (collect (.ref t)) Q E s := by
  obtain ⟨ob, hob, hcls, k, hdat⟩ := ht
  have old := Heap.get?_push_of_some (seqObj "list" #[] 0) hob
  have new : (s.heap.push (seqObj "list" #[] 0)).get? s.heap.objs.size = some (seqObj "list" #[] 0) := Heap.get?_push_size _ rfl
  unfold collect
  apply wpAny_bind
  apply wpAny_runValue
  refine codeAny_builtin entry_proto_collect' (show wpAny _ _ (do again (.builtin "list.__iadd__" ⟨[← newList [], .ref t], []⟩)) _ _ s from ?_)
  refine wpAny_bind (wpAny_newList (wpAny_pure ⟨Code.quiet_builtin _ (by decide +kernel), ?_⟩))
  refine codeAny_builtin entry_list_iadd' (show wpAny _ _ (Builtin.List.listExtendWith (.ref s.heap.objs.size) (.ref t) (.ref s.heap.objs.size)) _ _ { s with heap := s.heap.push (seqObj "list" #[] 0) } from ?_)
  unfold Builtin.List.listExtendWith
  refine wpAny_bind (wpAny_typeOf (T := "tuple") ⟨ob, old, hcls⟩ ?_)
  have te : (Value.type "tuple" == Value.type "tuple") = true := by rfl
  rw [if_pos (by rw [te]; simp)]
  apply wpAny_bind
  refine listItems_at old hdat (wpAny_bind (listItems_at (xs := #[]) (n := 0) new rfl ?_))
  rw [if_neg (by simp)]
  have fits : (#[] ++ us.toArray).size ≤ sizeLine + 1 := by simp; omega
  refine wpAny_bind (listUpdate_at (xs := #[]) (n := 0) new rfl (wpAny_pure ?_) (Nat.zero_le _) fits)
  have upd := get?_update_seq new (fun a => a ++ us.toArray)
  refine wpAny_bind (wpAny_load upd ?_)
  have eq : ((#[] : Array Value) ++ us.toArray).toList = us := by simp
  show wpAny _ _ (pure ((#[] : Array Value) ++ us.toArray).toList) Q E _
  rw [eq]
  exact wpAny_pure hQ
def gatH (h : Heap) (us : List Value) : Heap := ((h.push (seqObj "list" #[] 0)).update h.objs.size (Obj.mapSeq (· ++ us.toArray))).push (seqObj "list" us.toArray 0)
theorem gat_size (h : Heap) (us : List Value) : ((h.push (seqObj "list" #[] 0)).update h.objs.size (Obj.mapSeq (· ++ us.toArray))).objs.size = h.objs.size + 1 := by
  rw [Heap.size_update, size_push']
theorem gat_at (h : Heap) (us : List Value) : (gatH h us).get? (h.objs.size + 1) = some (seqObj "list" us.toArray 0) := by
  have e := gat_size h us
  unfold gatH
  rw [← e]
  exact Heap.get?_push_size _ rfl
theorem gat_old {h : Heap} {us : List Value} {b : Addr} {o : Obj} (e : h.get? b = some o) : (gatH h us).get? b = some o := by
  have lt := Heap.lt_size e
  unfold gatH
  have ne1 : b ≠ ((h.push (seqObj "list" #[] 0)).update h.objs.size (Obj.mapSeq (· ++ us.toArray))).objs.size := by
    rw [gat_size]; exact Nat.ne_of_lt (Nat.lt_succ_of_lt lt)
  rw [Heap.get?_push_ne _ _ _ ne1, Heap.get?_update_ne _ _ _ _ (Nat.ne_of_lt lt), Heap.get?_push_ne _ _ _ (Nat.ne_of_lt lt)]
  exact e
/-- sorted(t) is a list's sort -/
theorem sorted_of_tup {t : Addr} {us : List Value} {Q : Value → Shared → Prop} {R : Array Value → Prop} (ht : s.heap.IsTuple t us.toArray) (hn : us.length ≤ sizeLine)
    (hS : ∀ (A' : Around) (E' : Value → Shared → Prop) (F : PySem.Fin → Shared → Prop), (∀ out, R out → F (.done (.ret .none)) { s with heap := sortedHeap (gatH s.heap us) (s.heap.objs.size + 1) us out }) →
      wpAny (model P w) A' (Builtin.«list.sort» ⟨[.ref (s.heap.objs.size + 1)], []⟩) F E' { s with heap := gatH s.heap us })
    (hQ : ∀ out, R out → Q (.ref (s.heap.objs.size + 1)) { s with heap := sortedAll s.heap us out }) : wpAny (model P w) A (call (.builtin "sorted") [.ref t]) Q E s := by
  refine Calls.call_function_entry kind_sorted plain_sorted entry_sorted (args_sorted1 _) (show wpAny _ _ (Builtin.«sorted» _) _ _ _ from ?_)
  unfold Builtin.«sorted»
  apply wpAny_bind (m := checkCount "sorted" 1 1 _)
  apply wpAny_pure
  refine wpAny_bind (gather_tup ht hn (wpAny_bind (wpAny_newList ?_ hn)))
  have at1 := gat_at s.heap us
  rw [gat_size]
  refine wpAny_bind (wpAny_holding (wpAny_call_entry slot_list_sort ⟨_, at1, rfl⟩ entry_list_sort (hS _ _ _ fun out r => ⟨_, rfl, wpAny_pure ⟨_, rfl, hQ out r⟩⟩) (args_list_sort _)))
end
section
variable {X : Cx}
def rSortTup (K : PySem.W.Frag) : List V → Hp → VK → Prop := fun vs H Q => ∃ (a : Addr) (ns : List Int), vs = [V.ref a] ∧ SqT K H a (ns.map V.int) ∧ ns.length < 64 ∧
  ∀ (ns' : List Int) (p : Addr), ns'.Perm ns → ns'.Pairwise (· ≤ ·) → H p = none → Q (.ref p) (upd H p (.lst (ns'.map V.int)))
theorem cr_sortTup : CallR X (.builtin "sorted") (rSortTup X.K) := by
  intro pins s σ H vs us Q I r h
  obtain ⟨a, ns, rfl, hs, h64, q⟩ := h
  obtain ⟨its, rv, pt, hz⟩ := I.tuple hs
  rw [Vals.ref1 r]
  have hi : IntsAre its ns := by simpa using ints_of_vals rv
  have hl : its.length = ns.length := hi.length
  refine sorted_of_tup (R := fun out => ∃ ns', IntsAre out.toList ns' ∧ ns'.Perm ns ∧ ns'.Pairwise (· ≤ ·)) (show s.heap.IsTuple a its.toArray from pt) (by rw [hl, sizeLine_eq]; omega) (fun A' E' F hF => ?_) fun out hout => ?_
  · exact list_sort_tree (gat_at s.heap its) hi (by rw [hl]; exact h64) fun out ns' h1 h2 h3 => hF out ⟨ns', h1, h2, h3⟩
  · obtain ⟨ns', h1, h2, h3⟩ := hout
    obtain ⟨ep, he'⟩ := sortedAll_at s.heap its out
    have hlen : (ns'.map V.int).length ≤ sizeLine := by rw [List.length_map, h2.length_eq]; exact small64 h64
    refine ⟨.ref (s.heap.objs.size + 1), upd H (s.heap.objs.size + 1) (.lst (ns'.map V.int)), ?_, rfl, q ns' _ h2 h3 (I.hok.fresh (Nat.le_succ _))⟩
    exact I.laid (t' := s.toks) (fun _ _ => sortedAll_old) (Nat.le_succ _) ⟨hlen, out.toList, ep, vals_of_ints h1, he'⟩
/-- tuples of d ints in [0, B) -/
def rSortTT (K : PySem.W.Frag) (d : Nat) (B : Int) : List V → Hp → VK → Prop := fun vs H Q => ∃ (a : Addr) (xs : List V), vs = [V.ref a] ∧ SqT K H a xs ∧ xs.length < 64 ∧ (∀ x ∈ xs, ∃ ns, TupI K H x ns ∧ ns.length = d ∧ TS.Bd B ns) ∧
  ∀ (ys : List V) (p : Addr), ys.Perm xs → ys.Pairwise (fun x y => ∀ n m, TupI K H x n → TupI K H y m → TS.code B n ≤ TS.code B m) → H p = none → Q (.ref p) (upd H p (.lst ys))
theorem cr_sortTT {d : Nat} {B : Int} (hd : 1 ≤ d) : CallR X (.builtin "sorted") (rSortTT X.K d B) := by
  intro pins s σ H vs us Q I r h
  obtain ⟨a, xs, rfl, hs, h64, hx, q⟩ := h
  obtain ⟨its, rv, pt, hz⟩ := I.tuple hs
  rw [Vals.ref1 r]
  have hl : its.length = xs.length := rv.length.symm
  obtain ⟨e1, e2⟩ := bkV_refs rv fun x m => (hx x m).elim fun ns ⟨⟨t, e, _⟩, _⟩ => ⟨t, e⟩
  have ok : TS.TupsOk s.heap d B its := fun v hv => by
    obtain ⟨t, rfl⟩ := e2 v hv
    obtain ⟨ns, ⟨t', e, ht⟩, hn, hb⟩ := hx (V.ref t) (by rw [e1]; exact List.mem_map.mpr ⟨_, hv, rfl⟩)
    cases e
    exact ⟨ns, tupI_raw I ht, hn, hb⟩
  have ok2 : TS.TupsOk (gatH s.heap its) d B its := fun v hv => by
    obtain ⟨ns, ⟨b, xs', e, ⟨o, ho, hc⟩, hi⟩, hn⟩ := ok v hv
    exact ⟨ns, ⟨b, xs', e, ⟨o, gat_old ho, hc⟩, hi⟩, hn⟩
  refine sorted_of_tup (R := fun out => out.toList.Perm its ∧ out.toList.Pairwise (fun u v => TS.code B (TS.intsOf s.heap u) ≤ TS.code B (TS.intsOf s.heap v))) (show s.heap.IsTuple a its.toArray from pt) (by rw [hl, sizeLine_eq]; omega) (fun A' E' F hF => ?_) fun out hout => ?_
  · refine TS.sort_tups (gat_at s.heap its) (by rw [hl]; exact h64) hd ok2 (fun v => TS.code B (TS.intsOf s.heap v)) (fun v hv ns t => ?_) fun out h1 h2 => hF out ⟨h1, h2⟩
    obtain ⟨n0, t0, _⟩ := ok v hv
    have t1 : TS.TupInts (gatH s.heap its) v n0 := by
      obtain ⟨b, xs', e, ⟨o, ho, hc⟩, hi⟩ := t0
      exact ⟨b, xs', e, ⟨o, gat_old ho, hc⟩, hi⟩
    have e : ns = n0 := t.ints.symm.trans t1.ints
    show TS.code B (TS.intsOf s.heap v) = TS.code B ns
    rw [e, t0.ints]
  · obtain ⟨h1, h2⟩ := hout
    obtain ⟨ep, he'⟩ := sortedAll_at s.heap its out
    have h3 : ∀ u ∈ out.toList, ∃ a, u = Value.ref a := fun u hu => e2 u (h1.mem_iff.mp hu)
    have hp : (out.toList.map bkV).Perm xs := by rw [e1]; exact h1.map bkV
    refine ⟨.ref (s.heap.objs.size + 1), upd H (s.heap.objs.size + 1) (.lst (out.toList.map bkV)), I.laid (t' := s.toks) (fun _ _ => sortedAll_old) (Nat.le_succ _) ⟨by rw [hp.length_eq]; exact hz, out.toList, ep, bkV_vals h3, he'⟩, rfl, q _ _ hp ?_ (I.hok.fresh (Nat.le_succ _))⟩
    rw [List.pairwise_map]
    refine h2.imp fun {u v} huv n m hn hm => ?_
    obtain ⟨t, et, ht⟩ := hn
    obtain ⟨t', et', ht'⟩ := hm
    rw [bkV_ref et, bkV_ref et', (tupI_raw I ht).ints, (tupI_raw I ht').ints] at huv
    exact huv
end
end MP

set_option Elab.async false
set_option linter.all false
set_option maxRecDepth 100000
set_option maxHeartbeats 4000000
namespace MP
open PySem PySem.Spec L2
open PyProof.Rows hiding St

/-! ### sorted, of lists and tuples, of ints and of tuples of ints -/
abbrev BB : Int := 1000000
def insT (x : List Int) : List (List Int) → List (List Int)
  | [] => [x]
  | y :: r => (match decide (TS.code BB x ≤ TS.code BB y) with
    | true => x :: y :: r
    | false => y :: insT x r)
def sortT : List (List Int) → List (List Int)
  | [] => []
  | x :: r => insT x (sortT r)
theorem insT_perm (x : List Int) : ∀ l, (insT x l).Perm (x :: l)
  | [] => .refl _
  | y :: r => by
    unfold insT
    split
    · exact .refl _
    · exact ((insT_perm x r).cons y).trans (.swap x y r)
theorem sortT_perm : ∀ l, (sortT l).Perm l
  | [] => .refl _
  | x :: r => (insT_perm x _).trans ((sortT_perm r).cons x)
abbrev leT (n m : List Int) : Prop := TS.code BB n ≤ TS.code BB m
theorem insT_sorted (x : List Int) : ∀ l, l.Pairwise leT → (insT x l).Pairwise leT
  | [], _ => by simp [insT]
  | y :: r, h => by
    obtain ⟨h1, h2⟩ := List.pairwise_cons.mp h
    unfold insT
    split
    · rename_i q
      have q := of_decide_eq_true q
      refine List.pairwise_cons.mpr ⟨fun z hz => ?_, h⟩
      rcases List.mem_cons.mp hz with rfl | hz
      · exact q
      · exact Int.le_trans q (h1 z hz)
    · rename_i q
      have q := of_decide_eq_false q
      refine List.pairwise_cons.mpr ⟨fun z hz => ?_, insT_sorted x r h2⟩
      rcases List.mem_cons.mp ((insT_perm x r).mem_iff.mp hz) with rfl | hz
      · show TS.code BB y ≤ TS.code BB z
        omega
      · exact h1 z hz
theorem sortT_sorted : ∀ l, (sortT l).Pairwise leT
  | [] => .nil
  | x :: r => insT_sorted x _ (sortT_sorted r)
theorem code_inj {B : Int} : ∀ {n m : List Int}, n.length = m.length → TS.Bd B n → TS.Bd B m → TS.code B n = TS.code B m → n = m
  | [], [], _, _, _, _ => rfl
  | [], _ :: _, h, _, _, _ => by simp at h
  | _ :: _, [], h, _, _, _ => by simp at h
  | a :: n, b :: m, h, h1, h2, e => by
    have hl : n.length = m.length := by simpa using h
    rcases Int.lt_trichotomy a b with q | q | q
    · have := TS.code_lt hl h1.tail h2.tail q
      omega
    · subst q
      have ee : TS.code B n = TS.code B m := by
        rcases Int.lt_trichotomy (TS.code B n) (TS.code B m) with q | q | q
        · have := (TS.code_same (d := a) hl).mpr q
          omega
        · exact q
        · have := (TS.code_same (B := B) (d := a) hl.symm).mpr q
          omega
      rw [code_inj hl h1.tail h2.tail ee]
    · have := TS.code_lt hl.symm h2.tail h1.tail q
      omega
def okT (d : Nat) (nss : List (List Int)) : Bool := nss.all fun ns => decide (ns.length = d) && ns.all fun m => decide (0 ≤ m) && decide (m < BB)
theorem okT_mem {d : Nat} {nss : List (List Int)} (h : okT d nss = true) {ns : List Int} (m : ns ∈ nss) : ns.length = d ∧ TS.Bd BB ns := by
  have := List.all_eq_true.mp h ns m
  simp only [Bool.and_eq_true, decide_eq_true_eq, List.all_eq_true] at this
  exact ⟨this.1, this.2⟩
theorem sortT_one {d : Nat} : ∀ {l l' : List (List Int)}, (∀ x ∈ l, x.length = d ∧ TS.Bd BB x) → l.Perm l' → l.Pairwise leT → l'.Pairwise leT → l = l'
  | [], l', _, p, _, _ => p.nil_eq
  | x :: r, [], _, p, _, _ => absurd p.length_eq (by simp)
  | x :: r, y :: r', hb, p, h, h' => by
    obtain ⟨h1, h2⟩ := List.pairwise_cons.mp h
    obtain ⟨h3, h4⟩ := List.pairwise_cons.mp h'
    have my : y ∈ x :: r := p.mem_iff.mpr (by simp)
    have mx : x ∈ y :: r' := p.mem_iff.mp (by simp)
    have a : leT x y := by
      rcases List.mem_cons.mp my with e | e
      · rw [e]; exact Int.le_refl _
      · exact h1 y e
    have b : leT y x := by
      rcases List.mem_cons.mp mx with e | e
      · rw [← e]; exact Int.le_refl _
      · exact h3 x e
    have bx := hb x (by simp)
    have byy := hb y my
    have e : x = y := code_inj (by rw [bx.1, byy.1]) bx.2 byy.2 (Int.le_antisymm a b)
    subst e
    rw [sortT_one (fun z hz => hb z (List.mem_cons_of_mem _ hz)) p.cons_inv h2 h4]
theorem perm_lift {α β : Type} {f : α → β} : ∀ {ys : List β} {L : List α}, ys.Perm (L.map f) → ∃ L' : List α, L'.Perm L ∧ L'.map f = ys
  | [], L, h => by
    have : L = [] := by simpa using h.nil_eq.symm
    exact ⟨[], by rw [this], rfl⟩
  | y :: ys, L, h => by
    obtain ⟨a, ha, e⟩ := List.mem_map.mp (h.mem_iff.mp (List.mem_cons_self (a := y)))
    obtain ⟨s, t, rfl⟩ := List.append_of_mem ha
    have p : ys.Perm ((s ++ t).map f) := by
      have q : (y :: ys).Perm (y :: (s ++ t).map f) := by
        refine h.trans ?_
        rw [List.map_append, List.map_cons, e, List.map_append]
        exact List.perm_middle
      exact q.cons_inv
    obtain ⟨L', p', e'⟩ := perm_lift p
    exact ⟨a :: L', (p'.cons a).trans List.perm_middle.symm, by rw [List.map_cons, e, e']⟩
def tupsOf : List D → Option (List (List Int))
  | [] => some []
  | x :: r => (match x with
    | .tup xs => (match intsOf xs with
      | some ns => (match tupsOf r with
        | some nss => some (ns :: nss)
        | none => none)
      | none => none)
    | _ => none)
def tI (ns : List Int) : D := .tup (ns.map D.int)
theorem tupsOf_ok : ∀ {xs : List D} {nss : List (List Int)}, tupsOf xs = some nss → xs = nss.map tI
  | [], nss, h => by simp only [tupsOf, Option.some.injEq] at h; subst h; rfl
  | x :: r, nss, h => by
    unfold tupsOf at h
    split at h
    · rename_i xs
      split at h
      · rename_i ns e1
        split at h
        · rename_i ms e2
          cases h
          rw [List.map_cons, ← tupsOf_ok e2, tI, ← intsOf_ok e1]
        · cases h
      · cases h
    · cases h
theorem tupI_of {K : PySem.W.Frag} {H : Hp} {O : Addr → Prop} {ns : List Int} {v : V} (h : RelD K H O (tI ns) v) : TupI K H v ns := by
  obtain ⟨_, a, vs, rfl, q, r⟩ := p_tup (Or.inl h : PRel K H O (tI ns) v)
  rw [p_ints r] at q
  exact ⟨a, rfl, q⟩
theorem zipV {K : PySem.W.Frag} {H : Hp} {O : Addr → Prop} : ∀ {nss : List (List Int)} {ws : List V}, RelL K H O (nss.map tI) ws → ∃ L : List (List Int × V), L.map (·.1) = nss ∧ L.map (·.2) = ws ∧ ∀ p ∈ L, RelD K H O (tI p.1) p.2
  | [], ws, h => by
    simp only [List.map_nil, RelL] at h
    exact ⟨[], rfl, h.symm, fun p hp => by simp at hp⟩
  | ns :: nss, ws, h => by
    simp only [List.map_cons, RelL] at h
    obtain ⟨v, r, rfl, h1, h2⟩ := h
    obtain ⟨L, e1, e2, e3⟩ := zipV h2
    refine ⟨(ns, v) :: L, by rw [List.map_cons, e1], by rw [List.map_cons, e2], fun p hp => ?_⟩
    rcases List.mem_cons.mp hp with rfl | hp
    · exact h1
    · exact e3 p hp
theorem unzipV {K : PySem.W.Frag} {H : Hp} {O : Addr → Prop} : ∀ {L : List (List Int × V)}, (∀ p ∈ L, RelD K H O (tI p.1) p.2) → RelL K H O ((L.map (·.1)).map tI) (L.map (·.2))
  | [], h => by simp only [List.map_nil, RelL]
  | p :: L, h => by
    simp only [List.map_cons, RelL]
    exact ⟨_, _, rfl, h p List.mem_cons_self, unzipV fun q hq => h q (List.mem_cons_of_mem _ hq)⟩
def bSortedX : List D → Option D
  | [.lst xs] => (match intsOf xs with
    | some ns => (match Nat.blt ns.length 64 with
      | true => some (.lst ((sortI ns).map D.int))
      | false => none)
    | none => none)
  | [.tup xs] => (match intsOf xs with
    | some ns => (match Nat.blt ns.length 64 with
      | true => some (.lst ((sortI ns).map D.int))
      | false => none)
    | none => (match tupsOf xs with
      | some nss => (match Nat.blt nss.length 64 && (decide (1 ≤ (nss.headD []).length) && okT (nss.headD []).length nss) with
        | true => some (.lst ((sortT nss).map tI))
        | false => none)
      | none => none))
  | _ => none
def rSortX (K : PySem.W.Frag) : List V → Hp → VK → Prop := fun vs H Q => rSorted K vs H Q ∨ rSortTup K vs H Q ∨ ∃ d, 1 ≤ d ∧ rSortTT K d BB vs H Q
theorem cr_sortX {X : Cx} : CallR X (.builtin "sorted") (rSortX X.K) := by
  intro pins s σ H xs us Q I r h
  rcases h with h | h | ⟨d, hd, h⟩
  · exact cr_sorted pins s σ H xs us Q I r h
  · exact cr_sortTup pins s σ H xs us Q I r h
  · exact cr_sortTT hd pins s σ H xs us Q I r h
theorem s_sortedX {K : PySem.W.Frag} : CaS K (rSortX K) bSortedX := by
  intro H O xs vs Q d dom pp e q
  match xs, e with
  | [x], e =>
    obtain ⟨v, rfl, px⟩ := pRelL_one pp
    cases x <;> simp only [bSortedX] at e <;> try (cases e; done)
    · rename_i xs
      obtain ⟨_, a, ws, rfl, q1, r1⟩ := p_tup px
      cases he : intsOf xs with
      | some ns =>
        rw [he] at e
        dsimp only at e
        split at e <;> cases e
        rename_i hl
        have i1 := intsOf_ok he
        subst i1
        rw [p_ints r1] at q1
        refine .inr (.inl ⟨a, ns, rfl, q1, Nat.le_of_ble_eq_true hl, fun ns' p pm pw np => ?_⟩)
        rw [sorted_one (pm.trans (sortI_perm _).symm) pw (sortI_sorted _)]
        exact q _ _ (same_upd np) (rel_newL np dom (r_ints _))
      | none =>
        rw [he] at e
        dsimp only at e
        cases ht : tupsOf xs with
        | none => rw [ht] at e; cases e
        | some nss =>
          rw [ht] at e
          dsimp only at e
          split at e <;> cases e
          rename_i hl
          simp only [Bool.and_eq_true, decide_eq_true_eq] at hl
          obtain ⟨l1, l2, l3⟩ := hl
          have t1 := tupsOf_ok ht
          subst t1
          obtain ⟨L, e1, e2, e3⟩ := zipV r1
          refine .inr (.inr ⟨(nss.headD []).length, l2, a, ws, rfl, q1, ?_, fun w hw => ?_, fun ys p pm pw np => ?_⟩)
          · rw [← relL_len r1, List.length_map]; exact Nat.le_of_ble_eq_true l1
          · rw [← e2] at hw
            obtain ⟨z, hz, rfl⟩ := List.mem_map.mp hw
            obtain ⟨k1, k2⟩ := okT_mem l3 (by rw [← e1]; exact List.mem_map.mpr ⟨z, hz, rfl⟩)
            exact ⟨z.1, tupI_of (e3 z hz), k1, k2⟩
          · rw [← e2] at pm
            obtain ⟨L', p1, p2⟩ := perm_lift pm
            have rel : ∀ z ∈ L', RelD K H O (tI z.1) z.2 := fun z hz => e3 z (p1.mem_iff.mp hz)
            have es : L'.map (·.1) = sortT nss := by
              refine sortT_one (d := (nss.headD []).length) (fun x hx => ?_) ?_ ?_ (sortT_sorted _)
              · obtain ⟨z, hz, rfl⟩ := List.mem_map.mp hx
                exact okT_mem l3 (by rw [← e1]; exact List.mem_map.mpr ⟨z, p1.mem_iff.mp hz, rfl⟩)
              · refine (p1.map _).trans ?_
                rw [e1]
                exact (sortT_perm _).symm
              · rw [← p2, List.pairwise_map] at pw
                rw [List.pairwise_map]
                exact pw.imp_of_mem fun {z y} hz hy h => h _ _ (tupI_of (rel z hz)) (tupI_of (rel y hy))
            have rl := unzipV rel
            rw [es, p2] at rl
            exact q _ _ (same_upd np) (rel_newL np dom rl)
    · rename_i xs
      split at e
      · rename_i ns he
        split at e <;> cases e
        rename_i hl
        obtain ⟨a, ws, rfl, q1, r1⟩ := p_lst px
        have i1 := intsOf_ok he
        subst i1
        rw [p_ints r1] at q1
        refine .inl ⟨a, _, rfl, .inl (.inl q1), Nat.le_of_ble_eq_true hl, fun ns' p pm pw np => ?_⟩
        rw [sorted_one (pm.trans (sortI_perm _).symm) pw (sortI_sorted _)]
        exact q _ _ (same_upd np) (rel_newL np dom (r_ints _))
      · cases e
  | [], e => simp [bSortedX] at e
  | _ :: _ :: _, e => simp [bSortedX] at e
section
variable {P : Program} {w : World} {K : PySem.W.Frag} {mg : Str → Option Value} {base : Heap} {N : List Str} {sc : Scope} {k : Nat} {X : Cx} {C : CT} {W : WX}
theorem x_sortedX {e : Expr} {es : List Expr} {ma : MA} {la : Ev → List D → Option (List D)} {p pos : Pos} (c : Cw P w K mg base N sc k X W) (B : Bts mg) (ha : JA X C W (e :: es) ma la) (he : starEach (e :: es) X.env = (false, eval e X.env) :: starEach es X.env) (hpl : (backTo pos (starEach es X.env)).any (·.1) = false)
    (g : Ng sc "sorted") : JE X C W (.Call (.Name "sorted" p) (e :: es) [] pos) (mCall bSortedX ma la) := j_callB cr_sortX s_sortedX (c.c.gl g) (c.mn B.sorted) rfl (by decide) (by decide) ha he hpl
end
end MP

set_option Elab.async false
set_option linter.all false
set_option maxRecDepth 100000
set_option maxHeartbeats 4000000
namespace MP
open PySem PySem.Spec L2
open PyProof.Rows hiding St

@[simp] theorem mWord1_ap (ex : Nat → Option Bool) (A B N0 : List Nat) (m : ME) (e : Ev) : mWord1 ex A B N0 m e = (match m (e.map roE) with
  | .ok _ _ => .ok (.str N0) e
  | .ex c _ => (match ex c with
    | some true => .ok (.str A) e
    | some false => .ok (.str B) e
    | none => .bad)
  | .bad => .bad) := rfl
end MP

set_option Elab.async false
set_option linter.all false
set_option maxRecDepth 100000
set_option maxHeartbeats 4000000
namespace MP
open PySem PySem.Spec L2
open PyProof.Rows hiding St

/-! ### texts: str(int), int(text), sep.join(texts), text.split(sep) -/
abbrev SS (l : List Nat) : Str := ⟨l.toArray⟩
def sI (i : Int) : List Nat := TL.tl (toString i : Str)
def bStrI : List D → Option D
  | [.int i] => (match Nat.blt i.natAbs.log2 1920 with
    | true => some (.str (sI i))
    | false => none)
  | _ => none
theorem s_strI {K : PySem.W.Frag} : CaS K (fun xs H Q => ∃ i : Int, xs = [.int i] ∧ i.natAbs.log2 < 1920 ∧ Q (.str (toString i)) H) bStrI := by
  intro H O xs vs Q d dom pp e q
  match xs, e with
  | [x], e =>
    obtain ⟨v, rfl, px⟩ := pRelL_one pp
    cases x <;> simp only [bStrI] at e <;> try (cases e; done)
    rename_i i
    split at e
    · rename_i hb
      cases e
      rw [p_int px]
      refine ⟨i, rfl, Nat.le_of_ble_eq_true hb, q _ H (Same.refl H) ?_⟩
      simp only [RelD]
      exact congrArg V.str (TL.mk_tl _).symm
    · cases e
  | [], e => simp [bStrI] at e
  | _ :: _ :: _, e => simp [bStrI] at e
/-- int(..) of a number, of a truth or of a text -/
def bIntX : List D → Option D
  | [.str cs] => (match Nat.ble cs.length 640 with
    | true => (match PySem.intText? (SS cs) with
      | some n => some (.int n)
      | none => none)
    | false => none)
  | xs => bInt xs
def rIntX : List V → Hp → VK → Prop := fun xs H Q => ((∃ i, xs = [.int i] ∧ Q (.int i) H) ∨ ∃ k, xs = [.bl k] ∧ Q (.int (if k then 1 else 0)) H) ∨ ∃ a n, xs = [.str a] ∧ PySem.intText? a = some n ∧ a.length ≤ 640 ∧ Q (.int n) H
theorem cr_intX {X : Cx} : CallR X (.type "int") rIntX := by
  intro pins s σ H xs us Q I r h
  rcases h with h | h
  · exact call_int1 pins s σ H xs us Q I r h
  · exact call_int_str pins s σ H xs us Q I r h
theorem s_intX {K : PySem.W.Frag} : CaS K rIntX bIntX := by
  intro H O xs vs Q d dom pp e q
  unfold bIntX at e
  split at e
  · rename_i cs
    obtain ⟨v, rfl, px⟩ := pRelL_one pp
    split at e
    · rename_i hb
      split at e
      · rename_i n hn
        cases e
        rw [p_str px]
        refine .inr ⟨_, n, rfl, hn, ?_, q _ H (Same.refl H) (by simp only [RelD])⟩
        rw [TL.len_tl]
        exact Nat.le_of_ble_eq_true hb
      · cases e
    · cases e
  · exact .inl (s_int H O _ vs Q d dom pp e q)
def txtsOf : List D → Option (List (List Nat))
  | [] => some []
  | x :: r => (match x with
    | .str cs => (match txtsOf r with
      | some ts => some (cs :: ts)
      | none => none)
    | _ => none)
theorem txtsOf_ok : ∀ {xs : List D} {ts : List (List Nat)}, txtsOf xs = some ts → xs = ts.map D.str
  | [], ts, h => by simp only [txtsOf, Option.some.injEq] at h; subst h; rfl
  | x :: r, ts, h => by
    simp only [txtsOf] at h
    cases x <;> simp only at h <;> try (cases h; done)
    cases e : txtsOf r with
    | none => rw [e] at h; cases h
    | some q => rw [e] at h; cases h; rw [txtsOf_ok e]; rfl
theorem relL_txts {K : PySem.W.Frag} {H : Hp} {O : Addr → Prop} : ∀ {ts : List (List Nat)} {vs : List V}, RelL K H O (ts.map D.str) vs → vs = (ts.map SS).map V.str
  | [], vs, h => by simpa only [List.map_nil, RelL] using h
  | t :: ts, vs, h => by
    simp only [List.map_cons, RelL] at h
    obtain ⟨v, r, rfl, h1, h2⟩ := h
    simp only [RelD] at h1
    rw [h1, relL_txts h2]
    rfl
theorem txts_relL {K : PySem.W.Frag} {H : Hp} {O : Addr → Prop} : ∀ ts : List (List Nat), RelL K H O (ts.map D.str) ((ts.map SS).map V.str)
  | [] => by simp only [List.map_nil, RelL]
  | t :: ts => by
    simp only [List.map_cons, RelL]
    exact ⟨_, _, rfl, by simp only [RelD], txts_relL ts⟩
def fSplit : D → D → Option D
  | .str a, .str b => (match (Nat.blt 0 b.length && b.all (· < 256)) && Nat.ble (a.length + 2) line with
    | true => some (.lst ((TL.spl b 0 [] a).map D.str))
    | false => none)
  | _, _ => none
theorem s_split {K : PySem.W.Frag} : OpS K (fun x y H Q => ∃ a b, x = .str a ∧ [y] = [.str b] ∧ (b.length == 0) = false ∧ a.length + 2 ≤ sizeLine ∧ rNewStrs (Txt.split a b) H Q) fSplit := by
  intro H O x y v u Q d dom px py e q
  cases x <;> cases y <;> simp only [fSplit] at e <;> try (cases e; done)
  rename_i a b
  split at e
  · rename_i hb
    cases e
    simp only [Bool.and_eq_true] at hb
    obtain ⟨⟨h1, h2⟩, h3⟩ := hb
    have n1 : 0 < b.length := Nat.le_of_ble_eq_true h1
    rw [p_str px, p_str py]
    refine ⟨_, _, rfl, rfl, ?_, ?_, ?_⟩
    · rw [TL.len_tl]
      show (b.length == 0) = false
      rw [beq_eq_false_iff_ne]
      omega
    · rw [TL.len_tl]
      exact line_le h3
    · have sp : Txt.split (SS a) (SS b) = (TL.spl b 0 [] a).map SS := SX.split_S (List.length_pos_iff.mp n1) h2
      rw [sp]
      exact fun p np => q _ _ (same_upd np) (rel_newL np dom (txts_relL _))
  · cases e
def fJoin : D → D → Option D
  | .str a, .lst xs => (match txtsOf xs with
    | some ts => (match Nat.ble ((ts.map (·.length)).sum + ts.length * a.length) 16777216 with
      | true => some (.str (TL.joinL a ts))
      | false => none)
    | none => none)
  | _, _ => none
theorem s_join {K : PySem.W.Frag} : OpS K (fun x y H Q => ∃ a p, ∃ ys : List Str, x = .str a ∧ [y] = [.ref p] ∧ (SqL K H p (ys.map V.str) ∨ SqT K H p (ys.map V.str)) ∧ (ys.map (·.length)).sum + ys.length * a.length ≤ 16777216 ∧ Q (.str (Txt.join a ys)) H) fJoin := by
  intro H O x y v u Q d dom px py e q
  cases x <;> cases y <;> simp only [fJoin] at e <;> try (cases e; done)
  rename_i a xs
  split at e
  · rename_i ts hts
    split at e
    · rename_i hb
      cases e
      have hx := txtsOf_ok hts
      subst hx
      obtain ⟨p, ws, rfl, q1, r1⟩ := p_lst py
      have hw := relL_txts r1
      subst hw
      rw [p_str px]
      have ls : (ts.map SS).map (fun z : Str => z.length) = ts.map (fun z : List Nat => z.length) := by
        rw [List.map_map]
        exact List.map_congr_left fun z _ => TL.len_tl _
      refine ⟨_, p, ts.map SS, rfl, rfl, .inl (.inl (.inl q1)), ?_, q _ H (Same.refl H) ?_⟩
      · have := Nat.le_of_ble_eq_true hb
        have l2 := TL.len_tl (SS a)
        rw [show (List.map (fun x : Str => x.length) (ts.map SS)) = ts.map (fun z : List Nat => z.length) from ls, List.length_map, l2]
        exact this
      · simp only [RelD]
        have := SX.join_S a ts
        exact congrArg V.str this
    · cases e
  · cases e
/-- text.method(operand) -/
def mM1 (f : D → D → Option D) (m1 m2 : ME) (l2 : Ev → D → Option D) : ME := fun e => match m1 e with
  | .ok (.str a) e1 => (match m2 e1 with
    | .ok y e2 => (match l2 e2 y with
      | some b => (match f (.str a) b with
        | some d => .ok d e2
        | none => .bad)
      | none => .bad)
    | .ex c e2 => .ex c e2
    | .bad => .bad)
  | .ok _ _ => .bad
  | .ex c e1 => .ex c e1
  | .bad => .bad
@[simp] theorem mM1_ap (f : D → D → Option D) (m1 m2 : ME) (l2 : Ev → D → Option D) (e : Ev) : mM1 f m1 m2 l2 e = (match m1 e with
  | .ok (.str a) e1 => (match m2 e1 with
    | .ok y e2 => (match l2 e2 y with
      | some b => (match f (.str a) b with
        | some d => .ok d e2
        | none => .bad)
      | none => .bad)
    | .ex c e2 => .ex c e2
    | .bad => .bad)
  | .ok _ _ => .bad
  | .ex c e1 => .ex c e1
  | .bad => .bad) := rfl
section
variable {X : Cx} {C : CT} {W : WX}
theorem m1_run {F : Fx} {env : Ev} {σ : St} {H : Hp} {Q : VK} {r : V → List V → Hp → VK → Prop} {f : D → D → Option D} {ta tb : TE} {m1 m2 : ME} {l2 : Ev → D → Option D} (k : FX F X.K C)
    (qa : ∀ F env σ H Q, FX F X.K C → SR F env σ H → PostE F C W env σ H Q (m1 env) → ta σ H Q) (qb : ∀ F env σ H Q, FX F X.K C → SR F env σ H → PostO F C W env σ H l2 Q (m2 env) → tb σ H Q)
    (hs : OpS X.K (fun x y H Q => r x [y] H Q) f) (s : SR F env σ H) (z : PostE F C W env σ H Q (mM1 f m1 m2 l2 env)) : tM1 r ta tb σ H Q := by
  refine qa F env σ H _ k s ?_
  unfold mM1 at z
  cases e1 : m1 env with
  | ok x env1 =>
    rw [e1] at z
    cases x <;> dsimp only at z <;> try (exact z.elim)
    rename_i cs
    refine fun v H1 s1 x1 rl => ?_
    simp only [RelD] at rl
    subst rl
    refine ⟨⟨_, rfl⟩, qb F env1 σ H1 _ k s1 ?_⟩
    cases e2 : m2 env1 with
    | ok y env2 =>
      rw [e2] at z
      refine fun u H2 s2 x2 lt2 => ?_
      dsimp only at z
      cases e4 : l2 env2 y with
      | none => rw [e4] at z; exact z.elim
      | some b1 =>
        rw [e4] at z
        dsimp only at z
        cases e5 : f (.str cs) b1 with
        | none => rw [e5] at z; exact z.elim
        | some d =>
          rw [e5] at z
          refine hs H2 (Ow F env2 σ) (.str cs) b1 _ u _ d (fun a => s2.dom) (.inl (by simp only [RelD])) (by rw [← k.1]; exact lt2 env2 H2 s2 .refl b1 e4) e5 fun v' H' g rel => ?_
          exact fin_op s2 (x1.trans x2) g (by rw [k.1]; exact rel) z
    | ex c env2 => rw [e2] at z; exact fun H' s' x' => z H' s' (x1.trans x')
    | bad => rw [e2] at z; exact z
  | ex c env1 => rw [e1] at z; exact z
  | bad => rw [e1] at z; exact z
theorem x_split {o e : Expr} {m1 m2 : ME} {l2 : Ev → D → Option D} {apos pos : Pos} (ho : JE X C W o m1) (he : JO X C W e m2 l2) (hs : starEach [e] X.env = [(false, eval e X.env)])
    (hbase : attributeBase o "split" X.env (eval o X.env) = eval o X.env) (hline : (apos.endLine == pos.line) = true) : JE X C W (.Call (.Attribute o "split" apos) [e] [] pos) (mM1 fSplit m1 m2 l2) := by
  obtain ⟨ta, pa, qa⟩ := ho.run
  obtain ⟨tb, pb, qb⟩ := he.run
  exact ⟨_, pe_split pa pb hs hbase hline, fun F env σ H Q k s z => m1_run k qa qb s_split s z⟩
theorem x_join {o e : Expr} {m1 m2 : ME} {l2 : Ev → D → Option D} {apos pos : Pos} (ho : JE X C W o m1) (he : JO X C W e m2 l2) (hs : starEach [e] X.env = [(false, eval e X.env)])
    (hbase : attributeBase o "join" X.env (eval o X.env) = eval o X.env) (hline : (apos.endLine == pos.line) = true) : JE X C W (.Call (.Attribute o "join" apos) [e] [] pos) (mM1 fJoin m1 m2 l2) := by
  obtain ⟨ta, pa, qa⟩ := ho.run
  obtain ⟨tb, pb, qb⟩ := he.run
  exact ⟨_, pe_join pa pb hs hbase hline, fun F env σ H Q k s z => m1_run k qa qb s_join s z⟩
end
section
variable {P : Program} {w : World} {K : PySem.W.Frag} {mg : Str → Option Value} {base : Heap} {N : List Str} {sc : Scope} {k : Nat} {X : Cx} {C : CT} {W : WX}
variable {e : Expr} {es : List Expr} {ma : MA} {la : Ev → List D → Option (List D)} {p pos : Pos} (c : Cw P w K mg base N sc k X W) (B : Bts mg) (ha : JA X C W (e :: es) ma la) (he : starEach (e :: es) X.env = (false, eval e X.env) :: starEach es X.env) (hpl : (backTo pos (starEach es X.env)).any (·.1) = false)
include c B ha he hpl
theorem x_strI (g : Ng sc "str") : JE X C W (.Call (.Name "str" p) (e :: es) [] pos) (mCall bStrI ma la) := j_callT call_str_int s_strI (c.c.gl g) (c.mn B.str) rfl (by decide) (by decide) ha he hpl
theorem x_intX (g : Ng sc "int") : JE X C W (.Call (.Name "int" p) (e :: es) [] pos) (mCall bIntX ma la) := j_callT cr_intX s_intX (c.c.gl g) (c.mn B.int) rfl (by decide) (by decide) ha he hpl
end
/-! ### f-strings of texts and ints -/
theorem ss_app (a b : List Nat) : SS a ++ SS b = SS (a ++ b) := TL.ext_tl (by rw [TL.tl_append])
theorem ss_len (a : List Nat) : (SS a).length = a.length := TL.len_tl _
def mFmt (m : ME) : ME := fun e => match m e with
  | .ok (.str cs) e1 => (match Nat.ble cs.length line with
    | true => .ok (.str cs) e1
    | false => .bad)
  | .ok (.int i) e1 => (match Nat.blt i.natAbs.log2 1920 with
    | true => .ok (.str (sI i)) e1
    | false => .bad)
  | .ok _ _ => .bad
  | .ex c e1 => .ex c e1
  | .bad => .bad
@[simp] theorem mFmt_ap (m : ME) (e : Ev) : mFmt m e = (match m e with
  | .ok (.str cs) e1 => (match Nat.ble cs.length line with
    | true => .ok (.str cs) e1
    | false => .bad)
  | .ok (.int i) e1 => (match Nat.blt i.natAbs.log2 1920 with
    | true => .ok (.str (sI i)) e1
    | false => .bad)
  | .ok _ _ => .bad
  | .ex c e1 => .ex c e1
  | .bad => .bad) := rfl
def mjNil : List Nat → ME := fun acc e => .ok (.str acc) e
def mjCons (m : ME) (r : List Nat → ME) : List Nat → ME := fun acc e => match m e with
  | .ok (.str cs) e1 => (match Nat.ble (acc.length + cs.length) line with
    | true => r (acc ++ cs) e1
    | false => .bad)
  | .ok _ _ => .bad
  | .ex c e1 => .ex c e1
  | .bad => .bad
def mJoined (r : List Nat → ME) : ME := r []
@[simp] theorem mjNil_ap (acc : List Nat) (e : Ev) : mjNil acc e = .ok (.str acc) e := rfl
@[simp] theorem mjCons_ap (m : ME) (r : List Nat → ME) (acc : List Nat) (e : Ev) : mjCons m r acc e = (match m e with
  | .ok (.str cs) e1 => (match Nat.ble (acc.length + cs.length) line with
    | true => r (acc ++ cs) e1
    | false => .bad)
  | .ok _ _ => .bad
  | .ex c e1 => .ex c e1
  | .bad => .bad) := rfl
@[simp] theorem mJoined_ap (r : List Nat → ME) (e : Ev) : mJoined r e = r [] e := rfl
section
variable {X : Cx} {C : CT} {W : WX}
theorem x_fmt {e : Expr} {m : ME} {pos : Pos} (he : JE X C W e m) : JE X C W (.FormattedValue e (-1) none pos) (mFmt m) := by
  obtain ⟨t, p, q⟩ := he.run
  refine ⟨_, pe_fmt p, fun F env σ H Q k s z => q F env σ H _ k s ?_⟩
  unfold mFmt at z
  cases e1 : m env with
  | ok x env1 =>
    rw [e1] at z
    cases x <;> dsimp only at z <;> try (exact z.elim)
    · rename_i i
      split at z
      · rename_i hb
        refine fun v H1 s1 x1 rl => ?_
        simp only [RelD] at rl
        subst rl
        refine .inr ⟨i, rfl, Nat.le_of_ble_eq_true hb, ?_⟩
        refine z _ H1 s1 x1 ?_
        simp only [RelD]
        exact congrArg V.str (TL.mk_tl _).symm
      · exact z.elim
    · rename_i cs
      split at z
      · rename_i hb
        refine fun v H1 s1 x1 rl => ?_
        have rl0 := rl
        simp only [RelD] at rl
        subst rl
        exact .inl ⟨_, rfl, by rw [ss_len]; exact line_le hb, z _ H1 s1 x1 rl0⟩
      · exact z.elim
  | ex c env1 => rw [e1] at z; exact z
  | bad => rw [e1] at z; exact z
structure JJ (X : Cx) (C : CT) (W : WX) (es : List Expr) (r : List Nat → ME) : Prop where
  run : ∃ ts, PJ X es ts ∧ ∀ F env σ H (Q : VK) acc, FX F X.K C → SR F env σ H → PostE F C W env σ H Q (r acc env) → tJs ts (SS acc) σ H fun out H1 => Q (.str out) H1
theorem jj_nil : JJ X C W [] mjNil := ⟨[], .nil, fun F env σ H Q acc k s z => z _ H s .refl (by simp only [RelD])⟩
theorem jj_cons {e : Expr} {es : List Expr} {m : ME} {r : List Nat → ME} (he : JE X C W e m) (hr : JJ X C W es r) : JJ X C W (e :: es) (mjCons m r) := by
  obtain ⟨t, p, q⟩ := he.run
  obtain ⟨ts, p2, q2⟩ := hr.run
  refine ⟨t :: ts, .cons p p2, fun F env σ H Q acc k s z => ?_⟩
  show t σ H _
  refine q F env σ H _ k s ?_
  unfold mjCons at z
  cases e1 : m env with
  | ok x env1 =>
    rw [e1] at z
    cases x <;> dsimp only at z <;> try (exact z.elim)
    rename_i cs
    split at z
    · rename_i hb
      refine fun v H1 s1 x1 rl => ?_
      simp only [RelD] at rl
      subst rl
      refine ⟨SS cs, rfl, ?_, ?_⟩
      · rw [ss_app, ss_len, List.length_append]
        exact line_le hb
      · rw [ss_app]
        refine q2 F env1 σ H1 Q (acc ++ cs) k s1 ?_
        cases e2 : r (acc ++ cs) env1 with
        | ok d env2 => rw [e2] at z; exact fun v H' s' x' rel => z v H' s' (x1.trans x') rel
        | ex c env2 => rw [e2] at z; exact fun H' s' x' => z H' s' (x1.trans x')
        | bad => rw [e2] at z; exact z
    · exact z.elim
  | ex c env1 => rw [e1] at z; exact z
  | bad => rw [e1] at z; exact z
theorem x_joined {a b : Expr} {es : List Expr} {r : List Nat → ME} {pos : Pos} (h : JJ X C W (a :: b :: es) r) : JE X C W (.JoinedStr (a :: b :: es) pos) (mJoined r) := by
  obtain ⟨ts, p, q⟩ := h.run
  exact ⟨_, pe_joined p, fun F env σ H Q k s z => q F env σ H Q [] k s z⟩
end
/-! ### x, y = e, a new thing; x, y, z = e1, e2, e3 -/
def mParO (i j : Nat) (m1 m2 : ME) : MS := fun e => match m1 e with
  | .ok a e1 => (match m2 e1 with
    | .ok d e2 => (match Nat.blt i e2.length && Nat.blt j e2.length with
      | true => .nx ((e2.set j (.ow d)).set i (.va a))
      | false => .bad)
    | .ex c e2 => .ex c e2
    | .bad => .bad)
  | .ex c e1 => .ex c e1
  | .bad => .bad
@[simp] theorem mParO_ap (i j : Nat) (m1 m2 : ME) (e : Ev) : mParO i j m1 m2 e = (match m1 e with
  | .ok a e1 => (match m2 e1 with
    | .ok d e2 => (match Nat.blt i e2.length && Nat.blt j e2.length with
      | true => .nx ((e2.set j (.ow d)).set i (.va a))
      | false => .bad)
    | .ex c e2 => .ex c e2
    | .bad => .bad)
  | .ex c e1 => .ex c e1
  | .bad => .bad) := rfl
def mPar3 (i j l : Nat) (ma : MA) : MS := fun e => match ma e with
  | .ok [a, b, c] e1 => (match (Nat.blt i e1.length && Nat.blt j e1.length) && Nat.blt l e1.length with
    | true => .nx (((e1.set i (.va a)).set j (.va b)).set l (.va c))
    | false => .bad)
  | .ok _ _ => .bad
  | .ex c e1 => .ex c e1
  | .bad => .bad
@[simp] theorem mPar3_ap (i j l : Nat) (ma : MA) (e : Ev) : mPar3 i j l ma e = (match ma e with
  | .ok [a, b, c] e1 => (match (Nat.blt i e1.length && Nat.blt j e1.length) && Nat.blt l e1.length with
    | true => .nx (((e1.set i (.va a)).set j (.va b)).set l (.va c))
    | false => .bad)
  | .ok _ _ => .bad
  | .ex c e1 => .ex c e1
  | .bad => .bad) := rfl
section
variable {P : Program} {w : World} {K : PySem.W.Frag} {mg : Str → Option Value} {base : Heap} {N : List Str} {sc : Scope} {k : Nat} {X : Cx} {C : CT} {W : WX}
theorem st_parO (c : Cs P w K mg base N sc k X W) {i j : Nat} {x y : Str} {a b : Expr} {m1 m2 : ME} {px py pt pos : Pos} {kt k2 : Nat} {pt2 : Pos} (n1 : Nl N sc i x) (n2 : Nl N sc j y) (hij : i ≠ j) (ha : JE X C W a m1) (hb : JF X C W b m2)
    (h1 : starEach [a, b] X.env = (false, eval a X.env) :: starEach [b] X.env) (h2 : starEach [b] X.env = (false, eval b X.env) :: starEach [] X.env)
    (hw : ∀ env : Env, swappedStores [.Tuple [.Name x px, .Name y py] kt pt] (.Tuple [a, b] k2 pt2) { env with scope := sc } = pure (some [x, y])) (hs : swapsWithSole [.Tuple [.Name x px, .Name y py] kt pt] (.Tuple [a, b] k2 pt2) pos.line X.env = pure false) :
    JS X C W (.Assign [.Tuple [.Name x px, .Name y py] kt pt] (.Tuple [a, b] k2 pt2) pos) (mParO i j m1 m2) := by
  obtain ⟨ta, pa, qa⟩ := ha.run
  obtain ⟨tb, pb, qb⟩ := hb.run
  refine ⟨_, ps_par c.e.c.calm c.e.xnd (c.e.c.at_ n1.at_) (c.e.c.at_ n2.at_) hij (by rw [c.e.c.sc]; exact n1.loc) (by rw [c.e.c.sc]; exact n2.loc) (pa_cons pa (pa_cons pb pa_nil h2) h1) (sw_by c.e.c.sc hw) hs, fun F env σ H D k s z => ?_⟩
  refine qa F env σ H _ k s ?_
  unfold mParO at z
  cases e1 : m1 env with
  | ok d1 env1 =>
    rw [e1] at z
    dsimp only at z
    refine fun v H1 s1 x1 r1 => qb F env1 σ H1 _ k s1 ?_
    cases e2 : m2 env1 with
    | ok d2 env2 =>
      rw [e2] at z
      dsimp only at z
      split at z
      · rename_i hl
        rw [Bool.and_eq_true] at hl
        refine fun p H2 H' s2 x2 n g cr => ?_
        obtain ⟨s3, x3⟩ := s2.own (Nat.le_of_ble_eq_true hl.2) n g cr
        have s4 := s3.set (i := i) (by rw [List.length_set]; exact Nat.le_of_ble_eq_true hl.1) (r1.ext (x2.trans x3))
        refine ⟨v, .ref p, rfl, ?_⟩
        rw [List.set_comm _ _ hij]
        exact z _ H' s4 (((x1.trans x2).trans x3).trans (Ext.sub fun b h => ow_set b h))
      · exact z.elim
    | ex c env2 => rw [e2] at z; exact fun H' s' x' => PostS.ex z H' s' (x1.trans x')
    | bad => rw [e2] at z; exact z
  | ex c env1 => rw [e1] at z; exact PostS.ex z
  | bad => rw [e1] at z; exact z
theorem st_par3 (c : Cs P w K mg base N sc k X W) {i j l : Nat} {x y z : Str} {a b d : Expr} {ma : MA} {px py pz pt pos : Pos} {kt k2 : Nat} {pt2 : Pos} (n1 : Nl N sc i x) (n2 : Nl N sc j y) (n3 : Nl N sc l z) (hij : i ≠ j) (hil : i ≠ l) (hjl : j ≠ l) (ha : JV X C W [a, b, d] ma)
    (hw : ∀ env : Env, swappedStores [.Tuple [.Name x px, .Name y py, .Name z pz] kt pt] (.Tuple [a, b, d] k2 pt2) { env with scope := sc } = pure (some [x, y, z])) (hs : swapsWithSole [.Tuple [.Name x px, .Name y py, .Name z pz] kt pt] (.Tuple [a, b, d] k2 pt2) pos.line X.env = pure false) :
    JS X C W (.Assign [.Tuple [.Name x px, .Name y py, .Name z pz] kt pt] (.Tuple [a, b, d] k2 pt2) pos) (mPar3 i j l ma) := by
  obtain ⟨t, p, q⟩ := ha.run
  refine ⟨_, ps_par3 c.e.c.calm c.e.xnd (c.e.c.at_ n1.at_) (c.e.c.at_ n2.at_) (c.e.c.at_ n3.at_) hij hil hjl (by rw [c.e.c.sc]; exact n1.loc) (by rw [c.e.c.sc]; exact n2.loc) (by rw [c.e.c.sc]; exact n3.loc) p (sw_by c.e.c.sc hw) hs, fun F env σ H D k s z => q F env σ H _ k s ?_⟩
  unfold mPar3 at z
  cases e1 : ma env with
  | ok ds env1 =>
    rw [e1] at z
    split at z
    · rename_i d1 d2 d3 e0 e2
      cases e2
      split at z
      · rename_i hl
        rw [Bool.and_eq_true, Bool.and_eq_true] at hl
        refine fun vs H1 s1 x1 r => ?_
        simp only [RelL] at r
        obtain ⟨v, r0, rfl, r1, u, r3, rfl, r2, t, r5, rfl, r4, rfl⟩ := r
        refine ⟨v, u, t, rfl, ?_⟩
        have s2 := s1.set (Nat.le_of_ble_eq_true hl.1.1) r1
        have x2 : Ext (Ow F env1 σ) H1 (Ow F (env1.set i (.va d1)) (σ.set i (some v))) H1 := Ext.sub fun b h => ow_set b h
        have s3 := s2.set (i := j) (by rw [List.length_set]; exact Nat.le_of_ble_eq_true hl.1.2) (r2.ext x2)
        have x3 : Ext (Ow F (env1.set i (.va d1)) (σ.set i (some v))) H1 (Ow F ((env1.set i (.va d1)).set j (.va d2)) ((σ.set i (some v)).set j (some u))) H1 := Ext.sub fun b h => ow_set b h
        have s4 := s3.set (i := l) (by rw [List.length_set, List.length_set]; exact Nat.le_of_ble_eq_true hl.2) ((r4.ext x2).ext x3)
        exact z _ H1 s4 (((x1.trans x2).trans x3).trans (Ext.sub fun b h => ow_set b h))
      · exact z.elim
    · exact z.elim
    · rename_i h
      cases h
    · exact z.elim
  | ex c env1 => rw [e1] at z; exact PostS.ex z
  | bad => rw [e1] at z; exact z
end
/-! ### enumerate(list); tuple(range(n)) -/
def enumD (xs : List D) : List D := pairs ((List.range xs.length).map fun i => D.int ((i : Nat) : Int)) xs
def mEnum (ma : MA) : MA := fun e => match ma e with
  | .ok [.lst xs] e1 => .ok (enumD xs) e1
  | .ok _ _ => .bad
  | .ex c e1 => .ex c e1
  | .bad => .bad
@[simp] theorem mEnum_ap (ma : MA) (e : Ev) : mEnum ma e = (match ma e with
  | .ok [.lst xs] e1 => .ok (enumD xs) e1
  | .ok _ _ => .bad
  | .ex c e1 => .ex c e1
  | .bad => .bad) := rfl
def mTupR1 (m : ME) : ME := fun e => match m e with
  | .ok (.int n) e1 => (match decide (0 ≤ n) && decide (n ≤ 16777216) with
    | true => .ok (.tup (upsD 0 n)) e1
    | false => .bad)
  | .ok _ _ => .bad
  | .ex c e1 => .ex c e1
  | .bad => .bad
@[simp] theorem mTupR1_ap (m : ME) (e : Ev) : mTupR1 m e = (match m e with
  | .ok (.int n) e1 => (match decide (0 ≤ n) && decide (n ≤ 16777216) with
    | true => .ok (.tup (upsD 0 n)) e1
    | false => .bad)
  | .ok _ _ => .bad
  | .ex c e1 => .ex c e1
  | .bad => .bad) := rfl
theorem it_enum {F : Fx} {σ : St} {J : It} {G : Hp → Prop} {vs : List V} {xs : List D} {env1 : Ev} {H1 : Hp} (w : Walk J vs.length G (YPair (fun i => some (.int ((i : Nat) : Int))) (fun i => vs[i]?))) (g : ∀ O2 H2, Ext (Ow F env1 σ) H1 O2 H2 → G H2)
    (r : RelL F.K H1 (Ow F env1 σ) xs vs) : ItOk F σ J (enumD xs) env1 H1 := by
  have ln : (enumD xs).length = vs.length := by
    unfold enumD
    rw [pairs_len, List.length_map, List.length_range, relL_len r, Nat.min_self]
  refine ⟨_, _, (by rw [ln]; exact w), g, fun O2 i H2 x H3 d e dom y hd => ?_⟩
  obtain ⟨T, x1, x2, rfl, nT, rfl, e1, e2⟩ := y
  obtain ⟨a, b, h1, h2, rfl⟩ := pairs_get _ xs i d hd
  obtain ⟨u, hu, ru⟩ := relL_get r h2
  dsimp only at e1 e2
  rw [hu] at e2
  cases e1
  cases e2
  have ha : a = .int ((i : Nat) : Int) := by
    rw [List.getElem?_map] at h1
    cases e0 : (List.range xs.length)[i]? with
    | none => rw [e0] at h1; simp at h1
    | some q =>
      rw [e0] at h1
      have hq : q = i := by
        have := List.getElem?_eq_some_iff.mp e0
        obtain ⟨hi, he⟩ := this
        rw [List.getElem_range] at he
        exact he.symm
      subst hq
      simpa using h1.symm
  subst ha
  refine ⟨same_upd nT, rel_newT nT dom ?_⟩
  simp only [RelL, RelD]
  exact ⟨_, _, rfl, rfl, _, _, rfl, ru.ext e, rfl⟩
section
variable {P : Program} {w : World} {K : PySem.W.Frag} {mg : Str → Option Value} {base : Heap} {N : List Str} {sc : Scope} {k : Nat} {X : Cx} {C : CT} {W : WX}
theorem x_enum {elts : List Expr} {kk : Nat} {tpos : Pos} {a : Expr} {ma : MA} {p pos : Pos} (c : Cw P w K mg base N sc k X W) (hm : mg "enumerate" = none) (g : Ng sc "enumerate") (ha : JV X C W [a] ma) (hs : starEach [a] X.env = [(false, eval a X.env)]) :
    JI X C W (.Tuple elts kk tpos) (.Call (.Name "enumerate" p) [a] [] pos) (mEnum ma) := by
  obtain ⟨t, pa, q⟩ := ha.run
  refine ⟨_, pi_enum (c.c.gl g) (c.mn hm) pa hs, fun F env σ H R k s z => q F env σ H _ k s ?_⟩
  unfold mEnum at z
  cases e1 : ma env with
  | ok xs env1 =>
    rw [e1] at z
    split at z
    · rename_i xs e e2
      cases e2
      refine fun vs H1 s1 x1 r => ?_
      simp only [RelL, RelD] at r
      obtain ⟨v, r0, rfl, ⟨a1, ws, rfl, q1, n1, r1⟩, rfl⟩ := r
      refine ⟨a1, ws, rfl, .inl (.inl q1), ?_⟩
      exact z _ H1 s1 x1 (it_enum walk_enum (fun O2 H2 x => .inl (.inl (x.1 _ _ q1 n1 nt_lst))) r1)
    · exact z.elim
    · rename_i h
      cases h
    · exact z.elim
  | ex c env1 => rw [e1] at z; exact z
  | bad => rw [e1] at z; exact z
theorem x_tupR1 {e : Expr} {m : ME} {p p2 pos pos2 : Pos} (c : Cw P w K mg base N sc k X W) (B : Bts mg) (g : Ng sc "tuple") (g2 : Ng sc "range") (he : JE X C W e m) (na : starEach [e] X.env = (false, eval e X.env) :: starEach [] X.env) :
    JE X C W (.Call (.Name "tuple" p) [.Call (.Name "range" p2) [e] [] pos2] [] pos) (mTupR1 m) := by
  obtain ⟨t, pe, q⟩ := he.run
  refine ⟨_, pe_tupRg c.c.calm (c.c.gl g) (c.mn B.tuple) (prg_1 (c.c.gl g2) (c.mn B.range) pe na) rfl, fun F env σ H Q k s z => q F env σ H _ k s ?_⟩
  unfold mTupR1 at z
  cases e1 : m env with
  | ok x env1 =>
    rw [e1] at z
    refine fun v H1 s1 x1 r => ?_
    cases x <;> dsimp only at z <;> try exact z.elim
    simp only [RelD] at r
    split at z
    · rename_i hb
      simp only [Bool.and_eq_true, decide_eq_true_eq] at hb
      refine ⟨_, r, RgOk.of_le (by omega) (by omega) (by omega) (by omega), fun p np => ?_⟩
      exact z _ _ (s1.grow (same_upd np)) (x1.trans (Ext.of (same_upd np))) (rel_newT np (fun a => s1.dom) (rel_ups 0 _))
    · exact z.elim
  | ex c env1 => rw [e1] at z; exact z
  | bad => rw [e1] at z; exact z
end
/-! ### a key in an own dict; a display of texts and numbers -/
def mDIn (ng : Bool) (i : Nat) (mk : ME) : ME := fun e => match mk e with
  | .ok kd e1 => (match kyD kd with
    | some q => (match dctAt e1 i with
      | some (ks, xs) => .ok (.bl (ng ^^ (dget ks xs q).isSome)) e1
      | none => .bad)
    | none => .bad)
  | .ex c e1 => .ex c e1
  | .bad => .bad
@[simp] theorem mDIn_ap (ng : Bool) (i : Nat) (mk : ME) (e : Ev) : mDIn ng i mk e = (match mk e with
  | .ok kd e1 => (match kyD kd with
    | some q => (match dctAt e1 i with
      | some (ks, xs) => .ok (.bl (ng ^^ (dget ks xs q).isSome)) e1
      | none => .bad)
    | none => .bad)
  | .ex c e1 => .ex c e1
  | .bad => .bad) := rfl
section
variable {P : Program} {w : World} {K : PySem.W.Frag} {mg : Str → Option Value} {base : Heap} {N : List Str} {sc : Scope} {k : Nat} {X : Cx} {C : CT} {W : WX}
theorem din_run {F : Fx} {env : Ev} {σ : St} {H : Hp} {Q : VK} {i : Nat} {mk : ME} {t : TE} {ng : Bool} (k : FX F X.K C) (q : ∀ F env σ H Q, FX F X.K C → SR F env σ H → PostE F C W env σ H Q (mk env) → t σ H Q) (s : SR F env σ H)
    (z : PostE F C W env σ H Q (mDIn ng i mk env)) : t σ H fun y H1 => ∃ x, σ[i]? = some (some x) ∧ ∃ a o, x = .ref a ∧ DGet H1 a y o ∧ Q (.bl (ng ^^ o.isSome)) H1 := by
  refine q F env σ H _ k s ?_
  unfold mDIn at z
  cases e1 : mk env with
  | bad => rw [e1] at z; exact z
  | ex c env1 => rw [e1] at z; exact z
  | ok kd env1 =>
    rw [e1] at z
    refine fun v H1 s1 x1 r1 => ?_
    dsimp only at z
    cases e2 : kyD kd with
    | none => rw [e2] at z; exact z.elim
    | some qk =>
      rw [e2] at z
      dsimp only at z
      cases e3 : dctAt env1 i with
      | none => rw [e3] at z; exact z.elim
      | some kx =>
        obtain ⟨ks, xs⟩ := kx
        rw [e3] at z
        dsimp only at z
        obtain ⟨a, vs, ha, h1, l1, rl⟩ := s1.dct e3
        refine ⟨.ref a, ha, a, valV ((ks.map kyK).zip vs) (kyK qk), rfl, ?_, ?_⟩
        · rw [kyD_v r1 e2]
          exact DGet.k h1
        · have hs : (valV ((ks.map kyK).zip vs) (kyK qk)).isSome = (dget ks xs qk).isSome := by
            cases e4 : dget ks xs qk with
            | none => rw [(dget_rel (q := qk) rl l1).2 e4]; rfl
            | some d =>
              obtain ⟨u, u1, _⟩ := (dget_rel (q := qk) rl l1).1 d e4
              rw [u1]; rfl
          rw [hs]
          exact z _ H1 s1 x1 (by simp only [RelD])
theorem x_din (c : Cw P w K mg base N sc k X W) {i : Nat} {x : Str} {ix : Expr} {mk : ME} {px pos : Pos} (n : Nm N sc i x) (hk : JE X C W ix mk) (hm : behindInMarks .In (.Name x px) = false) : JE X C W (.Compare ix [.In] [.Name x px] pos) (mDIn false i mk) := by
  obtain ⟨t, p, q⟩ := hk.run
  refine ⟨_, pe_cmp (pc_din c.u1 p (pe_var (c.c.at_ n.at_) (c.c.vis n.vis) n.d n.c)) hm, fun F env σ H Q k s z => ?_⟩
  have := din_run k q s z
  simp only [Bool.false_xor] at this
  exact this
theorem x_dnin (c : Cw P w K mg base N sc k X W) {i : Nat} {x : Str} {ix : Expr} {mk : ME} {px pos : Pos} (n : Nm N sc i x) (hk : JE X C W ix mk) (hm : behindInMarks .NotIn (.Name x px) = false) : JE X C W (.Compare ix [.NotIn] [.Name x px] pos) (mDIn true i mk) := by
  obtain ⟨t, p, q⟩ := hk.run
  refine ⟨_, pe_cmp (pc_dnotin c.u1 p (pe_var (c.c.at_ n.at_) (c.c.vis n.vis) n.d n.c)) hm, fun F env σ H Q k s z => ?_⟩
  have := din_run k q s z
  simp only [Bool.true_xor] at this
  exact this
end
def mDispC (ks : List Ky) (ns : List Int) : ME := fun e => .ok (.dct ks (ns.map D.int)) e
@[simp] theorem mDispC_ap (ks : List Ky) (ns : List Int) (e : Ev) : mDispC ks ns e = .ok (.dct ks (ns.map D.int)) e := rfl
structure JD (X : Cx) (pos : Pos) (keys : List (Option Expr)) (values : List Expr) (ks : List Ky) (ns : List Int) : Prop where
  len : ks.length = ns.length
  run : ∃ trs, PPs X pos keys values trs ∧ ∀ σ H Q, Q ((ks.zip ns).map fun p => (kV (kyK p.1), V.int p.2)) H → tPairs trs σ H Q
section
variable {X : Cx} {C : CT} {W : WX}
theorem jd_nil {pos : Pos} : JD X pos [] [] [] [] := ⟨rfl, [], pps_nil, fun σ H Q h => h⟩
theorem jd_cons {pos p1 p2 : Pos} {j1 j2 : Nat} {cs : List Nat} {n : Int} {keys : List (Option Expr)} {values : List Expr} {ks : List Ky} {ns : List Int} (h : JD X pos keys values ks ns) :
    JD X pos (some (.Constant (.str ⟨cs.toArray⟩) j1 p1) :: keys) (.Constant (.int n) j2 p2 :: values) (.inr cs :: ks) (n :: ns) := by
  obtain ⟨trs, p, q⟩ := h.run
  refine ⟨by rw [List.length_cons, List.length_cons, h.len], _, pps_cons pe_str pe_int p, fun σ H Q z => ?_⟩
  exact q σ H _ z
theorem jf_disp {pos : Pos} {keys : List (Option Expr)} {values : List Expr} {ks : List Ky} {ns : List Int} (h : JD X pos keys values ks ns) (hall : keys.all (·.isSome) = true) (hl : keys.length = values.length) (h0 : keys ≠ []) (h15 : keys.length ≤ 15) (hk : ks.length ≤ 15)
    (hm : mergeK [] ((ks.zip ns).map fun p => (kyK p.1, V.int p.2)) = (ks.map kyK).zip (ns.map V.int)) : JF X C W (.Dict keys values pos) (mDispC ks ns) := by
  obtain ⟨trs, p, q⟩ := h.run
  refine ⟨_, pe_disp p hall hl h0 h15, fun F env σ H Q k s z a na => q σ _ _ ?_⟩
  refine ⟨upd_same, (ks.zip ns).map fun p => (kyK p.1, V.int p.2), by rw [List.map_map]; rfl, ?_, ?_⟩
  · rw [List.length_map, List.length_zip]; omega
  · rw [hm]
    have sm : Same H (upd (upd H a (.dK [])) a (.dK ((ks.map kyK).zip (ns.map V.int)))) := fun b x e => by
      rw [upd_ne (ne_of_none e na), upd_ne (ne_of_none e na)]
      exact e
    refine z a H _ s .refl na (s.gt sm) ?_
    simp only [CRel]
    exact ⟨ns.map V.int, upd_same, by rw [List.length_map, h.len], r_ints _⟩
end
section
variable {P : Program} {w : World} {K : PySem.W.Frag} {mg : Str → Option Value} {base : Heap} {N : List Str} {sc : Scope} {k : Nat} {X : Cx} {C : CT} {W : WX}
theorem post_tb {F : Fx} {env : Ev} {σ : St} {H : Hp} {Q : Bool → Hp → Prop} {m : ME} (z : PostT F C W env σ H Q (m env)) : PostE F C W env σ H (fun v H1 => ∃ c, v = .bl c ∧ Q c H1) (m env) := by
  cases e1 : m env with
  | ok x env1 =>
    rw [e1] at z
    obtain ⟨b, rfl, z⟩ := z
    exact fun v H1 s1 x1 r => ⟨b, rel_bl r, z H1 s1 x1⟩
  | ex c env1 => rw [e1] at z; exact z
  | bad => rw [e1] at z; exact z
theorem t_din (c : Cw P w K mg base N sc k X W) {i : Nat} {x : Str} {ix : Expr} {mk : ME} {px pos : Pos} (n : Nm N sc i x) (hk : JE X C W ix mk) (hm : behindInMarks .In (.Name x px) = false) : JT X C W (.Compare ix [.In] [.Name x px] pos) (mDIn false i mk) := by
  obtain ⟨t, p, q⟩ := hk.run
  refine ⟨_, pt_cmp (pc_din c.u1 p (pe_var (c.c.at_ n.at_) (c.c.vis n.vis) n.d n.c)) hm, fun F env σ H Q k s z => ?_⟩
  have := din_run k q s (post_tb z)
  simp only [Bool.false_xor] at this
  exact this
theorem t_dnin (c : Cw P w K mg base N sc k X W) {i : Nat} {x : Str} {ix : Expr} {mk : ME} {px pos : Pos} (n : Nm N sc i x) (hk : JE X C W ix mk) (hm : behindInMarks .NotIn (.Name x px) = false) : JT X C W (.Compare ix [.NotIn] [.Name x px] pos) (mDIn true i mk) := by
  obtain ⟨t, p, q⟩ := hk.run
  refine ⟨_, pt_cmp (pc_dnotin c.u1 p (pe_var (c.c.at_ n.at_) (c.c.vis n.vis) n.d n.c)) hm, fun F env σ H Q k s z => ?_⟩
  have := din_run k q s (post_tb z)
  simp only [Bool.true_xor] at this
  exact this
end
theorem sws_by {env : Env} {sc : Scope} {t : List Expr} {v : Expr} {line : Nat} {r : Sem Bool} (h : env.scope = sc) (e : ∀ env : Env, swapsWithSole t v line { env with scope := sc } = r) : swapsWithSole t v line env = r := by
  rw [env_eta h]
  exact e env
end MP

set_option Elab.async false
set_option linter.all false
set_option maxRecDepth 100000
set_option maxHeartbeats 4000000
namespace MSX
open PySem PySem.W PySem.Calls PyProof.Rows
variable {prog : Program} {w : World} {A : Around} {hp : Heap} {g : Array GenState} {d : Drawn} {tk : Nat} {os : OsState} {K : Frag} {C fI cda cc a t0 : Addr} {u : Value} {R : Result → Shared → Prop}
theorem he_ (E1 : Env) (p0 p1 p2 p3 p4 : Pos) (msg : Str) (j : Nat) (hp : (p2.endLine == p4.line) = true) : eval (.Call (.Attribute (.Call (.Name "super" p0) [] [] p1) "__init__" p2) [.Constant (.str msg) j p3] [] p4) E1 = (do
      let ov ← attributeBase (.Call (.Name "super" p0) [] [] p1) "__init__" E1 (eval (.Call (.Name "super" p0) [] [] p1) E1)
      standAt p2.atName
      let (f, first) ← holding [ov] (getMethod ov "__init__" (do return (← importBound (.Call (.Name "super" p0) [] [] p1) E1).getD true))
      callWith p4 f first (backTo p4 (starEach [.Constant (.str msg) j p3] E1)) []) := by
  have e : ∀ (few : Bool), methodCallPos few (.Call (.Name "super" p0) [] [] p1) E1 p2 p4 = pure p4 := fun few => by
    unfold methodCallPos
    rw [hp, Bool.or_true]
    rfl
  show (do
    let ov ← attributeBase (.Call (.Name "super" p0) [] [] p1) "__init__" E1 (eval (.Call (.Name "super" p0) [] [] p1) E1)
    standAt p2.atName
    methodCall (.Call (.Name "super" p0) [] [] p1) "__init__" p2 p4 E1 ov 1 (backTo p4 (starEach [.Constant (.str msg) j p3] E1)) []) = _
  unfold methodCall
  simp only [e, pure_bind]
  rfl
/-- what is known of such an __init__ -/
structure SupK (prog : Program) (K : Frag) (C fI : Addr) (par fld : Str) : Prop where
  ex : ∃ (qual : Str) (params : Arguments) (msg self : Str) (scope : Scope) (dV kV doc pm ct oc ccl cl : Value) (an od cdd cld : Option Addr) (osl ccs csl : Array (Option Value)) (cda cc : Addr) (vs : Array Value) (file : Str) (tf : Tok) (ar : Arg) (j : Nat) (p0 p1 p2 p3 p4 p5 p6 p7 p8 p9 : Pos) (cd : ClassData) (bm : List Value),
    K.lookup fI = some ⟨oc, od, .func (ksFn "__init__" qual params [.Expr (.Call (.Attribute (.Call (.Name "super" p0) [] [] p1) "__init__" p2) [.Constant (.str msg) j p3] [] p4) p5, .Assign [.Attribute (.Name self p6) fld p7] (.Name par p8) p9] scope dV kV doc pm an (.ref cda) ct cc), osl⟩ ∧
    (p2.endLine == p4.line) = true ∧ codeIn K (.ref cda) qual = true ∧ K.lookup cda = some ⟨ccl, cdd, .fields vs, ccs⟩ ∧ vs[2]? = some (.str file tf) ∧ ((prog.main.file : Str) == file) = true ∧ (prog.main.scope.names.lookup ("super" : Str)).isSome = false ∧
    K.lookup cc = some ⟨cl, cld, .cell (some (.ref C)), csl⟩ ∧ (params.posonlyargs ++ params.args).head? = some ar ∧ ar.arg = self ∧
    (∀ (s : Shared) (x y : Value), BindsTo s (ksFn "__init__" qual params [.Expr (.Call (.Attribute (.Call (.Name "super" p0) [] [] p1) "__init__" p2) [.Constant (.str msg) j p3] [] p4) p5, .Assign [.Attribute (.Name self p6) fld p7] (.Name par p8) p9] scope dV kV doc pm an (.ref cda) ct cc) ⟨[x, y], []⟩ [(self, x), (par, y)]) ∧
    scope.kind = .function ∧ scope.isCoroutine = false ∧ scope.isGenerator = false ∧ (∀ x ∈ scope.names, x.2 ≠ .cell) ∧ scope.names.lookup self = some .local ∧ scope.names.lookup par = some .local ∧ scope.names.lookup ("super" : Str) = some .globalImplicit ∧ scope.names.lookup ("__class__" : Str) = some .free ∧
    (self == par) = false ∧ (self == ("__debug__" : Str)) = false ∧ (par == ("__debug__" : Str)) = false ∧
    clsIn K C = some cd ∧ cd.mro = .ref C :: bm ∧ PySem.HandSPX.refsVE bm = true ∧ cd.hasDict = true ∧ nsIn K cStatics "thirdparty.any" = some none ∧ alongIn K "__init__" bm = some (some (.builtin "ValueError.__init__")) ∧ subIn K (.ref C) (.type "ValueError") = some true ∧
    mroIn K C (.ref C) = some true
theorem init_run {mg : Str → Option Value} {base : Heap} {par fld : Str} (S : SupK prog K C fI par fld) (T : L2.OexC K C) (hno : findIn K (.ref C) fld = some none) (M : L2.Mod K mg base) (kb : ∀ b o, base.get? b = some o → hp.get? b = some o) (X : K.In hp) (ha0 : base.get? a = none) (hsup : mg "super" = none)
    (hroom : A.depth < recursionLimit) (hx : hp.get? a = some (excObj C t0 none .none))
    (hq : ∀ h' tk' t1 dx, (∀ b o, b ≠ a → hp.get? b = some o → h'.get? b = some o) → hp.objs.size ≤ dx → dx ≠ a → h'.get? a = some (excObj C t1 (some dx) .none) → h'.Ns1 dx (fun y => if y = fld then some u else none) → R (.ok (.ret .none)) ⟨h', g, d, tk', os⟩) :
    codeAny (model prog w) A (.call (.ref fI) ⟨[.ref a, u], []⟩) R ⟨hp, g, d, tk, os⟩ := by
  obtain ⟨qual, params, msg, self, scope, dV, kV, doc, pm, ct, oc, ccl, cl, an, od, cdd, cld, osl, ccs, csl, cda, cc, vs, file, tf, ar, j, p0, p1, p2, p3, p4, p5, p6, p7, p8, p9, cd, bm, lk, hpos, hcd, lkc, hvs, hfile, htop, lkcc, har, ha, hb, hkind, hco, hgen, hcell, hls, hlp, hsu, hcl, hsp, hds, hdp, hcls, hmro, hbm, hhd, hno', hal, hsubV, hmroC⟩ := S.ex
  subst ha
  refine ks_codeAny_call_defAt (fd := ksFn "__init__" qual params _ scope dV kV doc pm an (.ref cda) ct cc) (body := _) (binds := [(ar.arg, .ref a), (par, u)]) hroom (X _ _ lk) rfl (M.nolimit.keeps kb) (codeRec_of X hcd) rfl (hb _ _ _) hcell (fun y hy => ?_) (fun h₀ hns k0 => ?_) hco hgen hkind
  · simp only [List.mem_cons, List.not_mem_nil, or_false] at hy
    rcases hy with rfl | rfl
    · exact hls
    · exact hlp
  · have X0 : K.In h₀ := X.keeps k0
    have hx0 := k0 _ _ hx
    obtain ⟨oC, hoC, hdC⟩ : ∃ oD, hp.get? C = some oD ∧ oD.data = .cls cd := by
      unfold clsIn at hcls
      split at hcls
      · rename_i c d cd' sl ho
        cases hcls
        exact ⟨_, X _ _ ho, rfl⟩
      · cases hcls
    have I0 : InstAt h₀ a (excObj C t0 none .none) C none := ⟨hx0, rfl, rfl, trivial⟩
    have naC : a ≠ C := PySem.W.ks_ne X0 I0 hcls
    have eS : (ar.arg == par) = false := hsp
    have mSelf : ([(ar.arg, Value.ref a), (par, u)] : List (Str × Value)).reverse.lookup ar.arg = some (.ref a) := by
      show (match ar.arg == par with | true => some u | false => ([(ar.arg, Value.ref a)] : List (Str × Value)).lookup ar.arg) = _
      rw [eS]
      simp [List.lookup]
    have mPar : ([(ar.arg, Value.ref a), (par, u)] : List (Str × Value)).reverse.lookup par = some u := by
      simp [List.lookup]
    have M0 : ∀ b o, base.get? b = some o → h₀.get? b = some o := fun b o e => k0 b o (kb b o e)
    obtain ⟨mb, hb1, hb2⟩ := M.blt
    have hint : interactive (callEnv (ksFn "__init__" qual params [.Expr (.Call (.Attribute (.Call (.Name "super" p0) [] [] p1) "__init__" p2) [.Constant (.str msg) j p3] [] p4) p5, .Assign [.Attribute (.Name ar.arg p6) fld p7] (.Name par p8) p9] scope dV kV doc pm an (.ref cda) ct cc) hp.objs.size fI) = false := by
      unfold interactive
      show ((scope.kind == .module) && _) = false
      rw [hkind]
      rfl
    refine ks_wpAt_execs_cons (ks_wpAt_Expr_any (hi := hint) ?_)
    rw [he_ _ _ _ _ _ _ _ _ hpos]
    refine _root_.PySem.wpAt_bind (ks_wpAt_super_base (f := fI) (cc := cda) hsu hcl rfl rfl (X0 _ _ lk) rfl har rfl (X0 _ _ lkc) rfl hvs hfile htop ?_)
    refine ks_loadName_global hkind hsu (loadGlobal_builtin (M.glob.keeps M0) hsup (hb1.keeps M0) ((hb2 _ (by decide)).trans (by first | exact PyProof.Rows.Boot.«super» | rfl | kernel_rfl)) ⟨rfl, ?_⟩)
    refine wpAny_loadName_free hkind hcl rfl ⟨_, X0 _ _ lkcc, rfl⟩ ?_
    refine wpAny_loadName_local hkind hls hns mSelf ?_
    refine ks_wpAny_isType_cls (k0 _ _ hoC) hdC ⟨rfl, ?_⟩
    refine ks_wpAny_call_super (k0 _ _ hoC) hdC hx0 rfl (fun c e => by cases e) (looks_mroIn X0 hmroC) (fun h1 e1 k1 => ?_)
    refine _root_.PySem.wpAt_of_wpAny (wpAny_bind (wpAny_standAt (wpAny_bind (wpAny_holding ?_))))
    have X1 : K.In h1 := X0.keeps k1
    refine kxs_getMethod kxs_ValueError e1 (looks_opaque X1 hno') (l₀ := cd.mro) (l := bm) (fun A Q E s k q => wpAny_bind ((looks_clsIn X1 hcls) A _ E s k (wpAny_pure q))) (by rw [hmro]; simp [List.dropWhile_cons]) X1 hal ?_ naC rfl ?_
    · have I1 : InstAt h1 a (excObj C t0 none .none) C none := ⟨k1 _ _ hx0, rfl, rfl, trivial⟩
      exact I1.type.andThen (looks_subIn X1 hsubV)
    · have hx1 : (h1.push (kxs_mw "ValueError.__init__" a)).get? a = some (excObj C t0 none .none) := Heap.get?_push_of_some _ (k1 _ _ hx0)
      have hu : (h1.push (kxs_mw "ValueError.__init__" a)).get? h1.objs.size = some (kxs_mw "ValueError.__init__" a) := Heap.get?_push_at rfl rfl
      obtain ⟨nm, q, N, bs, bm', sn, sub, ab, col, dd, q0, q1, q2, q3, q5, hCC, hbm'⟩ := T.cls
      have kk : ∀ b o, hp.get? b = some o → (h1.push (kxs_mw "ValueError.__init__" a)).get? b = some o := fun b o e => Heap.get?_push_of_some _ (k1 _ _ (k0 _ _ e))
      refine kxs_callWith (i := "ValueError.__init__") (x := a) rfl (evalArgs_plain (spliced_cons (Calls.Constant_str (k := j) (pos := p3) (spliced_nil ⟨hu, ?_⟩))))
      refine wpAny_call (codeAny_of_tree ?_)
      show wpAny _ (Around.in1 _) (callAny (.ref h1.objs.size) _) _ _ _
      simp only [callAny]
      refine wpAny_bind (wpAny_load hu ?_)
      simp only [kxs_mw, show (Value.type "method-wrapper" == Value.type "method" || Value.type "method-wrapper" == Value.type "builtin_function_or_method" || Value.type "method-wrapper" == Value.type "method-wrapper") = true by decide, if_true]
      refine KFB.if_so (by decide) ?_
      refine wpAny_bind (check_bound_init F.excBase_ValueError.toExcCallFacts (kk _ _ (X _ _ hCC)) hx1 rfl ?_)
      refine wpAny_bind (wpAny_pure (wpAny_pure ?_))
      refine ⟨plainId_quiet F.excBase_ValueError.init.plain _, codeAny_builtin F.excBase_ValueError.initEntry ?_⟩
      refine exc_init_tree (cls := .ref C) (t0 := t0) (dv := none) (c2 := .none) (c3 := .none) (b4 := .bool false) hx1 (by show 1 ≤ sizeLine; rw [sizeLine_eq]; decide) fun h2 k2 e2 _ => ?_
      have lt0 : ∀ {b : Addr} {o : Obj}, hp.get? b = some o → b < hp.objs.size := fun e => Heap.lt_size e
      have kN : ∀ b o, b ≠ a → hp.get? b = some o → h2.get? b = some o := fun b o n e => k2 b o n (kk b o e)
      have nCa : C ≠ a := fun z => naC z.symm
      have ns2 : h2.Ns hp.objs.size (fun x => ([(ar.arg, Value.ref a), (par, u)] : List (Str × Value)).reverse.lookup x) := hns.at fun o e => k2 _ _ (Nat.ne_of_gt (lt0 hx)) (Heap.get?_push_of_some _ (k1 _ _ e))
      have X2 : K.In h2 := fun b o e => by
        have hb := M.kin b o e
        exact kN b o (fun z => by rw [z, ha0] at hb; cases hb) (kb b o hb)
      refine ks_wpAt_execs_cons (ks_wpAt_Assign_Attr (_root_.PySem.wpAt_of_wpAny (ldc hkind hlp ns2 mPar ?_ hdp)))
      refine ldc hkind hls ns2 mSelf ?_ hds
      refine set_plain X2 (ox := excObj C (h1.push (kxs_mw "ValueError.__init__" a)).objs.size none .none) (od := none) ⟨e2, rfl, rfl, trivial⟩ T.sa ?_
      refine PySem.HandSPX.exc_osa X2 e2 hcls (by rw [hmro]; exact hbm) hhd hno (fun h' tk' dx k3 dn dne hx3 hn3 => ?_)
      have sz : hp.objs.size ≤ dx := Nat.le_trans (Nat.le_of_lt ns2.lt) dn
      have fin := hq h' tk' (h1.push (kxs_mw "ValueError.__init__" a)).objs.size dx (fun b o n e => k3 b o n (kN b o n e)) sz dne hx3 hn3
      first
        | exact _root_.PySem.wpAt_of_wpAny (wpAny_pure fin)
        | (show _root_.PySem.wpAt _ _ _ (execs [] _) _ _ _; exact _root_.PySem.wpAt_of_wpAny (wpAny_pure fin))
end MSX

set_option Elab.async false
set_option linter.all false
set_option maxRecDepth 100000
set_option maxHeartbeats 4000000
namespace MSX
open PySem PySem.Spec PyProof.Rows L2
section
variable {X : Cx} {e : Expr} {ta : TA} {p pos : Pos}
theorem pmk_sup {x par fld : Str} {C fI : Addr} (S : SupK X.prog X.K C fI par fld) (T : OexC X.K C) (hno : PySem.W.findIn X.K (.ref C) fld = some none) (iC : PySem.W.findIn X.K (.ref C) "__init__" = some (some (.ref fI))) (tI : PySem.W.typeIn X.K (.ref fI) = some (.type "function"))
    (hsup : X.mg "super" = none) (hr : Room 2 X.A) (hg : Gl X x) (hm : X.mg x = some (.ref C)) (ha : PA X [e] ta)
    (hdb : (x == ("__debug__" : Str)) = false := by decide) (he : starEach [e] X.env = (false, eval e X.env) :: starEach [] X.env := by rfl) (hpl : (backTo pos (starEach [] X.env)).any (·.1) = false := by rfl) :
    PMk X (.Call (.Name x p) [e] [] pos) (fun σ H Q => ta σ H fun vs H1 => ∃ v, vs = [v] ∧ ∀ d, H1 d = none → Q (.ref C) (some d) (upd H1 d (.xd [(fld, v)]))) := by
  intro pins s σ H Q I h
  obtain ⟨nm, q, N, bs, bm, sn, sub, ab, col, dd, k0, k1, k2, k3, k5, hC, hbm⟩ := T.cls
  refine wpAny_Call_Name_kw (ld_glob I hg hm ?_ hdb)
  refine PySem.W.callWith_K (h₀ := X.base) I.ok.mod.kin T.kC (thn (ha.run pos pins s σ H _ I h) fun us s1 ⟨vs, H1, I1, r1, v, ev, q1⟩ => ⟨I1.kIn, ?_⟩) he hpl
  subst ev
  show wpAny _ _ (call (.ref C) us) _ _ _
  obtain ⟨u, rfl, ru⟩ : ∃ u, us = [u] ∧ RelV v u := by
    cases r1 with
    | cons r t => cases t with
      | nil => exact ⟨_, rfl, r⟩
  obtain ⟨hp, g, dr, tk, os⟩ := s1
  have hsz : hp.objs.size ≤ hp.objs.size + 1 := Nat.le_succ _
  have hn : H1 (hp.objs.size + 1) = none := I1.hok.fresh hsz
  have kk : ∀ b o, hp.get? b = some o → ((hp.push (PySem.W.kdv_tup [u])).push (PySem.HandSPX.excO C hp.objs.size)).get? b = some o := fun b o e => Heap.get?_push_of_some _ (Heap.get?_push_of_some _ e)
  have hget : ((hp.push (PySem.W.kdv_tup [u])).push (PySem.HandSPX.excO C hp.objs.size)).get? (hp.objs.size + 1) = some (PySem.HandSPX.excO C hp.objs.size) := by heap_get
  have I2 : Inv X pins σ (upd H1 (hp.objs.size + 1) (exo (hp.objs.size + 1) C none)) ⟨(hp.push (PySem.W.kdv_tup [u])).push (PySem.HandSPX.excO C hp.objs.size), g, dr, tk, os⟩ :=
    I1.laid (t' := tk) (a := hp.objs.size + 1) (o := exo (hp.objs.size + 1) C none) (h' := (hp.push (PySem.W.kdv_tup [u])).push (PySem.HandSPX.excO C hp.objs.size)) kk hsz (exo_ok hget)
  have hus : ([u] : List Value).length ≤ sizeLine := by show 1 ≤ sizeLine; rw [sizeLine_eq]; decide
  have hbn : X.base.get? (hp.objs.size + 1) = none := by
    cases z : X.base.get? (hp.objs.size + 1) with
    | none => rfl
    | some o => exact absurd (Heap.lt_size (I1.bk _ _ z)) (Nat.not_lt.mpr hsz)
  refine wpAny_call (PySem.HandSPX.call_own F.excBase_ValueError (fun Y => PySem.HandSPX.refsVE_contains Y bm hbm) (I1.kIn _ _ hC) (PySem.W.looks_findIn I1.kIn iC) (fun self => PySem.W.bind_fn I1.kIn self tI) hus ?_)
  refine init_run S T hno I1.ok.mod (fun b o z => kk b o (I1.bk b o z)) (fun b o z => kk b o (I1.kIn b o z)) hbn hsup ?_ hget (fun h' tk' t1 dx k dn dne hx hn3 => ⟨rfl, ?_⟩)
  · exact (hr.make C [u] []).depth
  · generalize hcur : (hp.push (PySem.W.kdv_tup [u])).push (PySem.HandSPX.excO C hp.objs.size) = hp2 at *
    generalize haa : hp.objs.size + 1 = a at *
    have e0 : upd H1 a (exo a C none) a = some (exo a C none) := upd_same
    have hnd : upd H1 a (exo a C none) dx = none := I2.hok.fresh dn
    have nd : ∀ {b : Addr} {o : Obj}, hp2.get? b = some o → b ≠ dx := fun {b o} z => Nat.ne_of_lt (Nat.lt_of_lt_of_le (Heap.lt_size z) dn)
    have na : ∀ {b : Addr}, upd H1 a (exo a C none) b = none → b ≠ a := fun {b} n z => by
      rw [z, e0] at n
      cases n
    have Un1 : Un (frs X.stack) [] (upd H1 a (exo a C none)) (upd (upd (upd H1 a (exo a C none)) dx (exd dx [(fld, v)])) a (exo a C (some dx))) hp2 h' := {
      keep := fun b o q n _ _ => k b o (na n) q
      slot := fun b o q n _ _ => ⟨o.slots, k b o (na n) q⟩
      free := fun b o q n _ => by rw [upd_ne (na n), upd_ne (nd q)]; exact n
      there := fun b o q _ => by
        by_cases hb : b = a
        · exact ⟨_, by rw [hb]; exact hx⟩
        · exact ⟨o, k b o hb q⟩
      tups := fun b xs q => by rw [upd_ne (at_ne e0 q exo_tup), upd_ne (ne_of_none q hnd)]; exact q
      frzs := fun b o v q => by rw [upd_ne (at_ne e0 q exo_frz), upd_ne (ne_of_none q hnd)]; exact q
      tbls := fun b ps q => ⟨#[], by rw [upd_ne (at_ne e0 q exo_tbl), upd_ne (ne_of_none q hnd), q]; simp⟩ }
    have hok2 : HOk X.prog X.w (upd (upd (upd H1 a (exo a C none)) dx (exd dx [(fld, v)])) a (exo a C (some dx))) h' := fun b o q => by
      by_cases hb : b = a
      · subst hb
        rw [upd_same] at q
        cases q
        exact exo_ok hx
      · rw [upd_ne hb] at q
        by_cases hd : b = dx
        · subst hd
          rw [upd_same] at q
          cases q
          exact exd_ok hn3 (relO_put (fs := []) ru fun g => True.intro)
        · rw [upd_ne hd] at q
          exact (I2.hok b o q).stay (fun c v hc z => k c v (by
              rcases hc with hc | hc
              · rw [hc]
                exact hb
              · exact at_ne e0 hc exo_own) z)
            (fun c hc => by rw [upd_ne (at_ne e0 hc exo_own), upd_ne (ne_of_none hc hnd)]; exact hc) (fun c xs hc => by rw [upd_ne (at_ne e0 hc exo_tup), upd_ne (ne_of_none hc hnd)]; exact hc)
    have hd1 : H1 dx = none := by
      have z := hnd
      rw [upd_ne dne] at z
      exact z
    have ee : upd (del (upd (upd (upd H1 a (exo a C none)) dx (exd dx [(fld, v)])) a (exo a C (some dx))) a) dx (HO.xd [(fld, v)]) = upd H1 dx (.xd [(fld, v)]) := by
      funext b
      by_cases hb : b = dx
      · rw [hb, upd_same, upd_same]
      · rw [upd_ne hb, upd_ne hb]
        by_cases hb2 : b = a
        · rw [hb2, del_same, hn]
        · rw [del_ne hb2, upd_ne hb2, upd_ne hb, upd_ne hb2]
    refine mk_end (raises_own T.exC T.tyC) I1 hsz kk Un1 hok2 rfl I2.bare upd_same (by rw [upd_ne dne, upd_same]) hd1 ?_
    rw [ee]
    exact q1 dx hd1
end
end MSX

set_option Elab.async false
set_option linter.all false
set_option maxRecDepth 100000
set_option maxHeartbeats 4000000
namespace PySem.W
open PySem PySem.Calls PyProof.Rows
section
variable {prog : Program} {w : World} {A : Around} {E : Value → Shared → Prop} {s : Shared} {K : Frag} {x D : Addr} {ox : Obj} {od : Option Obj}
theorem mt_findData {C : Addr} {name : Str} {a g : Value} (hc : (clsIn K C).isSome = true) (ha : findIn K (.ref C) name = some (some a)) (hg : specialIn K a "__get__" = some (some g)) (ht : takesIn K a = some true) : findObj K C od name = some (.bind g a) := by
  obtain ⟨cd, hc⟩ := Option.isSome_iff_exists.mp hc
  unfold findObj
  rw [hc, Option.bind_some, ha, Option.bind_some]
  simp [hg, ht]
/-- e.__class__, whatever dict e has -/
theorem mt_class {Q : Option Value → Shared → Prop} (C : L2.ExcC K D) (X : K.In s.heap) (I : InstAt s.heap x ox D od) (h : Q (some (.ref D)) { s with toks := s.toks + 1 }) : wpAny (model prog w) A (getAttr? (.ref x) "__class__") Q E s := by
  have hf : findObj K D od "__class__" = some (.bind (.builtin "getset_descriptor.__get__") (.builtin "object.__class__")) := mt_findData (by obtain ⟨cd, hc, _⟩ := any_some C.hd; rw [hc]; rfl) C.ha C.hn C.ht
  obtain ⟨hp, g, d, t, os⟩ := s
  have L0 := I.type (M := model prog w)
  have L1 := looks_findIn (M := model prog w) X C.hg
  have L2 := looks_findIn (M := model prog w) X C.hk
  have L3 := looks_find (M := model prog w) X I hf
  have sub : Looks (model prog w) hp (isInstance (.ref x) (.type "BaseException")) true := L0.andThen (looks_subIn X C.hs)
  have g2 : (Value.builtin "BaseException.__getattribute__" == Value.builtin "object.__getattribute__") = false := by decide +kernel
  have g1 : (onTheHeap (Value.ref D) && Value.builtin "BaseException.__getattribute__" == Value.builtin "object.__getattribute__") = false := by rw [g2, Bool.and_false]
  unfold getAttr? getAttrBy? getAttrBy
  refine wpAny_bind (wpAny_mkText (wpAny_bind (wpAny_attempt (wpAny_holding (wpAny_bind (L0.at (wpAny_bind (L1.at ?_))))))))
  show wpAny _ _ (ite ((onTheHeap (Value.ref D) && Value.builtin "BaseException.__getattribute__" == Value.builtin "object.__getattribute__") = true) _ _) _ _ _
  rw [g1, if_neg Bool.false_ne_true]
  unfold getAttrByItsOwn hookBefore
  refine wpAny_bind ?_
  rw [if_pos (show onTheHeap (Value.ref D) = true from rfl)]
  refine L2.at (wpAny_bind (wpAny_attempt (wpAny_holding ?_)))
  unfold callGetattribute
  rw [show (false && onTheHeap (Value.builtin "BaseException.__getattribute__")) = false from rfl, if_neg Bool.false_ne_true]
  unfold boundAndCalled
  rw [PySem.F.excAttr_ValueError.ga.bind (.ref x)]
  refine wpAny_bind (wpAny_pure ?_)
  show wpAny _ _ (call (.builtin "BaseException.__getattribute__") [.ref x, .str "__class__" t]) _ _ _
  refine wpAny_call (codeAny_call_builtin PySem.F.excAttr_ValueError.ga.plain PySem.F.entry_bexc_ga (@check_slot (model prog w) _ _ ⟨hp, g, d, t + 1, os⟩ "BaseException.__getattribute__" "BaseException" "__getattribute__" (.ref x) [.str "__class__" t] [] _ (by decide +kernel) (by decide +kernel) sub (PySem.F.args_bexc_ga (.ref x) (.str "__class__" t)) ?_))
  unfold Builtin.«object.__getattribute__»
  refine wpAny_bind (wpAny_of_eq (a := ((Value.ref x : Value), [Value.str "__class__" t])) (by first | rfl | (simp only [slotArgs]; rfl)) ?_)
  refine wpAny_bind (wpAny_pure (wpAny_bind (L0.at (wpAny_bind (L3.at ?_)))))
  show wpAny _ _ (holding [Value.builtin "object.__class__"] (call (.builtin "getset_descriptor.__get__") [.builtin "object.__class__", .ref x, .ref D]) >>= ret) _ _ _
  refine wpAny_bind (wpAny_holding (wpAny_call (class_get (s := ⟨hp, g, d, t + 1, os⟩) (ox := ox) (od := od) X I C.hm (wpAny_pure ?_))))
  show wpAny _ _ (handedOut (.ref D)) _ _ _
  rw [handedOut_of (v := .ref D) rfl]
  first
    | exact wpAny_pure (wpAny_pure h)
    | exact wpAny_pure h
    | exact wpAny_pure (wpAny_bind (wpAny_pure (wpAny_pure h)))
theorem mt_kitx (C : L2.ExcC K D) : KitX K (.ref x) (.ref D) (fun h => InstAt h x ox D od) where
  ty := fun _ _ _ I => I.type
  it := fun _ _ X _ => by
    obtain ⟨cdD, hcD, _⟩ := any_some C.hd
    unfold clsIn at hcD
    split at hcD
    · rename_i c' d' cd' sl' ho
      intro A' Q' E' s' k q
      unfold isType loadHead
      exact wpAny_bind (wpAny_loadPart (k _ _ (X _ _ ho)) (wpAny_pure q))
    · cases hcD
  ne := (handS_kitx_exc (x := x) (ox := ox) C.hg C.hk C.hs C.hd C.ha C.hn C.ht C.hm).ne
  ca := fun X I k => mt_class C X I k
end
end PySem.W
namespace MP
open PySem PySem.Spec L2
open PyProof.Rows hiding St
/-- isinstance(e, c): e the exception that the suite holds, its dict none or known -/
def rIsD (K : PySem.W.Frag) (D a : Addr) (d : Option Addr) : List V → Hp → VK → Prop := fun xs H Q => (d = none ∨ ∃ dd fs, d = some dd ∧ H dd = some (.xd fs)) ∧ ∃ (c : V) (cv : Value) (b : Bool), xs = [.ref a, c] ∧ (∀ u, RelV c u → u = cv) ∧ PySem.W.kitOne K (.ref D) cv = some b ∧ Q (.bl b) H
theorem call_isD {X : Cx} {a D : Addr} {oe : Obj} {d : Option Addr} {pn : List (Addr × Obj)} (C : ExcC X.K D) (hz : Zc (.ref D) d oe) (hf : ∃ vs, oe.data = .fields vs) : CallR (X.suite a ((a, oe) :: pn)) (.builtin "isinstance") (rIsD X.K D a d) := by
  intro pins s σ H xs us Q I r h
  obtain ⟨hd, c, cv, b, rfl, hcv, e, q⟩ := h
  cases r with
  | cons rx rr =>
    cases rr with
    | cons rt rr =>
      cases rr
      cases rx
      have ec := hcv _ rt
      subst ec
      obtain ⟨hget, _⟩ := I.pin (a, oe) (List.mem_append.mpr (.inl List.mem_cons_self))
      obtain ⟨vs, hv⟩ := hf
      have J : ∃ od, PySem.W.InstAt s.heap a oe D od := by
        obtain ⟨oc, od, oda, osl⟩ := oe
        obtain ⟨h1, h2⟩ := hz
        dsimp only at h1 h2 hv
        subst h1 h2 hv
        rcases hd with rfl | ⟨dd, fs, rfl, hx⟩
        · exact ⟨none, hget, rfl, rfl, trivial⟩
        · have hx' : ObjOk X.prog X.w H s.heap dd (.xd fs) := I.hok dd _ hx
          obtain ⟨mA, ⟨o, es, ep, ho, _⟩, _⟩ := hx'
          exact ⟨some o, hget, rfl, rfl, ho⟩
      obtain ⟨od, J⟩ := J
      exact PySem.W.kia_one (PySem.W.mt_kitx C) I.kIn J e (fun z => nomatch z) fun tk => ⟨.bl b, H, I.kept (t' := tk) fun _ _ z => z, rfl, q⟩
end MP

set_option Elab.async false
set_option linter.all false
set_option maxRecDepth 100000
set_option maxHeartbeats 4000000
namespace MP
open PySem PySem.Spec L2
open PyProof.Rows hiding St

/-! ### raise X(e), X keeping e in its one field -/
def mRaiseF (c : Nat) (m : ME) : MS := fun e => match m e with
  | .ok (.int n) e1 => (match decide (0 ≤ n) with
    | true => .ex (1000 * (n.toNat + 1) + c) e1
    | false => .bad)
  | .ok _ _ => .bad
  | .ex c e1 => .ex c e1
  | .bad => .bad
@[simp] theorem mRaiseF_ap (c : Nat) (m : ME) (e : Ev) : mRaiseF c m e = (match m e with
  | .ok (.int n) e1 => (match decide (0 ≤ n) with
    | true => .ex (1000 * (n.toNat + 1) + c) e1
    | false => .bad)
  | .ok _ _ => .bad
  | .ex c e1 => .ex c e1
  | .bad => .bad) := rfl
structure ErF (P : Program) (K : PySem.W.Frag) (mg : Str → Option Value) (C : CT) (x : Str) (c : Nat) : Prop where
  lt : c < 1000
  ex : ∃ (Cl fI : Addr) (par : Str), C.f c = .ref Cl ∧ mg x = some (.ref Cl) ∧ MSX.SupK P K Cl fI par (C.fld c) ∧ OexC K Cl ∧ PySem.W.findIn K (.ref Cl) (C.fld c) = some none ∧ PySem.W.findIn K (.ref Cl) "__init__" = some (some (.ref fI)) ∧
    PySem.W.typeIn K (.ref fI) = some (.type "function") ∧ mg "super" = none
theorem code_mod {n c : Nat} (h : c < 1000) : (1000 * (n + 1) + c) % 1000 = c := by omega
theorem code_div {n c : Nat} (h : c < 1000) : (1000 * (n + 1) + c) / 1000 - 1 = n := by omega
section
variable {P : Program} {w : World} {K : PySem.W.Frag} {mg : Str → Option Value} {base : Heap} {N : List Str} {sc : Scope} {k : Nat} {X : Cx} {C : CT} {W : WX}
theorem st_raiseF (c : Cs P w K mg base N sc k X W) {n : Nat} {x : Str} {e : Expr} {m : ME} {p p3 pos : Pos} (er : ErF P K mg C x n) (g : Ng sc x) (h : JE X C W e m) (hk : 2 ≤ k) (he : starEach [e] X.env = (false, eval e X.env) :: starEach [] X.env) :
    JS X C W (.Raise (some (.Call (.Name x p) [e] [] p3)) none pos) (mRaiseF n m) := by
  obtain ⟨Cl, fI, par, h1, h2, h3, h4, h5, h6, h7, h8⟩ := er.ex
  have hK := c.e.c.K
  obtain ⟨t, pe, q⟩ := h.run
  refine ⟨_, ps_raise c.e.c.calm c.e.tk (MSX.pmk_sup (par := par) (by rw [c.e.c.prog, hK]; exact h3) (by rw [hK]; exact h4) (by rw [hK]; exact h5) (by rw [hK]; exact h6) (by rw [hK]; exact h7) (by rw [c.e.c.mg]; exact h8) (c.e.c.room.mono hk) (c.e.c.gl g) (by rw [c.e.c.mg]; exact h2) (pa_cons pe pa_nil he) g.d he), fun F env σ H D kk s z => ?_⟩
  refine q F env σ H _ kk s ?_
  unfold mRaiseF at z
  cases e1 : m env with
  | ok d env1 =>
    rw [e1] at z
    cases d <;> dsimp only at z <;> try (exact z.elim)
    rename_i i
    split at z
    · rename_i hi
      have hi := of_decide_eq_true hi
      refine fun v H1 s1 x1 r => ⟨_, rfl, fun dd nd => ?_⟩
      simp only [RelD] at r
      subst r
      have g1 : Same H1 (upd H1 dd (.xd [(C.fld n, .int i)])) := same_upd nd
      have y := z σ _ (s1.grow g1) (x1.trans (Ext.of g1)) (some dd) ⟨fun h => absurd h (by omega), fun _ => ⟨dd, rfl, (by
        rw [code_mod er.lt, code_div er.lt, upd_same, Int.toNat_of_nonneg hi])⟩⟩
      have hc : C.f ((1000 * (i.toNat + 1) + n) % 1000) = .ref Cl := by rw [code_mod er.lt]; exact h1
      have y' : W (C.f ((1000 * (i.toNat + 1) + n) % 1000)) (some dd) σ (upd H1 dd (.xd [(C.fld n, .int i)])) := y
      rw [hc] at y'
      exact y'
    · exact z.elim
  | ex c env1 => rw [e1] at z; exact PostS.ex z
  | bad => rw [e1] at z; exact z
end
/-! ### a dict of the module: texts to numbers -/
abbrev KvL := List (List Nat × Int)
def nlEq : List Nat → List Nat → Bool
  | [], b => (match b with
    | [] => true
    | _ => false)
  | x :: a, b => (match b with
    | [] => false
    | y :: b => Nat.beq x y && nlEq a b)
theorem nlEq_iff : ∀ {a b : List Nat}, nlEq a b = true ↔ a = b
  | [], [] => by simp [nlEq]
  | [], _ :: _ => by simp [nlEq]
  | _ :: _, [] => by simp [nlEq]
  | x :: a, y :: b => by
    simp only [nlEq, Bool.and_eq_true, List.cons.injEq, nlEq_iff]
    exact ⟨fun h => ⟨Nat.eq_of_beq_eq_true h.1, h.2⟩, fun h => ⟨by rw [h.1]; exact Nat.beq_refl _, h.2⟩⟩
def kvGet : KvL → List Nat → Option Int
  | [], _ => none
  | p :: r, k => (match nlEq p.1 k with
    | true => some p.2
    | false => kvGet r k)
def entsB : List DictEntry → KvL → Bool
  | [], l => (match l with
    | [] => true
    | _ => false)
  | e :: r, l => (match l with
    | [] => false
    | p :: l => (match e.key with
      | .str s _ => decide (s = SS p.1)
      | _ => false) && ((match e.val with
      | .int i _ => decide (i = p.2)
      | _ => false) && entsB r l))
def dctSB (K : PySem.W.Frag) (x : Str) (l : KvL) : Bool := match K.lookup (He.ga K x) with
  | some o => (match o.data with
    | .dict es _ => entsB es.toList l
    | _ => false)
  | none => false
theorem ss_inj {a b : List Nat} (h : SS a = SS b) : a = b := by
  have := congrArg TL.tl h
  rwa [TL.tl_mk, TL.tl_mk] at this
theorem ns_kv {K : PySem.W.Frag} {x : Str} {l : KvL} (h : dctSB K x l = true) (z : List Nat) : (kvGet l z = none ∧ PySem.W.nsIn K (He.ga K x) (SS z) = some none) ∨ ∃ i t, kvGet l z = some i ∧ PySem.W.nsIn K (He.ga K x) (SS z) = some (some (.int i t)) := by
  have key : ∀ (es : List DictEntry) (l : KvL), entsB es l = true → (kvGet l z = none ∧ es.find? (·.key.isStr (SS z)) = none ∧ es.any (·.refKey) = false) ∨ ∃ i t e, kvGet l z = some i ∧ es.find? (·.key.isStr (SS z)) = some e ∧ e.val = .int i t := by
    intro es
    induction es with
    | nil =>
      intro l h
      cases l with
      | nil => exact .inl ⟨rfl, rfl, rfl⟩
      | cons p l => simp [entsB] at h
    | cons e r ih =>
      intro l h
      cases l with
      | nil => simp [entsB] at h
      | cons p l =>
        simp only [entsB, Bool.and_eq_true] at h
        obtain ⟨h1, h2, h3⟩ := h
        obtain ⟨eh, ek, ev⟩ := e
        cases ek <;> simp only [decide_eq_true_eq] at h1 <;> try (cases h1; done)
        rename_i s1 t1
        cases ev <;> simp only [decide_eq_true_eq] at h2 <;> try (cases h2; done)
        rename_i i1 t2
        subst h1 h2
        have es1 : Value.isStr (.str (SS p.1) t1) (SS z) = nlEq p.1 z := by
          cases q : nlEq p.1 z with
          | true =>
            rw [nlEq_iff.mp q]
            simp [Value.isStr]
          | false =>
            have : ¬ p.1 = z := fun e => by rw [nlEq_iff.mpr e] at q; cases q
            have n2 : SS p.1 ≠ SS z := fun e => this (ss_inj e)
            simp only [Value.isStr]
            exact beq_eq_false_iff_ne.mpr n2
        cases q : nlEq p.1 z with
        | true =>
          refine .inr ⟨p.2, t2, ⟨eh, .str (SS p.1) t1, .int p.2 t2⟩, by simp [kvGet, q], ?_, rfl⟩
          rw [List.find?_cons]
          show (match Value.isStr (.str (SS p.1) t1) (SS z) with | true => _ | false => _) = _
          rw [es1, q]
        | false =>
          rcases ih l h3 with ⟨a1, a2, a3⟩ | ⟨i, t, e, a1, a2, a3⟩
          · refine .inl ⟨by simp [kvGet, q, a1], ?_, ?_⟩
            · rw [List.find?_cons]
              show (match Value.isStr (.str (SS p.1) t1) (SS z) with | true => _ | false => _) = _
              rw [es1, q]
              exact a2
            · rw [List.any_cons, a3]
              rfl
          · refine .inr ⟨i, t, e, by simp [kvGet, q, a1], ?_, a3⟩
            rw [List.find?_cons]
            show (match Value.isStr (.str (SS p.1) t1) (SS z) with | true => _ | false => _) = _
            rw [es1, q]
            exact a2
  unfold dctSB at h
  cases e : K.lookup (He.ga K x) with
  | none => rw [e] at h; cases h
  | some o =>
    obtain ⟨oc, od, dt, sl⟩ := o
    rw [e] at h
    dsimp only at h
    cases dt <;> dsimp only at h <;> try (cases h; done)
    rename_i es n
    unfold PySem.W.nsIn
    rw [e]
    dsimp only
    rcases key _ _ h with ⟨a1, a2, a3⟩ | ⟨i, t, e2, a1, a2, a3⟩
    · exact .inl ⟨a1, by rw [a2]; dsimp only; rw [a3]; rfl⟩
    · exact .inr ⟨i, t, a1, by rw [a2]; dsimp only; rw [a3]⟩
structure KvF (w : World) (K : PySem.W.Frag) (mg : Str → Option Value) (x : Str) (l : KvL) : Prop where
  m : mg x = some (.ref (He.ga K x))
  b : dctSB K x l = true
  d : ∃ es n, KDict K w (He.ga K x) es n
def mKIn (l : KvL) (m : ME) : ME := fun e => match m e with
  | .ok (.str cs) e1 => .ok (.bl (!(kvGet l cs).isSome)) e1
  | .ok _ _ => .bad
  | .ex c e1 => .ex c e1
  | .bad => .bad
@[simp] theorem mKIn_ap (l : KvL) (m : ME) (e : Ev) : mKIn l m e = (match m e with
  | .ok (.str cs) e1 => .ok (.bl (!(kvGet l cs).isSome)) e1
  | .ok _ _ => .bad
  | .ex c e1 => .ex c e1
  | .bad => .bad) := rfl
def mKGet (l : KvL) (m : ME) : ME := fun e => match m e with
  | .ok (.str cs) e1 => (match kvGet l cs with
    | some i => .ok (.int i) e1
    | none => .bad)
  | .ok _ _ => .bad
  | .ex c e1 => .ex c e1
  | .bad => .bad
@[simp] theorem mKGet_ap (l : KvL) (m : ME) (e : Ev) : mKGet l m e = (match m e with
  | .ok (.str cs) e1 => (match kvGet l cs with
    | some i => .ok (.int i) e1
    | none => .bad)
  | .ok _ _ => .bad
  | .ex c e1 => .ex c e1
  | .bad => .bad) := rfl
section
variable {P : Program} {w : World} {K : PySem.W.Frag} {mg : Str → Option Value} {base : Heap} {N : List Str} {sc : Scope} {k : Nat} {X : Cx} {C : CT} {W : WX}
theorem kin_run {F : Fx} {env : Ev} {σ : St} {H : Hp} {Q : VK} {x : Str} {l : KvL} {m : ME} {t : TE} (kk : FX F X.K C) (hK : X.K = K) (kv : KvF w K mg x l) (q : ∀ F env σ H Q, FX F X.K C → SR F env σ H → PostE F C W env σ H Q (m env) → t σ H Q) (s : SR F env σ H)
    (z : PostE F C W env σ H Q (mKIn l m env)) : t σ H fun v H1 => ∃ (z : Str) (r : Option Value), v = .str z ∧ V.ref (He.ga K x) = .ref (He.ga K x) ∧ PySem.W.nsIn X.K (He.ga K x) z = some r ∧ Q (.bl (!r.isSome)) H1 := by
  refine q F env σ H _ kk s ?_
  unfold mKIn at z
  cases e1 : m env with
  | bad => rw [e1] at z; exact z
  | ex c env1 => rw [e1] at z; exact z
  | ok d env1 =>
    rw [e1] at z
    cases d <;> dsimp only at z <;> try (exact z.elim)
    rename_i cs
    refine fun v H1 s1 x1 r1 => ?_
    simp only [RelD] at r1
    subst r1
    rcases ns_kv kv.b cs with ⟨a1, a2⟩ | ⟨i, t, a1, a2⟩
    · exact ⟨_, none, rfl, rfl, by rw [hK]; exact a2, z _ H1 s1 x1 (by simp only [RelD]; rw [a1]; rfl)⟩
    · exact ⟨_, some (.int i t), rfl, rfl, by rw [hK]; exact a2, z _ H1 s1 x1 (by simp only [RelD]; rw [a1]; rfl)⟩
theorem x_knin (c : Cw P w K mg base N sc k X W) {x : Str} {l : KvL} {e : Expr} {m : ME} {px pos : Pos} (g : Ng sc x) (kv : KvF w K mg x l) (h : JE X C W e m) (hm : behindInMarks .NotIn (.Name x px) = false) : JE X C W (.Compare e [.NotIn] [.Name x px] pos) (mKIn l m) := by
  obtain ⟨t, p, q⟩ := h.run
  obtain ⟨es, n, kd⟩ := kv.d
  have hK := c.c.K
  refine ⟨_, pe_cmpR (op_notIn_kd (d := He.ga K x) (es := es) (n := n) (by rw [hK, c.c.w]; exact kd)) p (pe_glob (v := .ref (He.ga K x)) (c.c.gl g) (by rw [c.c.mg]; exact kv.m) rfl g.d) hm, fun F env σ H Q kk s z => ?_⟩
  exact kin_run kk hK kv q s z
theorem t_knin (c : Cw P w K mg base N sc k X W) {x : Str} {l : KvL} {e : Expr} {m : ME} {px pos : Pos} (g : Ng sc x) (kv : KvF w K mg x l) (h : JE X C W e m) (hm : behindInMarks .NotIn (.Name x px) = false) : JT X C W (.Compare e [.NotIn] [.Name x px] pos) (mKIn l m) := by
  obtain ⟨t, p, q⟩ := h.run
  obtain ⟨es, n, kd⟩ := kv.d
  have hK := c.c.K
  refine ⟨_, pt_cmpR (op_notIn_kd (d := He.ga K x) (es := es) (n := n) (by rw [hK, c.c.w]; exact kd)) p (pe_glob (v := .ref (He.ga K x)) (c.c.gl g) (by rw [c.c.mg]; exact kv.m) rfl g.d) hm, fun F env σ H Q kk s z => ?_⟩
  exact kin_run kk hK kv q s (post_tb z)
theorem x_kget (c : Cw P w K mg base N sc k X W) {x : Str} {l : KvL} {e : Expr} {m : ME} {px pos : Pos} (g : Ng sc x) (kv : KvF w K mg x l) (h : JE X C W e m) (hp : PlainIx e) : JE X C W (.Subscript (.Name x px) e pos) (mKGet l m) := by
  obtain ⟨t, p, q⟩ := h.run
  obtain ⟨es, n, kd⟩ := kv.d
  have hK := c.c.K
  refine ⟨_, pe_ix ix_kdict (pe_glob (v := .ref (He.ga K x)) (c.c.gl g) (by rw [c.c.mg]; exact kv.m) rfl g.d) p hp, fun F env σ H Q kk s z => ?_⟩
  show t σ H _
  refine q F env σ H _ kk s ?_
  unfold mKGet at z
  cases e1 : m env with
  | bad => rw [e1] at z; exact z
  | ex c env1 => rw [e1] at z; exact z
  | ok d env1 =>
    rw [e1] at z
    cases d <;> dsimp only at z <;> try (exact z.elim)
    rename_i cs
    refine fun v H1 s1 x1 r1 => ?_
    simp only [RelD] at r1
    subst r1
    rcases ns_kv kv.b cs with ⟨a1, a2⟩ | ⟨i, t, a1, a2⟩
    · rw [a1] at z; exact z.elim
    · rw [a1] at z
      exact ⟨_, _, .int i, rfl, rfl, ⟨es, n, .int i t, by rw [hK]; exact kd.at_, by rw [c.c.w]; exact kd.lit, by rw [hK]; exact a2, ⟨t, rfl⟩⟩, z _ H1 s1 x1 (by simp only [RelD])⟩
end
end MP

set_option Elab.async false
set_option linter.all false
set_option maxRecDepth 100000
set_option maxHeartbeats 4000000
namespace MP
open PySem PySem.Spec L2
open PyProof.Rows hiding St
/-! ### try: .. except X as e: return (None, e.f) if isinstance(e, J) else (None, text) -/
/-- what is known of the classes of errors that keep a number -/
structure CaughtF (K : PySem.W.Frag) (C : CT) (cv jv : Value) (fld : Str) (ex : Nat → Option Bool) : Prop where
  ok : ∀ c r, ex c = some r → 1000 ≤ c ∧ r = true ∧ C.fld (c % 1000) = fld ∧ PySem.W.exmOne K (C c) cv = some true ∧ ∃ D0, C c = .ref D0 ∧ ExcC K D0 ∧ XfC K D0 ∧ PySem.W.findIn K (.ref D0) fld = some none ∧ PySem.W.kitOne K (.ref D0) jv = some r
def mTryRead (mb : MS) (ex : Nat → Option Bool) (i : Nat) : MS := fun e => match mb e with
  | .ex c e1 => (match ex c with
    | some _ => (match Nat.blt i e1.length with
      | true => .rt (.tup [.non, .int ((c / 1000 - 1 : Nat) : Int)]) e1
      | false => .bad)
    | none => .bad)
  | r => r
@[simp] theorem mTryRead_ap (mb : MS) (ex : Nat → Option Bool) (i : Nat) (e : Ev) : mTryRead mb ex i e = (match mb e with
  | .ex c e1 => (match ex c with
    | some _ => (match Nat.blt i e1.length with
      | true => .rt (.tup [.non, .int ((c / 1000 - 1 : Nat) : Int)]) e1
      | false => .bad)
    | none => .bad)
  | r => r) := rfl
def tSuRead (K : PySem.W.Frag) (Ja : Addr) (i : Nat) (fld other : Str) (a : Addr) (cls : Value) (d : Option Addr) : TS := fun D σ H => ∃ D0, cls = .ref D0 ∧ ExcC K D0 ∧ XfC K D0 ∧ PySem.W.findIn K (.ref D0) fld = some none ∧
  tIf (tB (tCB (rIsD K D0 a d) (tCons (tVar i) (tCons (tC (.ref Ja)) tNil)))) (tTup (tCons (tC .non) (tCons (tXf a cls d D0 fld (tVar i)) tNil))) (tTup (tCons (tC .non) (tCons (tC (.str other)) tNil))) σ H D.rt
section
variable {X : Cx} {C : CT} {W : WX}
theorem js_tryRead {x n jn fld other : Str} {cv : Value} {Ja : Addr} {i : Nat} {body : List Stmt} {mb : MS} {ex : Nat → Option Bool} {np pos pos' p1 p2 p3 p4 p5 p6 p7 p8 p9 p10 q5 q6 q7 : Pos} {j1 j2 j3 k1 k2 : Nat} (hs : X.stack = X.env :: X.outer) (hf : X.env.frame = some X.env.locals) (hN : X.N.Nodup) (hi : X.N[i]? = some n)
    (hln : X.env.scope.names.lookup n = some .local) (hdn : (n == ("__debug__" : Str)) = false) (hcn : (n == ("__classdict__" : Str)) = false)
    (hc : Names X x cv) (gJ : Gl X jn) (mJ : X.mg jn = some (.ref Ja)) (dJ : (jn == ("__debug__" : Str)) = false) (gI : Gl X "isinstance") (mI : X.mg "isinstance" = none) (tk : Takes X W)
    (ca : CaughtF X.K C cv (.ref Ja) fld ex)
    (hb : ∀ (W : WX) (pn : List (Addr × Obj)) (xe : Value → Shared → Prop), Takes (X.tr pn xe) W → PassesOwn (model X.prog X.w) X.A X.env xe → JB (X.tr pn xe) C W body mb)
    (h1 : ∀ E, attributeBase (.Name n p8) fld E (eval (.Name n p8) E) = eval (.Name n p8) E) :
    JS X C W (.Try body [.ExceptHandler (some (.Name x np)) (some n) [.Return (some (.IfExp (.Call (.Name "isinstance" p1) [.Name n p2, .Name jn p3] [] p4) (.Tuple [.Constant .none j1 p5, .Attribute (.Name n p8) fld p6] k1 p7) (.Tuple [.Constant .none j2 q5, .Constant (.str other) j3 q6] k2 q7) p9)) p10] pos'] [] [] pos) (mTryRead mb ex i) := by
  let tb : WX → TS := fun W' D σ H => ∃ F env, FX F X.K C ∧ SR F env σ H ∧ PostS F C W' env σ H D (mb env)
  have pb : ∀ (W' : WX) (pn : List (Addr × Obj)) (xe : Value → Shared → Prop), Takes (X.tr pn xe) W' → PassesOwn (model X.prog X.w) X.A X.env xe → PSs (X.tr pn xe) body (tb W') := fun W' pn xe t po => by
    obtain ⟨t0, p, q⟩ := (hb W' pn xe t po).run
    refine ⟨fun pins s σ H D I h => ?_⟩
    obtain ⟨F, env, k, sr, z⟩ := h
    exact p.run pins s σ H D I (q F env σ H D k sr z)
  have hsu : ∀ (a : Addr) (oe : Obj) (cls : Value) (d : Option Addr) (pn : List (Addr × Obj)), Zc cls d oe → (∃ vs, oe.data = .fields vs) →
      PSs (X.suite a ((a, oe) :: pn)) [.Return (some (.IfExp (.Call (.Name "isinstance" p1) [.Name n p2, .Name jn p3] [] p4) (.Tuple [.Constant .none j1 p5, .Attribute (.Name n p8) fld p6] k1 p7) (.Tuple [.Constant .none j2 q5, .Constant (.str other) j3 q6] k2 q7) p9)) p10] (tSuRead X.K Ja i fld other a cls d) := by
    intro a oe cls d pn hz hfl
    refine ⟨fun pins s σ H D I h => ?_⟩
    obtain ⟨D0, rfl, hE, hX, hno, h⟩ := h
    have pN : ∀ p, PE (X.suite a ((a, oe) :: pn)) (.Name n p) (tVar i) := fun p => pe_var hi (.inl hln) hdn hcn
    have pJ : PE (X.suite a ((a, oe) :: pn)) (.Name jn p3) (tC (.ref Ja)) := pe_glob gJ mJ rfl dJ
    have pI : PE (X.suite a ((a, oe) :: pn)) (.Call (.Name "isinstance" p1) [.Name n p2, .Name jn p3] [] p4) _ := pe_callB (call_isD hE hz hfl) gI mI rfl (pa_cons (pN p2) (pa_cons pJ pa_nil rfl) rfl)
    have pX : PE (X.suite a ((a, oe) :: pn)) (.Attribute (.Name n p8) fld p6) _ := pe_xf hX hno hz hfl (pN p8) (h1 _)
    have pA : PE (X.suite a ((a, oe) :: pn)) (.Tuple [.Constant .none j1 p5, .Attribute (.Name n p8) fld p6] k1 p7) _ := pe_tup (pa_cons pe_non (pa_cons pX pa_nil rfl) rfl)
    have pB : PE (X.suite a ((a, oe) :: pn)) (.Tuple [.Constant .none j2 q5, .Constant (.str other) j3 q6] k2 q7) _ := pe_tup (pa_cons pe_non (pa_cons pe_str pa_nil rfl) rfl)
    exact (pss_one (ps_ret (pos := p10) (pe_ifExp (pos := p9) (pt_val pI) pA pB))).run pins s σ H D I h
  refine ⟨_, ps_try_as hs hf hN hi hln hc tk pb hsu, fun F env σ H D k s z => ?_⟩
  refine ⟨F, env, k, s, ?_⟩
  unfold mTryRead at z
  cases e1 : mb env with
  | nx env1 => rw [e1] at z; exact z
  | rt d env1 => rw [e1] at z; exact z
  | bk env1 => rw [e1] at z; exact z
  | ct env1 => rw [e1] at z; exact z
  | bad => rw [e1] at z; exact z
  | ex c env1 =>
    rw [e1] at z
    dsimp only at z
    cases e2 : ex c with
    | none => rw [e2] at z; exact z.elim
    | some r =>
      rw [e2] at z
      dsimp only at z
      split at z
      · rename_i hl
        obtain ⟨le, rfl, hfld, m1, D0, m2, m3, m4, m5, m6⟩ := ca.ok c r e2
        intro σ1 H1 s1 x1 d hd
        obtain ⟨dd, rfl, hx⟩ := hd.2 le
        rw [hfld] at hx
        refine ⟨true, m1, fun _ a na => ?_, fun h => by cases h⟩
        have hv : (σ1.set i (some (.ref a)))[i]? = some (some (.ref a)) := List.getElem?_set_self (by rw [← s1.len]; exact Nat.le_of_ble_eq_true hl)
        refine ⟨D0, m2, m3, m4, m5, .ref a, hv, .inr ⟨dd, _, rfl, hx⟩, .ref Ja, .ref Ja, true, rfl, fun u ru => by cases ru; rfl, m6, true, rfl, ?_⟩
        refine ⟨.ref a, hv, rfl, m2, dd, _, .int ((c / 1000 - 1 : Nat) : Int), rfl, hx, by simp [List.lookup], by show 2 ≤ sizeLine; rw [sizeLine_eq]; decide, fun p np => ?_⟩
        refine z _ σ1 _ (s1.grow (same_upd np)) ?_
        refine rel_newT np (fun b q => (s1.od b q).n) ?_
        simp only [RelL, RelD]
        exact ⟨_, _, rfl, rfl, _, _, rfl, rfl, rfl⟩
      · exact z.elim
end
section
variable {P : Program} {w : World} {K : PySem.W.Frag} {mg : Str → Option Value} {base : Heap} {N : List Str} {sc : Scope} {k : Nat} {X : Cx} {C : CT} {W : WX}
theorem st_tryRead (c : Cs P w K mg base N sc k X W) (B : Bts mg) {x n jn fld other : Str} {cv : Value} {Ja : Addr} {i : Nat} {body : List Stmt} {mb : MS} {ex : Nat → Option Bool} {np pos pos' p1 p2 p3 p4 p5 p6 p7 p8 p9 p10 q5 q6 q7 : Pos} {j1 j2 j3 k1 k2 : Nat} (nn : Nl N sc i n) (n2 : Nm N sc i n)
    (gx : Ng sc x) (mx : mg x = some cv) (gJ : Ng sc jn) (mJ : mg jn = some (.ref Ja)) (gI : Ng sc "isinstance") (ca : CaughtF K C cv (.ref Ja) fld ex)
    (hb : ∀ (X' : Cx) (W' : WX), Cs P w K mg base N sc k X' W' → JB X' C W' body mb) (h1 : ∀ E, attributeBase (.Name n p8) fld E (eval (.Name n p8) E) = eval (.Name n p8) E) :
    JS X C W (.Try body [.ExceptHandler (some (.Name x np)) (some n) [.Return (some (.IfExp (.Call (.Name "isinstance" p1) [.Name n p2, .Name jn p3] [] p4) (.Tuple [.Constant .none j1 p5, .Attribute (.Name n p8) fld p6] k1 p7) (.Tuple [.Constant .none j2 q5, .Constant (.str other) j3 q6] k2 q7) p9)) p10] pos'] [] [] pos) (mTryRead mb ex i) :=
  js_tryRead c.hs c.hf c.e.xnd (c.e.c.at_ nn.at_) (by rw [c.e.c.sc]; exact nn.loc) n2.d n2.c ⟨c.e.c.gl gx, gx.d, .inl (by rw [c.e.c.mg]; exact mx)⟩ (c.e.c.gl gJ) (by rw [c.e.c.mg]; exact mJ) gJ.d (c.e.c.gl gI) (c.e.mn B.isinstance) c.e.tk (by rw [c.e.c.K]; exact ca)
    (fun W' pn xe t po => hb _ W' (c.tr t po)) h1
end
end MP

set_option Elab.async false
set_option linter.all false
set_option maxRecDepth 100000
set_option maxHeartbeats 4000000
namespace MP
open PySem PySem.Spec L2 He
open PyProof.Rows hiding St
/-! ### the head's facts, with the cells of some classes' __init__ -/
def ia (K : PySem.W.Frag) (x : Str) : Addr := fAd K (x, some "__init__")
def closOf (K : PySem.W.Frag) (x : Str) : List Addr := match K.lookup (ia K x) with
  | some o => (match o.data with
    | .func fd => fd.closure.map (·.2)
    | _ => [])
  | none => []
def asY (g : Addr → Option Obj) (n : Nat) (sp : List Str) : List Addr := asD g n ++ (cStatics :: sp.flatMap (closOf (frG g (asD g n))))
abbrev IniV : Type := Option (Str × Str × Arguments × FuncBody × Scope × Addr × List Str × Addr)
def iniObs (K : PySem.W.Frag) (x : Str) : IniV := match K.lookup (ia K x) with
  | some o => (match o.data with
    | .func fd => some (fd.name, fd.qualname, fd.params, fd.body, fd.scope, fd.globals, fd.closure.map (·.1), fd.builtins)
    | _ => none)
  | none => none
/-- the class x of the text, its __init__ the statement st -/
def iniVal (p : Str × Stmt) : IniV := some ("__init__", p.1 ++ ".__init__", C8.fnArgs p.2, .stmts (C8.fnBody p.2), C8.fnScope p.2, mainGlobals, ["__class__"], builtinsNs)
abbrev AlY : Type := AlX × List IniV
def obsY (n : Nat) (fa : List Fa) (fn : List DefD) (ts : List Tab) (tf : List Defn) (ex : PySem.W.Frag → Bool) (sp : List (Str × Stmt)) (g : Addr → Option Obj) : AlY :=
  ((obsT fa fn ts (frT g (asY g n (sp.map (·.1)))), ex (frT g (asY g n (sp.map (·.1)))) && tabsB g tf (frT g (asY g n (sp.map (·.1))))), sp.map fun p => iniObs (frT g (asY g n (sp.map (·.1)))) p.1)
structure SaysY (fa : List Fa) (fn : List DefD) (ts : List Tab) (tf : List Defn) (ex : PySem.W.Frag → Bool) (sp : List (Str × Stmt)) (w : World) (h : Heap) (K : PySem.W.Frag) : Prop where
  x : SaysX fa fn ts tf ex w h K
  i : sp.map (fun p => iniObs K p.1) = sp.map iniVal
theorem saysY_of {n : Nat} {fa : List Fa} {fn : List DefD} {ts : List Tab} {tf : List Defn} {ex : PySem.W.Frag → Bool} {sp : List (Str × Stmt)} {w : World} {h : Heap} (e : obsY n fa fn ts tf ex sp h.get? = (valX fn ts w, sp.map iniVal)) :
    SaysY fa fn ts tf ex sp w h (frT h.get? (asY h.get? n (sp.map (·.1)))) := by
  have e0 := congrArg (fun z : AlY => z.1) e
  have e3 : sp.map (fun p => iniObs (frT h.get? (asY h.get? n (sp.map (·.1)))) p.1) = sp.map iniVal := congrArg (fun z : AlY => z.2) e
  generalize hK : frT h.get? (asY h.get? n (sp.map (·.1))) = K at *
  have e0 : ((obsT fa fn ts K, ex K && tabsB h.get? tf K) : AlX) = valX fn ts w := by rw [← hK]; exact e0
  have e1 : obsT fa fn ts K = valT fn ts w := congrArg (fun z : AlX => z.1) e0
  have e2 : (ex K && tabsB h.get? tf K) = true := congrArg (fun z : AlX => z.2) e0
  obtain ⟨h1, h2⟩ := ba e2
  have key : ∀ p ∈ tf, PySem.W.codeHdIn K (cT K p).1 (cT K p).2 = true ∧ ∃ o, h.get? (cT K p).2 = some o ∧ emptyTab o = true := fun p hp => by
    obtain ⟨h3, h4⟩ := ba (List.all_eq_true.mp h2 p hp)
    refine ⟨h3, ?_⟩
    cases q : h.get? (cT K p).2 with
    | none => rw [q] at h4; cases h4
    | some o => rw [q] at h4; exact ⟨o, rfl, h4⟩
  refine ⟨⟨e1, h1, fun p hp => (key p hp).1, fun p hp => ?_, fun p hp => ?_⟩, e3⟩
  · obtain ⟨_, o, q, z⟩ := key p hp
    have := frT_none (as := asY h.get? n (sp.map (·.1))) q z
    rw [hK] at this
    exact this
  · obtain ⟨_, o, q, z⟩ := key p hp
    rw [q, emptyTab_eq z]
def hookY (n : Nat) (fa : List Fa) (fn : List DefD) (ts : List Tab) (tf : List Defn) (ex : PySem.W.Frag → Bool) (sp : List (Str × Stmt)) : PySem.W.Hook where
  α := AlY
  obs := fun s => obsY n fa fn ts tf ex sp s.heap.get?
  val := fun w => (valX fn ts w, sp.map iniVal)
  says := fun w h => ∃ K : PySem.W.Frag, K.In h ∧ SaysY fa fn ts tf ex sp w h K
  of := fun _ _ e => ⟨_, frT_in, saysY_of e⟩
  keeps := fun _ _ _ ⟨K, hK, c⟩ k => ⟨K, PySem.W.Frag.In.keeps hK k, ⟨⟨c.x.t, c.x.more, c.x.hd, c.x.out, fun p hp => k _ _ (c.x.empty p hp)⟩, c.i⟩⟩
theorem obsY_eq {n : Nat} {fa : List Fa} {fn : List DefD} {ts : List Tab} {tf : List Defn} {ex : PySem.W.Frag → Bool} {sp : List (Str × Stmt)} {g : Addr → Option Obj} {s : Shared} (h : ∀ a, g a = s.heap.get? a) : obsY n fa fn ts tf ex sp g = (hookY n fa fn ts tf ex sp).obs s := by
  have e : g = s.heap.get? := funext h
  rw [e] <;> rfl
/-! ### the class of an error with an own __init__ -/
def clsB (K : PySem.W.Frag) (C : Addr) : Bool := match K.lookup C with
  | some ⟨.type "type", _, .cls cd, sl⟩ => (match cd.mro, sl.toList with
    | .ref C' :: bm, [_, _, _, _, some (.builtin n), _] => C' == C && (n == "ValueError.__new__" && (!cd.hasDel && (cd.hasDict && (PySem.HandSPX.refsVE bm && eqO (PySem.W.alongIn K "__init__" bm) (some (some (.builtin "ValueError.__init__")))))))
    | _, _ => false)
  | _ => false
theorem clsB_ok {K : PySem.W.Frag} {C : Addr} (h : clsB K C = true) : ∃ nm q N bs bm sn sub ab col dd k0 k1 k2 k3 k5, K.lookup C = some (excClassObj nm q C N bs bm true sn sub ab col dd k0 k1 k2 k3 k5 "ValueError.__new__") ∧ PySem.HandSPX.refsVE bm = true ∧ PySem.W.alongIn K "__init__" bm = some (some (.builtin "ValueError.__init__")) := by
  unfold clsB at h
  split at h
  · rename_i dd cd sl ho
    split at h
    · rename_i C' bm k0 k1 k2 k3 n k5 hm hs
      obtain ⟨a1, h⟩ := ba h
      obtain ⟨a2, h⟩ := ba h
      obtain ⟨a3, h⟩ := ba h
      obtain ⟨a4, h⟩ := ba h
      obtain ⟨a5, a6⟩ := ba h
      have a1 := beq_iff_eq.mp a1
      have a2 := beq_iff_eq.mp a2
      subst a1 a2
      obtain ⟨nm, bs, mro, ns, qn, hd, sn, sub, ab, col, del⟩ := cd
      dsimp only at hm a3 a4
      subst hm a4
      have a3 : del = false := by
        cases del with
        | false => rfl
        | true => cases a3
      subst a3
      have hsl : sl = #[k0, k1, k2, k3, some (.builtin "ValueError.__new__"), k5] := by
        obtain ⟨l⟩ := sl
        simp only at hs
        rw [hs]
      subst hsl
      exact ⟨nm, qn, ns, bs, bm, sn, sub, ab, col, dd, k0, k1, k2, k3, k5, ho, a5, eqO_ok a6⟩
    · cases h
  · cases h
end MP

set_option Elab.async false
set_option linter.all false
set_option maxRecDepth 100000
set_option maxHeartbeats 4000000
namespace MP
open PySem PySem.Spec L2 He
open PyProof.Rows hiding St
def cellB (K : PySem.W.Frag) (cc C : Addr) : Bool := match K.lookup cc with
  | some ⟨_, _, .cell (some (.ref D)), _⟩ => D == C
  | _ => false
theorem cellB_ok {K : PySem.W.Frag} {cc C : Addr} (h : cellB K cc C = true) : ∃ cl cld csl, K.lookup cc = some ⟨cl, cld, .cell (some (.ref C)), csl⟩ := by
  unfold cellB at h
  split at h
  · rename_i a b D c e
    have := beq_iff_eq.mp h
    subst this
    exact ⟨_, _, _, e⟩
  · cases h
def fileB (K : PySem.W.Frag) (cda : Addr) (main : Str) : Bool := match K.lookup cda with
  | some ⟨_, _, .fields vs, _⟩ => (match (vs[2]? : Option Value) with
    | some (.str file _) => main == file
    | _ => false)
  | _ => false
theorem fileB_ok {K : PySem.W.Frag} {cda : Addr} {main : Str} (h : fileB K cda main = true) : ∃ ccl cdd vs ccs file tf, K.lookup cda = some ⟨ccl, cdd, .fields vs, ccs⟩ ∧ vs[2]? = some (.str file tf) ∧ (main == file) = true := by
  unfold fileB at h
  split at h
  · rename_i a b vs c e
    split at h
    · rename_i file t e2
      exact ⟨_, _, _, _, _, _, e, e2, h⟩
    · cases h
  · cases h
def noneV : Value → Bool
  | .none => true
  | _ => false
theorem noneV_ok {v : Value} (h : noneV v = true) : v = .none := by
  cases v <;> first | rfl | cases h
def iniB (K : PySem.W.Frag) (x qual main : Str) : Bool := match K.lookup (ia K x) with
  | some ⟨_, _, .func fd, _⟩ => (match fd.code with
    | .ref cda => PySem.W.codeIn K (.ref cda) qual && (fileB K cda main && (noneV fd.defaults && (match fd.closure with
      | [p] => cellB K p.2 (ga K x)
      | _ => false)))
    | _ => false)
  | _ => false
def supB (main : Str) (K : PySem.W.Frag) (x fld : Str) : Bool :=
  clsB K (ga K x) && (eqO (PySem.W.findIn K (.ref (ga K x)) "__setattr__") (some (some (.builtin "object.__setattr__"))) && (decide (PySem.W.subIn K (.ref (ga K x)) (.type "BaseException") = some true) && (decide (PySem.W.typeIn K (.ref (ga K x)) = some (.type "type")) &&
  (PySem.W.keepIn K (.ref (ga K x)) && (eqO (PySem.W.findIn K (.ref (ga K x)) fld) (some none) && (eqO (PySem.W.findIn K (.ref (ga K x)) "__init__") (some (some (.ref (ia K x)))) && (decide (PySem.W.typeIn K (.ref (ia K x)) = some (.type "function")) &&
  (eqO (PySem.W.nsIn K cStatics "thirdparty.any") (some none) && (decide (PySem.W.subIn K (.ref (ga K x)) (.type "ValueError") = some true) && (decide (PySem.W.mroIn K (ga K x) (.ref (ga K x)) = some true) && iniB K x (x ++ ".__init__") main))))))))))
def scB (sc : Scope) (self par : Str) : Bool := decide (sc.kind = .function) && (!sc.isCoroutine && (!sc.isGenerator && (sc.names.all (fun y => !decide (y.2 = .cell)) && (decide (sc.names.lookup self = some .local) && (decide (sc.names.lookup par = some .local) &&
  (decide (sc.names.lookup ("super" : Str) = some .globalImplicit) && (decide (sc.names.lookup ("__class__" : Str) = some .free) && (!(self == par) && (!(self == ("__debug__" : Str)) && !(par == ("__debug__" : Str)))))))))))
theorem erF_of {P : Program} {K : PySem.W.Frag} {mg : Str → Option Value} {C : CT} {x par fld msg self : Str} {c : Nat} {st : Stmt} {j : Nat} {p0 p1 p2 p3 p4 p5 p6 p7 p8 p9 : Pos} {ar : Arg} (hlt : c < 1000) (hC : C.f c = .ref (ga K x)) (hm : mg x = some (.ref (ga K x))) (hf : C.fld c = fld) (hs : mg "super" = none)
    (hB : supB P.main.file K x fld = true) (hi : iniObs K x = iniVal (x, st))
    (hbd : C8.fnBody st = [.Expr (.Call (.Attribute (.Call (.Name "super" p0) [] [] p1) "__init__" p2) [.Constant (.str msg) j p3] [] p4) p5, .Assign [.Attribute (.Name self p6) fld p7] (.Name par p8) p9]) (hpos : (p2.endLine == p4.line) = true)
    (hsc : scB (C8.fnScope st) self par = true) (htop : (P.main.scope.names.lookup ("super" : Str)).isSome = false) (hhd : ((C8.fnArgs st).posonlyargs ++ (C8.fnArgs st).args).head? = some ar) (har : ar.arg = self)
    (hbind : ∀ (qual : Str) (body : List Stmt) (kV doc pm ct cdv : Value) (an : Option Addr) (cc : Addr) (u v : Value), bindArgs (PySem.W.ksFn "__init__" qual (C8.fnArgs st) body (C8.fnScope st) .none kV doc pm an cdv ct cc) ⟨[u, v], []⟩ = pure [(self, u), (par, v)]) :
    ErF P K mg C x c := by
  unfold supB at hB
  obtain ⟨h1, hB⟩ := ba hB
  obtain ⟨h2, hB⟩ := ba hB
  obtain ⟨h3, hB⟩ := ba hB
  obtain ⟨h4, hB⟩ := ba hB
  obtain ⟨h5, hB⟩ := ba hB
  obtain ⟨h6, hB⟩ := ba hB
  obtain ⟨h7, hB⟩ := ba hB
  obtain ⟨h8, hB⟩ := ba hB
  obtain ⟨h9, hB⟩ := ba hB
  obtain ⟨h10, hB⟩ := ba hB
  obtain ⟨h11, h12⟩ := ba hB
  obtain ⟨nm, q, N, bs, bm, sn, sub, ab, col, dd, k0, k1, k2, k3, k5, hcl, hbm, hal⟩ := clsB_ok h1
  have T : OexC K (ga K x) := ⟨⟨nm, q, N, bs, bm, sn, sub, ab, col, dd, k0, k1, k2, k3, k5, hcl, hbm⟩, eqO_ok h2, of_decide_eq_true h3, of_decide_eq_true h4, h5⟩
  have hci : PySem.W.clsIn K (ga K x) = some { name := nm, bases := bs, mro := .ref (ga K x) :: bm, ns := N, qualname := q, hasDict := true, slotNames := sn, subclasses := sub, abstract := ab, collection := col, hasDel := false } := by
    unfold PySem.W.clsIn; rw [hcl]
  unfold scB at hsc
  obtain ⟨s1, hsc⟩ := ba hsc
  obtain ⟨s2, hsc⟩ := ba hsc
  obtain ⟨s3, hsc⟩ := ba hsc
  obtain ⟨s4, hsc⟩ := ba hsc
  obtain ⟨s5, hsc⟩ := ba hsc
  obtain ⟨s6, hsc⟩ := ba hsc
  obtain ⟨s7, hsc⟩ := ba hsc
  obtain ⟨s8, hsc⟩ := ba hsc
  obtain ⟨s9, hsc⟩ := ba hsc
  obtain ⟨s10, s11⟩ := ba hsc
  have nb : ∀ {b : Bool}, (!b) = true → b = false := fun {b} h => by cases b <;> first | rfl | cases h
  refine ⟨hlt, ga K x, ia K x, par, hC, hm, ?_, T, by rw [hf]; exact eqO_ok h6, eqO_ok h7, of_decide_eq_true h8, hs⟩
  rw [hf]
  unfold iniB at h12
  unfold iniObs iniVal at hi
  cases e : K.lookup (ia K x) with
  | none => rw [e] at h12; cases h12
  | some o =>
    obtain ⟨oc, od, dt, osl⟩ := o
    rw [e] at h12 hi
    cases dt <;> dsimp only at h12 hi <;> try (cases h12; done)
    rename_i fd
    obtain ⟨f1, f2, f3, f4, f5, f6, f7, f8, f9, f10, f11, f12, f13, f14, f15⟩ := fd
    simp only [Option.some.injEq, Prod.mk.injEq] at hi
    obtain ⟨i1, i2, i3, i4, i5, i6, i7, i8⟩ := hi
    dsimp only at h12
    subst i1 i2 i3 i4 i5 i6 i8
    cases f13 <;> dsimp only at h12 <;> try (cases h12; done)
    · rename_i cda
      obtain ⟨c1, h12⟩ := ba h12
      obtain ⟨c2, h12⟩ := ba h12
      obtain ⟨c4, c3⟩ := ba h12
      obtain rfl := noneV_ok c4
      obtain ⟨ccl, cdd, vs, ccs, file, tf, g1, g2, g3⟩ := fileB_ok c2
      cases f7 with
      | nil => cases c3
      | cons p r =>
        cases r with
        | cons _ _ => cases c3
        | nil =>
          obtain ⟨py, cc⟩ := p
          have hpy : py = "__class__" := by simpa using i7
          subst hpy
          obtain ⟨cl, cld, csl, g4⟩ := cellB_ok c3
          refine ⟨x ++ ".__init__", C8.fnArgs st, msg, self, C8.fnScope st, .none, f9, f10, f11, f14, oc, ccl, cl, f12, od, cdd, cld, osl, ccs, csl, cda, cc, vs, file, tf, ar, j, p0, p1, p2, p3, p4, p5, p6, p7, p8, p9, _, bm, ?_, hpos, c1, g1, g2, g3, htop, g4, hhd, har, ?_, of_decide_eq_true s1, nb s2, nb s3, ?_, of_decide_eq_true s5, of_decide_eq_true s6, of_decide_eq_true s7, of_decide_eq_true s8, nb s9, nb s10, nb s11, hci, rfl, hbm, rfl, eqO_ok h9, hal, of_decide_eq_true h10, of_decide_eq_true h11⟩
          · rw [hbd] at e
            exact e
          · exact fun s u v => .of_eq (hbind _ _ _ _ _ _ _ _ _ u v)
          · intro y hy
            have := List.all_eq_true.mp s4 y hy
            simpa using this
end MP

set_option Elab.async false
set_option linter.all false
set_option maxRecDepth 100000
set_option maxHeartbeats 4000000
namespace MP
open PySem PySem.Spec L2
open PyProof.Rows hiding St
/-! ### in a list of data of any depth; where None stands -/
def hasD (x : D) : List D → Bool
  | [] => false
  | y :: r => (match eqD y x with
    | true => true
    | false => hasD x r)
def idxD (x : D) : List D → Option Nat
  | [] => none
  | y :: r => (match eqD y x with
    | true => some 0
    | false => (match idxD x r with
      | some j => some (j + 1)
      | none => none))
def fInD : D → D → Option D := fun x y => match y with
  | .lst ys => (match okD 64 x with
    | true => (match okL 63 ys with
      | true => some (.bl (hasD x ys))
      | false => none)
    | false => none)
  | _ => none
theorem hasD_py {x : D} (h : okD 64 x = true) : ∀ (ys : List D), okL 63 ys = true → (pyL ys).any (fun z => PyData.eqv z x.py) = hasD x ys
  | [], _ => rfl
  | y :: r, k => by
    simp only [okL] at k
    split at k
    · rename_i k1
      simp only [pyL, List.any_cons, hasD]
      rw [eqD_py y x 63 64 k1 h, hasD_py h r k]
      cases eqD y x <;> rfl
    · cases k
theorem idxD_py {x : D} (h : okD 64 x = true) : ∀ (ys : List D) (j : Nat), okL 63 ys = true → idxD x ys = some j → ∃ z, (pyL ys)[j]? = some z ∧ PyData.eqv z x.py = true ∧ ∀ (m : Nat) (z' : PyData), m < j → (pyL ys)[m]? = some z' → PyData.eqv z' x.py = false
  | [], j, _, e => by simp [idxD] at e
  | y :: r, j, k, e => by
    simp only [okL] at k
    split at k
    · rename_i k1
      simp only [idxD] at e
      cases q : eqD y x with
      | true =>
        rw [q] at e
        cases e
        exact ⟨y.py, by simp [pyL], by rw [eqD_py y x 63 64 k1 h, q], fun m z' hm _ => absurd hm (Nat.not_lt_zero m)⟩
      | false =>
        rw [q] at e
        dsimp only at e
        cases q2 : idxD x r with
        | none => rw [q2] at e; cases e
        | some i =>
          rw [q2] at e
          cases e
          obtain ⟨z, a1, a2, a3⟩ := idxD_py h r i k q2
          refine ⟨z, by simpa [pyL] using a1, a2, fun m z' hm hz => ?_⟩
          cases m with
          | zero =>
            simp only [pyL, List.getElem?_cons_zero, Option.some.injEq] at hz
            rw [← hz, eqD_py y x 63 64 k1 h, q]
          | succ m => exact a3 m z' (by omega) (by simpa [pyL] using hz)
    · cases k
theorem s_inD {K : PySem.W.Frag} : OpS K (rInD K) fInD := by
  intro H O x y v u Q d dom px py e q
  cases y <;> simp only [fInD] at e <;> try (cases e; done)
  rename_i ys
  split at e
  · rename_i h1
    split at e
    · rename_i h2
      cases e
      have h3 : okD 64 (.lst ys) = true := by simp only [okD]; exact h2
      have e3 : (D.lst ys).py = .list (pyL ys) := by simp only [D.py]
      refine ⟨x.py, pyL ys, dp_p h1 px, by rw [← e3]; exact dp_p h3 py, okD_shaped h1, by rw [← e3]; exact okD_shaped h3, q _ H (Same.refl H) ?_⟩
      simp only [RelD]
      rw [hasD_py h1 ys h2]
    · cases e
  · cases e
def mIdxN (i : Nat) : ME := fun e => match slotD e[i]? with
  | some (.lst ys) => (match okL 63 ys with
    | true => (match idxD .non ys with
      | some j => .ok (.int ((j : Nat) : Int)) e
      | none => .bad)
    | false => .bad)
  | _ => .bad
@[simp] theorem mIdxN_ap (i : Nat) (e : Ev) : mIdxN i e = (match slotD e[i]? with
  | some (.lst ys) => (match okL 63 ys with
    | true => (match idxD .non ys with
      | some j => .ok (.int ((j : Nat) : Int)) e
      | none => .bad)
    | false => .bad)
  | _ => .bad) := rfl
section
variable {P : Program} {w : World} {K : PySem.W.Frag} {mg : Str → Option Value} {base : Heap} {N : List Str} {sc : Scope} {k : Nat} {X : Cx} {C : CT} {W : WX}
theorem units65 (c : Cw P w K mg base N sc k X W) : X.A.units + 65 < cLine := by have := c.c.room.un; omega
theorem x_inD {a b : Expr} {m1 m2 : ME} {l1 l2 : Ev → D → Option D} {pos : Pos} (ha : JO X C W a m1 l1) (hb : JO X C W b m2 l2) (c : Cw P w K mg base N sc k X W) (hm : behindInMarks .In b = false) : JE X C W (.Compare a [.In] [b] pos) (mB fInD m1 l1 m2 l2) := j_cmp (op_inD (units65 c)) s_inD ha hb hm
theorem t_inD {a b : Expr} {m1 m2 : ME} {l1 l2 : Ev → D → Option D} {pos : Pos} (ha : JO X C W a m1 l1) (hb : JO X C W b m2 l2) (c : Cw P w K mg base N sc k X W) (hm : behindInMarks .In b = false) : JT X C W (.Compare a [.In] [b] pos) (mB fInD m1 l1 m2 l2) := jt_cmp (op_inD (units65 c)) s_inD ha hb hm
theorem x_idxN (c : Cw P w K mg base N sc k X W) {i j : Nat} {x : Str} {px apos cpos p : Pos} (n : Nm N sc i x) (hfew : ((backTo cpos (starEach [.Constant .none j p] X.env)).all (fun x => !x.1) && (backToKw cpos (keywordEach [] X.env)).all (fun x => x.1.isSome) && decide (([.Constant .none j p] : List Expr).length + ([] : List Keyword).length + (if ([] : List Keyword).isEmpty then 0 else 1) < 30)) = true)
    (hline : (apos.endLine == cpos.line) = true) : JE X C W (.Call (.Attribute (.Name x px) "index" apos) [.Constant .none j p] [] cpos) (mIdxN i) := by
  refine ⟨_, pe_bm PySem.F.plainAttrs_list PySem.F.slot_list_index PySem.F.type_list_index (mt_indexD (units65 c)) (pe_var (c.c.at_ n.at_) (c.c.vis n.vis) n.d n.c) (pa_cons pe_non pa_nil rfl) rfl hfew hline rfl rfl, fun F env σ H Q kk s z => ?_⟩
  unfold mIdxN at z
  split at z
  · rename_i ys e0
    split at z
    · rename_i h2
      split at z
      · rename_i q e1
        obtain ⟨v, hv, pr⟩ := s.slot e0
        have h3 : okD 64 (.lst ys) = true := by simp only [okD]; exact h2
        have e3 : (D.lst ys).py = .list (pyL ys) := by simp only [D.py]
        obtain ⟨a, ws, rfl, q1, r1⟩ := p_lst pr
        obtain ⟨zz, a1, a2, a3⟩ := idxD_py (x := .non) rfl ys q h2 e1
        refine ⟨.ref a, hv, .inl ⟨rfl, _, .inl (.inl q1)⟩, a, .non, D.py .non, pyL ys, q, zz, rfl, rfl, by rw [← e3, ← kk.1]; exact dp_p h3 pr, by simp only [D.py]; exact .non, by rw [← e3]; exact okD_shaped h3, rfl, a1, a2, a3, ?_⟩
        exact z _ H s .refl (by simp only [RelD])
      · exact z.elim
    · exact z.elim
  · exact z.elim
end
end MP

set_option Elab.async false
set_option linter.all false
set_option maxRecDepth 100000
set_option maxHeartbeats 4000000
namespace MP
open PySem PySem.Spec L2
open PyProof.Rows hiding St
/-! ### zip of a list and a tuple -/
theorem drawsT {prog : Program} {w : World} {A : Around} (hh : A.handled = none) (it l : Addr) (hne : l ≠ it) (items : Array Value) :
    Draws prog w A it [it, l] items.size (fun i v => items[i]? = some v) (fun i h => h.IsTupleIter it l i ∧ h.IsTuple l items) where
  live := fun _ _ st => let ⟨o, ho, _⟩ := st.1; ⟨o, ho⟩
  frame := fun _ _ _ st hk => ⟨st.1.at fun o e => hk it (by simp) o e, Heap.IsTuple.at st.2 fun o e => hk l (by simp) o e⟩
  item := fun i s Q E hi st hQ => by
    refine RZ.nextOf_tuple_item st.1 st.2 (x := items[i]) (by simp [hi]) fun h' hit' hs' => ?_
    exact hQ _ h' s.toks (by simp [hi]) ⟨hit', st.2.extBut hs'.extBut hne⟩ hs'
  done := fun s Q E st hE => RZ.nextOf_tuple_end hh st.1 st.2 (by simp) hE
theorem sepM {z TI TO i1 i2 a b : Addr} (D : ZipApart z TI TO i1 i2 a b) : ZipSep2 z TI TO i1 i2 [i1, a] [i2, b] where
  TIz := D.TIz
  TOz := D.TOz
  TITO := D.TITO
  TIi1 := D.TIi1
  mem1 := by simp
  zf1 := by simp [D.i1z.symm, D.l1z.symm]
  Tf1 := by simp [D.TOi1, D.l1TO.symm]
  TIi2 := D.TIi2
  mem2 := by simp
  zf2 := by simp [D.i2z.symm, D.l2z.symm]
  Tf2 := by simp [D.TOi2, D.l2TO.symm]
  sep1_2 := by simp [D.i12, D.l2i1.symm]
  sep2_1 := by simp [D.i12.symm, D.l1i2.symm]
def ItzM (K : PySem.W.Frag) (a b : Addr) : It :=
  ⟨fun i H => ∃ (xs ys : List V) (x y : V), SqL K H a xs ∧ SqT K H b ys ∧ xs[i]? = some x ∧ ys[i]? = some y,
    fun i H v H' => ∃ T x y, v = .ref T ∧ H T = none ∧ H' = upd H T (.tup [x, y]) ∧ (∀ xs, SqL K H a xs → xs[i]? = some x) ∧ ∀ ys, SqT K H b ys → ys[i]? = some y,
    fun i H => ∃ xs ys : List V, SqL K H a xs ∧ SqT K H b ys ∧ i = min xs.length ys.length⟩
theorem turn_zipM {P : Program} {w : World} {K : PySem.W.Frag} {elts : List Expr} {kk : Nat} {tpos : Pos} {a b z TI TO i1 i2 : Addr} (D : ZipApart z TI TO i1 i2 a b) :
    Turn P w K (.Tuple elts kk tpos) (ItzM K a b) [z, TI, TO, i1, i2] z (fun i h => IsZip h z TI TO .none ∧ IsPair h TI (.ref i1) (.ref i2) ∧ (∃ x y, IsPair h TO x y) ∧ h.IsListIter i1 a i ∧ h.IsTupleIter i2 b i) where
  mem := by simp
  obj := fun i h st c hc => by
    obtain ⟨hz, hTI, ⟨x, y, hTO⟩, ⟨o1, e1, _, d1⟩, ⟨o2, e2, _, d2⟩⟩ := st
    have e' : c = z ∨ c = TI ∨ c = TO ∨ c = i1 ∨ c = i2 := by simpa using hc
    rcases e' with q | q | q | q | q
    · rw [q]; exact ⟨_, hz, fun v q => nomatch q⟩
    · rw [q]; exact ⟨_, hTI, fun v q => nomatch q⟩
    · rw [q]; exact ⟨_, hTO, fun v q => nomatch q⟩
    · rw [q]; exact ⟨o1, e1, fun v q => by rw [d1] at q; cases q⟩
    · rw [q]; exact ⟨o2, e2, fun v q => by rw [d2] at q; cases q⟩
  keep := fun i h h' st k => by
    obtain ⟨hz, hTI, ⟨x, y, hTO⟩, h1, h2⟩ := st
    exact ⟨k z (by simp) _ hz, k TI (by simp) _ hTI, ⟨x, y, k TO (by simp) _ hTO⟩, h1.at fun o q => k i1 (by simp) o q, h2.at fun o q => k i2 (by simp) o q⟩
  item := by
    intro X hP hw hK hc i pins s σ H E I hf st hg
    subst hP hw hK
    obtain ⟨hz, hTI, ⟨x0, y0, hTO⟩, h1, h2⟩ := st
    obtain ⟨xs, ys, x, y, hqx, hqy, hx, hy⟩ := hg
    obtain ⟨its, rv, p, _⟩ := I.list hqx
    obtain ⟨its2, rv2, p2, _⟩ := I.tuple hqy
    obtain ⟨u, hu, ru⟩ := rv.get hx
    obtain ⟨u2, hu2, ru2⟩ := rv2.get hy
    have hzl : z < s.heap.objs.size := Heap.lt_size hz
    have n1 : i < its.toArray.size := by rw [List.size_toArray]; exact (List.getElem?_eq_some_iff.mp hu).1
    have n2 : i < its2.toArray.size := by rw [List.size_toArray]; exact (List.getElem?_eq_some_iff.mp hu2).1
    refine wpAny_pyNext_zipD2_item (sepM D) (Draws.list (A := X.A.in1) (I.ok.hd hc) i1 a D.l1i1 its.toArray) (drawsT (A := X.A.in1) (I.ok.hd hc) i2 b D.l2i2 its2.toArray) hz hTI hTO ⟨h1, p.isList⟩ ⟨h2, p2⟩ n1 n2 fun v1 v2 h' tk f1 f2 z' TO' h1' h2' hT hsz hk => ?_
    have ev1 : v1 = u := by
      have f1' : its[i]? = some v1 := by simpa using f1
      rw [hu] at f1'; cases f1'; rfl
    have ev2 : v2 = u2 := by
      have f2' : its2[i]? = some v2 := by simpa using f2
      rw [hu2] at f2'; cases f2'; rfl
    subst ev1 ev2
    refine ⟨_, rfl, wpAny_letOwnedTupleGo_zip (s := { s with heap := h', toks := tk }) z' fun h'' z'' sb => ?_⟩
    have hT2 : h''.get? s.heap.objs.size = some { cls := .type "tuple", data := .seq #[v1, v2] } := (sb.2 _ (Nat.ne_of_gt hzl)).trans hT
    have new : ObjOk X.prog X.w (upd H s.heap.objs.size (.tup [x, y])) h'' s.heap.objs.size (.tup [x, y]) :=
      ⟨by show 2 ≤ sizeLine; decide, [v1, v2], .cons ru (.cons ru2 .nil), ⟨_, hT2, rfl, _, rfl⟩⟩
    have I1 : Inv X pins σ (upd H s.heap.objs.size (.tup [x, y])) { s with heap := h'', toks := tk } :=
      I.turnedNew (t' := tk) (ch := [z, TI, TO, i1, i2]) (fun c o hb q => (sb.2 c (fun q' => hb (by simp [q']))).trans (hk c o (fun q' => hb (by simp [q'])) (fun q' => hb (by simp [q'])) (fun q' => hb (by simp [q'])) (fun q' => hb (by simp [q'])) q)) hf (Nat.le_refl _) new
    refine ⟨.ref s.heap.objs.size, _, I1, rfl, ⟨_, x, y, rfl, I.hok.fresh (Nat.le_refl _), rfl, fun l hl => by rw [I.list_inj hl hqx]; exact hx, fun l hl => by rw [I.tuple_inj hl hqy]; exact hy⟩, ⟨z'', ?_, ⟨v1, v2, ?_⟩, ?_, ?_⟩, fun c hcm => ?_⟩
    · exact (sb.2 _ D.TIz).trans (hk _ _ D.TIz D.TITO D.TIi1 D.TIi2 hTI)
    · exact (sb.2 _ D.TOz).trans TO'
    · exact h1'.1.at fun o q => (sb.2 _ D.i1z).trans q
    · exact h2'.1.at fun o q => (sb.2 _ D.i2z).trans q
    · have hlt : c < s.heap.objs.size := by
        have e' : c = z ∨ c = TI ∨ c = TO ∨ c = i1 ∨ c = i2 := by simpa using hcm
        rcases e' with q | q | q | q | q
        · rw [q]; exact hzl
        · rw [q]; exact Heap.lt_size hTI
        · rw [q]; exact Heap.lt_size hTO
        · rw [q]; obtain ⟨_, e1, _⟩ := h1; exact Heap.lt_size e1
        · rw [q]; obtain ⟨_, e2, _⟩ := h2; exact Heap.lt_size e2
      rw [upd_ne (Nat.ne_of_lt hlt)]
      exact (hf c hcm).1
  done := by
    intro X hP hw hK hc i pins s σ H E I hf st hg
    subst hP hw hK
    obtain ⟨hz, hTI, ⟨x0, y0, hTO⟩, h1, h2⟩ := st
    obtain ⟨xs, ys, hqx, hqy, hend⟩ := hg
    obtain ⟨its, rv, p, _⟩ := I.list hqx
    obtain ⟨its2, rv2, p2, _⟩ := I.tuple hqy
    have l1 := rv.length
    have l2 := rv2.length
    have s1 : its.toArray.size = xs.length := by rw [List.size_toArray, l1]
    have s2 : its2.toArray.size = ys.length := by rw [List.size_toArray, l2]
    exact wpAny_pyNext_zipD2_end (sepM D) (Draws.list (A := X.A.in1) (I.ok.hd hc) i1 a D.l1i1 its.toArray) (drawsT (A := X.A.in1) (I.ok.hd hc) i2 b D.l2i2 its2.toArray) hz hTI hTO ⟨h1, p.isList⟩ ⟨h2, p2⟩ (by omega) (by omega) (by omega) fun h' tk hk => ⟨rfl, I.turnedL (t' := tk) (ch := [z, TI, TO, i1, i2]) (fun c o hb q =>
      hk c o (fun q' => hb (by simp [q'])) (fun q' => hb (by simp [q'])) (fun q' => hb (by simp [q'])) (fun q' => hb (by simp [q'])) q) hf⟩
  self := fun A i s Q E st h => wpAny_pyIter_zip st.1 h
abbrev zM1 (h : Heap) (l1 : Addr) : Heap := h.push { cls := .type "list_iterator", data := .fields #[.ref l1, .int 0 0] }
abbrev zM2 (h : Heap) (l1 l2 : Addr) : Heap := (zM1 h l1).push { cls := .type "tuple_iterator", data := .fields #[.ref l2, .int 0 0] }
abbrev zM3 (h : Heap) (l1 l2 : Addr) : Heap := (zM2 h l1 l2).push { cls := .type "tuple", data := .seq #[.ref h.objs.size, .ref (zM1 h l1).objs.size] }
abbrev zM4 (h : Heap) (l1 l2 : Addr) : Heap := (zM3 h l1 l2).push { cls := .type "tuple", data := .seq #[.none, .none] }
abbrev zM5 (h : Heap) (l1 l2 : Addr) : Heap := (zM4 h l1 l2).push { cls := .type "zip", data := .fields #[.none, .bool false, .bool false, .ref (zM2 h l1 l2).objs.size, .ref (zM3 h l1 l2).objs.size] }
theorem meetsM (l1 l2 : Addr) (xs ys : Array Value) :
    Meets (Builtin.«zip.__new__» ⟨[.type "zip", .ref l1, .ref l2], []⟩) (fun _ R s => s.heap.IsList l1 xs ∧ s.heap.IsTuple l2 ys ∧
      R (.ok (.ret (.ref (zM4 s.heap l1 l2).objs.size))) { s with heap := zM5 s.heap l1 l2 }) :=
  .of_wp fun prog w A R s h => by
    obtain ⟨hp, g, d, tk, os⟩ := s; obtain ⟨hl1, hl2, h⟩ := h
    have hsub := PySem.sub_zip
    have hL1 : Heap.IsList (Shared.heap ⟨hp, g, d, tk, os⟩) l1 xs := hl1
    have hL2 : Heap.IsTuple (Shared.heap ⟨hp.push { cls := .type "list_iterator", data := .fields #[.ref l1, .int 0 0] }, g, d, tk, os⟩) l2 ys := Heap.IsTuple.push hl2 _
    wp_walk using wpAny_pyIter_list hL1, wpAny_pyIter_tuple hL2
    exact ⟨_, rfl, h⟩
theorem call_zipM {prog : Program} {w : World} {A : Around} {E : Value → Shared → Prop} {s : Shared} {l1 l2 : Addr} {xs ys : Array Value} {Q : Value → Shared → Prop} (hl1 : s.heap.IsList l1 xs) (hl2 : s.heap.IsTuple l2 ys)
    (h : ∀ h', IsZip h' (s.heap.objs.size + 4) (s.heap.objs.size + 2) (s.heap.objs.size + 3) .none → IsPair h' (s.heap.objs.size + 2) (.ref s.heap.objs.size) (.ref (s.heap.objs.size + 1)) →
      IsPair h' (s.heap.objs.size + 3) .none .none → h'.IsListIter s.heap.objs.size l1 0 → h'.IsTupleIter (s.heap.objs.size + 1) l2 0 →
      (∀ c o, s.heap.get? c = some o → h'.get? c = some o) → Q (.ref (s.heap.objs.size + 4)) { s with heap := h' }) :
    wpAny (model prog w) A (call (.type "zip") [.ref l1, .ref l2]) Q E s := by
  have q1 : (zM1 s.heap l1).objs.size = s.heap.objs.size + 1 := Heap.size_push ..
  have q2 : (zM2 s.heap l1 l2).objs.size = s.heap.objs.size + 2 := by rw [Heap.size_push, q1]
  have q3 : (zM3 s.heap l1 l2).objs.size = s.heap.objs.size + 3 := by rw [Heap.size_push, q2]
  have q4 : (zM4 s.heap l1 l2).objs.size = s.heap.objs.size + 4 := by rw [Heap.size_push, q3]
  refine callType_new F.called_zip (by decide) (F.typeCall_zip_2 _ _) (F.newCall_zip_2 _ _) (fun obj => F.args_object_init_3 obj _ _) F.entry_zip_new (meetsM l1 l2 xs ys) ⟨hl1, hl2, ?_⟩
  have up1 : ∀ {h : Heap} {a : Addr} {o x : Obj}, h.get? a = some o → (h.push x).get? a = some o := fun e => Heap.get?_push_of_some _ e
  have g5 : (zM5 s.heap l1 l2).get? (zM4 s.heap l1 l2).objs.size = some _ := Heap.get?_push_size _ rfl
  have g4 : (zM5 s.heap l1 l2).get? (zM3 s.heap l1 l2).objs.size = some _ := up1 (Heap.get?_push_size _ rfl)
  have g3 : (zM5 s.heap l1 l2).get? (zM2 s.heap l1 l2).objs.size = some _ := up1 (up1 (Heap.get?_push_size _ rfl))
  have g2 : (zM5 s.heap l1 l2).get? (zM1 s.heap l1).objs.size = some _ := up1 (up1 (up1 (Heap.get?_push_size _ rfl)))
  have g1 : (zM5 s.heap l1 l2).get? s.heap.objs.size = some _ := up1 (up1 (up1 (up1 (Heap.get?_push_size _ rfl))))
  show _ ∧ _
  rw [q2, q3, q4] at g5
  rw [q1, q2] at g3
  rw [q3] at g4
  rw [q1] at g2
  rw [q4]
  exact ⟨⟨_, g5, rfl⟩, h _ g5 g3 g4 ⟨_, g1, rfl, rfl⟩ ⟨_, g2, rfl, rfl⟩ fun c o x => up1 (up1 (up1 (up1 (up1 x))))⟩
def iZipM (K : PySem.W.Frag) (ta : TA) : TI := fun σ H R => ta σ H fun vs H1 => ∃ a b xs ys, vs = [.ref a, .ref b] ∧ SqL K H1 a xs ∧ SqT K H1 b ys ∧ R (ItzM K a b) H1
theorem pi_zipM {X : Cx} {e e2 : Expr} {ta : TA} {p pos tpos : Pos} {elts : List Expr} {kk : Nat} (hg : Gl X "zip") (hm : X.mg "zip" = none) (ha : PA X [e, e2] ta)
    (hs : starEach [e, e2] X.env = (false, eval e X.env) :: starEach [e2] X.env) (hpl : (backTo pos (starEach [e2] X.env)).any (·.1) = false) :
    PI X (.Tuple elts kk tpos) (.Call (.Name "zip" p) [e, e2] [] pos) (iZipM X.K ta) := by
  refine ⟨fun pins s σ H R I h => ?_⟩
  refine Call_ (ld_blt I hg hm PyProof.Rows.boot_zip (PyProof.Rows.callWith_type1 (thn (ha.run pos pins s σ H _ I h) fun us s1 ⟨vs, H1, I1, r1, q1⟩ => ?_) hs hpl))
  obtain ⟨a, b, xs, ys, rfl, hqx, hqy, q⟩ := q1
  cases r1 with
  | cons r rr =>
    cases rr with
    | cons r' rr =>
      cases rr
      cases r
      cases r'
      obtain ⟨its, rv, p1, _⟩ := I1.list hqx
      obtain ⟨its2, rv2, p2, _⟩ := I1.tuple hqy
      have lb : b < s1.heap.objs.size := by
        obtain ⟨o2, ho2, _⟩ := id p2
        exact Heap.lt_size ho2
      refine call_zipM p1.isList (show s1.heap.IsTuple b its2.toArray from p2) fun h' hz hTI hTO h1 h2 hk => wpAny_pyIter_zip hz ?_
      have I2 : Inv X pins σ H1 { s1 with heap := h' } := I1.kept (t' := s1.toks) hk
      refine ⟨s1.heap.objs.size + 4, [s1.heap.objs.size + 4, s1.heap.objs.size + 2, s1.heap.objs.size + 3, s1.heap.objs.size, s1.heap.objs.size + 1], _, _, H1, rfl, I2, turn_zipM (PySem.W.ktu_apart s1.heap.objs.size a b p1.lt lb), ⟨hz, hTI, ⟨_, _, hTO⟩, h1, h2⟩, fun c hcm => ?_, q⟩
      have e' : c = s1.heap.objs.size + 4 ∨ c = s1.heap.objs.size + 2 ∨ c = s1.heap.objs.size + 3 ∨ c = s1.heap.objs.size ∨ c = s1.heap.objs.size + 1 := by simpa using hcm
      have hle : s1.heap.objs.size ≤ c := by
        rcases e' with z | z | z | z | z
        · rw [z]; exact Nat.le_add_right _ _
        · rw [z]; exact Nat.le_add_right _ _
        · rw [z]; exact Nat.le_add_right _ _
        · rw [z]; exact Nat.le_refl _
        · rw [z]; exact Nat.le_add_right _ _
      exact I1.fpOk hle (I1.hok.fresh hle)
def mZipM (ma : MA) : MA := fun e => match ma e with
  | .ok [.lst xs, .tup ys] e1 => .ok (pairs xs ys) e1
  | .ok _ _ => .bad
  | .ex c e1 => .ex c e1
  | .bad => .bad
theorem walk_zipM {K : PySem.W.Frag} {a b : Addr} {xs ys : List V} {n : Nat} (hn : n = min xs.length ys.length) : Walk (ItzM K a b) n (fun H => SqL K H a xs ∧ SqT K H b ys) (YPair (fun i => xs[i]?) (fun i => ys[i]?)) := by
  subst hn
  refine ⟨fun i H hi q => ?_, fun H q => ?_, fun i H x H' hi q y => ?_⟩
  · have h1 : i < xs.length := by omega
    have h2 : i < ys.length := by omega
    exact ⟨xs, ys, xs[i], ys[i], q.1, q.2, by simp [h1], by simp [h2]⟩
  · exact ⟨xs, ys, q.1, q.2, rfl⟩
  · obtain ⟨T, x1, x2, e1, e2, e3, f1, f2⟩ := y
    exact ⟨T, x1, x2, e1, e2, e3, f1 xs q.1, f2 ys q.2⟩
section
variable {P : Program} {w : World} {K : PySem.W.Frag} {mg : Str → Option Value} {base : Heap} {N : List Str} {sc : Scope} {k : Nat} {X : Cx} {C : CT} {W : WX}
theorem j_zipM {a b : Expr} {ma : MA} {p pos tpos : Pos} {elts : List Expr} {kk : Nat} (hg : Gl X "zip") (hm : X.mg "zip" = none) (ha : JV X C W [a, b] ma) (hs : starEach [a, b] X.env = (false, eval a X.env) :: starEach [b] X.env) (hpl : (backTo pos (starEach [b] X.env)).any (·.1) = false) :
    JI X C W (.Tuple elts kk tpos) (.Call (.Name "zip" p) [a, b] [] pos) (mZipM ma) := by
  obtain ⟨t, pa, q⟩ := ha.run
  refine ⟨_, pi_zipM hg hm pa hs hpl, fun F env σ H R k s z => q F env σ H _ k s ?_⟩
  unfold mZipM at z
  cases e1 : ma env with
  | ok xs env1 =>
    rw [e1] at z
    split at z
    · rename_i xs ys e e2
      cases e2
      refine fun vs H1 s1 x1 r => ?_
      simp only [RelL, RelD] at r
      obtain ⟨v, r0, rfl, ⟨a1, ws, rfl, q1, n1, r1⟩, u, r3, rfl, ⟨a2, us, rfl, q2, r2⟩, rfl⟩ := r
      rw [← k.1]
      refine ⟨a1, a2, ws, us, rfl, .inl (.inl q1), relD_tupC (xs := ys) q2 .refl, ?_⟩
      refine z _ H1 s1 x1 (it_pair rfl (walk_zipM rfl) (fun O2 H2 x => ⟨.inl (.inl (x.1 _ _ q1 n1 nt_lst)), relD_tupC (xs := ys) q2 x⟩) r1 r2)
    · exact z.elim
    · rename_i h
      cases h
    · exact z.elim
  | ex c env1 => rw [e1] at z; exact z
  | bad => rw [e1] at z; exact z
theorem x_zipM {elts : List Expr} {kk : Nat} {tpos : Pos} {a b : Expr} {ma : MA} {p pos : Pos} (c : Cw P w K mg base N sc k X W) (B : Bts mg) (g : Ng sc "zip") (ha : JV X C W [a, b] ma) (hs : starEach [a, b] X.env = (false, eval a X.env) :: starEach [b] X.env) (hpl : (backTo pos (starEach [b] X.env)).any (·.1) = false) :
    JI X C W (.Tuple elts kk tpos) (.Call (.Name "zip" p) [a, b] [] pos) (mZipM ma) := j_zipM (c.c.gl g) (c.mn B.zip) ha hs hpl
end
@[simp] theorem mZipM_ap (ma : MA) (e : Ev) : mZipM ma e = (match ma e with
  | .ok [.lst xs, .tup ys] e1 => .ok (pairs xs ys) e1
  | .ok _ _ => .bad
  | .ex c e1 => .ex c e1
  | .bad => .bad) := rfl
end MP

set_option Elab.async false
set_option linter.all false
set_option maxRecDepth 100000
set_option maxHeartbeats 0
namespace GJ
open PySem PySem.Spec L2 MP
open PyProof.Rows hiding St
def top (i : Nat) : Stmt := PySem.Challenge.pw_growjoins_k11_texts_of_questions_and_pla.main.body.getD i (.Pass ⟨0, 0, 0, 0⟩)
section
variable {P : Program} {w : World} {K : PySem.W.Frag} {mg : Str → Option Value} {base : Heap} {C : CT} {f : Addr} {fd : FuncData}
def fuel : Nat := 1000000
def ex_InvalidText : Nat → Option Bool := fun c => match Nat.ble 1000 c && Nat.beq (c % 1000) 3 with
  | true => some true
  | false => none
abbrev N__law_source : List Str := ["_law_script", "_law_k", "_law_cell"]
def m__law_source : MS :=
  (mSeq (mNoRt (mSet 2 (mC (.int 0))))
  (mSeq (mIfS (mB fLt (mPk 1) (lPk 1) (mCall bLen (maCons (mPk 0) maNil) (laCons (lPk 0) laNil)) lId) (mNoRt (mSet 2 (mCall bAbs (maCons (mCall bInt (maCons (mB fIx (mPk 0) (lPk 0) (mPk 1) (lPk 1)) maNil) (laCons lId laNil)) maNil) (laCons lId laNil)))) mSkip)
  (mSeq (mIfS (mB fLt (mPk 2) (lPk 2) (mB fPow (mC (.int 10)) lId (mC (.int 18)) lId) lId) (mRet (mLst (maCons (mC (.int 0)) (maCons (mB fAdd (mC (.int 1)) lId (mB fMod (mCall bInt (maCons (mB fAdd (mB fMul (mPk 2) (lPk 2) (mC (.int 7919)) lId) lId (mB fMul (mC (.int 104729)) lId (mPk 1) (lPk 1)) lId) maNil) (laCons lId laNil)) lId (mC (.int 2147483646)) lId) lId) maNil)))) mSkip)
  (mRet (mLst (maCons (mVar 2) (maCons (mB fAdd (mC (.int 1)) lId (mB fMod (mCall bInt (maCons (mB fAdd (mPk 2) (lPk 2) (mPk 1) (lPk 1)) maNil) (laCons lId laNil)) lId (mC (.int 2147483646)) lId) lId) maNil)))))))
def run__law_source : UF := runN 2 3 m__law_source
theorem S__law_source : FnScope N__law_source ["_law_script", "_law_k"] (defScope (top 38)) := ⟨rfl, rfl, rfl, by decide +kernel, rfl, by decide +kernel, by decide +kernel⟩
theorem b__law_source (B : Bts mg) : ∀ (X : Cx) (W : WX), Cs P w K mg base N__law_source (defScope (top 38)) 0 X W → JBF X C W (defBody (top 38)) m__law_source := fun _ _ c =>
  (jbf_cons (JS.f (st_set c (Nb.by (by decide +kernel)) j_int rfl rfl))
  (jbf_cons (jsf_if (t_lt (p_ c.e (Nm.by (by decide +kernel))) (JE.o (x_len c.e B (j_acons (p_ c.e (Nm.by (by decide +kernel))) j_anil rfl) rfl rfl (Ng.by (by decide +kernel)))) c.e rfl) (jbf_one (JS.f (st_set c (Nb.by (by decide +kernel)) (x_abs c.e B (j_acons (JE.o (x_int c.e B (j_acons (JE.o (x_ix (p_ c.e (Nm.by (by decide +kernel))) (p_ c.e (Nm.by (by decide +kernel))) (fun _ _ => rfl))) j_anil rfl) rfl rfl (Ng.by (by decide +kernel)))) j_anil rfl) rfl rfl (Ng.by (by decide +kernel))) rfl rfl))) jbf_nil)
  (jbf_cons (jsf_if (t_lt (p_ c.e (Nm.by (by decide +kernel))) (JE.o (x_pow (JE.o j_int) (JE.o j_int))) c.e rfl) (jbf_one (jsf_ret (jf_lst (j_vcons j_int (j_vcons (x_add (JE.o j_int) (JE.o (x_mod (JE.o (x_int c.e B (j_acons (JE.o (x_add (JE.o (x_mul (p_ c.e (Nm.by (by decide +kernel))) (JE.o j_int))) (JE.o (x_mul (JE.o j_int) (p_ c.e (Nm.by (by decide +kernel))))))) j_anil rfl) rfl rfl (Ng.by (by decide +kernel)))) (JE.o j_int)))) j_vnil rfl) rfl)))) jbf_nil)
  (jbf_one (jsf_ret (jf_lst (j_vcons (v_ c.e (Nm.by (by decide +kernel))) (j_vcons (x_add (JE.o j_int) (JE.o (x_mod (JE.o (x_int c.e B (j_acons (JE.o (x_add (p_ c.e (Nm.by (by decide +kernel))) (p_ c.e (Nm.by (by decide +kernel))))) j_anil rfl) rfl rfl (Ng.by (by decide +kernel)))) (JE.o j_int)))) j_vnil rfl) rfl)))))))
theorem D__law_source (B : Bts mg) (F : FunD K "_law_source" "_law_source" (defArgs (top 38)) (defBody (top 38)) (defScope (top 38)) [] [] f fd) (hm : mg "_law_source" = some (.ref f)) : DfN P w K mg base C "_law_source" 2 1 run__law_source := def_okN F S__law_source hm F.kp (F.bindsN fun _ _ _ _ _ _ us hl => match us, hl with | [_, _], _ => rfl) (b__law_source B)
abbrev N__law_draw : List Str := ["_law_source_here", "_law_many", "_law_found"]
def m__law_draw : MS :=
  (mSeq (mIfS (mB fGt (mB fIx (mPk 0) (lPk 0) (mC (.int 0)) lId) lId (mC (.int 0)) lId) (mSeq (mSet 2 (mB fMod (mCall bInt (maCons (mB fIx (mPk 0) (lPk 0) (mC (.int 0)) lId) maNil) (laCons lId laNil)) lId (mPk 1) (lPk 1)))
  (mSeq (mSub 0 (mC (.int 0)) (mB fDiv (mB fIx (mPk 0) (lPk 0) (mC (.int 0)) lId) lId (mPk 1) (lPk 1)))
  (mRet (mVar 2)))) mSkip)
  (mSeq (mSub 0 (mC (.int 1)) (mB fMod (mCall bInt (maCons (mB fMul (mB fIx (mPk 0) (lPk 0) (mC (.int 1)) lId) lId (mC (.int 48271)) lId) maNil) (laCons lId laNil)) lId (mC (.int 2147483647)) lId))
  (mRet (mB fMod (mCall bInt (maCons (mB fDiv (mB fMod (mCall bInt (maCons (mB fMul (mB fIx (mPk 0) (lPk 0) (mC (.int 1)) lId) lId (mB fIx (mPk 0) (lPk 0) (mC (.int 1)) lId) lId) maNil) (laCons lId laNil)) lId (mC (.int 2147483629)) lId) lId (mC (.int 64)) lId) maNil) (laCons lId laNil)) lId (mPk 1) (lPk 1)))))
def run__law_draw : UF := runF 2 3 m__law_draw
theorem S__law_draw : FnScope N__law_draw ["_law_source_here", "_law_many"] (defScope (top 39)) := ⟨rfl, rfl, rfl, by decide +kernel, rfl, by decide +kernel, by decide +kernel⟩
theorem b__law_draw (B : Bts mg) : ∀ (X : Cx) (W : WX), Cs P w K mg base N__law_draw (defScope (top 39)) 0 X W → JB X C W (defBody (top 39)) m__law_draw := fun _ _ c =>
  (jb_cons (js_if (t_gt (JE.o (x_ix (p_ c.e (Nm.by (by decide +kernel))) (JE.o j_int) (fun _ _ => rfl))) (JE.o j_int) rfl) (jb_cons (st_set c (Nb.by (by decide +kernel)) (x_mod (JE.o (x_int c.e B (j_acons (JE.o (x_ix (p_ c.e (Nm.by (by decide +kernel))) (JE.o j_int) (fun _ _ => rfl))) j_anil rfl) rfl rfl (Ng.by (by decide +kernel)))) (p_ c.e (Nm.by (by decide +kernel)))) rfl rfl)
  (jb_cons (st_sub c (Nm.by (by decide +kernel)) j_int (x_div (JE.o (x_ix (p_ c.e (Nm.by (by decide +kernel))) (JE.o j_int) (fun _ _ => rfl))) (p_ c.e (Nm.by (by decide +kernel)))) (fun _ => rfl) rfl)
  (jb_one (js_ret (v_ c.e (Nm.by (by decide +kernel))))))) jb_nil)
  (jb_cons (st_sub c (Nm.by (by decide +kernel)) j_int (x_mod (JE.o (x_int c.e B (j_acons (JE.o (x_mul (JE.o (x_ix (p_ c.e (Nm.by (by decide +kernel))) (JE.o j_int) (fun _ _ => rfl))) (JE.o j_int))) j_anil rfl) rfl rfl (Ng.by (by decide +kernel)))) (JE.o j_int)) (fun _ => rfl) rfl)
  (jb_one (js_ret (x_mod (JE.o (x_int c.e B (j_acons (JE.o (x_div (JE.o (x_mod (JE.o (x_int c.e B (j_acons (JE.o (x_mul (JE.o (x_ix (p_ c.e (Nm.by (by decide +kernel))) (JE.o j_int) (fun _ _ => rfl))) (JE.o (x_ix (p_ c.e (Nm.by (by decide +kernel))) (JE.o j_int) (fun _ _ => rfl))))) j_anil rfl) rfl rfl (Ng.by (by decide +kernel)))) (JE.o j_int))) (JE.o j_int))) j_anil rfl) rfl rfl (Ng.by (by decide +kernel)))) (p_ c.e (Nm.by (by decide +kernel))))))))
theorem D__law_draw (B : Bts mg) (F : FunD K "_law_draw" "_law_draw" (defArgs (top 39)) (defBody (top 39)) (defScope (top 39)) [] [] f fd) (hm : mg "_law_draw" = some (.ref f)) : Df P w K mg base C "_law_draw" 2 1 run__law_draw := def_ok F S__law_draw hm F.kp (F.bindsN fun _ _ _ _ _ _ us hl => match us, hl with | [_, _], _ => rfl) (b__law_draw B)
abbrev N__law_of : List Str := ["_law_source_here", "_law_items"]
def m__law_of : MS :=
  (mRet (mB fIx (mPk 1) (lPk 1) (mUserB run__law_draw 0 (maCons (mCall bLen (maCons (mPk 1) maNil) (laCons (lPk 1) laNil)) maNil)) lId))
def run__law_of : UF := runF 2 2 m__law_of
theorem S__law_of : FnScope N__law_of ["_law_source_here", "_law_items"] (defScope (top 40)) := ⟨rfl, rfl, rfl, by decide +kernel, rfl, by decide +kernel, by decide +kernel⟩
theorem b__law_of (B : Bts mg) (d__law_draw : Df P w K mg base C "_law_draw" 2 1 run__law_draw) : ∀ (X : Cx) (W : WX), Cs P w K mg base N__law_of (defScope (top 40)) 1 X W → JB X C W (defBody (top 40)) m__law_of := fun _ _ c =>
  (jb_one (js_ret (x_ix (p_ c.e (Nm.by (by decide +kernel))) (JE.o (x_lent c.e d__law_draw (by decide) (Ng.by (by decide +kernel)) (Nm.by (by decide +kernel)) (j_vcons (x_len c.e B (j_acons (p_ c.e (Nm.by (by decide +kernel))) j_anil rfl) rfl rfl (Ng.by (by decide +kernel))) j_vnil rfl) (lenS len0) rfl rfl)) (fun _ _ => rfl))))
theorem D__law_of (B : Bts mg) (d__law_draw : Df P w K mg base C "_law_draw" 2 1 run__law_draw) (F : FunD K "_law_of" "_law_of" (defArgs (top 40)) (defBody (top 40)) (defScope (top 40)) [] [] f fd) (hm : mg "_law_of" = some (.ref f)) : Df P w K mg base C "_law_of" 2 2 run__law_of := def_ok F S__law_of hm F.kp (F.bindsN fun _ _ _ _ _ _ us hl => match us, hl with | [_, _], _ => rfl) (b__law_of B d__law_draw)
abbrev N__law_question : List Str := ["_law_source_here", "_law_most", "_law_many", "_law_tables_here", "_law_links", "_law_indexes", "_law_number", "_law_small", "_law_other", "_law_below"]
def m__law_question : MS :=
  (mSeq (mSet 2 (mB fAdd (mC (.int 2)) lId (mUserB run__law_draw 0 (maCons (mB fSub (mPk 1) (lPk 1) (mC (.int 1)) lId) maNil)) lId))
  (mSeq (mAsg (mgTup 3 (mgsCons (mgName 3) (mgsCons (mgName 4) (mgsCons (mgName 5) mgsNil)))) (mTup (maCons (mTup maNil) (maCons (mTup maNil) (maCons (mTup maNil) maNil)))))
  (mSeq (mFor (mRange1 (maCons (mVar 2) maNil)) (mgName 6) (mSeq (mSet 7 (mUserB run__law_of 0 (maCons (mLst (maCons (mC (.int 1)) (maCons (mC (.int 2)) (maCons (mC (.int 5)) (maCons (mB fAdd (mC (.int 1)) lId (mUserB run__law_draw 0 (maCons (mC (.int 99)) maNil)) lId) maNil))))) maNil)))
  (mSeq (mSet 3 (mB fAdd (mPk 3) (lPk 3) (mTup (maCons (mTup (maCons (mVar 7) (maCons (mUserB run__law_of 0 (maCons (mLst (maCons (mC (.int 0)) (maCons (mC (.int 1)) (maCons (mC (.int 1)) (maCons (mC (.int 2)) maNil))))) maNil)) maNil))) maNil)) lId))
  (mSeq (mFor (mRange1 (maCons (mVar 6) maNil)) (mgName 8) (mIfS (mB fGt (mUserB run__law_draw 0 (maCons (mC (.int 3)) maNil)) lId (mC (.int 0)) lId) (mSeq (mSet 9 (mUserB run__law_of 0 (maCons (mLst (maCons (mC (.int 1)) (maCons (mC (.int 2)) (maCons (mB fAdd (mC (.int 1)) lId (mUserB run__law_draw 0 (maCons (mC (.int 99)) maNil)) lId) maNil)))) maNil)))
  (mSet 4 (mB fAdd (mPk 4) (lPk 4) (mTup (maCons (mTup (maCons (mVar 8) (maCons (mVar 6) (maCons (mVar 9) (maCons (mUserB run__law_draw 0 (maCons (mC (.int 3)) maNil)) maNil))))) maNil)) lId))) mSkip))
  (mIfS (mB fEq (mUserB run__law_draw 0 (maCons (mC (.int 2)) maNil)) lId (mC (.int 0)) lId) (mSet 5 (mB fAdd (mPk 5) (lPk 5) (mTup (maCons (mVar 6) maNil)) lId)) mSkip)))))
  (mRet (mTup (maCons (mVar 3) (maCons (mCall bTuple (maCons (mCall bSortedX (maCons (mPk 4) maNil) (laCons (lPk 4) laNil)) maNil) (laCons lId laNil)) (maCons (mVar 5) maNil))))))))
def run__law_question : UF := runF 2 10 m__law_question
theorem S__law_question : FnScope N__law_question ["_law_source_here", "_law_most"] (defScope (top 42)) := ⟨rfl, rfl, rfl, by decide +kernel, rfl, by decide +kernel, by decide +kernel⟩
theorem b__law_question (B : Bts mg) (d__law_draw : Df P w K mg base C "_law_draw" 2 1 run__law_draw) (d__law_of : Df P w K mg base C "_law_of" 2 2 run__law_of) : ∀ (X : Cx) (W : WX), Cs P w K mg base N__law_question (defScope (top 42)) 2 X W → JB X C W (defBody (top 42)) m__law_question := fun _ _ c =>
  (jb_cons (st_set c (Nb.by (by decide +kernel)) (x_add (JE.o j_int) (JE.o (x_lent c.e d__law_draw (by decide) (Ng.by (by decide +kernel)) (Nm.by (by decide +kernel)) (j_vcons (x_sub (p_ c.e (Nm.by (by decide +kernel))) (JE.o j_int)) j_vnil rfl) (lenS len0) rfl rfl))) rfl rfl)
  (jb_cons (js_asg (jg_tup c.e.c.calm (jgs_cons (tgC c (Nb.by (by decide +kernel))) (jgs_cons (tgC c (Nb.by (by decide +kernel))) (jgs_cons (tgC c (Nb.by (by decide +kernel))) jgs_nil rfl) rfl) rfl) rfl rfl) (j_tup (j_vcons (j_tup j_vnil) (j_vcons (j_tup j_vnil) (j_vcons (j_tup j_vnil) j_vnil rfl) rfl) rfl)) rfl (sw_by c.e.c.sc (fun _ => rfl)) rfl)
  (jb_cons (st_for c (x_range1 c.e B (Ng.by (by decide +kernel)) (j_vcons (v_ c.e (Nm.by (by decide +kernel))) j_vnil rfl) rfl) (tgC c (Nb.by (by decide +kernel))) (jb_cons (st_set c (Nb.by (by decide +kernel)) (x_lent c.e d__law_of (by decide) (Ng.by (by decide +kernel)) (Nm.by (by decide +kernel)) (j_vcons (j_lst (j_vcons j_int (j_vcons j_int (j_vcons j_int (j_vcons (x_add (JE.o j_int) (JE.o (x_lent c.e d__law_draw (by decide) (Ng.by (by decide +kernel)) (Nm.by (by decide +kernel)) (j_vcons j_int j_vnil rfl) (lenS len0) rfl rfl))) j_vnil rfl) rfl) rfl) rfl)) j_vnil rfl) (lenS len0) rfl rfl) rfl rfl)
  (jb_cons (st_set c (Nb.by (by decide +kernel)) (x_add (p_ c.e (Nm.by (by decide +kernel))) (JE.o (j_tup (j_vcons (j_tup (j_vcons (v_ c.e (Nm.by (by decide +kernel))) (j_vcons (x_lent c.e d__law_of (by decide) (Ng.by (by decide +kernel)) (Nm.by (by decide +kernel)) (j_vcons (j_lst (j_vcons j_int (j_vcons j_int (j_vcons j_int (j_vcons j_int j_vnil rfl) rfl) rfl) rfl)) j_vnil rfl) (lenS len0) rfl rfl) j_vnil rfl) rfl)) j_vnil rfl)))) rfl rfl)
  (jb_cons (st_for c (x_range1 c.e B (Ng.by (by decide +kernel)) (j_vcons (v_ c.e (Nm.by (by decide +kernel))) j_vnil rfl) rfl) (tgC c (Nb.by (by decide +kernel))) (jb_one (js_if (t_gt (JE.o (x_lent c.e d__law_draw (by decide) (Ng.by (by decide +kernel)) (Nm.by (by decide +kernel)) (j_vcons j_int j_vnil rfl) (lenS len0) rfl rfl)) (JE.o j_int) rfl) (jb_cons (st_set c (Nb.by (by decide +kernel)) (x_lent c.e d__law_of (by decide) (Ng.by (by decide +kernel)) (Nm.by (by decide +kernel)) (j_vcons (j_lst (j_vcons j_int (j_vcons j_int (j_vcons (x_add (JE.o j_int) (JE.o (x_lent c.e d__law_draw (by decide) (Ng.by (by decide +kernel)) (Nm.by (by decide +kernel)) (j_vcons j_int j_vnil rfl) (lenS len0) rfl rfl))) j_vnil rfl) rfl) rfl)) j_vnil rfl) (lenS len0) rfl rfl) rfl rfl)
  (jb_one (st_set c (Nb.by (by decide +kernel)) (x_add (p_ c.e (Nm.by (by decide +kernel))) (JE.o (j_tup (j_vcons (j_tup (j_vcons (v_ c.e (Nm.by (by decide +kernel))) (j_vcons (v_ c.e (Nm.by (by decide +kernel))) (j_vcons (v_ c.e (Nm.by (by decide +kernel))) (j_vcons (x_lent c.e d__law_draw (by decide) (Ng.by (by decide +kernel)) (Nm.by (by decide +kernel)) (j_vcons j_int j_vnil rfl) (lenS len0) rfl rfl) j_vnil rfl) rfl) rfl) rfl)) j_vnil rfl)))) rfl rfl))) jb_nil)) (fun _ => rfl))
  (jb_one (js_if (t_eq (JE.o (x_lent c.e d__law_draw (by decide) (Ng.by (by decide +kernel)) (Nm.by (by decide +kernel)) (j_vcons j_int j_vnil rfl) (lenS len0) rfl rfl)) (JE.o j_int) c.e rfl) (jb_one (st_set c (Nb.by (by decide +kernel)) (x_add (p_ c.e (Nm.by (by decide +kernel))) (JE.o (j_tup (j_vcons (v_ c.e (Nm.by (by decide +kernel))) j_vnil rfl)))) rfl rfl)) jb_nil))))) (fun _ => rfl))
  (jb_one (js_ret (j_tup (j_vcons (v_ c.e (Nm.by (by decide +kernel))) (j_vcons (x_tuple c.e B (j_acons (JE.o (x_sortedX c.e B (j_acons (p_ c.e (Nm.by (by decide +kernel))) j_anil rfl) rfl rfl (Ng.by (by decide +kernel)))) j_anil rfl) rfl rfl (Ng.by (by decide +kernel))) (j_vcons (v_ c.e (Nm.by (by decide +kernel))) j_vnil rfl) rfl) rfl)))))))
theorem D__law_question (B : Bts mg) (d__law_draw : Df P w K mg base C "_law_draw" 2 1 run__law_draw) (d__law_of : Df P w K mg base C "_law_of" 2 2 run__law_of) (F : FunD K "_law_question" "_law_question" (defArgs (top 42)) (defBody (top 42)) (defScope (top 42)) [] [] f fd) (hm : mg "_law_question" = some (.ref f)) : Df P w K mg base C "_law_question" 2 3 run__law_question := def_ok F S__law_question hm F.kp (F.bindsN fun _ _ _ _ _ _ us hl => match us, hl with | [_, _], _ => rfl) (b__law_question B d__law_draw d__law_of)
abbrev N__law_written : List Str := ["_law_question_here", "_law_lines", "_law_word", "_law_rows", "_law_row_here", "_law_numbers", "_law_number"]
def m__law_written : MS :=
  (mSeq (mOwn 1 (mLst maNil))
  (mSeq (mFor (mZipM (maCons (mLst (maCons (mC (.str [116, 97, 98, 108, 101])) (maCons (mC (.str [108, 105, 110, 107])) (maCons (mC (.str [105, 110, 100, 101, 120])) maNil)))) (maCons (mVar 0) maNil))) (mgTup 2 (mgsCons (mgName 2) (mgsCons (mgName 3) mgsNil))) (mFor (mIt (mVar 3)) (mgName 4) (mSeq (mSet 5 (mIf (mU isInt (mPk 4) (lPk 4)) (mLst (maCons (mVar 4) maNil)) (mCall bList (maCons (mPk 4) maNil) (laCons (lPk 4) laNil))))
  (mApp 1 (mM1 fJoin (mC (.str [32])) (mB fAdd (mLst (maCons (mVar 2) maNil)) lId (mAsV (mLc (mIt (mVar 5)) [6] (mgName 6) mYes (mCall bStrI (maCons (mPk 6) maNil) (laCons (lPk 6) laNil)))) lId) lId)))))
  (mRet (mM1 fJoin (mC (.str [10])) (mPk 1) (lPk 1)))))
def run__law_written : UF := runF 1 7 m__law_written
theorem S__law_written : FnScope N__law_written ["_law_question_here"] (defScope (top 48)) := ⟨rfl, rfl, rfl, by decide +kernel, rfl, by decide +kernel, by decide +kernel⟩
theorem b__law_written (B : Bts mg) : ∀ (X : Cx) (W : WX), Cs P w K mg base N__law_written (defScope (top 48)) 0 X W → JB X C W (defBody (top 48)) m__law_written := fun _ _ c =>
  (jb_cons (st_own c (Nb.by (by decide +kernel)) (jf_lst j_vnil) rfl rfl)
  (jb_cons (st_for c (x_zipM c.e B (Ng.by (by decide +kernel)) (j_vcons (j_lst (j_vcons (j_str rfl) (j_vcons (j_str rfl) (j_vcons (j_str rfl) j_vnil rfl) rfl) rfl)) (j_vcons (v_ c.e (Nm.by (by decide +kernel))) j_vnil rfl) rfl) rfl rfl) (jg_tup c.e.c.calm (jgs_cons (tgC c (Nb.by (by decide +kernel))) (jgs_cons (tgC c (Nb.by (by decide +kernel))) jgs_nil rfl) rfl) rfl rfl) (jb_one (st_for c (j_it (v_ c.e (Nm.by (by decide +kernel)))) (tgC c (Nb.by (by decide +kernel))) (jb_cons (st_set c (Nb.by (by decide +kernel)) (j_if (jt_val (x_isInt c.e B (p_ c.e (Nm.by (by decide +kernel))) (Ng.by (by decide +kernel)) (Ng.by (by decide +kernel)) rfl) (fun _ => rfl)) (j_lst (j_vcons (v_ c.e (Nm.by (by decide +kernel))) j_vnil rfl)) (x_list c.e B (j_acons (p_ c.e (Nm.by (by decide +kernel))) j_anil rfl) rfl rfl (Ng.by (by decide +kernel)))) rfl rfl)
  (jb_one (st_app c (Nm.by (by decide +kernel)) (x_join (j_str rfl) (JE.o (x_add (JE.o (j_lst (j_vcons (v_ c.e (Nm.by (by decide +kernel))) j_vnil rfl))) (JE.o (JF.e (x_lc [("_law_number", 6)] c.e (j_it (v_ c.e (Nm.by (by decide +kernel)))) (blk_by (by decide +kernel)) (fun _ c' => (tg_ c' (Nl.by (by decide +kernel)))) (fun _ c' => jts_nil) (fun _ c' => (x_strI c' B (j_acons (p_ c' (Nm.by (by decide +kernel))) j_anil rfl) rfl rfl (Ng.by (by decide +kernel)))) (by decide) (fun _ => rfl)))))) rfl rfl rfl) rfl rfl rfl))) (fun _ => rfl))) (fun _ => rfl))
  (jb_one (js_ret (x_join (j_str rfl) (p_ c.e (Nm.by (by decide +kernel))) rfl rfl rfl)))))
theorem D__law_written (B : Bts mg) (F : FunD K "_law_written" "_law_written" (defArgs (top 48)) (defBody (top 48)) (defScope (top 48)) [] [] f fd) (hm : mg "_law_written" = some (.ref f)) : Df P w K mg base C "_law_written" 1 1 run__law_written := def_ok F S__law_written hm F.kp (F.bindsN fun _ _ _ _ _ _ us hl => match us, hl with | [_], _ => rfl) (b__law_written B)
abbrev N_is_tuple : List Str := ["value", "least", "most"]
def m_is_tuple : MS :=
  (mRet (mAnd (mU isTup (mPk 0) (lPk 0)) (mChain fLe fLe (mPk 1) (lPk 1) (mCall bLen (maCons (mPk 0) maNil) (laCons (lPk 0) laNil)) lId (mPk 2) (lPk 2))))
def run_is_tuple : UF := runF 3 3 m_is_tuple
theorem S_is_tuple : FnScope N_is_tuple ["value", "least", "most"] (defScope (top 7)) := ⟨rfl, rfl, rfl, by decide +kernel, rfl, by decide +kernel, by decide +kernel⟩
theorem b_is_tuple (B : Bts mg) : ∀ (X : Cx) (W : WX), Cs P w K mg base N_is_tuple (defScope (top 7)) 0 X W → JB X C W (defBody (top 7)) m_is_tuple := fun _ _ c =>
  (jb_one (js_ret (jv_and (x_isTup c.e B (p_ c.e (Nm.by (by decide +kernel))) (Ng.by (by decide +kernel)) (Ng.by (by decide +kernel)) rfl) (jv_one (x_ch (p_ c.e (Nm.by (by decide +kernel))) (JE.o (x_len c.e B (j_acons (p_ c.e (Nm.by (by decide +kernel))) j_anil rfl) rfl rfl (Ng.by (by decide +kernel)))) (p_ c.e (Nm.by (by decide +kernel))) rfl)))))
theorem D_is_tuple (B : Bts mg) (F : FunD K "is_tuple" "is_tuple" (defArgs (top 7)) (defBody (top 7)) (defScope (top 7)) [] [] f fd) (hm : mg "is_tuple" = some (.ref f)) : Df P w K mg base C "is_tuple" 3 1 run_is_tuple := def_ok F S_is_tuple hm F.kp (F.bindsN fun _ _ _ _ _ _ us hl => match us, hl with | [_, _, _], _ => rfl) (b_is_tuple B)
abbrev N_is_number : List Str := ["value", "least", "most"]
def m_is_number : MS :=
  (mRet (mAnd (mU isInt (mPk 0) (lPk 0)) (mAnd (mNot (mU isBool (mPk 0) (lPk 0))) (mChain fLe fLe (mPk 1) (lPk 1) (mPk 0) (lPk 0) (mPk 2) (lPk 2)))))
def run_is_number : UF := runF 3 3 m_is_number
theorem S_is_number : FnScope N_is_number ["value", "least", "most"] (defScope (top 6)) := ⟨rfl, rfl, rfl, by decide +kernel, rfl, by decide +kernel, by decide +kernel⟩
theorem b_is_number (B : Bts mg) : ∀ (X : Cx) (W : WX), Cs P w K mg base N_is_number (defScope (top 6)) 0 X W → JB X C W (defBody (top 6)) m_is_number := fun _ _ c =>
  (jb_one (js_ret (jv_and (x_isInt c.e B (p_ c.e (Nm.by (by decide +kernel))) (Ng.by (by decide +kernel)) (Ng.by (by decide +kernel)) rfl) (jv_and (jv_not (x_isBool c.e B (p_ c.e (Nm.by (by decide +kernel))) (Ng.by (by decide +kernel)) (Ng.by (by decide +kernel)) rfl)) (jv_one (x_ch (p_ c.e (Nm.by (by decide +kernel))) (p_ c.e (Nm.by (by decide +kernel))) (p_ c.e (Nm.by (by decide +kernel))) rfl))))))
theorem D_is_number (B : Bts mg) (F : FunD K "is_number" "is_number" (defArgs (top 6)) (defBody (top 6)) (defScope (top 6)) [] [] f fd) (hm : mg "is_number" = some (.ref f)) : Df P w K mg base C "is_number" 3 1 run_is_number := def_ok F S_is_number hm F.kp (F.bindsN fun _ _ _ _ _ _ us hl => match us, hl with | [_, _, _], _ => rfl) (b_is_number B)
abbrev N_are_numbers : List Str := ["tables", "value", "least", "item", "left", "right"]
def m_are_numbers : MS :=
  (mSeq (mIfS (mOr (mNot (mUser run_is_tuple (maCons (mVar 1) (maCons (mVar 2) (maCons (mVar 0) maNil))))) (mNot (mCall bAll (maCons (mAsV (mLc (mIt (mVar 1)) [3] (mgName 3) mYes (mUser run_is_number (maCons (mVar 3) (maCons (mC (.int 0)) (maCons (mB fSub (mPk 0) (lPk 0) (mC (.int 1)) lId) maNil)))))) maNil) (laCons lId laNil)))) (mRet (mC (.bl false))) mSkip)
  (mRet (mCall bAll (maCons (mAsV (mLc (mZip (maCons (mVar 1) (maCons (mSl (mPk 1) (lPk 1) (mPrt (mC (.int 1))) (mC .non)) maNil))) [4, 5] (mgTup 2 (mgsCons (mgName 4) (mgsCons (mgName 5) mgsNil))) mYes (mB fLt (mPk 4) (lPk 4) (mPk 5) (lPk 5)))) maNil) (laCons lId laNil))))
def run_are_numbers : UF := runF 3 6 m_are_numbers
theorem S_are_numbers : FnScope N_are_numbers ["tables", "value", "least"] (defScope (top 12)) := ⟨rfl, rfl, rfl, by decide +kernel, rfl, by decide +kernel, by decide +kernel⟩
theorem b_are_numbers (B : Bts mg) (d_is_tuple : Df P w K mg base C "is_tuple" 3 1 run_is_tuple) (d_is_number : Df P w K mg base C "is_number" 3 1 run_is_number) : ∀ (X : Cx) (W : WX), Cs P w K mg base N_are_numbers (defScope (top 12)) 1 X W → JB X C W (defBody (top 12)) m_are_numbers := fun _ _ c =>
  (jb_cons (js_if (JW.t (jw_or (jt_not (jt_val (x_call c.e d_is_tuple (by decide) (Ng.by (by decide +kernel)) (j_vcons (v_ c.e (Nm.by (by decide +kernel))) (j_vcons (v_ c.e (Nm.by (by decide +kernel))) (j_vcons (v_ c.e (Nm.by (by decide +kernel))) j_vnil rfl) rfl) rfl) (lenS (lenS (lenS len0))) rfl rfl) (fun _ => rfl))) (jw_or1 (jt_not (jt_val (x_all c.e B (j_acons (JE.o (JF.e (x_lc [("item", 3)] c.e (j_it (v_ c.e (Nm.by (by decide +kernel)))) (blk_by (by decide +kernel)) (fun _ c' => (tg_ c' (Nl.by (by decide +kernel)))) (fun _ c' => jts_nil) (fun _ c' => (x_call c' d_is_number (by decide) (Ng.by (by decide +kernel)) (j_vcons (v_ c' (Nm.by (by decide +kernel))) (j_vcons j_int (j_vcons (x_sub (p_ c' (Nm.by (by decide +kernel))) (JE.o j_int)) j_vnil rfl) rfl) rfl) (lenS (lenS (lenS len0))) rfl rfl)) (by decide) (fun _ => rfl)))) j_anil rfl) rfl rfl (Ng.by (by decide +kernel))) (fun _ => rfl)))))) (jb_one (js_ret j_bl)) jb_nil)
  (jb_one (js_ret (x_all c.e B (j_acons (JE.o (JF.e (x_lc [("left", 4), ("right", 5)] c.e (x_zip c.e B (Ng.by (by decide +kernel)) (j_vcons (v_ c.e (Nm.by (by decide +kernel))) (j_vcons (j_sl (p_ c.e (Nm.by (by decide +kernel))) (jp_of j_int) jp_none) j_vnil rfl) rfl) rfl rfl) (blk_by (by decide +kernel)) (fun _ c' => (jg_tup c'.c.calm (jgs_cons (tg_ c' (Nl.by (by decide +kernel))) (jgs_cons (tg_ c' (Nl.by (by decide +kernel))) jgs_nil rfl) rfl) rfl rfl)) (fun _ c' => jts_nil) (fun _ c' => (x_lt (p_ c' (Nm.by (by decide +kernel))) (p_ c' (Nm.by (by decide +kernel))) c' rfl)) (by decide) (fun _ => rfl)))) j_anil rfl) rfl rfl (Ng.by (by decide +kernel))))))
theorem D_are_numbers (B : Bts mg) (d_is_tuple : Df P w K mg base C "is_tuple" 3 1 run_is_tuple) (d_is_number : Df P w K mg base C "is_number" 3 1 run_is_number) (F : FunD K "are_numbers" "are_numbers" (defArgs (top 12)) (defBody (top 12)) (defScope (top 12)) [] [] f fd) (hm : mg "are_numbers" = some (.ref f)) : Df P w K mg base C "are_numbers" 3 2 run_are_numbers := def_ok F S_are_numbers hm F.kp (F.bindsN fun _ _ _ _ _ _ us hl => match us, hl with | [_, _, _], _ => rfl) (b_are_numbers B d_is_tuple d_is_number)
abbrev N_is_table : List Str := ["value"]
def m_is_table : MS :=
  (mRet (mAnd (mUser run_is_tuple (maCons (mVar 0) (maCons (mC (.int 2)) (maCons (mC (.int 2)) maNil)))) (mAnd (mUser run_is_number (maCons (mB fIx (mPk 0) (lPk 0) (mC (.int 0)) lId) (maCons (mC (.int 1)) (maCons (mC (.int 99)) maNil)))) (mUser run_is_number (maCons (mB fIx (mPk 0) (lPk 0) (mC (.int 1)) lId) (maCons (mC (.int 0)) (maCons (mC (.int 2)) maNil)))))))
def run_is_table : UF := runF 1 1 m_is_table
theorem S_is_table : FnScope N_is_table ["value"] (defScope (top 10)) := ⟨rfl, rfl, rfl, by decide +kernel, rfl, by decide +kernel, by decide +kernel⟩
theorem b_is_table (B : Bts mg) (d_is_tuple : Df P w K mg base C "is_tuple" 3 1 run_is_tuple) (d_is_number : Df P w K mg base C "is_number" 3 1 run_is_number) : ∀ (X : Cx) (W : WX), Cs P w K mg base N_is_table (defScope (top 10)) 1 X W → JB X C W (defBody (top 10)) m_is_table := fun _ _ c =>
  (jb_one (js_ret (jv_and (x_call c.e d_is_tuple (by decide) (Ng.by (by decide +kernel)) (j_vcons (v_ c.e (Nm.by (by decide +kernel))) (j_vcons j_int (j_vcons j_int j_vnil rfl) rfl) rfl) (lenS (lenS (lenS len0))) rfl rfl) (jv_and (x_call c.e d_is_number (by decide) (Ng.by (by decide +kernel)) (j_vcons (x_ix (p_ c.e (Nm.by (by decide +kernel))) (JE.o j_int) (fun _ _ => rfl)) (j_vcons j_int (j_vcons j_int j_vnil rfl) rfl) rfl) (lenS (lenS (lenS len0))) rfl rfl) (jv_one (x_call c.e d_is_number (by decide) (Ng.by (by decide +kernel)) (j_vcons (x_ix (p_ c.e (Nm.by (by decide +kernel))) (JE.o j_int) (fun _ _ => rfl)) (j_vcons j_int (j_vcons j_int j_vnil rfl) rfl) rfl) (lenS (lenS (lenS len0))) rfl rfl))))))
theorem D_is_table (B : Bts mg) (d_is_tuple : Df P w K mg base C "is_tuple" 3 1 run_is_tuple) (d_is_number : Df P w K mg base C "is_number" 3 1 run_is_number) (F : FunD K "is_table" "is_table" (defArgs (top 10)) (defBody (top 10)) (defScope (top 10)) [] [] f fd) (hm : mg "is_table" = some (.ref f)) : Df P w K mg base C "is_table" 1 2 run_is_table := def_ok F S_is_table hm F.kp (F.bindsN fun _ _ _ _ _ _ us hl => match us, hl with | [_], _ => rfl) (b_is_table B d_is_tuple d_is_number)
abbrev N_is_link : List Str := ["tables", "value"]
def m_is_link : MS :=
  (mSeq (mIfS (mOr (mNot (mUser run_is_tuple (maCons (mVar 1) (maCons (mC (.int 4)) (maCons (mC (.int 4)) maNil))))) (mOr (mNot (mUser run_is_number (maCons (mB fIx (mPk 1) (lPk 1) (mC (.int 0)) lId) (maCons (mC (.int 0)) (maCons (mB fSub (mPk 0) (lPk 0) (mC (.int 1)) lId) maNil))))) (mNot (mUser run_is_number (maCons (mB fIx (mPk 1) (lPk 1) (mC (.int 1)) lId) (maCons (mC (.int 0)) (maCons (mB fSub (mPk 0) (lPk 0) (mC (.int 1)) lId) maNil))))))) (mRet (mC (.bl false))) mSkip)
  (mRet (mAnd (mB fLt (mB fIx (mPk 1) (lPk 1) (mC (.int 0)) lId) lId (mB fIx (mPk 1) (lPk 1) (mC (.int 1)) lId) lId) (mAnd (mUser run_is_number (maCons (mB fIx (mPk 1) (lPk 1) (mC (.int 2)) lId) (maCons (mC (.int 1)) (maCons (mC (.int 99)) maNil)))) (mUser run_is_number (maCons (mB fIx (mPk 1) (lPk 1) (mC (.int 3)) lId) (maCons (mC (.int 0)) (maCons (mC (.int 2)) maNil))))))))
def run_is_link : UF := runF 2 2 m_is_link
theorem S_is_link : FnScope N_is_link ["tables", "value"] (defScope (top 11)) := ⟨rfl, rfl, rfl, by decide +kernel, rfl, by decide +kernel, by decide +kernel⟩
theorem b_is_link (B : Bts mg) (d_is_number : Df P w K mg base C "is_number" 3 1 run_is_number) (d_is_tuple : Df P w K mg base C "is_tuple" 3 1 run_is_tuple) : ∀ (X : Cx) (W : WX), Cs P w K mg base N_is_link (defScope (top 11)) 1 X W → JB X C W (defBody (top 11)) m_is_link := fun _ _ c =>
  (jb_cons (js_if (JW.t (jw_or (jt_not (jt_val (x_call c.e d_is_tuple (by decide) (Ng.by (by decide +kernel)) (j_vcons (v_ c.e (Nm.by (by decide +kernel))) (j_vcons j_int (j_vcons j_int j_vnil rfl) rfl) rfl) (lenS (lenS (lenS len0))) rfl rfl) (fun _ => rfl))) (jw_or (jt_not (jt_val (x_call c.e d_is_number (by decide) (Ng.by (by decide +kernel)) (j_vcons (x_ix (p_ c.e (Nm.by (by decide +kernel))) (JE.o j_int) (fun _ _ => rfl)) (j_vcons j_int (j_vcons (x_sub (p_ c.e (Nm.by (by decide +kernel))) (JE.o j_int)) j_vnil rfl) rfl) rfl) (lenS (lenS (lenS len0))) rfl rfl) (fun _ => rfl))) (jw_or1 (jt_not (jt_val (x_call c.e d_is_number (by decide) (Ng.by (by decide +kernel)) (j_vcons (x_ix (p_ c.e (Nm.by (by decide +kernel))) (JE.o j_int) (fun _ _ => rfl)) (j_vcons j_int (j_vcons (x_sub (p_ c.e (Nm.by (by decide +kernel))) (JE.o j_int)) j_vnil rfl) rfl) rfl) (lenS (lenS (lenS len0))) rfl rfl) (fun _ => rfl))))))) (jb_one (js_ret j_bl)) jb_nil)
  (jb_one (js_ret (jv_and (x_lt (JE.o (x_ix (p_ c.e (Nm.by (by decide +kernel))) (JE.o j_int) (fun _ _ => rfl))) (JE.o (x_ix (p_ c.e (Nm.by (by decide +kernel))) (JE.o j_int) (fun _ _ => rfl))) c.e rfl) (jv_and (x_call c.e d_is_number (by decide) (Ng.by (by decide +kernel)) (j_vcons (x_ix (p_ c.e (Nm.by (by decide +kernel))) (JE.o j_int) (fun _ _ => rfl)) (j_vcons j_int (j_vcons j_int j_vnil rfl) rfl) rfl) (lenS (lenS (lenS len0))) rfl rfl) (jv_one (x_call c.e d_is_number (by decide) (Ng.by (by decide +kernel)) (j_vcons (x_ix (p_ c.e (Nm.by (by decide +kernel))) (JE.o j_int) (fun _ _ => rfl)) (j_vcons j_int (j_vcons j_int j_vnil rfl) rfl) rfl) (lenS (lenS (lenS len0))) rfl rfl)))))))
theorem D_is_link (B : Bts mg) (d_is_number : Df P w K mg base C "is_number" 3 1 run_is_number) (d_is_tuple : Df P w K mg base C "is_tuple" 3 1 run_is_tuple) (F : FunD K "is_link" "is_link" (defArgs (top 11)) (defBody (top 11)) (defScope (top 11)) [] [] f fd) (hm : mg "is_link" = some (.ref f)) : Df P w K mg base C "is_link" 2 2 run_is_link := def_ok F S_is_link hm F.kp (F.bindsN fun _ _ _ _ _ _ us hl => match us, hl with | [_, _], _ => rfl) (b_is_link B d_is_number d_is_tuple)
abbrev N_is_good_question : List Str := ["value", "many", "item", "link", "left", "right"]
def m_is_good_question : MS :=
  (mSeq (mIfS (mOr (mNot (mUser run_is_tuple (maCons (mVar 0) (maCons (mC (.int 3)) (maCons (mC (.int 3)) maNil))))) (mOr (mNot (mUser run_is_tuple (maCons (mB fIx (mPk 0) (lPk 0) (mC (.int 0)) lId) (maCons (mC (.int 2)) (maCons (mC (.int 4)) maNil))))) (mNot (mCall bAll (maCons (mAsV (mLc (mIt (mB fIx (mPk 0) (lPk 0) (mC (.int 0)) lId)) [2] (mgName 2) mYes (mUser run_is_table (maCons (mVar 2) maNil)))) maNil) (laCons lId laNil))))) (mRet (mC (.bl false))) mSkip)
  (mSeq (mSet 1 (mCall bLen (maCons (mB fIx (mPk 0) (lPk 0) (mC (.int 0)) lId) maNil) (laCons lId laNil)))
  (mSeq (mIfS (mOr (mNot (mUser run_is_tuple (maCons (mB fIx (mPk 0) (lPk 0) (mC (.int 1)) lId) (maCons (mC (.int 0)) (maCons (mC (.int 6)) maNil))))) (mNot (mCall bAll (maCons (mAsV (mLc (mIt (mB fIx (mPk 0) (lPk 0) (mC (.int 1)) lId)) [3] (mgName 3) mYes (mUser run_is_link (maCons (mVar 1) (maCons (mVar 3) maNil))))) maNil) (laCons lId laNil)))) (mRet (mC (.bl false))) mSkip)
  (mSeq (mIfS (mNot (mCall bAll (maCons (mAsV (mLc (mZip (maCons (mB fIx (mPk 0) (lPk 0) (mC (.int 1)) lId) (maCons (mSl (mB fIx (mPk 0) (lPk 0) (mC (.int 1)) lId) lId (mPrt (mC (.int 1))) (mC .non)) maNil))) [4, 5] (mgTup 2 (mgsCons (mgName 4) (mgsCons (mgName 5) mgsNil))) mYes (mB fLt (mSl (mPk 4) (lPk 4) (mC .non) (mPrt (mC (.int 2)))) lId (mSl (mPk 5) (lPk 5) (mC .non) (mPrt (mC (.int 2)))) lId))) maNil) (laCons lId laNil))) (mRet (mC (.bl false))) mSkip)
  (mRet (mUser run_are_numbers (maCons (mVar 1) (maCons (mB fIx (mPk 0) (lPk 0) (mC (.int 2)) lId) (maCons (mC (.int 0)) maNil)))))))))
def run_is_good_question : UF := runF 1 6 m_is_good_question
theorem S_is_good_question : FnScope N_is_good_question ["value"] (defScope (top 13)) := ⟨rfl, rfl, rfl, by decide +kernel, rfl, by decide +kernel, by decide +kernel⟩
theorem b_is_good_question (B : Bts mg) (d_are_numbers : Df P w K mg base C "are_numbers" 3 2 run_are_numbers) (d_is_tuple : Df P w K mg base C "is_tuple" 3 1 run_is_tuple) (d_is_table : Df P w K mg base C "is_table" 1 2 run_is_table) (d_is_link : Df P w K mg base C "is_link" 2 2 run_is_link) : ∀ (X : Cx) (W : WX), Cs P w K mg base N_is_good_question (defScope (top 13)) 2 X W → JB X C W (defBody (top 13)) m_is_good_question := fun _ _ c =>
  (jb_cons (js_if (JW.t (jw_or (jt_not (jt_val (x_call c.e d_is_tuple (by decide) (Ng.by (by decide +kernel)) (j_vcons (v_ c.e (Nm.by (by decide +kernel))) (j_vcons j_int (j_vcons j_int j_vnil rfl) rfl) rfl) (lenS (lenS (lenS len0))) rfl rfl) (fun _ => rfl))) (jw_or (jt_not (jt_val (x_call c.e d_is_tuple (by decide) (Ng.by (by decide +kernel)) (j_vcons (x_ix (p_ c.e (Nm.by (by decide +kernel))) (JE.o j_int) (fun _ _ => rfl)) (j_vcons j_int (j_vcons j_int j_vnil rfl) rfl) rfl) (lenS (lenS (lenS len0))) rfl rfl) (fun _ => rfl))) (jw_or1 (jt_not (jt_val (x_all c.e B (j_acons (JE.o (JF.e (x_lc [("item", 2)] c.e (j_it (x_ix (p_ c.e (Nm.by (by decide +kernel))) (JE.o j_int) (fun _ _ => rfl))) (blk_by (by decide +kernel)) (fun _ c' => (tg_ c' (Nl.by (by decide +kernel)))) (fun _ c' => jts_nil) (fun _ c' => (x_call c' d_is_table (by decide) (Ng.by (by decide +kernel)) (j_vcons (v_ c' (Nm.by (by decide +kernel))) j_vnil rfl) (lenS len0) rfl rfl)) (by decide) (fun _ => rfl)))) j_anil rfl) rfl rfl (Ng.by (by decide +kernel))) (fun _ => rfl))))))) (jb_one (js_ret j_bl)) jb_nil)
  (jb_cons (st_set c (Nb.by (by decide +kernel)) (x_len c.e B (j_acons (JE.o (x_ix (p_ c.e (Nm.by (by decide +kernel))) (JE.o j_int) (fun _ _ => rfl))) j_anil rfl) rfl rfl (Ng.by (by decide +kernel))) rfl rfl)
  (jb_cons (js_if (JW.t (jw_or (jt_not (jt_val (x_call c.e d_is_tuple (by decide) (Ng.by (by decide +kernel)) (j_vcons (x_ix (p_ c.e (Nm.by (by decide +kernel))) (JE.o j_int) (fun _ _ => rfl)) (j_vcons j_int (j_vcons j_int j_vnil rfl) rfl) rfl) (lenS (lenS (lenS len0))) rfl rfl) (fun _ => rfl))) (jw_or1 (jt_not (jt_val (x_all c.e B (j_acons (JE.o (JF.e (x_lc [("link", 3)] c.e (j_it (x_ix (p_ c.e (Nm.by (by decide +kernel))) (JE.o j_int) (fun _ _ => rfl))) (blk_by (by decide +kernel)) (fun _ c' => (tg_ c' (Nl.by (by decide +kernel)))) (fun _ c' => jts_nil) (fun _ c' => (x_call c' d_is_link (by decide) (Ng.by (by decide +kernel)) (j_vcons (v_ c' (Nm.by (by decide +kernel))) (j_vcons (v_ c' (Nm.by (by decide +kernel))) j_vnil rfl) rfl) (lenS (lenS len0)) rfl rfl)) (by decide) (fun _ => rfl)))) j_anil rfl) rfl rfl (Ng.by (by decide +kernel))) (fun _ => rfl)))))) (jb_one (js_ret j_bl)) jb_nil)
  (jb_cons (js_if (jt_not (jt_val (x_all c.e B (j_acons (JE.o (JF.e (x_lc [("left", 4), ("right", 5)] c.e (x_zip c.e B (Ng.by (by decide +kernel)) (j_vcons (x_ix (p_ c.e (Nm.by (by decide +kernel))) (JE.o j_int) (fun _ _ => rfl)) (j_vcons (j_sl (JE.o (x_ix (p_ c.e (Nm.by (by decide +kernel))) (JE.o j_int) (fun _ _ => rfl))) (jp_of j_int) jp_none) j_vnil rfl) rfl) rfl rfl) (blk_by (by decide +kernel)) (fun _ c' => (jg_tup c'.c.calm (jgs_cons (tg_ c' (Nl.by (by decide +kernel))) (jgs_cons (tg_ c' (Nl.by (by decide +kernel))) jgs_nil rfl) rfl) rfl rfl)) (fun _ c' => jts_nil) (fun _ c' => (x_lt (JE.o (j_sl (p_ c' (Nm.by (by decide +kernel))) jp_none (jp_of j_int))) (JE.o (j_sl (p_ c' (Nm.by (by decide +kernel))) jp_none (jp_of j_int))) c' rfl)) (by decide) (fun _ => rfl)))) j_anil rfl) rfl rfl (Ng.by (by decide +kernel))) (fun _ => rfl))) (jb_one (js_ret j_bl)) jb_nil)
  (jb_one (js_ret (x_call c.e d_are_numbers (by decide) (Ng.by (by decide +kernel)) (j_vcons (v_ c.e (Nm.by (by decide +kernel))) (j_vcons (x_ix (p_ c.e (Nm.by (by decide +kernel))) (JE.o j_int) (fun _ _ => rfl)) (j_vcons j_int j_vnil rfl) rfl) rfl) (lenS (lenS (lenS len0))) rfl rfl)))))))
theorem D_is_good_question (B : Bts mg) (d_are_numbers : Df P w K mg base C "are_numbers" 3 2 run_are_numbers) (d_is_tuple : Df P w K mg base C "is_tuple" 3 1 run_is_tuple) (d_is_table : Df P w K mg base C "is_table" 1 2 run_is_table) (d_is_link : Df P w K mg base C "is_link" 2 2 run_is_link) (F : FunD K "is_good_question" "is_good_question" (defArgs (top 13)) (defBody (top 13)) (defScope (top 13)) [] [] f fd) (hm : mg "is_good_question" = some (.ref f)) : Df P w K mg base C "is_good_question" 1 3 run_is_good_question := def_ok F S_is_good_question hm F.kp (F.bindsN fun _ _ _ _ _ _ us hl => match us, hl with | [_], _ => rfl) (b_is_good_question B d_are_numbers d_is_tuple d_is_table d_is_link)
abbrev N_need_question : List Str := ["value"]
def m_need_question : MS :=
  (mIfS (mNot (mUser run_is_good_question (maCons (mVar 0) maNil))) (mRaise 1) mSkip)
def run_need_question : UF := runF 1 1 m_need_question
theorem S_need_question : FnScope N_need_question ["value"] (defScope (top 21)) := ⟨rfl, rfl, rfl, by decide +kernel, rfl, by decide +kernel, by decide +kernel⟩
theorem b_need_question (B : Bts mg) (e_InvalidQuestion : Er K mg C "InvalidQuestion" 1) (d_is_good_question : Df P w K mg base C "is_good_question" 1 3 run_is_good_question) : ∀ (X : Cx) (W : WX), Cs P w K mg base N_need_question (defScope (top 21)) 3 X W → JB X C W (defBody (top 21)) m_need_question := fun _ _ c =>
  (jb_one (js_if (jt_not (jt_val (x_call c.e d_is_good_question (by decide) (Ng.by (by decide +kernel)) (j_vcons (v_ c.e (Nm.by (by decide +kernel))) j_vnil rfl) (lenS len0) rfl rfl) (fun _ => rfl))) (jb_one (st_raise c e_InvalidQuestion (Ng.by (by decide +kernel)))) jb_nil))
theorem D_need_question (B : Bts mg) (e_InvalidQuestion : Er K mg C "InvalidQuestion" 1) (d_is_good_question : Df P w K mg base C "is_good_question" 1 3 run_is_good_question) (F : FunD K "need_question" "need_question" (defArgs (top 21)) (defBody (top 21)) (defScope (top 21)) [] [] f fd) (hm : mg "need_question" = some (.ref f)) : Df P w K mg base C "need_question" 1 4 run_need_question := def_ok F S_need_question hm F.kp (F.bindsN fun _ _ _ _ _ _ us hl => match us, hl with | [_], _ => rfl) (b_need_question B e_InvalidQuestion d_is_good_question)
abbrev N_tables_in : List Str := ["plan"]
def m_tables_in (self : UF) : MS :=
  (mSeq (mIfS (mU isInt (mPk 0) (lPk 0)) (mRet (mTup (maCons (mVar 0) maNil))) mSkip)
  (mRet (mCall bTuple (maCons (mCall bSortedX (maCons (mB fAdd (mUser self (maCons (mB fIx (mPk 0) (lPk 0) (mC (.int 0)) lId) maNil)) lId (mUser self (maCons (mB fIx (mPk 0) (lPk 0) (mC (.int 1)) lId) maNil)) lId) maNil) (laCons lId laNil)) maNil) (laCons lId laNil))))
def run_tables_in : Nat → UF
  | 0 => runBad
  | n + 1 => runF 1 1 (m_tables_in (run_tables_in n))
theorem S_tables_in : FnScope N_tables_in ["plan"] (defScope (top 16)) := ⟨rfl, rfl, rfl, by decide +kernel, rfl, by decide +kernel, by decide +kernel⟩
theorem b_tables_in (B : Bts mg) {k : Nat} (hk : 0 ≤ k) {self : UF} (dself : Df P w K mg base C "tables_in" 1 k self) : ∀ (X : Cx) (W : WX), Cs P w K mg base N_tables_in (defScope (top 16)) k X W → JB X C W (defBody (top 16)) (m_tables_in self) := fun _ _ c =>
  (jb_cons (js_if (jt_val (x_isInt c.e B (p_ c.e (Nm.by (by decide +kernel))) (Ng.by (by decide +kernel)) (Ng.by (by decide +kernel)) rfl) (fun _ => rfl)) (jb_one (js_ret (j_tup (j_vcons (v_ c.e (Nm.by (by decide +kernel))) j_vnil rfl)))) jb_nil)
  (jb_one (js_ret (x_tuple c.e B (j_acons (JE.o (x_sortedX c.e B (j_acons (JE.o (x_add (JE.o (x_call c.e dself (Nat.le_refl _) (Ng.by (by decide +kernel)) (j_vcons (x_ix (p_ c.e (Nm.by (by decide +kernel))) (JE.o j_int) (fun _ _ => rfl)) j_vnil rfl) (lenS len0) rfl rfl)) (JE.o (x_call c.e dself (Nat.le_refl _) (Ng.by (by decide +kernel)) (j_vcons (x_ix (p_ c.e (Nm.by (by decide +kernel))) (JE.o j_int) (fun _ _ => rfl)) j_vnil rfl) (lenS len0) rfl rfl)))) j_anil rfl) rfl rfl (Ng.by (by decide +kernel)))) j_anil rfl) rfl rfl (Ng.by (by decide +kernel))))))
theorem D_tables_in (B : Bts mg) (F : FunD K "tables_in" "tables_in" (defArgs (top 16)) (defBody (top 16)) (defScope (top 16)) [] [] f fd) (hm : mg "tables_in" = some (.ref f)) : ∀ n : Nat, Df P w K mg base C "tables_in" 1 (1 + n) (run_tables_in n)
  | 0 => def_bad F S_tables_in hm F.kp (F.bindsN fun _ _ _ _ _ _ us hl => match us, hl with | [_], _ => rfl)
  | n + 1 => def_ok F S_tables_in hm F.kp (F.bindsN fun _ _ _ _ _ _ us hl => match us, hl with | [_], _ => rfl) (b_tables_in B (Nat.le_trans (by decide) (Nat.le_add_right 1 n)) (D_tables_in B F hm n))
abbrev N_is_shape : List Str := ["question", "value", "deep"]
def m_is_shape (self : UF) : MS :=
  (mSeq (mIfS (mUser run_is_number (maCons (mVar 1) (maCons (mC (.int 0)) (maCons (mB fSub (mCall bLen (maCons (mB fIx (mPk 0) (lPk 0) (mC (.int 0)) lId) maNil) (laCons lId laNil)) lId (mC (.int 1)) lId) maNil)))) (mRet (mC (.bl true))) mSkip)
  (mSeq (mIfS (mOr (mB fEq (mPk 2) (lPk 2) (mC (.int 0)) lId) (mOr (mNot (mUser run_is_tuple (maCons (mVar 1) (maCons (mC (.int 3)) (maCons (mC (.int 3)) maNil))))) (mOr (mNot (mU isStr (mB fIx (mPk 1) (lPk 1) (mC (.int 2)) lId) lId)) (mB fNotIn (mB fIx (mPk 1) (lPk 1) (mC (.int 2)) lId) lId (mC (tupSD [[104, 97, 115, 104], [105, 110, 100, 101, 120], [108, 111, 111, 112]])) lId)))) (mRet (mC (.bl false))) mSkip)
  (mRet (mAnd (mUser self (maCons (mVar 0) (maCons (mB fIx (mPk 1) (lPk 1) (mC (.int 0)) lId) (maCons (mB fSub (mPk 2) (lPk 2) (mC (.int 1)) lId) maNil)))) (mUser self (maCons (mVar 0) (maCons (mB fIx (mPk 1) (lPk 1) (mC (.int 1)) lId) (maCons (mB fSub (mPk 2) (lPk 2) (mC (.int 1)) lId) maNil))))))))
def run_is_shape : Nat → UF
  | 0 => runBad
  | n + 1 => runF 3 3 (m_is_shape (run_is_shape n))
theorem S_is_shape : FnScope N_is_shape ["question", "value", "deep"] (defScope (top 17)) := ⟨rfl, rfl, rfl, by decide +kernel, rfl, by decide +kernel, by decide +kernel⟩
theorem b_is_shape (B : Bts mg) (h_METHODS : mg "METHODS" = some (.ref (He.ga K "METHODS")) ∧ tupSB K "METHODS" [[104, 97, 115, 104], [105, 110, 100, 101, 120], [108, 111, 111, 112]] = true) (d_is_number : Df P w K mg base C "is_number" 3 1 run_is_number) (d_is_tuple : Df P w K mg base C "is_tuple" 3 1 run_is_tuple) {k : Nat} (hk : 1 ≤ k) {self : UF} (dself : Df P w K mg base C "is_shape" 3 k self) : ∀ (X : Cx) (W : WX), Cs P w K mg base N_is_shape (defScope (top 17)) k X W → JB X C W (defBody (top 17)) (m_is_shape self) := fun _ _ c =>
  (jb_cons (js_if (jt_val (x_call c.e d_is_number (Nat.le_trans (by decide) hk) (Ng.by (by decide +kernel)) (j_vcons (v_ c.e (Nm.by (by decide +kernel))) (j_vcons j_int (j_vcons (x_sub (JE.o (x_len c.e B (j_acons (JE.o (x_ix (p_ c.e (Nm.by (by decide +kernel))) (JE.o j_int) (fun _ _ => rfl))) j_anil rfl) rfl rfl (Ng.by (by decide +kernel)))) (JE.o j_int)) j_vnil rfl) rfl) rfl) (lenS (lenS (lenS len0))) rfl rfl) (fun _ => rfl)) (jb_one (js_ret j_bl)) jb_nil)
  (jb_cons (js_if (JW.t (jw_or (t_eq (p_ c.e (Nm.by (by decide +kernel))) (JE.o j_int) c.e rfl) (jw_or (jt_not (jt_val (x_call c.e d_is_tuple (Nat.le_trans (by decide) hk) (Ng.by (by decide +kernel)) (j_vcons (v_ c.e (Nm.by (by decide +kernel))) (j_vcons j_int (j_vcons j_int j_vnil rfl) rfl) rfl) (lenS (lenS (lenS len0))) rfl rfl) (fun _ => rfl))) (jw_or (jt_not (jt_val (x_isStr c.e B (JE.o (x_ix (p_ c.e (Nm.by (by decide +kernel))) (JE.o j_int) (fun _ _ => rfl))) (Ng.by (by decide +kernel)) (Ng.by (by decide +kernel)) rfl) (fun _ => rfl))) (jw_or1 (t_notin (JE.o (x_ix (p_ c.e (Nm.by (by decide +kernel))) (JE.o j_int) (fun _ _ => rfl))) (JE.o (g_tupS c.e (Ng.by (by decide +kernel)) h_METHODS)) rfl)))))) (jb_one (js_ret j_bl)) jb_nil)
  (jb_one (js_ret (jv_and (x_call c.e dself (Nat.le_refl _) (Ng.by (by decide +kernel)) (j_vcons (v_ c.e (Nm.by (by decide +kernel))) (j_vcons (x_ix (p_ c.e (Nm.by (by decide +kernel))) (JE.o j_int) (fun _ _ => rfl)) (j_vcons (x_sub (p_ c.e (Nm.by (by decide +kernel))) (JE.o j_int)) j_vnil rfl) rfl) rfl) (lenS (lenS (lenS len0))) rfl rfl) (jv_one (x_call c.e dself (Nat.le_refl _) (Ng.by (by decide +kernel)) (j_vcons (v_ c.e (Nm.by (by decide +kernel))) (j_vcons (x_ix (p_ c.e (Nm.by (by decide +kernel))) (JE.o j_int) (fun _ _ => rfl)) (j_vcons (x_sub (p_ c.e (Nm.by (by decide +kernel))) (JE.o j_int)) j_vnil rfl) rfl) rfl) (lenS (lenS (lenS len0))) rfl rfl)))))))
theorem D_is_shape (B : Bts mg) (h_METHODS : mg "METHODS" = some (.ref (He.ga K "METHODS")) ∧ tupSB K "METHODS" [[104, 97, 115, 104], [105, 110, 100, 101, 120], [108, 111, 111, 112]] = true) (d_is_number : Df P w K mg base C "is_number" 3 1 run_is_number) (d_is_tuple : Df P w K mg base C "is_tuple" 3 1 run_is_tuple) (F : FunD K "is_shape" "is_shape" (defArgs (top 17)) (defBody (top 17)) (defScope (top 17)) [] [] f fd) (hm : mg "is_shape" = some (.ref f)) : ∀ n : Nat, Df P w K mg base C "is_shape" 3 (2 + n) (run_is_shape n)
  | 0 => def_bad F S_is_shape hm F.kp (F.bindsN fun _ _ _ _ _ _ us hl => match us, hl with | [_, _, _], _ => rfl)
  | n + 1 => def_ok F S_is_shape hm F.kp (F.bindsN fun _ _ _ _ _ _ us hl => match us, hl with | [_, _, _], _ => rfl) (b_is_shape B h_METHODS d_is_number d_is_tuple (Nat.le_trans (by decide) (Nat.le_add_right 2 n)) (D_is_shape B h_METHODS d_is_number d_is_tuple F hm n))
abbrev N_are_linked : List Str := ["question", "left", "right", "one", "other", "b", "p"]
def m_are_linked : MS :=
  (mRet (mCall bAny (maCons (mAsV (mLc (mIt (mB fIx (mPk 0) (lPk 0) (mC (.int 1)) lId)) [3, 4, 5, 6] (mgTup 4 (mgsCons (mgName 3) (mgsCons (mgName 4) (mgsCons (mgName 5) (mgsCons (mgName 6) mgsNil))))) mYes (mOr (mAnd (mB fIn (mPk 3) (lPk 3) (mPk 1) (lPk 1)) (mB fIn (mPk 4) (lPk 4) (mPk 2) (lPk 2))) (mAnd (mB fIn (mPk 3) (lPk 3) (mPk 2) (lPk 2)) (mB fIn (mPk 4) (lPk 4) (mPk 1) (lPk 1)))))) maNil) (laCons lId laNil)))
def run_are_linked : UF := runF 3 7 m_are_linked
theorem S_are_linked : FnScope N_are_linked ["question", "left", "right"] (defScope (top 14)) := ⟨rfl, rfl, rfl, by decide +kernel, rfl, by decide +kernel, by decide +kernel⟩
theorem b_are_linked (B : Bts mg) : ∀ (X : Cx) (W : WX), Cs P w K mg base N_are_linked (defScope (top 14)) 0 X W → JB X C W (defBody (top 14)) m_are_linked := fun _ _ c =>
  (jb_one (js_ret (x_any c.e B (j_acons (JE.o (JF.e (x_lc [("one", 3), ("other", 4), ("b", 5), ("p", 6)] c.e (j_it (x_ix (p_ c.e (Nm.by (by decide +kernel))) (JE.o j_int) (fun _ _ => rfl))) (blk_by (by decide +kernel)) (fun _ c' => (jg_tup c'.c.calm (jgs_cons (tg_ c' (Nl.by (by decide +kernel))) (jgs_cons (tg_ c' (Nl.by (by decide +kernel))) (jgs_cons (tg_ c' (Nl.by (by decide +kernel))) (jgs_cons (tg_ c' (Nl.by (by decide +kernel))) jgs_nil rfl) rfl) rfl) rfl) rfl rfl)) (fun _ c' => jts_nil) (fun _ c' => (jv_or (jv_and (x_in (p_ c' (Nm.by (by decide +kernel))) (p_ c' (Nm.by (by decide +kernel))) rfl) (jv_one (x_in (p_ c' (Nm.by (by decide +kernel))) (p_ c' (Nm.by (by decide +kernel))) rfl))) (jv_one (jv_and (x_in (p_ c' (Nm.by (by decide +kernel))) (p_ c' (Nm.by (by decide +kernel))) rfl) (jv_one (x_in (p_ c' (Nm.by (by decide +kernel))) (p_ c' (Nm.by (by decide +kernel))) rfl)))))) (by decide) (fun _ => rfl)))) j_anil rfl) rfl rfl (Ng.by (by decide +kernel)))))
theorem D_are_linked (B : Bts mg) (F : FunD K "are_linked" "are_linked" (defArgs (top 14)) (defBody (top 14)) (defScope (top 14)) [] [] f fd) (hm : mg "are_linked" = some (.ref f)) : Df P w K mg base C "are_linked" 3 1 run_are_linked := def_ok F S_are_linked hm F.kp (F.bindsN fun _ _ _ _ _ _ us hl => match us, hl with | [_, _, _], _ => rfl) (b_are_linked B)
abbrev N_can_stand : List Str := ["question", "left", "right", "method", "mine", "yours"]
def m_can_stand : MS :=
  (mSeq (mPar 4 5 (maCons (mUser (run_tables_in 6) (maCons (mVar 1) maNil)) (maCons (mUser (run_tables_in 6) (maCons (mVar 2) maNil)) maNil)))
  (mSeq (mIfS (mB fEq (mPk 3) (lPk 3) (mC (.str [108, 111, 111, 112])) lId) (mRet (mC (.bl true))) mSkip)
  (mSeq (mIfS (mAnd (mB fEq (mPk 3) (lPk 3) (mC (.str [105, 110, 100, 101, 120])) lId) (mOr (mNot (mU isInt (mPk 2) (lPk 2))) (mB fNotIn (mPk 2) (lPk 2) (mB fIx (mPk 0) (lPk 0) (mC (.int 2)) lId) lId))) (mRet (mC (.bl false))) mSkip)
  (mRet (mUser run_are_linked (maCons (mVar 0) (maCons (mVar 4) (maCons (mVar 5) maNil))))))))
def run_can_stand : UF := runF 4 6 m_can_stand
theorem S_can_stand : FnScope N_can_stand ["question", "left", "right", "method"] (defScope (top 15)) := ⟨rfl, rfl, rfl, by decide +kernel, rfl, by decide +kernel, by decide +kernel⟩
theorem b_can_stand (B : Bts mg) (d_are_linked : Df P w K mg base C "are_linked" 3 1 run_are_linked) (d_tables_in : Df P w K mg base C "tables_in" 1 7 (run_tables_in 6)) : ∀ (X : Cx) (W : WX), Cs P w K mg base N_can_stand (defScope (top 15)) 7 X W → JB X C W (defBody (top 15)) m_can_stand := fun _ _ c =>
  (jb_cons (st_par c (Nl.by (by decide +kernel)) (Nl.by (by decide +kernel)) (by decide) (j_vcons (x_call c.e d_tables_in (by decide) (Ng.by (by decide +kernel)) (j_vcons (v_ c.e (Nm.by (by decide +kernel))) j_vnil rfl) (lenS len0) rfl rfl) (j_vcons (x_call c.e d_tables_in (by decide) (Ng.by (by decide +kernel)) (j_vcons (v_ c.e (Nm.by (by decide +kernel))) j_vnil rfl) (lenS len0) rfl rfl) j_vnil rfl) rfl) (fun _ => rfl) rfl)
  (jb_cons (js_if (t_eq (p_ c.e (Nm.by (by decide +kernel))) (JE.o (j_str rfl)) c.e rfl) (jb_one (js_ret j_bl)) jb_nil)
  (jb_cons (js_if (JW.t (jw_and (t_eq (p_ c.e (Nm.by (by decide +kernel))) (JE.o (j_str rfl)) c.e rfl) (jw_and1 (JW.t (jw_or (jt_not (jt_val (x_isInt c.e B (p_ c.e (Nm.by (by decide +kernel))) (Ng.by (by decide +kernel)) (Ng.by (by decide +kernel)) rfl) (fun _ => rfl))) (jw_or1 (t_notin (p_ c.e (Nm.by (by decide +kernel))) (JE.o (x_ix (p_ c.e (Nm.by (by decide +kernel))) (JE.o j_int) (fun _ _ => rfl))) rfl))))))) (jb_one (js_ret j_bl)) jb_nil)
  (jb_one (js_ret (x_call c.e d_are_linked (by decide) (Ng.by (by decide +kernel)) (j_vcons (v_ c.e (Nm.by (by decide +kernel))) (j_vcons (v_ c.e (Nm.by (by decide +kernel))) (j_vcons (v_ c.e (Nm.by (by decide +kernel))) j_vnil rfl) rfl) rfl) (lenS (lenS (lenS len0))) rfl rfl))))))
theorem D_can_stand (B : Bts mg) (d_are_linked : Df P w K mg base C "are_linked" 3 1 run_are_linked) (d_tables_in : Df P w K mg base C "tables_in" 1 7 (run_tables_in 6)) (F : FunD K "can_stand" "can_stand" (defArgs (top 15)) (defBody (top 15)) (defScope (top 15)) [] [] f fd) (hm : mg "can_stand" = some (.ref f)) : Df P w K mg base C "can_stand" 4 8 run_can_stand := def_ok F S_can_stand hm F.kp (F.bindsN fun _ _ _ _ _ _ us hl => match us, hl with | [_, _, _, _], _ => rfl) (b_can_stand B d_are_linked d_tables_in)
abbrev N_can_be_led : List Str := ["question", "plan"]
def m_can_be_led (self : UF) : MS :=
  (mSeq (mIfS (mU isInt (mPk 1) (lPk 1)) (mRet (mC (.bl true))) mSkip)
  (mSeq (mIfS (mOr (mNot (mUser self (maCons (mVar 0) (maCons (mB fIx (mPk 1) (lPk 1) (mC (.int 0)) lId) maNil)))) (mNot (mUser self (maCons (mVar 0) (maCons (mB fIx (mPk 1) (lPk 1) (mC (.int 1)) lId) maNil))))) (mRet (mC (.bl false))) mSkip)
  (mRet (mUser run_can_stand (maCons (mVar 0) (maCons (mB fIx (mPk 1) (lPk 1) (mC (.int 0)) lId) (maCons (mB fIx (mPk 1) (lPk 1) (mC (.int 1)) lId) (maCons (mB fIx (mPk 1) (lPk 1) (mC (.int 2)) lId) maNil))))))))
def run_can_be_led : Nat → UF
  | 0 => runBad
  | n + 1 => runF 2 2 (m_can_be_led (run_can_be_led n))
theorem S_can_be_led : FnScope N_can_be_led ["question", "plan"] (defScope (top 18)) := ⟨rfl, rfl, rfl, by decide +kernel, rfl, by decide +kernel, by decide +kernel⟩
theorem b_can_be_led (B : Bts mg) (d_can_stand : Df P w K mg base C "can_stand" 4 8 run_can_stand) {k : Nat} (hk : 8 ≤ k) {self : UF} (dself : Df P w K mg base C "can_be_led" 2 k self) : ∀ (X : Cx) (W : WX), Cs P w K mg base N_can_be_led (defScope (top 18)) k X W → JB X C W (defBody (top 18)) (m_can_be_led self) := fun _ _ c =>
  (jb_cons (js_if (jt_val (x_isInt c.e B (p_ c.e (Nm.by (by decide +kernel))) (Ng.by (by decide +kernel)) (Ng.by (by decide +kernel)) rfl) (fun _ => rfl)) (jb_one (js_ret j_bl)) jb_nil)
  (jb_cons (js_if (JW.t (jw_or (jt_not (jt_val (x_call c.e dself (Nat.le_refl _) (Ng.by (by decide +kernel)) (j_vcons (v_ c.e (Nm.by (by decide +kernel))) (j_vcons (x_ix (p_ c.e (Nm.by (by decide +kernel))) (JE.o j_int) (fun _ _ => rfl)) j_vnil rfl) rfl) (lenS (lenS len0)) rfl rfl) (fun _ => rfl))) (jw_or1 (jt_not (jt_val (x_call c.e dself (Nat.le_refl _) (Ng.by (by decide +kernel)) (j_vcons (v_ c.e (Nm.by (by decide +kernel))) (j_vcons (x_ix (p_ c.e (Nm.by (by decide +kernel))) (JE.o j_int) (fun _ _ => rfl)) j_vnil rfl) rfl) (lenS (lenS len0)) rfl rfl) (fun _ => rfl)))))) (jb_one (js_ret j_bl)) jb_nil)
  (jb_one (js_ret (x_call c.e d_can_stand (Nat.le_trans (by decide) hk) (Ng.by (by decide +kernel)) (j_vcons (v_ c.e (Nm.by (by decide +kernel))) (j_vcons (x_ix (p_ c.e (Nm.by (by decide +kernel))) (JE.o j_int) (fun _ _ => rfl)) (j_vcons (x_ix (p_ c.e (Nm.by (by decide +kernel))) (JE.o j_int) (fun _ _ => rfl)) (j_vcons (x_ix (p_ c.e (Nm.by (by decide +kernel))) (JE.o j_int) (fun _ _ => rfl)) j_vnil rfl) rfl) rfl) rfl) (lenS (lenS (lenS (lenS len0)))) rfl rfl)))))
theorem D_can_be_led (B : Bts mg) (d_can_stand : Df P w K mg base C "can_stand" 4 8 run_can_stand) (F : FunD K "can_be_led" "can_be_led" (defArgs (top 18)) (defBody (top 18)) (defScope (top 18)) [] [] f fd) (hm : mg "can_be_led" = some (.ref f)) : ∀ n : Nat, Df P w K mg base C "can_be_led" 2 (9 + n) (run_can_be_led n)
  | 0 => def_bad F S_can_be_led hm F.kp (F.bindsN fun _ _ _ _ _ _ us hl => match us, hl with | [_, _], _ => rfl)
  | n + 1 => def_ok F S_can_be_led hm F.kp (F.bindsN fun _ _ _ _ _ _ us hl => match us, hl with | [_, _], _ => rfl) (b_can_be_led B d_can_stand (Nat.le_trans (by decide) (Nat.le_add_right 9 n)) (D_can_be_led B d_can_stand F hm n))
abbrev N_is_part_plan : List Str := ["question", "value", "tables"]
def m_is_part_plan : MS :=
  (mSeq (mIfS (mNot (mUser (run_is_shape 6) (maCons (mVar 0) (maCons (mVar 1) (maCons (mC (.int 3)) maNil))))) (mRet (mC (.bl false))) mSkip)
  (mSeq (mSet 2 (mUser (run_tables_in 6) (maCons (mVar 1) maNil)))
  (mRet (mAnd (mB fEq (mU bLenSet (mPk 2) (lPk 2)) lId (mCall bLen (maCons (mPk 2) maNil) (laCons (lPk 2) laNil)) lId) (mUser (run_can_be_led 6) (maCons (mVar 0) (maCons (mVar 1) maNil)))))))
def run_is_part_plan : UF := runF 2 3 m_is_part_plan
theorem S_is_part_plan : FnScope N_is_part_plan ["question", "value"] (defScope (top 19)) := ⟨rfl, rfl, rfl, by decide +kernel, rfl, by decide +kernel, by decide +kernel⟩
theorem b_is_part_plan (B : Bts mg) (hset : mg "set" = none) (d_tables_in : Df P w K mg base C "tables_in" 1 7 (run_tables_in 6)) (d_is_shape : Df P w K mg base C "is_shape" 3 8 (run_is_shape 6)) (d_can_be_led : Df P w K mg base C "can_be_led" 2 15 (run_can_be_led 6)) : ∀ (X : Cx) (W : WX), Cs P w K mg base N_is_part_plan (defScope (top 19)) 15 X W → JB X C W (defBody (top 19)) m_is_part_plan := fun _ _ c =>
  (jb_cons (js_if (jt_not (jt_val (x_call c.e d_is_shape (by decide) (Ng.by (by decide +kernel)) (j_vcons (v_ c.e (Nm.by (by decide +kernel))) (j_vcons (v_ c.e (Nm.by (by decide +kernel))) (j_vcons j_int j_vnil rfl) rfl) rfl) (lenS (lenS (lenS len0))) rfl rfl) (fun _ => rfl))) (jb_one (js_ret j_bl)) jb_nil)
  (jb_cons (st_set c (Nb.by (by decide +kernel)) (x_call c.e d_tables_in (by decide) (Ng.by (by decide +kernel)) (j_vcons (v_ c.e (Nm.by (by decide +kernel))) j_vnil rfl) (lenS len0) rfl rfl) rfl rfl)
  (jb_one (js_ret (jv_and (x_eq (JE.o (x_lenSet c.e B hset (p_ c.e (Nm.by (by decide +kernel))) (Ng.by (by decide +kernel)) (Ng.by (by decide +kernel)) rfl)) (JE.o (x_len c.e B (j_acons (p_ c.e (Nm.by (by decide +kernel))) j_anil rfl) rfl rfl (Ng.by (by decide +kernel)))) c.e rfl) (jv_one (x_call c.e d_can_be_led (by decide) (Ng.by (by decide +kernel)) (j_vcons (v_ c.e (Nm.by (by decide +kernel))) (j_vcons (v_ c.e (Nm.by (by decide +kernel))) j_vnil rfl) rfl) (lenS (lenS len0)) rfl rfl)))))))
theorem D_is_part_plan (B : Bts mg) (hset : mg "set" = none) (d_tables_in : Df P w K mg base C "tables_in" 1 7 (run_tables_in 6)) (d_is_shape : Df P w K mg base C "is_shape" 3 8 (run_is_shape 6)) (d_can_be_led : Df P w K mg base C "can_be_led" 2 15 (run_can_be_led 6)) (F : FunD K "is_part_plan" "is_part_plan" (defArgs (top 19)) (defBody (top 19)) (defScope (top 19)) [] [] f fd) (hm : mg "is_part_plan" = some (.ref f)) : Df P w K mg base C "is_part_plan" 2 16 run_is_part_plan := def_ok F S_is_part_plan hm F.kp (F.bindsN fun _ _ _ _ _ _ us hl => match us, hl with | [_, _], _ => rfl) (b_is_part_plan B hset d_tables_in d_is_shape d_can_be_led)
abbrev N_is_good_plan : List Str := ["question", "value"]
def m_is_good_plan : MS :=
  (mRet (mAnd (mUser run_is_part_plan (maCons (mVar 0) (maCons (mVar 1) maNil))) (mB fEq (mCall bLen (maCons (mUser (run_tables_in 6) (maCons (mVar 1) maNil)) maNil) (laCons lId laNil)) lId (mCall bLen (maCons (mB fIx (mPk 0) (lPk 0) (mC (.int 0)) lId) maNil) (laCons lId laNil)) lId)))
def run_is_good_plan : UF := runF 2 2 m_is_good_plan
theorem S_is_good_plan : FnScope N_is_good_plan ["question", "value"] (defScope (top 20)) := ⟨rfl, rfl, rfl, by decide +kernel, rfl, by decide +kernel, by decide +kernel⟩
theorem b_is_good_plan (B : Bts mg) (d_is_part_plan : Df P w K mg base C "is_part_plan" 2 16 run_is_part_plan) (d_tables_in : Df P w K mg base C "tables_in" 1 7 (run_tables_in 6)) : ∀ (X : Cx) (W : WX), Cs P w K mg base N_is_good_plan (defScope (top 20)) 16 X W → JB X C W (defBody (top 20)) m_is_good_plan := fun _ _ c =>
  (jb_one (js_ret (jv_and (x_call c.e d_is_part_plan (by decide) (Ng.by (by decide +kernel)) (j_vcons (v_ c.e (Nm.by (by decide +kernel))) (j_vcons (v_ c.e (Nm.by (by decide +kernel))) j_vnil rfl) rfl) (lenS (lenS len0)) rfl rfl) (jv_one (x_eq (JE.o (x_len c.e B (j_acons (JE.o (x_call c.e d_tables_in (by decide) (Ng.by (by decide +kernel)) (j_vcons (v_ c.e (Nm.by (by decide +kernel))) j_vnil rfl) (lenS len0) rfl rfl)) j_anil rfl) rfl rfl (Ng.by (by decide +kernel)))) (JE.o (x_len c.e B (j_acons (JE.o (x_ix (p_ c.e (Nm.by (by decide +kernel))) (JE.o j_int) (fun _ _ => rfl))) j_anil rfl) rfl rfl (Ng.by (by decide +kernel)))) c.e rfl)))))
theorem D_is_good_plan (B : Bts mg) (d_is_part_plan : Df P w K mg base C "is_part_plan" 2 16 run_is_part_plan) (d_tables_in : Df P w K mg base C "tables_in" 1 7 (run_tables_in 6)) (F : FunD K "is_good_plan" "is_good_plan" (defArgs (top 20)) (defBody (top 20)) (defScope (top 20)) [] [] f fd) (hm : mg "is_good_plan" = some (.ref f)) : Df P w K mg base C "is_good_plan" 2 17 run_is_good_plan := def_ok F S_is_good_plan hm F.kp (F.bindsN fun _ _ _ _ _ _ us hl => match us, hl with | [_, _], _ => rfl) (b_is_good_plan B d_is_part_plan d_tables_in)
abbrev N_need_plan : List Str := ["question", "value"]
def m_need_plan : MS :=
  (mIfS (mNot (mUser run_is_good_plan (maCons (mVar 0) (maCons (mVar 1) maNil)))) (mRaise 2) mSkip)
def run_need_plan : UF := runF 2 2 m_need_plan
theorem S_need_plan : FnScope N_need_plan ["question", "value"] (defScope (top 22)) := ⟨rfl, rfl, rfl, by decide +kernel, rfl, by decide +kernel, by decide +kernel⟩
theorem b_need_plan (B : Bts mg) (e_InvalidPlan : Er K mg C "InvalidPlan" 2) (d_is_good_plan : Df P w K mg base C "is_good_plan" 2 17 run_is_good_plan) : ∀ (X : Cx) (W : WX), Cs P w K mg base N_need_plan (defScope (top 22)) 17 X W → JB X C W (defBody (top 22)) m_need_plan := fun _ _ c =>
  (jb_one (js_if (jt_not (jt_val (x_call c.e d_is_good_plan (by decide) (Ng.by (by decide +kernel)) (j_vcons (v_ c.e (Nm.by (by decide +kernel))) (j_vcons (v_ c.e (Nm.by (by decide +kernel))) j_vnil rfl) rfl) (lenS (lenS len0)) rfl rfl) (fun _ => rfl))) (jb_one (st_raise c e_InvalidPlan (Ng.by (by decide +kernel)))) jb_nil))
theorem D_need_plan (B : Bts mg) (e_InvalidPlan : Er K mg C "InvalidPlan" 2) (d_is_good_plan : Df P w K mg base C "is_good_plan" 2 17 run_is_good_plan) (F : FunD K "need_plan" "need_plan" (defArgs (top 22)) (defBody (top 22)) (defScope (top 22)) [] [] f fd) (hm : mg "need_plan" = some (.ref f)) : Df P w K mg base C "need_plan" 2 18 run_need_plan := def_ok F S_need_plan hm F.kp (F.bindsN fun _ _ _ _ _ _ us hl => match us, hl with | [_, _], _ => rfl) (b_need_plan B e_InvalidPlan d_is_good_plan)
abbrev N_need_both : List Str := ["question", "plan"]
def m_need_both : MS :=
  (mSeq (mDrop (mUser run_need_question (maCons (mVar 0) maNil)))
  (mDrop (mUser run_need_plan (maCons (mVar 0) (maCons (mVar 1) maNil)))))
def run_need_both : UF := runF 2 2 m_need_both
theorem S_need_both : FnScope N_need_both ["question", "plan"] (defScope (top 23)) := ⟨rfl, rfl, rfl, by decide +kernel, rfl, by decide +kernel, by decide +kernel⟩
theorem b_need_both (B : Bts mg) (d_need_question : Df P w K mg base C "need_question" 1 4 run_need_question) (d_need_plan : Df P w K mg base C "need_plan" 2 18 run_need_plan) : ∀ (X : Cx) (W : WX), Cs P w K mg base N_need_both (defScope (top 23)) 18 X W → JB X C W (defBody (top 23)) m_need_both := fun _ _ c =>
  (jb_cons (js_expr (x_call c.e d_need_question (by decide) (Ng.by (by decide +kernel)) (j_vcons (v_ c.e (Nm.by (by decide +kernel))) j_vnil rfl) (lenS len0) rfl rfl) rfl)
  (jb_one (js_expr (x_call c.e d_need_plan (by decide) (Ng.by (by decide +kernel)) (j_vcons (v_ c.e (Nm.by (by decide +kernel))) (j_vcons (v_ c.e (Nm.by (by decide +kernel))) j_vnil rfl) rfl) (lenS (lenS len0)) rfl rfl) rfl)))
theorem D_need_both (B : Bts mg) (d_need_question : Df P w K mg base C "need_question" 1 4 run_need_question) (d_need_plan : Df P w K mg base C "need_plan" 2 18 run_need_plan) (F : FunD K "need_both" "need_both" (defArgs (top 23)) (defBody (top 23)) (defScope (top 23)) [] [] f fd) (hm : mg "need_both" = some (.ref f)) : Df P w K mg base C "need_both" 2 19 run_need_both := def_ok F S_need_both hm F.kp (F.bindsN fun _ _ _ _ _ _ us hl => match us, hl with | [_, _], _ => rfl) (b_need_both B d_need_question d_need_plan)
abbrev N_text_of : List Str := ["plan"]
def m_text_of (self : UF) : MS :=
  (mSeq (mIfS (mU isInt (mPk 0) (lPk 0)) (mRet (mCall bStrI (maCons (mPk 0) maNil) (laCons (lPk 0) laNil))) mSkip)
  (mRet (mJoined (mjCons (mC (.str [40])) (mjCons (mFmt (mUser self (maCons (mB fIx (mPk 0) (lPk 0) (mC (.int 0)) lId) maNil))) (mjCons (mC (.str [32])) (mjCons (mFmt (mB fIx (mPk 0) (lPk 0) (mC (.int 2)) lId)) (mjCons (mC (.str [32])) (mjCons (mFmt (mUser self (maCons (mB fIx (mPk 0) (lPk 0) (mC (.int 1)) lId) maNil))) (mjCons (mC (.str [41])) mjNil))))))))))
def run_text_of : Nat → UF
  | 0 => runBad
  | n + 1 => runF 1 1 (m_text_of (run_text_of n))
theorem S_text_of : FnScope N_text_of ["plan"] (defScope (top 26)) := ⟨rfl, rfl, rfl, by decide +kernel, rfl, by decide +kernel, by decide +kernel⟩
theorem b_text_of (B : Bts mg) {k : Nat} (hk : 0 ≤ k) {self : UF} (dself : Df P w K mg base C "text_of" 1 k self) : ∀ (X : Cx) (W : WX), Cs P w K mg base N_text_of (defScope (top 26)) k X W → JB X C W (defBody (top 26)) (m_text_of self) := fun _ _ c =>
  (jb_cons (js_if (jt_val (x_isInt c.e B (p_ c.e (Nm.by (by decide +kernel))) (Ng.by (by decide +kernel)) (Ng.by (by decide +kernel)) rfl) (fun _ => rfl)) (jb_one (js_ret (x_strI c.e B (j_acons (p_ c.e (Nm.by (by decide +kernel))) j_anil rfl) rfl rfl (Ng.by (by decide +kernel))))) jb_nil)
  (jb_one (js_ret (x_joined (jj_cons (j_str rfl) (jj_cons (x_fmt (x_call c.e dself (Nat.le_refl _) (Ng.by (by decide +kernel)) (j_vcons (x_ix (p_ c.e (Nm.by (by decide +kernel))) (JE.o j_int) (fun _ _ => rfl)) j_vnil rfl) (lenS len0) rfl rfl)) (jj_cons (j_str rfl) (jj_cons (x_fmt (x_ix (p_ c.e (Nm.by (by decide +kernel))) (JE.o j_int) (fun _ _ => rfl))) (jj_cons (j_str rfl) (jj_cons (x_fmt (x_call c.e dself (Nat.le_refl _) (Ng.by (by decide +kernel)) (j_vcons (x_ix (p_ c.e (Nm.by (by decide +kernel))) (JE.o j_int) (fun _ _ => rfl)) j_vnil rfl) (lenS len0) rfl rfl)) (jj_cons (j_str rfl) jj_nil)))))))))))
theorem D_text_of (B : Bts mg) (F : FunD K "text_of" "text_of" (defArgs (top 26)) (defBody (top 26)) (defScope (top 26)) [] [] f fd) (hm : mg "text_of" = some (.ref f)) : ∀ n : Nat, Df P w K mg base C "text_of" 1 (1 + n) (run_text_of n)
  | 0 => def_bad F S_text_of hm F.kp (F.bindsN fun _ _ _ _ _ _ us hl => match us, hl with | [_], _ => rfl)
  | n + 1 => def_ok F S_text_of hm F.kp (F.bindsN fun _ _ _ _ _ _ us hl => match us, hl with | [_], _ => rfl) (b_text_of B (Nat.le_trans (by decide) (Nat.le_add_right 1 n)) (D_text_of B F hm n))
abbrev N_plan_text : List Str := ["question", "plan"]
def m_plan_text : MS :=
  (mSeq (mDrop (mUser run_need_both (maCons (mVar 0) (maCons (mVar 1) maNil))))
  (mRet (mUser (run_text_of 6) (maCons (mVar 1) maNil))))
def run_plan_text : UF := runF 2 2 m_plan_text
theorem S_plan_text : FnScope N_plan_text ["question", "plan"] (defScope (top 34)) := ⟨rfl, rfl, rfl, by decide +kernel, rfl, by decide +kernel, by decide +kernel⟩
theorem b_plan_text (B : Bts mg) (d_need_both : Df P w K mg base C "need_both" 2 19 run_need_both) (d_text_of : Df P w K mg base C "text_of" 1 7 (run_text_of 6)) : ∀ (X : Cx) (W : WX), Cs P w K mg base N_plan_text (defScope (top 34)) 19 X W → JB X C W (defBody (top 34)) m_plan_text := fun _ _ c =>
  (jb_cons (js_expr (x_call c.e d_need_both (by decide) (Ng.by (by decide +kernel)) (j_vcons (v_ c.e (Nm.by (by decide +kernel))) (j_vcons (v_ c.e (Nm.by (by decide +kernel))) j_vnil rfl) rfl) (lenS (lenS len0)) rfl rfl) rfl)
  (jb_one (js_ret (x_call c.e d_text_of (by decide) (Ng.by (by decide +kernel)) (j_vcons (v_ c.e (Nm.by (by decide +kernel))) j_vnil rfl) (lenS len0) rfl rfl))))
theorem D_plan_text (B : Bts mg) (d_need_both : Df P w K mg base C "need_both" 2 19 run_need_both) (d_text_of : Df P w K mg base C "text_of" 1 7 (run_text_of 6)) (F : FunD K "plan_text" "plan_text" (defArgs (top 34)) (defBody (top 34)) (defScope (top 34)) [] [] f fd) (hm : mg "plan_text" = some (.ref f)) : Df P w K mg base C "plan_text" 2 20 run_plan_text := def_ok F S_plan_text hm F.kp (F.bindsN fun _ _ _ _ _ _ us hl => match us, hl with | [_, _], _ => rfl) (b_plan_text B d_need_both d_text_of)
abbrev N_line_of : List Str := ["word", "numbers", "number"]
def m_line_of : MS :=
  (mRet (mM1 fJoin (mC (.str [32])) (mB fAdd (mLst (maCons (mVar 0) maNil)) lId (mAsV (mLc (mIt (mVar 1)) [2] (mgName 2) mYes (mCall bStrI (maCons (mPk 2) maNil) (laCons (lPk 2) laNil)))) lId) lId))
def run_line_of : UF := runF 2 3 m_line_of
theorem S_line_of : FnScope N_line_of ["word", "numbers"] (defScope (top 29)) := ⟨rfl, rfl, rfl, by decide +kernel, rfl, by decide +kernel, by decide +kernel⟩
theorem b_line_of (B : Bts mg) : ∀ (X : Cx) (W : WX), Cs P w K mg base N_line_of (defScope (top 29)) 0 X W → JB X C W (defBody (top 29)) m_line_of := fun _ _ c =>
  (jb_one (js_ret (x_join (j_str rfl) (JE.o (x_add (JE.o (j_lst (j_vcons (v_ c.e (Nm.by (by decide +kernel))) j_vnil rfl))) (JE.o (JF.e (x_lc [("number", 2)] c.e (j_it (v_ c.e (Nm.by (by decide +kernel)))) (blk_by (by decide +kernel)) (fun _ c' => (tg_ c' (Nl.by (by decide +kernel)))) (fun _ c' => jts_nil) (fun _ c' => (x_strI c' B (j_acons (p_ c' (Nm.by (by decide +kernel))) j_anil rfl) rfl rfl (Ng.by (by decide +kernel)))) (by decide) (fun _ => rfl)))))) rfl rfl rfl)))
theorem D_line_of (B : Bts mg) (F : FunD K "line_of" "line_of" (defArgs (top 29)) (defBody (top 29)) (defScope (top 29)) [] [] f fd) (hm : mg "line_of" = some (.ref f)) : Df P w K mg base C "line_of" 2 1 run_line_of := def_ok F S_line_of hm F.kp (F.bindsN fun _ _ _ _ _ _ us hl => match us, hl with | [_, _], _ => rfl) (b_line_of B)
abbrev N_lines_of : List Str := ["question", "tables", "table", "link", "at"]
def m_lines_of : MS :=
  (mSeq (mSet 1 (mAsV (mLc (mIt (mB fIx (mPk 0) (lPk 0) (mC (.int 0)) lId)) [2] (mgName 2) mYes (mUser run_line_of (maCons (mC (.str [116, 97, 98, 108, 101])) (maCons (mVar 2) maNil))))))
  (mRet (mB fAdd (mB fAdd (mPk 1) (lPk 1) (mAsV (mLc (mIt (mB fIx (mPk 0) (lPk 0) (mC (.int 1)) lId)) [3] (mgName 3) mYes (mUser run_line_of (maCons (mC (.str [108, 105, 110, 107])) (maCons (mVar 3) maNil))))) lId) lId (mAsV (mLc (mIt (mB fIx (mPk 0) (lPk 0) (mC (.int 2)) lId)) [4] (mgName 4) mYes (mUser run_line_of (maCons (mC (.str [105, 110, 100, 101, 120])) (maCons (mTup (maCons (mVar 4) maNil)) maNil))))) lId)))
def run_lines_of : UF := runF 1 5 m_lines_of
theorem S_lines_of : FnScope N_lines_of ["question"] (defScope (top 30)) := ⟨rfl, rfl, rfl, by decide +kernel, rfl, by decide +kernel, by decide +kernel⟩
theorem b_lines_of (B : Bts mg) (d_line_of : Df P w K mg base C "line_of" 2 1 run_line_of) : ∀ (X : Cx) (W : WX), Cs P w K mg base N_lines_of (defScope (top 30)) 1 X W → JB X C W (defBody (top 30)) m_lines_of := fun _ _ c =>
  (jb_cons (x_setLc [("table", 2)] c.e (j_it (x_ix (p_ c.e (Nm.by (by decide +kernel))) (JE.o j_int) (fun _ _ => rfl))) (blk_by (by decide +kernel)) (fun _ c' => (tg_ c' (Nl.by (by decide +kernel)))) (fun _ c' => jts_nil) (fun _ c' => (x_call c' d_line_of (by decide) (Ng.by (by decide +kernel)) (j_vcons (j_str rfl) (j_vcons (v_ c' (Nm.by (by decide +kernel))) j_vnil rfl) rfl) (lenS (lenS len0)) rfl rfl)) (by decide) (fun _ => rfl) (Nl.by (by decide +kernel)) rfl rfl (by decide +kernel))
  (jb_one (js_ret (x_add (JE.o (x_add (p_ c.e (Nm.by (by decide +kernel))) (JE.o (JF.e (x_lc [("link", 3)] c.e (j_it (x_ix (p_ c.e (Nm.by (by decide +kernel))) (JE.o j_int) (fun _ _ => rfl))) (blk_by (by decide +kernel)) (fun _ c' => (tg_ c' (Nl.by (by decide +kernel)))) (fun _ c' => jts_nil) (fun _ c' => (x_call c' d_line_of (by decide) (Ng.by (by decide +kernel)) (j_vcons (j_str rfl) (j_vcons (v_ c' (Nm.by (by decide +kernel))) j_vnil rfl) rfl) (lenS (lenS len0)) rfl rfl)) (by decide) (fun _ => rfl)))))) (JE.o (JF.e (x_lc [("at", 4)] c.e (j_it (x_ix (p_ c.e (Nm.by (by decide +kernel))) (JE.o j_int) (fun _ _ => rfl))) (blk_by (by decide +kernel)) (fun _ c' => (tg_ c' (Nl.by (by decide +kernel)))) (fun _ c' => jts_nil) (fun _ c' => (x_call c' d_line_of (by decide) (Ng.by (by decide +kernel)) (j_vcons (j_str rfl) (j_vcons (j_tup (j_vcons (v_ c' (Nm.by (by decide +kernel))) j_vnil rfl)) j_vnil rfl) rfl) (lenS (lenS len0)) rfl rfl)) (by decide) (fun _ => rfl))))))))
theorem D_lines_of (B : Bts mg) (d_line_of : Df P w K mg base C "line_of" 2 1 run_line_of) (F : FunD K "lines_of" "lines_of" (defArgs (top 30)) (defBody (top 30)) (defScope (top 30)) [] [] f fd) (hm : mg "lines_of" = some (.ref f)) : Df P w K mg base C "lines_of" 1 2 run_lines_of := def_ok F S_lines_of hm F.kp (F.bindsN fun _ _ _ _ _ _ us hl => match us, hl with | [_], _ => rfl) (b_lines_of B d_line_of)
abbrev N_question_text : List Str := ["question"]
def m_question_text : MS :=
  (mSeq (mDrop (mUser run_need_question (maCons (mVar 0) maNil)))
  (mRet (mM1 fJoin (mC (.str [10])) (mUser run_lines_of (maCons (mVar 0) maNil)) lId)))
def run_question_text : UF := runF 1 1 m_question_text
theorem S_question_text : FnScope N_question_text ["question"] (defScope (top 35)) := ⟨rfl, rfl, rfl, by decide +kernel, rfl, by decide +kernel, by decide +kernel⟩
theorem b_question_text (B : Bts mg) (d_need_question : Df P w K mg base C "need_question" 1 4 run_need_question) (d_lines_of : Df P w K mg base C "lines_of" 1 2 run_lines_of) : ∀ (X : Cx) (W : WX), Cs P w K mg base N_question_text (defScope (top 35)) 4 X W → JB X C W (defBody (top 35)) m_question_text := fun _ _ c =>
  (jb_cons (js_expr (x_call c.e d_need_question (by decide) (Ng.by (by decide +kernel)) (j_vcons (v_ c.e (Nm.by (by decide +kernel))) j_vnil rfl) (lenS len0) rfl rfl) rfl)
  (jb_one (js_ret (x_join (j_str rfl) (JE.o (x_call c.e d_lines_of (by decide) (Ng.by (by decide +kernel)) (j_vcons (v_ c.e (Nm.by (by decide +kernel))) j_vnil rfl) (lenS len0) rfl rfl)) rfl rfl rfl))))
theorem D_question_text (B : Bts mg) (d_need_question : Df P w K mg base C "need_question" 1 4 run_need_question) (d_lines_of : Df P w K mg base C "lines_of" 1 2 run_lines_of) (F : FunD K "question_text" "question_text" (defArgs (top 35)) (defBody (top 35)) (defScope (top 35)) [] [] f fd) (hm : mg "question_text" = some (.ref f)) : Df P w K mg base C "question_text" 1 5 run_question_text := def_ok F S_question_text hm F.kp (F.bindsN fun _ _ _ _ _ _ us hl => match us, hl with | [_], _ => rfl) (b_question_text B d_need_question d_lines_of)
abbrev N_number_in : List Str := ["word", "number"]
def m_number_in : MS :=
  (mRet (mIf (mB fIn (mPk 0) (lPk 0) (mAsV (mLc (mRange1 (maCons (mC (.int 100)) maNil)) [1] (mgName 1) mYes (mCall bStrI (maCons (mPk 1) maNil) (laCons (lPk 1) laNil)))) lId) (mCall bIntX (maCons (mPk 0) maNil) (laCons (lPk 0) laNil)) (mC .non)))
def run_number_in : UF := runF 1 2 m_number_in
theorem S_number_in : FnScope N_number_in ["word"] (defScope (top 31)) := ⟨rfl, rfl, rfl, by decide +kernel, rfl, by decide +kernel, by decide +kernel⟩
theorem b_number_in (B : Bts mg) : ∀ (X : Cx) (W : WX), Cs P w K mg base N_number_in (defScope (top 31)) 0 X W → JB X C W (defBody (top 31)) m_number_in := fun _ _ c =>
  (jb_one (js_ret (j_if (t_in (p_ c.e (Nm.by (by decide +kernel))) (JE.o (JF.e (x_lc [("number", 1)] c.e (x_range1 c.e B (Ng.by (by decide +kernel)) (j_vcons j_int j_vnil rfl) rfl) (blk_by (by decide +kernel)) (fun _ c' => (tg_ c' (Nl.by (by decide +kernel)))) (fun _ c' => jts_nil) (fun _ c' => (x_strI c' B (j_acons (p_ c' (Nm.by (by decide +kernel))) j_anil rfl) rfl rfl (Ng.by (by decide +kernel)))) (by decide) (fun _ => rfl)))) rfl) (x_intX c.e B (j_acons (p_ c.e (Nm.by (by decide +kernel))) j_anil rfl) rfl rfl (Ng.by (by decide +kernel))) j_non)))
theorem D_number_in (B : Bts mg) (F : FunD K "number_in" "number_in" (defArgs (top 31)) (defBody (top 31)) (defScope (top 31)) [] [] f fd) (hm : mg "number_in" = some (.ref f)) : Df P w K mg base C "number_in" 1 1 run_number_in := def_ok F S_number_in hm F.kp (F.bindsN fun _ _ _ _ _ _ us hl => match us, hl with | [_], _ => rfl) (b_number_in B)
abbrev N_row_in : List Str := ["line", "words", "numbers", "word"]
def m_row_in : MS :=
  (mSeq (mSet 1 (mM1 fSplit (mVar 0) (mC (.str [32])) lId))
  (mSeq (mSet 2 (mCall bTuple (maCons (mAsV (mLc (mIt (mSl (mPk 1) (lPk 1) (mPrt (mC (.int 1))) (mC .non))) [3] (mgName 3) mYes (mUser run_number_in (maCons (mVar 3) maNil)))) maNil) (laCons lId laNil)))
  (mSeq (mIfS (mOr (mKIn [([116, 97, 98, 108, 101], 2), ([108, 105, 110, 107], 4), ([105, 110, 100, 101, 120], 1)] (mB fIx (mPk 1) (lPk 1) (mC (.int 0)) lId)) (mOr (mB fNe (mCall bLen (maCons (mPk 2) maNil) (laCons (lPk 2) laNil)) lId (mKGet [([116, 97, 98, 108, 101], 2), ([108, 105, 110, 107], 4), ([105, 110, 100, 101, 120], 1)] (mB fIx (mPk 1) (lPk 1) (mC (.int 0)) lId)) lId) (mB fIn (mC .non) lId (mPk 2) (lPk 2)))) (mRet (mC .non)) mSkip)
  (mRet (mTup (maCons (mB fIx (mPk 1) (lPk 1) (mC (.int 0)) lId) (maCons (mVar 2) maNil)))))))
def run_row_in : UF := runF 1 4 m_row_in
theorem S_row_in : FnScope N_row_in ["line"] (defScope (top 32)) := ⟨rfl, rfl, rfl, by decide +kernel, rfl, by decide +kernel, by decide +kernel⟩
theorem b_row_in (B : Bts mg) (h_LENGTHS : KvF w K mg "LENGTHS" [([116, 97, 98, 108, 101], 2), ([108, 105, 110, 107], 4), ([105, 110, 100, 101, 120], 1)]) (d_number_in : Df P w K mg base C "number_in" 1 1 run_number_in) : ∀ (X : Cx) (W : WX), Cs P w K mg base N_row_in (defScope (top 32)) 1 X W → JB X C W (defBody (top 32)) m_row_in := fun _ _ c =>
  (jb_cons (st_set c (Nb.by (by decide +kernel)) (x_split (v_ c.e (Nm.by (by decide +kernel))) (JE.o (j_str rfl)) rfl rfl rfl) rfl rfl)
  (jb_cons (st_set c (Nb.by (by decide +kernel)) (x_tuple c.e B (j_acons (JE.o (JF.e (x_lc [("word", 3)] c.e (j_it (j_sl (p_ c.e (Nm.by (by decide +kernel))) (jp_of j_int) jp_none)) (blk_by (by decide +kernel)) (fun _ c' => (tg_ c' (Nl.by (by decide +kernel)))) (fun _ c' => jts_nil) (fun _ c' => (x_call c' d_number_in (by decide) (Ng.by (by decide +kernel)) (j_vcons (v_ c' (Nm.by (by decide +kernel))) j_vnil rfl) (lenS len0) rfl rfl)) (by decide) (fun _ => rfl)))) j_anil rfl) rfl rfl (Ng.by (by decide +kernel))) rfl rfl)
  (jb_cons (js_if (JW.t (jw_or (t_knin c.e (Ng.by (by decide +kernel)) h_LENGTHS (x_ix (p_ c.e (Nm.by (by decide +kernel))) (JE.o j_int) (fun _ _ => rfl)) rfl) (jw_or (t_ne (JE.o (x_len c.e B (j_acons (p_ c.e (Nm.by (by decide +kernel))) j_anil rfl) rfl rfl (Ng.by (by decide +kernel)))) (JE.o (x_kget c.e (Ng.by (by decide +kernel)) h_LENGTHS (x_ix (p_ c.e (Nm.by (by decide +kernel))) (JE.o j_int) (fun _ _ => rfl)) (fun _ _ => rfl))) c.e rfl) (jw_or1 (t_in (JE.o j_non) (p_ c.e (Nm.by (by decide +kernel))) rfl))))) (jb_one (js_ret j_non)) jb_nil)
  (jb_one (js_ret (j_tup (j_vcons (x_ix (p_ c.e (Nm.by (by decide +kernel))) (JE.o j_int) (fun _ _ => rfl)) (j_vcons (v_ c.e (Nm.by (by decide +kernel))) j_vnil rfl) rfl)))))))
theorem D_row_in (B : Bts mg) (h_LENGTHS : KvF w K mg "LENGTHS" [([116, 97, 98, 108, 101], 2), ([108, 105, 110, 107], 4), ([105, 110, 100, 101, 120], 1)]) (d_number_in : Df P w K mg base C "number_in" 1 1 run_number_in) (F : FunD K "row_in" "row_in" (defArgs (top 32)) (defBody (top 32)) (defScope (top 32)) [] [] f fd) (hm : mg "row_in" = some (.ref f)) : Df P w K mg base C "row_in" 1 2 run_row_in := def_ok F S_row_in hm F.kp (F.bindsN fun _ _ _ _ _ _ us hl => match us, hl with | [_], _ => rfl) (b_row_in B h_LENGTHS d_number_in)
abbrev N_question_in : List Str := ["value", "lines", "rows", "tables", "links", "found", "line", "word", "numbers"]
def m_question_in : MS :=
  (mSeq (mIfS (mNot (mU isStr (mPk 0) (lPk 0))) (mRaiseF 3 (mC (.int 0))) mSkip)
  (mSeq (mSet 1 (mM1 fSplit (mVar 0) (mC (.str [10])) lId))
  (mSeq (mSet 2 (mAsV (mLc (mIt (mVar 1)) [6] (mgName 6) mYes (mUser run_row_in (maCons (mVar 6) maNil)))))
  (mSeq (mIfS (mB fInD (mC .non) lId (mPk 2) (lPk 2)) (mRaiseF 3 (mB fAdd (mIdxN 2) lId (mC (.int 1)) lId)) mSkip)
  (mSeq (mSet 3 (mCall bTuple (maCons (mAsV (mLc (mIt (mVar 2)) [7, 8] (mgTup 2 (mgsCons (mgName 7) (mgsCons (mgName 8) mgsNil))) (mB fEq (mPk 7) (lPk 7) (mC (.str [116, 97, 98, 108, 101])) lId) (mVar 8))) maNil) (laCons lId laNil)))
  (mSeq (mSet 4 (mCall bTuple (maCons (mAsV (mLc (mIt (mVar 2)) [7, 8] (mgTup 2 (mgsCons (mgName 7) (mgsCons (mgName 8) mgsNil))) (mB fEq (mPk 7) (lPk 7) (mC (.str [108, 105, 110, 107])) lId) (mVar 8))) maNil) (laCons lId laNil)))
  (mSeq (mSet 5 (mTup (maCons (mVar 3) (maCons (mVar 4) (maCons (mCall bTuple (maCons (mAsV (mLc (mIt (mVar 2)) [7, 8] (mgTup 2 (mgsCons (mgName 7) (mgsCons (mgName 8) mgsNil))) (mB fEq (mPk 7) (lPk 7) (mC (.str [105, 110, 100, 101, 120])) lId) (mB fIx (mPk 8) (lPk 8) (mC (.int 0)) lId))) maNil) (laCons lId laNil)) maNil)))))
  (mSeq (mIfS (mOr (mNot (mUser run_is_good_question (maCons (mVar 5) maNil))) (mB fNe (mUser run_lines_of (maCons (mVar 5) maNil)) lId (mPk 1) (lPk 1))) (mRaiseF 3 (mB fAdd (mCall bLen (maCons (mPk 1) maNil) (laCons (lPk 1) laNil)) lId (mC (.int 1)) lId)) mSkip)
  (mRet (mVar 5))))))))))
def run_question_in : UF := runF 1 9 m_question_in
theorem S_question_in : FnScope N_question_in ["value"] (defScope (top 33)) := ⟨rfl, rfl, rfl, by decide +kernel, rfl, by decide +kernel, by decide +kernel⟩
theorem b_question_in (B : Bts mg) (e_InvalidText : ErF P K mg C "InvalidText" 3) (d_row_in : Df P w K mg base C "row_in" 1 2 run_row_in) (d_is_good_question : Df P w K mg base C "is_good_question" 1 3 run_is_good_question) (d_lines_of : Df P w K mg base C "lines_of" 1 2 run_lines_of) : ∀ (X : Cx) (W : WX), Cs P w K mg base N_question_in (defScope (top 33)) 3 X W → JB X C W (defBody (top 33)) m_question_in := fun _ _ c =>
  (jb_cons (js_if (jt_not (jt_val (x_isStr c.e B (p_ c.e (Nm.by (by decide +kernel))) (Ng.by (by decide +kernel)) (Ng.by (by decide +kernel)) rfl) (fun _ => rfl))) (jb_one (st_raiseF c e_InvalidText (Ng.by (by decide +kernel)) j_int (by decide) rfl)) jb_nil)
  (jb_cons (st_set c (Nb.by (by decide +kernel)) (x_split (v_ c.e (Nm.by (by decide +kernel))) (JE.o (j_str rfl)) rfl rfl rfl) rfl rfl)
  (jb_cons (x_setLc [("line", 6)] c.e (j_it (v_ c.e (Nm.by (by decide +kernel)))) (blk_by (by decide +kernel)) (fun _ c' => (tg_ c' (Nl.by (by decide +kernel)))) (fun _ c' => jts_nil) (fun _ c' => (x_call c' d_row_in (by decide) (Ng.by (by decide +kernel)) (j_vcons (v_ c' (Nm.by (by decide +kernel))) j_vnil rfl) (lenS len0) rfl rfl)) (by decide) (fun _ => rfl) (Nl.by (by decide +kernel)) rfl rfl (by decide +kernel))
  (jb_cons (js_if (t_inD (JE.o j_non) (p_ c.e (Nm.by (by decide +kernel))) c.e rfl) (jb_one (st_raiseF c e_InvalidText (Ng.by (by decide +kernel)) (x_add (JE.o (x_idxN c.e (Nm.by (by decide +kernel)) rfl rfl)) (JE.o j_int)) (by decide) rfl)) jb_nil)
  (jb_cons (st_set c (Nb.by (by decide +kernel)) (x_tuple c.e B (j_acons (JE.o (JF.e (x_lc [("word", 7), ("numbers", 8)] c.e (j_it (v_ c.e (Nm.by (by decide +kernel)))) (blk_by (by decide +kernel)) (fun _ c' => (jg_tup c'.c.calm (jgs_cons (tg_ c' (Nl.by (by decide +kernel))) (jgs_cons (tg_ c' (Nl.by (by decide +kernel))) jgs_nil rfl) rfl) rfl rfl)) (fun _ c' => (jts_one (t_eq (p_ c' (Nm.by (by decide +kernel))) (JE.o (j_str rfl)) c' rfl))) (fun _ c' => (v_ c' (Nm.by (by decide +kernel)))) (by decide) (fun _ => rfl)))) j_anil rfl) rfl rfl (Ng.by (by decide +kernel))) rfl rfl)
  (jb_cons (st_set c (Nb.by (by decide +kernel)) (x_tuple c.e B (j_acons (JE.o (JF.e (x_lc [("word", 7), ("numbers", 8)] c.e (j_it (v_ c.e (Nm.by (by decide +kernel)))) (blk_by (by decide +kernel)) (fun _ c' => (jg_tup c'.c.calm (jgs_cons (tg_ c' (Nl.by (by decide +kernel))) (jgs_cons (tg_ c' (Nl.by (by decide +kernel))) jgs_nil rfl) rfl) rfl rfl)) (fun _ c' => (jts_one (t_eq (p_ c' (Nm.by (by decide +kernel))) (JE.o (j_str rfl)) c' rfl))) (fun _ c' => (v_ c' (Nm.by (by decide +kernel)))) (by decide) (fun _ => rfl)))) j_anil rfl) rfl rfl (Ng.by (by decide +kernel))) rfl rfl)
  (jb_cons (st_set c (Nb.by (by decide +kernel)) (j_tup (j_vcons (v_ c.e (Nm.by (by decide +kernel))) (j_vcons (v_ c.e (Nm.by (by decide +kernel))) (j_vcons (x_tuple c.e B (j_acons (JE.o (JF.e (x_lc [("word", 7), ("numbers", 8)] c.e (j_it (v_ c.e (Nm.by (by decide +kernel)))) (blk_by (by decide +kernel)) (fun _ c' => (jg_tup c'.c.calm (jgs_cons (tg_ c' (Nl.by (by decide +kernel))) (jgs_cons (tg_ c' (Nl.by (by decide +kernel))) jgs_nil rfl) rfl) rfl rfl)) (fun _ c' => (jts_one (t_eq (p_ c' (Nm.by (by decide +kernel))) (JE.o (j_str rfl)) c' rfl))) (fun _ c' => (x_ix (p_ c' (Nm.by (by decide +kernel))) (JE.o j_int) (fun _ _ => rfl))) (by decide) (fun _ => rfl)))) j_anil rfl) rfl rfl (Ng.by (by decide +kernel))) j_vnil rfl) rfl) rfl)) rfl rfl)
  (jb_cons (js_if (JW.t (jw_or (jt_not (jt_val (x_call c.e d_is_good_question (by decide) (Ng.by (by decide +kernel)) (j_vcons (v_ c.e (Nm.by (by decide +kernel))) j_vnil rfl) (lenS len0) rfl rfl) (fun _ => rfl))) (jw_or1 (t_ne (JE.o (x_call c.e d_lines_of (by decide) (Ng.by (by decide +kernel)) (j_vcons (v_ c.e (Nm.by (by decide +kernel))) j_vnil rfl) (lenS len0) rfl rfl)) (p_ c.e (Nm.by (by decide +kernel))) c.e rfl)))) (jb_one (st_raiseF c e_InvalidText (Ng.by (by decide +kernel)) (x_add (JE.o (x_len c.e B (j_acons (p_ c.e (Nm.by (by decide +kernel))) j_anil rfl) rfl rfl (Ng.by (by decide +kernel)))) (JE.o j_int)) (by decide) rfl)) jb_nil)
  (jb_one (js_ret (v_ c.e (Nm.by (by decide +kernel)))))))))))))
theorem D_question_in (B : Bts mg) (e_InvalidText : ErF P K mg C "InvalidText" 3) (d_row_in : Df P w K mg base C "row_in" 1 2 run_row_in) (d_is_good_question : Df P w K mg base C "is_good_question" 1 3 run_is_good_question) (d_lines_of : Df P w K mg base C "lines_of" 1 2 run_lines_of) (F : FunD K "question_in" "question_in" (defArgs (top 33)) (defBody (top 33)) (defScope (top 33)) [] [] f fd) (hm : mg "question_in" = some (.ref f)) : Df P w K mg base C "question_in" 1 4 run_question_in := def_ok F S_question_in hm F.kp (F.bindsN fun _ _ _ _ _ _ us hl => match us, hl with | [_], _ => rfl) (b_question_in B e_InvalidText d_row_in d_is_good_question d_lines_of)
abbrev N_read_question : List Str := ["value"]
def m_read_question : MS :=
  (mRet (mUser run_question_in (maCons (mVar 0) maNil)))
def run_read_question : UF := runF 1 1 m_read_question
theorem S_read_question : FnScope N_read_question ["value"] (defScope (top 36)) := ⟨rfl, rfl, rfl, by decide +kernel, rfl, by decide +kernel, by decide +kernel⟩
theorem b_read_question (B : Bts mg) (d_question_in : Df P w K mg base C "question_in" 1 4 run_question_in) : ∀ (X : Cx) (W : WX), Cs P w K mg base N_read_question (defScope (top 36)) 4 X W → JB X C W (defBody (top 36)) m_read_question := fun _ _ c =>
  (jb_one (js_ret (x_call c.e d_question_in (by decide) (Ng.by (by decide +kernel)) (j_vcons (v_ c.e (Nm.by (by decide +kernel))) j_vnil rfl) (lenS len0) rfl rfl)))
theorem D_read_question (B : Bts mg) (d_question_in : Df P w K mg base C "question_in" 1 4 run_question_in) (F : FunD K "read_question" "read_question" (defArgs (top 36)) (defBody (top 36)) (defScope (top 36)) [] [] f fd) (hm : mg "read_question" = some (.ref f)) : Df P w K mg base C "read_question" 1 5 run_read_question := def_ok F S_read_question hm F.kp (F.bindsN fun _ _ _ _ _ _ us hl => match us, hl with | [_], _ => rfl) (b_read_question B d_question_in)
abbrev N__law_read : List Str := ["_law_text_here", "e"]
def m__law_read : MS :=
  (mTryRead (mRet (mTup (maCons (mUser run_read_question (maCons (mVar 0) maNil)) (maCons (mC .non) maNil)))) ex_InvalidText 1)
def run__law_read : UF := runF 1 2 m__law_read
theorem S__law_read : FnScope N__law_read ["_law_text_here"] (defScope (top 49)) := ⟨rfl, rfl, rfl, by decide +kernel, rfl, by decide +kernel, by decide +kernel⟩
theorem b__law_read (B : Bts mg) (g_InvalidText : mg "InvalidText" = some (.ref (He.ga K "InvalidText"))) (g_JoinError : mg "JoinError" = some (.ref (He.ga K "JoinError"))) (cf_InvalidText : CaughtF K C (.ref (He.ga K "InvalidText")) (.ref (He.ga K "JoinError")) "line" ex_InvalidText) (d_read_question : Df P w K mg base C "read_question" 1 5 run_read_question) : ∀ (X : Cx) (W : WX), Cs P w K mg base N__law_read (defScope (top 49)) 5 X W → JB X C W (defBody (top 49)) m__law_read := fun _ _ c =>
  (jb_one (st_tryRead c B (Nl.by (by decide +kernel)) (Nm.by (by decide +kernel)) (Ng.by (by decide +kernel)) g_InvalidText (Ng.by (by decide +kernel)) g_JoinError (Ng.by (by decide +kernel)) cf_InvalidText (fun _ _ c => (jb_one (js_ret (j_tup (j_vcons (x_call c.e d_read_question (by decide) (Ng.by (by decide +kernel)) (j_vcons (v_ c.e (Nm.by (by decide +kernel))) j_vnil rfl) (lenS len0) rfl rfl) (j_vcons j_non j_vnil rfl) rfl))))) (fun _ => rfl)))
theorem D__law_read (B : Bts mg) (g_InvalidText : mg "InvalidText" = some (.ref (He.ga K "InvalidText"))) (g_JoinError : mg "JoinError" = some (.ref (He.ga K "JoinError"))) (cf_InvalidText : CaughtF K C (.ref (He.ga K "InvalidText")) (.ref (He.ga K "JoinError")) "line" ex_InvalidText) (d_read_question : Df P w K mg base C "read_question" 1 5 run_read_question) (F : FunD K "_law_read" "_law_read" (defArgs (top 49)) (defBody (top 49)) (defScope (top 49)) [] [] f fd) (hm : mg "_law_read" = some (.ref f)) : Df P w K mg base C "_law_read" 1 6 run__law_read := def_ok F S__law_read hm F.kp (F.bindsN fun _ _ _ _ _ _ us hl => match us, hl with | [_], _ => rfl) (b__law_read B g_InvalidText g_JoinError cf_InvalidText d_read_question)
abbrev N__law_power : List Str := ["_law_n", "_law_many", "_law_found", "_law_turn"]
def m__law_power : MS :=
  (mSeq (mSet 2 (mC (.int 1)))
  (mSeq (mFor (mRange1 (maCons (mVar 1) maNil)) (mgName 3) (mSet 2 (mB fMul (mPk 2) (lPk 2) (mPk 0) (lPk 0))))
  (mRet (mVar 2))))
def run__law_power : UF := runF 2 4 m__law_power
theorem S__law_power : FnScope N__law_power ["_law_n", "_law_many"] (defScope (top 41)) := ⟨rfl, rfl, rfl, by decide +kernel, rfl, by decide +kernel, by decide +kernel⟩
theorem b__law_power (B : Bts mg) : ∀ (X : Cx) (W : WX), Cs P w K mg base N__law_power (defScope (top 41)) 0 X W → JB X C W (defBody (top 41)) m__law_power := fun _ _ c =>
  (jb_cons (st_set c (Nb.by (by decide +kernel)) j_int rfl rfl)
  (jb_cons (st_for c (x_range1 c.e B (Ng.by (by decide +kernel)) (j_vcons (v_ c.e (Nm.by (by decide +kernel))) j_vnil rfl) rfl) (tgC c (Nb.by (by decide +kernel))) (jb_one (st_set c (Nb.by (by decide +kernel)) (x_mul (p_ c.e (Nm.by (by decide +kernel))) (p_ c.e (Nm.by (by decide +kernel)))) rfl rfl)) (fun _ => rfl))
  (jb_one (js_ret (v_ c.e (Nm.by (by decide +kernel)))))))
theorem D__law_power (B : Bts mg) (F : FunD K "_law_power" "_law_power" (defArgs (top 41)) (defBody (top 41)) (defScope (top 41)) [] [] f fd) (hm : mg "_law_power" = some (.ref f)) : Df P w K mg base C "_law_power" 2 1 run__law_power := def_ok F S__law_power hm F.kp (F.bindsN fun _ _ _ _ _ _ us hl => match us, hl with | [_, _], _ => rfl) (b__law_power B)
abbrev N__law_tables : List Str := ["_law_plan"]
def m__law_tables (self : UF) : MS :=
  (mSeq (mIfS (mU isInt (mPk 0) (lPk 0)) (mRet (mLst (maCons (mVar 0) maNil))) mSkip)
  (mRet (mCall bSortedX (maCons (mB fAdd (mUser self (maCons (mB fIx (mPk 0) (lPk 0) (mC (.int 0)) lId) maNil)) lId (mUser self (maCons (mB fIx (mPk 0) (lPk 0) (mC (.int 1)) lId) maNil)) lId) maNil) (laCons lId laNil))))
def run__law_tables : Nat → UF
  | 0 => runBad
  | n + 1 => runF 1 1 (m__law_tables (run__law_tables n))
theorem S__law_tables : FnScope N__law_tables ["_law_plan"] (defScope (top 43)) := ⟨rfl, rfl, rfl, by decide +kernel, rfl, by decide +kernel, by decide +kernel⟩
theorem b__law_tables (B : Bts mg) {k : Nat} (hk : 0 ≤ k) {self : UF} (dself : Df P w K mg base C "_law_tables" 1 k self) : ∀ (X : Cx) (W : WX), Cs P w K mg base N__law_tables (defScope (top 43)) k X W → JB X C W (defBody (top 43)) (m__law_tables self) := fun _ _ c =>
  (jb_cons (js_if (jt_val (x_isInt c.e B (p_ c.e (Nm.by (by decide +kernel))) (Ng.by (by decide +kernel)) (Ng.by (by decide +kernel)) rfl) (fun _ => rfl)) (jb_one (js_ret (j_lst (j_vcons (v_ c.e (Nm.by (by decide +kernel))) j_vnil rfl)))) jb_nil)
  (jb_one (js_ret (x_sortedX c.e B (j_acons (JE.o (x_add (JE.o (x_call c.e dself (Nat.le_refl _) (Ng.by (by decide +kernel)) (j_vcons (x_ix (p_ c.e (Nm.by (by decide +kernel))) (JE.o j_int) (fun _ _ => rfl)) j_vnil rfl) (lenS len0) rfl rfl)) (JE.o (x_call c.e dself (Nat.le_refl _) (Ng.by (by decide +kernel)) (j_vcons (x_ix (p_ c.e (Nm.by (by decide +kernel))) (JE.o j_int) (fun _ _ => rfl)) j_vnil rfl) (lenS len0) rfl rfl)))) j_anil rfl) rfl rfl (Ng.by (by decide +kernel))))))
theorem D__law_tables (B : Bts mg) (F : FunD K "_law_tables" "_law_tables" (defArgs (top 43)) (defBody (top 43)) (defScope (top 43)) [] [] f fd) (hm : mg "_law_tables" = some (.ref f)) : ∀ n : Nat, Df P w K mg base C "_law_tables" 1 (1 + n) (run__law_tables n)
  | 0 => def_bad F S__law_tables hm F.kp (F.bindsN fun _ _ _ _ _ _ us hl => match us, hl with | [_], _ => rfl)
  | n + 1 => def_ok F S__law_tables hm F.kp (F.bindsN fun _ _ _ _ _ _ us hl => match us, hl with | [_], _ => rfl) (b__law_tables B (Nat.le_trans (by decide) (Nat.le_add_right 1 n)) (D__law_tables B F hm n))
abbrev N__law_can : List Str := ["_law_question_here", "_law_left", "_law_right", "_law_method", "_law_mine", "_law_yours", "_law_one", "_law_other", "_law_below", "_law_power_here"]
def m__law_can : MS :=
  (mSeq (mIfS (mB fEq (mPk 3) (lPk 3) (mC (.str [108, 111, 111, 112])) lId) (mRet (mC (.bl true))) mSkip)
  (mSeq (mIfS (mAnd (mB fEq (mPk 3) (lPk 3) (mC (.str [105, 110, 100, 101, 120])) lId) (mOr (mNot (mU isInt (mPk 2) (lPk 2))) (mB fNotIn (mPk 2) (lPk 2) (mB fIx (mPk 0) (lPk 0) (mC (.int 2)) lId) lId))) (mRet (mC (.bl false))) mSkip)
  (mSeq (mPar 4 5 (maCons (mUser (run__law_tables 6) (maCons (mVar 1) maNil)) (maCons (mUser (run__law_tables 6) (maCons (mVar 2) maNil)) maNil)))
  (mSeq (mFor (mIt (mB fIx (mPk 0) (lPk 0) (mC (.int 1)) lId)) (mgTup 4 (mgsCons (mgName 6) (mgsCons (mgName 7) (mgsCons (mgName 8) (mgsCons (mgName 9) mgsNil))))) (mSeq (mIfS (mAnd (mB fIn (mPk 6) (lPk 6) (mPk 4) (lPk 4)) (mB fIn (mPk 7) (lPk 7) (mPk 5) (lPk 5))) (mRet (mC (.bl true))) mSkip)
  (mIfS (mAnd (mB fIn (mPk 6) (lPk 6) (mPk 5) (lPk 5)) (mB fIn (mPk 7) (lPk 7) (mPk 4) (lPk 4))) (mRet (mC (.bl true))) mSkip)))
  (mRet (mC (.bl false)))))))
def run__law_can : UF := runF 4 10 m__law_can
theorem S__law_can : FnScope N__law_can ["_law_question_here", "_law_left", "_law_right", "_law_method"] (defScope (top 44)) := ⟨rfl, rfl, rfl, by decide +kernel, rfl, by decide +kernel, by decide +kernel⟩
theorem b__law_can (B : Bts mg) (d__law_tables : Df P w K mg base C "_law_tables" 1 7 (run__law_tables 6)) : ∀ (X : Cx) (W : WX), Cs P w K mg base N__law_can (defScope (top 44)) 7 X W → JB X C W (defBody (top 44)) m__law_can := fun _ _ c =>
  (jb_cons (js_if (t_eq (p_ c.e (Nm.by (by decide +kernel))) (JE.o (j_str rfl)) c.e rfl) (jb_one (js_ret j_bl)) jb_nil)
  (jb_cons (js_if (JW.t (jw_and (t_eq (p_ c.e (Nm.by (by decide +kernel))) (JE.o (j_str rfl)) c.e rfl) (jw_and1 (JW.t (jw_or (jt_not (jt_val (x_isInt c.e B (p_ c.e (Nm.by (by decide +kernel))) (Ng.by (by decide +kernel)) (Ng.by (by decide +kernel)) rfl) (fun _ => rfl))) (jw_or1 (t_notin (p_ c.e (Nm.by (by decide +kernel))) (JE.o (x_ix (p_ c.e (Nm.by (by decide +kernel))) (JE.o j_int) (fun _ _ => rfl))) rfl))))))) (jb_one (js_ret j_bl)) jb_nil)
  (jb_cons (st_par c (Nl.by (by decide +kernel)) (Nl.by (by decide +kernel)) (by decide) (j_vcons (x_call c.e d__law_tables (by decide) (Ng.by (by decide +kernel)) (j_vcons (v_ c.e (Nm.by (by decide +kernel))) j_vnil rfl) (lenS len0) rfl rfl) (j_vcons (x_call c.e d__law_tables (by decide) (Ng.by (by decide +kernel)) (j_vcons (v_ c.e (Nm.by (by decide +kernel))) j_vnil rfl) (lenS len0) rfl rfl) j_vnil rfl) rfl) (fun _ => rfl) rfl)
  (jb_cons (st_for c (j_it (x_ix (p_ c.e (Nm.by (by decide +kernel))) (JE.o j_int) (fun _ _ => rfl))) (jg_tup c.e.c.calm (jgs_cons (tgC c (Nb.by (by decide +kernel))) (jgs_cons (tgC c (Nb.by (by decide +kernel))) (jgs_cons (tgC c (Nb.by (by decide +kernel))) (jgs_cons (tgC c (Nb.by (by decide +kernel))) jgs_nil rfl) rfl) rfl) rfl) rfl rfl) (jb_cons (js_if (JW.t (jw_and (t_in (p_ c.e (Nm.by (by decide +kernel))) (p_ c.e (Nm.by (by decide +kernel))) rfl) (jw_and1 (t_in (p_ c.e (Nm.by (by decide +kernel))) (p_ c.e (Nm.by (by decide +kernel))) rfl)))) (jb_one (js_ret j_bl)) jb_nil)
  (jb_one (js_if (JW.t (jw_and (t_in (p_ c.e (Nm.by (by decide +kernel))) (p_ c.e (Nm.by (by decide +kernel))) rfl) (jw_and1 (t_in (p_ c.e (Nm.by (by decide +kernel))) (p_ c.e (Nm.by (by decide +kernel))) rfl)))) (jb_one (js_ret j_bl)) jb_nil))) (fun _ => rfl))
  (jb_one (js_ret j_bl))))))
theorem D__law_can (B : Bts mg) (d__law_tables : Df P w K mg base C "_law_tables" 1 7 (run__law_tables 6)) (F : FunD K "_law_can" "_law_can" (defArgs (top 44)) (defBody (top 44)) (defScope (top 44)) [] [] f fd) (hm : mg "_law_can" = some (.ref f)) : Df P w K mg base C "_law_can" 4 8 run__law_can := def_ok F S__law_can hm F.kp (F.bindsN fun _ _ _ _ _ _ us hl => match us, hl with | [_, _, _, _], _ => rfl) (b__law_can B d__law_tables)
abbrev N__law_plans : List Str := ["_law_question_here", "_law_tables_here", "_law_found", "_law_mask", "_law_left", "_law_rest", "_law_table", "_law_right", "_law_one", "_law_other", "_law_method"]
def m__law_plans (self : UF) : MS :=
  (mSeq (mIfS (mB fEq (mCall bLen (maCons (mPk 1) maNil) (laCons (lPk 1) laNil)) lId (mC (.int 1)) lId) (mRet (mCall bList (maCons (mPk 1) maNil) (laCons (lPk 1) laNil))) mSkip)
  (mSeq (mOwn 2 (mLst maNil))
  (mSeq (mFor (mRange2 (maCons (mC (.int 1)) (maCons (mB fSub (mUser run__law_power (maCons (mC (.int 2)) (maCons (mCall bLen (maCons (mPk 1) maNil) (laCons (lPk 1) laNil)) maNil))) lId (mC (.int 1)) lId) maNil))) (mgName 3) (mSeq (mAsg (mgTup 2 (mgsCons (mgName 4) (mgsCons (mgName 5) mgsNil))) (mTup (maCons (mLst maNil) (maCons (mVar 3) maNil))))
  (mSeq (mFor (mIt (mVar 1)) (mgName 6) (mSeq (mSet 4 (mB fAdd (mPk 4) (lPk 4) (mIf (mB fEq (mB fMod (mPk 5) (lPk 5) (mC (.int 2)) lId) lId (mC (.int 1)) lId) (mLst (maCons (mVar 6) maNil)) (mLst maNil)) lId))
  (mSet 5 (mB fDiv (mPk 5) (lPk 5) (mC (.int 2)) lId))))
  (mSeq (mSet 7 (mAsV (mLc (mIt (mVar 1)) [6] (mgName 6) (mB fNotIn (mPk 6) (lPk 6) (mPk 4) (lPk 4)) (mVar 6))))
  (mFor (mIt (mUser self (maCons (mVar 0) (maCons (mVar 4) maNil)))) (mgName 8) (mFor (mIt (mUser self (maCons (mVar 0) (maCons (mVar 7) maNil)))) (mgName 9) (mFor (mIt (mLst (maCons (mC (.str [104, 97, 115, 104])) (maCons (mC (.str [105, 110, 100, 101, 120])) (maCons (mC (.str [108, 111, 111, 112])) maNil))))) (mgName 10) (mIfS (mUser run__law_can (maCons (mVar 0) (maCons (mVar 8) (maCons (mVar 9) (maCons (mVar 10) maNil))))) (mApp 2 (mTup (maCons (mVar 8) (maCons (mVar 9) (maCons (mVar 10) maNil))))) mSkip))))))))
  (mRet (mVar 2)))))
def run__law_plans : Nat → UF
  | 0 => runBad
  | n + 1 => runF 2 11 (m__law_plans (run__law_plans n))
theorem S__law_plans : FnScope N__law_plans ["_law_question_here", "_law_tables_here"] (defScope (top 45)) := ⟨rfl, rfl, rfl, by decide +kernel, rfl, by decide +kernel, by decide +kernel⟩
theorem b__law_plans (B : Bts mg) (d__law_power : Df P w K mg base C "_law_power" 2 1 run__law_power) (d__law_can : Df P w K mg base C "_law_can" 4 8 run__law_can) {k : Nat} (hk : 8 ≤ k) {self : UF} (dself : Df P w K mg base C "_law_plans" 2 k self) : ∀ (X : Cx) (W : WX), Cs P w K mg base N__law_plans (defScope (top 45)) k X W → JB X C W (defBody (top 45)) (m__law_plans self) := fun _ _ c =>
  (jb_cons (js_if (t_eq (JE.o (x_len c.e B (j_acons (p_ c.e (Nm.by (by decide +kernel))) j_anil rfl) rfl rfl (Ng.by (by decide +kernel)))) (JE.o j_int) c.e rfl) (jb_one (js_ret (x_list c.e B (j_acons (p_ c.e (Nm.by (by decide +kernel))) j_anil rfl) rfl rfl (Ng.by (by decide +kernel))))) jb_nil)
  (jb_cons (st_own c (Nb.by (by decide +kernel)) (jf_lst j_vnil) rfl rfl)
  (jb_cons (st_for c (x_range2 c.e B (Ng.by (by decide +kernel)) (j_vcons j_int (j_vcons (x_sub (JE.o (x_call c.e d__law_power (Nat.le_trans (by decide) hk) (Ng.by (by decide +kernel)) (j_vcons j_int (j_vcons (x_len c.e B (j_acons (p_ c.e (Nm.by (by decide +kernel))) j_anil rfl) rfl rfl (Ng.by (by decide +kernel))) j_vnil rfl) rfl) (lenS (lenS len0)) rfl rfl)) (JE.o j_int)) j_vnil rfl) rfl) rfl rfl) (tgC c (Nb.by (by decide +kernel))) (jb_cons (js_asg (jg_tup c.e.c.calm (jgs_cons (tgC c (Nb.by (by decide +kernel))) (jgs_cons (tgC c (Nb.by (by decide +kernel))) jgs_nil rfl) rfl) rfl rfl) (j_tup (j_vcons (j_lst j_vnil) (j_vcons (v_ c.e (Nm.by (by decide +kernel))) j_vnil rfl) rfl)) rfl (sw_by c.e.c.sc (fun _ => rfl)) rfl)
  (jb_cons (st_for c (j_it (v_ c.e (Nm.by (by decide +kernel)))) (tgC c (Nb.by (by decide +kernel))) (jb_cons (st_set c (Nb.by (by decide +kernel)) (x_add (p_ c.e (Nm.by (by decide +kernel))) (JE.o (j_if (t_eq (JE.o (x_mod (p_ c.e (Nm.by (by decide +kernel))) (JE.o j_int))) (JE.o j_int) c.e rfl) (j_lst (j_vcons (v_ c.e (Nm.by (by decide +kernel))) j_vnil rfl)) (j_lst j_vnil)))) rfl rfl)
  (jb_one (st_set c (Nb.by (by decide +kernel)) (x_div (p_ c.e (Nm.by (by decide +kernel))) (JE.o j_int)) rfl rfl))) (fun _ => rfl))
  (jb_cons (x_setLc [("_law_table", 6)] c.e (j_it (v_ c.e (Nm.by (by decide +kernel)))) (blk_by (by decide +kernel)) (fun _ c' => (tg_ c' (Nl.by (by decide +kernel)))) (fun _ c' => (jts_one (t_notin (p_ c' (Nm.by (by decide +kernel))) (p_ c' (Nm.by (by decide +kernel))) rfl))) (fun _ c' => (v_ c' (Nm.by (by decide +kernel)))) (by decide) (fun _ => rfl) (Nl.by (by decide +kernel)) rfl rfl (by decide +kernel))
  (jb_one (st_for c (j_it (x_call c.e dself (Nat.le_refl _) (Ng.by (by decide +kernel)) (j_vcons (v_ c.e (Nm.by (by decide +kernel))) (j_vcons (v_ c.e (Nm.by (by decide +kernel))) j_vnil rfl) rfl) (lenS (lenS len0)) rfl rfl)) (tgC c (Nb.by (by decide +kernel))) (jb_one (st_for c (j_it (x_call c.e dself (Nat.le_refl _) (Ng.by (by decide +kernel)) (j_vcons (v_ c.e (Nm.by (by decide +kernel))) (j_vcons (v_ c.e (Nm.by (by decide +kernel))) j_vnil rfl) rfl) (lenS (lenS len0)) rfl rfl)) (tgC c (Nb.by (by decide +kernel))) (jb_one (st_for c (j_it (j_lst (j_vcons (j_str rfl) (j_vcons (j_str rfl) (j_vcons (j_str rfl) j_vnil rfl) rfl) rfl))) (tgC c (Nb.by (by decide +kernel))) (jb_one (js_if (jt_val (x_call c.e d__law_can (Nat.le_trans (by decide) hk) (Ng.by (by decide +kernel)) (j_vcons (v_ c.e (Nm.by (by decide +kernel))) (j_vcons (v_ c.e (Nm.by (by decide +kernel))) (j_vcons (v_ c.e (Nm.by (by decide +kernel))) (j_vcons (v_ c.e (Nm.by (by decide +kernel))) j_vnil rfl) rfl) rfl) rfl) (lenS (lenS (lenS (lenS len0)))) rfl rfl) (fun _ => rfl)) (jb_one (st_app c (Nm.by (by decide +kernel)) (j_tup (j_vcons (v_ c.e (Nm.by (by decide +kernel))) (j_vcons (v_ c.e (Nm.by (by decide +kernel))) (j_vcons (v_ c.e (Nm.by (by decide +kernel))) j_vnil rfl) rfl) rfl)) rfl rfl rfl)) jb_nil)) (fun _ => rfl))) (fun _ => rfl))) (fun _ => rfl)))))) (fun _ => rfl))
  (jb_one (js_ret (v_ c.e (Nm.by (by decide +kernel))))))))
theorem D__law_plans (B : Bts mg) (d__law_power : Df P w K mg base C "_law_power" 2 1 run__law_power) (d__law_can : Df P w K mg base C "_law_can" 4 8 run__law_can) (F : FunD K "_law_plans" "_law_plans" (defArgs (top 45)) (defBody (top 45)) (defScope (top 45)) [] [] f fd) (hm : mg "_law_plans" = some (.ref f)) : ∀ n : Nat, Df P w K mg base C "_law_plans" 2 (9 + n) (run__law_plans n)
  | 0 => def_bad F S__law_plans hm F.kp (F.bindsN fun _ _ _ _ _ _ us hl => match us, hl with | [_, _], _ => rfl)
  | n + 1 => def_ok F S__law_plans hm F.kp (F.bindsN fun _ _ _ _ _ _ us hl => match us, hl with | [_, _], _ => rfl) (b__law_plans B d__law_power d__law_can (Nat.le_trans (by decide) (Nat.le_add_right 9 n)) (D__law_plans B d__law_power d__law_can F hm n))
abbrev N__law_text : List Str := ["_law_plan"]
def m__law_text (self : UF) : MS :=
  (mSeq (mIfS (mU isInt (mPk 0) (lPk 0)) (mRet (mCall bStrI (maCons (mPk 0) maNil) (laCons (lPk 0) laNil))) mSkip)
  (mRet (mB fAdd (mB fAdd (mB fAdd (mB fAdd (mB fAdd (mB fAdd (mC (.str [40])) lId (mUser self (maCons (mB fIx (mPk 0) (lPk 0) (mC (.int 0)) lId) maNil)) lId) lId (mC (.str [32])) lId) lId (mB fIx (mPk 0) (lPk 0) (mC (.int 2)) lId) lId) lId (mC (.str [32])) lId) lId (mUser self (maCons (mB fIx (mPk 0) (lPk 0) (mC (.int 1)) lId) maNil)) lId) lId (mC (.str [41])) lId)))
def run__law_text : Nat → UF
  | 0 => runBad
  | n + 1 => runF 1 1 (m__law_text (run__law_text n))
theorem S__law_text : FnScope N__law_text ["_law_plan"] (defScope (top 46)) := ⟨rfl, rfl, rfl, by decide +kernel, rfl, by decide +kernel, by decide +kernel⟩
theorem b__law_text (B : Bts mg) {k : Nat} (hk : 0 ≤ k) {self : UF} (dself : Df P w K mg base C "_law_text" 1 k self) : ∀ (X : Cx) (W : WX), Cs P w K mg base N__law_text (defScope (top 46)) k X W → JB X C W (defBody (top 46)) (m__law_text self) := fun _ _ c =>
  (jb_cons (js_if (jt_val (x_isInt c.e B (p_ c.e (Nm.by (by decide +kernel))) (Ng.by (by decide +kernel)) (Ng.by (by decide +kernel)) rfl) (fun _ => rfl)) (jb_one (js_ret (x_strI c.e B (j_acons (p_ c.e (Nm.by (by decide +kernel))) j_anil rfl) rfl rfl (Ng.by (by decide +kernel))))) jb_nil)
  (jb_one (js_ret (x_add (JE.o (x_add (JE.o (x_add (JE.o (x_add (JE.o (x_add (JE.o (x_add (JE.o (j_str rfl)) (JE.o (x_call c.e dself (Nat.le_refl _) (Ng.by (by decide +kernel)) (j_vcons (x_ix (p_ c.e (Nm.by (by decide +kernel))) (JE.o j_int) (fun _ _ => rfl)) j_vnil rfl) (lenS len0) rfl rfl)))) (JE.o (j_str rfl)))) (JE.o (x_ix (p_ c.e (Nm.by (by decide +kernel))) (JE.o j_int) (fun _ _ => rfl))))) (JE.o (j_str rfl)))) (JE.o (x_call c.e dself (Nat.le_refl _) (Ng.by (by decide +kernel)) (j_vcons (x_ix (p_ c.e (Nm.by (by decide +kernel))) (JE.o j_int) (fun _ _ => rfl)) j_vnil rfl) (lenS len0) rfl rfl)))) (JE.o (j_str rfl))))))
theorem D__law_text (B : Bts mg) (F : FunD K "_law_text" "_law_text" (defArgs (top 46)) (defBody (top 46)) (defScope (top 46)) [] [] f fd) (hm : mg "_law_text" = some (.ref f)) : ∀ n : Nat, Df P w K mg base C "_law_text" 1 (1 + n) (run__law_text n)
  | 0 => def_bad F S__law_text hm F.kp (F.bindsN fun _ _ _ _ _ _ us hl => match us, hl with | [_], _ => rfl)
  | n + 1 => def_ok F S__law_text hm F.kp (F.bindsN fun _ _ _ _ _ _ us hl => match us, hl with | [_], _ => rfl) (b__law_text B (Nat.le_trans (by decide) (Nat.le_add_right 1 n)) (D__law_text B F hm n))
abbrev N__law_spoilt : List Str := ["_law_source_here", "_law_text_here", "_law_spot", "_law_less_so", "_law_signs", "_law_lines", "_law_place", "_law_rest"]
def m__law_spoilt : MS :=
  (mSeq (mPar 2 3 (maCons (mUserB run__law_draw 0 (maCons (mB fAdd (mCall bLen (maCons (mPk 1) maNil) (laCons (lPk 1) laNil)) lId (mC (.int 1)) lId) maNil)) (maCons (mUserB run__law_draw 0 (maCons (mC (.int 3)) maNil)) maNil)))
  (mSeq (mSet 4 (mLst (maCons (mC (.str [])) (maCons (mC (.str [32])) (maCons (mC (.str [48])) (maCons (mC (.str [49])) (maCons (mC (.str [55])) (maCons (mC (.str [45])) (maCons (mC (.str [10])) (maCons (mC (.str [10, 116, 97, 98, 108, 101, 32, 49, 32, 49])) (maCons (mC (.str [10, 105, 110, 100, 101, 120, 32, 48])) (maCons (mC (.str [10, 108, 105, 110, 107, 32, 48, 32, 49, 32, 53, 32, 49])) maNil))))))))))))
  (mSeq (mIfS (mB fEq (mPk 3) (lPk 3) (mC (.int 2)) lId) (mSeq (mSet 5 (mM1 fSplit (mVar 1) (mC (.str [10])) lId))
  (mSeq (mSet 6 (mUserB run__law_draw 0 (maCons (mCall bLen (maCons (mPk 5) maNil) (laCons (lPk 5) laNil)) maNil)))
  (mSeq (mSet 7 (mSl (mPk 5) (lPk 5) (mPrt (mVar 6)) (mPrt (mB fAdd (mPk 6) (lPk 6) (mUserB run__law_draw 0 (maCons (mC (.int 3)) maNil)) lId))))
  (mRet (mM1 fJoin (mC (.str [10])) (mB fAdd (mB fAdd (mSl (mPk 5) (lPk 5) (mC .non) (mPrt (mVar 6))) lId (mSl (mPk 5) (lPk 5) (mPrt (mB fAdd (mPk 6) (lPk 6) (mC (.int 1)) lId)) (mC .non)) lId) lId (mPk 7) (lPk 7)) lId))))) mSkip)
  (mSeq (mSet 4 (mB fAdd (mPk 4) (lPk 4) (mLst (maCons (mC (.str [49, 48, 48])) (maCons (mC (.str [32, 51])) (maCons (mC (.str [116, 97, 98, 108, 101])) (maCons (mC (.str [120])) maNil))))) lId))
  (mRet (mB fAdd (mB fAdd (mSl (mPk 1) (lPk 1) (mC .non) (mPrt (mVar 2))) lId (mUserB run__law_of 0 (maCons (mVar 4) maNil)) lId) lId (mSl (mPk 1) (lPk 1) (mPrt (mB fAdd (mPk 2) (lPk 2) (mPk 3) (lPk 3))) (mC .non)) lId))))))
def run__law_spoilt : UF := runF 2 8 m__law_spoilt
theorem S__law_spoilt : FnScope N__law_spoilt ["_law_source_here", "_law_text_here"] (defScope (top 52)) := ⟨rfl, rfl, rfl, by decide +kernel, rfl, by decide +kernel, by decide +kernel⟩
theorem b__law_spoilt (B : Bts mg) (d__law_draw : Df P w K mg base C "_law_draw" 2 1 run__law_draw) (d__law_of : Df P w K mg base C "_law_of" 2 2 run__law_of) : ∀ (X : Cx) (W : WX), Cs P w K mg base N__law_spoilt (defScope (top 52)) 2 X W → JB X C W (defBody (top 52)) m__law_spoilt := fun _ _ c =>
  (jb_cons (st_par c (Nl.by (by decide +kernel)) (Nl.by (by decide +kernel)) (by decide) (j_vcons (x_lent c.e d__law_draw (by decide) (Ng.by (by decide +kernel)) (Nm.by (by decide +kernel)) (j_vcons (x_add (JE.o (x_len c.e B (j_acons (p_ c.e (Nm.by (by decide +kernel))) j_anil rfl) rfl rfl (Ng.by (by decide +kernel)))) (JE.o j_int)) j_vnil rfl) (lenS len0) rfl rfl) (j_vcons (x_lent c.e d__law_draw (by decide) (Ng.by (by decide +kernel)) (Nm.by (by decide +kernel)) (j_vcons j_int j_vnil rfl) (lenS len0) rfl rfl) j_vnil rfl) rfl) (fun _ => rfl) rfl)
  (jb_cons (st_set c (Nb.by (by decide +kernel)) (j_lst (j_vcons (j_str rfl) (j_vcons (j_str rfl) (j_vcons (j_str rfl) (j_vcons (j_str rfl) (j_vcons (j_str rfl) (j_vcons (j_str rfl) (j_vcons (j_str rfl) (j_vcons (j_str rfl) (j_vcons (j_str rfl) (j_vcons (j_str rfl) j_vnil rfl) rfl) rfl) rfl) rfl) rfl) rfl) rfl) rfl) rfl)) rfl rfl)
  (jb_cons (js_if (t_eq (p_ c.e (Nm.by (by decide +kernel))) (JE.o j_int) c.e rfl) (jb_cons (st_set c (Nb.by (by decide +kernel)) (x_split (v_ c.e (Nm.by (by decide +kernel))) (JE.o (j_str rfl)) rfl rfl rfl) rfl rfl)
  (jb_cons (st_set c (Nb.by (by decide +kernel)) (x_lent c.e d__law_draw (by decide) (Ng.by (by decide +kernel)) (Nm.by (by decide +kernel)) (j_vcons (x_len c.e B (j_acons (p_ c.e (Nm.by (by decide +kernel))) j_anil rfl) rfl rfl (Ng.by (by decide +kernel))) j_vnil rfl) (lenS len0) rfl rfl) rfl rfl)
  (jb_cons (st_set c (Nb.by (by decide +kernel)) (j_sl (p_ c.e (Nm.by (by decide +kernel))) (jp_of (v_ c.e (Nm.by (by decide +kernel)))) (jp_of (x_add (p_ c.e (Nm.by (by decide +kernel))) (JE.o (x_lent c.e d__law_draw (by decide) (Ng.by (by decide +kernel)) (Nm.by (by decide +kernel)) (j_vcons j_int j_vnil rfl) (lenS len0) rfl rfl))))) rfl rfl)
  (jb_one (js_ret (x_join (j_str rfl) (JE.o (x_add (JE.o (x_add (JE.o (j_sl (p_ c.e (Nm.by (by decide +kernel))) jp_none (jp_of (v_ c.e (Nm.by (by decide +kernel)))))) (JE.o (j_sl (p_ c.e (Nm.by (by decide +kernel))) (jp_of (x_add (p_ c.e (Nm.by (by decide +kernel))) (JE.o j_int))) jp_none)))) (p_ c.e (Nm.by (by decide +kernel))))) rfl rfl rfl)))))) jb_nil)
  (jb_cons (st_set c (Nb.by (by decide +kernel)) (x_add (p_ c.e (Nm.by (by decide +kernel))) (JE.o (j_lst (j_vcons (j_str rfl) (j_vcons (j_str rfl) (j_vcons (j_str rfl) (j_vcons (j_str rfl) j_vnil rfl) rfl) rfl) rfl)))) rfl rfl)
  (jb_one (js_ret (x_add (JE.o (x_add (JE.o (j_sl (p_ c.e (Nm.by (by decide +kernel))) jp_none (jp_of (v_ c.e (Nm.by (by decide +kernel)))))) (JE.o (x_lent c.e d__law_of (by decide) (Ng.by (by decide +kernel)) (Nm.by (by decide +kernel)) (j_vcons (v_ c.e (Nm.by (by decide +kernel))) j_vnil rfl) (lenS len0) rfl rfl)))) (JE.o (j_sl (p_ c.e (Nm.by (by decide +kernel))) (jp_of (x_add (p_ c.e (Nm.by (by decide +kernel))) (p_ c.e (Nm.by (by decide +kernel))))) jp_none)))))))))
theorem D__law_spoilt (B : Bts mg) (d__law_draw : Df P w K mg base C "_law_draw" 2 1 run__law_draw) (d__law_of : Df P w K mg base C "_law_of" 2 2 run__law_of) (F : FunD K "_law_spoilt" "_law_spoilt" (defArgs (top 52)) (defBody (top 52)) (defScope (top 52)) [] [] f fd) (hm : mg "_law_spoilt" = some (.ref f)) : Df P w K mg base C "_law_spoilt" 2 3 run__law_spoilt := def_ok F S__law_spoilt hm F.kp (F.bindsN fun _ _ _ _ _ _ us hl => match us, hl with | [_, _], _ => rfl) (b__law_spoilt B d__law_draw d__law_of)
abbrev N__law_known : List Str := ["_law_one", "_law_two"]
def m__law_known : MS :=
  (mSeq (mSet 0 (mTup (maCons (mTup (maCons (mTup (maCons (mC (.int 5)) (maCons (mC (.int 1)) maNil))) (maCons (mTup (maCons (mC (.int 3)) (maCons (mC (.int 0)) maNil))) maNil))) (maCons (mTup (maCons (mTup (maCons (mC (.int 0)) (maCons (mC (.int 1)) (maCons (mC (.int 3)) (maCons (mC (.int 0)) maNil))))) maNil)) (maCons (mTup maNil) maNil)))))
  (mSeq (mSet 1 (mTup (maCons (mTup (maCons (mTup (maCons (mC (.int 1)) (maCons (mC (.int 1)) maNil))) (maCons (mTup (maCons (mC (.int 1)) (maCons (mC (.int 1)) maNil))) maNil))) (maCons (mTup (maCons (mTup (maCons (mC (.int 0)) (maCons (mC (.int 1)) (maCons (mC (.int 1)) (maCons (mC (.int 1)) maNil))))) maNil)) (maCons (mTup (maCons (mC (.int 1)) maNil)) maNil)))))
  (mRet (mTup (maCons (mVar 0) (maCons (mVar 1) (maCons (mTup (maCons (mTup (maCons (mTup (maCons (mC (.int 2)) (maCons (mC (.int 1)) maNil))) (maCons (mTup (maCons (mC (.int 10)) (maCons (mC (.int 0)) maNil))) (maCons (mTup (maCons (mC (.int 1)) (maCons (mC (.int 2)) maNil))) maNil)))) (maCons (mTup (maCons (mTup (maCons (mC (.int 0)) (maCons (mC (.int 1)) (maCons (mC (.int 10)) (maCons (mC (.int 0)) maNil))))) (maCons (mTup (maCons (mC (.int 1)) (maCons (mC (.int 2)) (maCons (mC (.int 5)) (maCons (mC (.int 1)) maNil))))) maNil))) (maCons (mTup (maCons (mC (.int 2)) maNil)) maNil)))) maNil)))))))
def run__law_known : UF := runF 0 2 m__law_known
theorem S__law_known : FnScope N__law_known [] (defScope (top 47)) := ⟨rfl, rfl, rfl, by decide +kernel, rfl, by decide +kernel, by decide +kernel⟩
theorem b__law_known (B : Bts mg) : ∀ (X : Cx) (W : WX), Cs P w K mg base N__law_known (defScope (top 47)) 0 X W → JB X C W (defBody (top 47)) m__law_known := fun _ _ c =>
  (jb_cons (st_set c (Nb.by (by decide +kernel)) (j_tup (j_vcons (j_tup (j_vcons (j_tup (j_vcons j_int (j_vcons j_int j_vnil rfl) rfl)) (j_vcons (j_tup (j_vcons j_int (j_vcons j_int j_vnil rfl) rfl)) j_vnil rfl) rfl)) (j_vcons (j_tup (j_vcons (j_tup (j_vcons j_int (j_vcons j_int (j_vcons j_int (j_vcons j_int j_vnil rfl) rfl) rfl) rfl)) j_vnil rfl)) (j_vcons (j_tup j_vnil) j_vnil rfl) rfl) rfl)) rfl rfl)
  (jb_cons (st_set c (Nb.by (by decide +kernel)) (j_tup (j_vcons (j_tup (j_vcons (j_tup (j_vcons j_int (j_vcons j_int j_vnil rfl) rfl)) (j_vcons (j_tup (j_vcons j_int (j_vcons j_int j_vnil rfl) rfl)) j_vnil rfl) rfl)) (j_vcons (j_tup (j_vcons (j_tup (j_vcons j_int (j_vcons j_int (j_vcons j_int (j_vcons j_int j_vnil rfl) rfl) rfl) rfl)) j_vnil rfl)) (j_vcons (j_tup (j_vcons j_int j_vnil rfl)) j_vnil rfl) rfl) rfl)) rfl rfl)
  (jb_one (js_ret (j_tup (j_vcons (v_ c.e (Nm.by (by decide +kernel))) (j_vcons (v_ c.e (Nm.by (by decide +kernel))) (j_vcons (j_tup (j_vcons (j_tup (j_vcons (j_tup (j_vcons j_int (j_vcons j_int j_vnil rfl) rfl)) (j_vcons (j_tup (j_vcons j_int (j_vcons j_int j_vnil rfl) rfl)) (j_vcons (j_tup (j_vcons j_int (j_vcons j_int j_vnil rfl) rfl)) j_vnil rfl) rfl) rfl)) (j_vcons (j_tup (j_vcons (j_tup (j_vcons j_int (j_vcons j_int (j_vcons j_int (j_vcons j_int j_vnil rfl) rfl) rfl) rfl)) (j_vcons (j_tup (j_vcons j_int (j_vcons j_int (j_vcons j_int (j_vcons j_int j_vnil rfl) rfl) rfl) rfl)) j_vnil rfl) rfl)) (j_vcons (j_tup (j_vcons j_int j_vnil rfl)) j_vnil rfl) rfl) rfl)) j_vnil rfl) rfl) rfl))))))
theorem D__law_known (B : Bts mg) (F : FunD K "_law_known" "_law_known" (defArgs (top 47)) (defBody (top 47)) (defScope (top 47)) [] [] f fd) (hm : mg "_law_known" = some (.ref f)) : Df P w K mg base C "_law_known" 0 1 run__law_known := def_ok F S__law_known hm F.kp (F.bindsN fun _ _ _ _ _ _ us hl => match us, hl with | [], _ => rfl) (b__law_known B)
abbrev N_is_question : List Str := ["value"]
def m_is_question : MS :=
  (mRet (mUser run_is_good_question (maCons (mVar 0) maNil)))
def run_is_question : UF := runF 1 1 m_is_question
theorem S_is_question : FnScope N_is_question ["value"] (defScope (top 24)) := ⟨rfl, rfl, rfl, by decide +kernel, rfl, by decide +kernel, by decide +kernel⟩
theorem b_is_question (B : Bts mg) (d_is_good_question : Df P w K mg base C "is_good_question" 1 3 run_is_good_question) : ∀ (X : Cx) (W : WX), Cs P w K mg base N_is_question (defScope (top 24)) 3 X W → JB X C W (defBody (top 24)) m_is_question := fun _ _ c =>
  (jb_one (js_ret (x_call c.e d_is_good_question (by decide) (Ng.by (by decide +kernel)) (j_vcons (v_ c.e (Nm.by (by decide +kernel))) j_vnil rfl) (lenS len0) rfl rfl)))
theorem D_is_question (B : Bts mg) (d_is_good_question : Df P w K mg base C "is_good_question" 1 3 run_is_good_question) (F : FunD K "is_question" "is_question" (defArgs (top 24)) (defBody (top 24)) (defScope (top 24)) [] [] f fd) (hm : mg "is_question" = some (.ref f)) : Df P w K mg base C "is_question" 1 4 run_is_question := def_ok F S_is_question hm F.kp (F.bindsN fun _ _ _ _ _ _ us hl => match us, hl with | [_], _ => rfl) (b_is_question B d_is_good_question)
abbrev N__law_row : List Str := ["_law_line", "_law_words", "_law_sizes", "_law_good", "_law_number", "_law_word"]
def m__law_row : MS :=
  (mSeq (mSet 1 (mM1 fSplit (mVar 0) (mC (.str [32])) lId))
  (mSeq (mOwn 2 (mDispC [.inr [116, 97, 98, 108, 101], .inr [108, 105, 110, 107], .inr [105, 110, 100, 101, 120]] [3, 5, 2]))
  (mSeq (mIfS (mOr (mDIn true 2 (mB fIx (mPk 1) (lPk 1) (mC (.int 0)) lId)) (mB fNe (mCall bLen (maCons (mPk 1) maNil) (laCons (lPk 1) laNil)) lId (mDGet 2 (mB fIx (mPk 1) (lPk 1) (mC (.int 0)) lId)) lId)) (mRet (mC .non)) mSkip)
  (mSeq (mSet 3 (mAsV (mLc (mRange1 (maCons (mC (.int 100)) maNil)) [4] (mgName 4) mYes (mCall bStrI (maCons (mPk 4) maNil) (laCons (lPk 4) laNil)))))
  (mSeq (mIfS (mB fNe (mAsV (mLc (mIt (mSl (mPk 1) (lPk 1) (mPrt (mC (.int 1))) (mC .non))) [5] (mgName 5) (mB fNotIn (mPk 5) (lPk 5) (mPk 3) (lPk 3)) (mVar 5))) lId (mLst maNil) lId) (mRet (mC .non)) mSkip)
  (mRet (mTup (maCons (mB fIx (mPk 1) (lPk 1) (mC (.int 0)) lId) (maCons (mCall bTuple (maCons (mAsV (mLc (mIt (mSl (mPk 1) (lPk 1) (mPrt (mC (.int 1))) (mC .non))) [5] (mgName 5) mYes (mCall bIntX (maCons (mPk 5) maNil) (laCons (lPk 5) laNil)))) maNil) (laCons lId laNil)) maNil)))))))))
def run__law_row : UF := runF 1 6 m__law_row
theorem S__law_row : FnScope N__law_row ["_law_line"] (defScope (top 50)) := ⟨rfl, rfl, rfl, by decide +kernel, rfl, by decide +kernel, by decide +kernel⟩
theorem b__law_row (B : Bts mg) : ∀ (X : Cx) (W : WX), Cs P w K mg base N__law_row (defScope (top 50)) 0 X W → JB X C W (defBody (top 50)) m__law_row := fun _ _ c =>
  (jb_cons (st_set c (Nb.by (by decide +kernel)) (x_split (v_ c.e (Nm.by (by decide +kernel))) (JE.o (j_str rfl)) rfl rfl rfl) rfl rfl)
  (jb_cons (st_own c (Nb.by (by decide +kernel)) (jf_disp (ks := [.inr [116, 97, 98, 108, 101], .inr [108, 105, 110, 107], .inr [105, 110, 100, 101, 120]]) (ns := [3, 5, 2]) (jd_cons (jd_cons (jd_cons jd_nil))) rfl rfl (by simp) (by decide) (by decide) rfl) rfl rfl)
  (jb_cons (js_if (JW.t (jw_or (t_dnin c.e (Nm.by (by decide +kernel)) (x_ix (p_ c.e (Nm.by (by decide +kernel))) (JE.o j_int) (fun _ _ => rfl)) rfl) (jw_or1 (t_ne (JE.o (x_len c.e B (j_acons (p_ c.e (Nm.by (by decide +kernel))) j_anil rfl) rfl rfl (Ng.by (by decide +kernel)))) (JE.o (x_dget c.e (Nm.by (by decide +kernel)) (x_ix (p_ c.e (Nm.by (by decide +kernel))) (JE.o j_int) (fun _ _ => rfl)) (fun _ _ => rfl))) c.e rfl)))) (jb_one (js_ret j_non)) jb_nil)
  (jb_cons (st_set c (Nb.by (by decide +kernel)) (JF.e (x_lc [("_law_number", 4)] c.e (x_range1 c.e B (Ng.by (by decide +kernel)) (j_vcons j_int j_vnil rfl) rfl) (blk_by (by decide +kernel)) (fun _ c' => (tg_ c' (Nl.by (by decide +kernel)))) (fun _ c' => jts_nil) (fun _ c' => (x_strI c' B (j_acons (p_ c' (Nm.by (by decide +kernel))) j_anil rfl) rfl rfl (Ng.by (by decide +kernel)))) (by decide) (fun _ => rfl))) (sws_by c.e.c.sc (fun _ => rfl)) rfl)
  (jb_cons (js_if (t_ne (JE.o (JF.e (x_lc [("_law_word", 5)] c.e (j_it (j_sl (p_ c.e (Nm.by (by decide +kernel))) (jp_of j_int) jp_none)) (blk_by (by decide +kernel)) (fun _ c' => (tg_ c' (Nl.by (by decide +kernel)))) (fun _ c' => (jts_one (t_notin (p_ c' (Nm.by (by decide +kernel))) (p_ c' (Nm.by (by decide +kernel))) rfl))) (fun _ c' => (v_ c' (Nm.by (by decide +kernel)))) (by decide) (fun _ => rfl)))) (JE.o (j_lst j_vnil)) c.e rfl) (jb_one (js_ret j_non)) jb_nil)
  (jb_one (js_ret (j_tup (j_vcons (x_ix (p_ c.e (Nm.by (by decide +kernel))) (JE.o j_int) (fun _ _ => rfl)) (j_vcons (x_tuple c.e B (j_acons (JE.o (JF.e (x_lc [("_law_word", 5)] c.e (j_it (j_sl (p_ c.e (Nm.by (by decide +kernel))) (jp_of j_int) jp_none)) (blk_by (by decide +kernel)) (fun _ c' => (tg_ c' (Nl.by (by decide +kernel)))) (fun _ c' => jts_nil) (fun _ c' => (x_intX c' B (j_acons (p_ c' (Nm.by (by decide +kernel))) j_anil rfl) rfl rfl (Ng.by (by decide +kernel)))) (by decide) (fun _ => rfl)))) j_anil rfl) rfl rfl (Ng.by (by decide +kernel))) j_vnil rfl) rfl)))))))))
theorem D__law_row (B : Bts mg) (F : FunD K "_law_row" "_law_row" (defArgs (top 50)) (defBody (top 50)) (defScope (top 50)) [] [] f fd) (hm : mg "_law_row" = some (.ref f)) : Df P w K mg base C "_law_row" 1 1 run__law_row := def_ok F S__law_row hm F.kp (F.bindsN fun _ _ _ _ _ _ us hl => match us, hl with | [_], _ => rfl) (b__law_row B)
abbrev N__law_bad : List Str := ["_law_text_here", "_law_lines", "_law_rows", "_law_at_line", "_law_line", "_law_tables_here", "_law_links", "_law_indexes", "_law_question_here", "_law_word", "_law_numbers"]
def m__law_bad : MS :=
  (mSeq (mParO 1 2 (mM1 fSplit (mVar 0) (mC (.str [10])) lId) (mLst maNil))
  (mSeq (mFor (mEnum (maCons (mVar 1) maNil)) (mgTup 2 (mgsCons (mgName 3) (mgsCons (mgName 4) mgsNil))) (mSeq (mApp 2 (mUser run__law_row (maCons (mVar 4) maNil)))
  (mIfS (mB fIsN (mB fIx (mPk 2) (lPk 2) (mU fNeg (mC (.int 1)) lId) lId) lId (mC .non) lId) (mRet (mB fAdd (mPk 3) (lPk 3) (mC (.int 1)) lId)) mSkip)))
  (mSeq (mSet 5 (mCall bTuple (maCons (mAsV (mLc (mIt (mVar 2)) [9, 10] (mgTup 2 (mgsCons (mgName 9) (mgsCons (mgName 10) mgsNil))) (mB fEq (mPk 9) (lPk 9) (mC (.str [116, 97, 98, 108, 101])) lId) (mVar 10))) maNil) (laCons lId laNil)))
  (mSeq (mSet 6 (mCall bTuple (maCons (mAsV (mLc (mIt (mVar 2)) [9, 10] (mgTup 2 (mgsCons (mgName 9) (mgsCons (mgName 10) mgsNil))) (mB fEq (mPk 9) (lPk 9) (mC (.str [108, 105, 110, 107])) lId) (mVar 10))) maNil) (laCons lId laNil)))
  (mSeq (mSet 7 (mCall bTuple (maCons (mAsV (mLc (mIt (mVar 2)) [9, 10] (mgTup 2 (mgsCons (mgName 9) (mgsCons (mgName 10) mgsNil))) (mB fEq (mPk 9) (lPk 9) (mC (.str [105, 110, 100, 101, 120])) lId) (mB fIx (mPk 10) (lPk 10) (mC (.int 0)) lId))) maNil) (laCons lId laNil)))
  (mSeq (mSet 8 (mTup (maCons (mVar 5) (maCons (mVar 6) (maCons (mVar 7) maNil)))))
  (mSeq (mIfS (mAnd (mUser run_is_question (maCons (mVar 8) maNil)) (mB fEq (mUser run__law_written (maCons (mVar 8) maNil)) lId (mPk 0) (lPk 0))) (mRet (mC .non)) mSkip)
  (mRet (mB fAdd (mCall bLen (maCons (mPk 1) maNil) (laCons (lPk 1) laNil)) lId (mC (.int 1)) lId)))))))))
def run__law_bad : UF := runF 1 11 m__law_bad
theorem S__law_bad : FnScope N__law_bad ["_law_text_here"] (defScope (top 51)) := ⟨rfl, rfl, rfl, by decide +kernel, rfl, by decide +kernel, by decide +kernel⟩
theorem b__law_bad (B : Bts mg) (henum : mg "enumerate" = none) (d_is_question : Df P w K mg base C "is_question" 1 4 run_is_question) (d__law_row : Df P w K mg base C "_law_row" 1 1 run__law_row) (d__law_written : Df P w K mg base C "_law_written" 1 1 run__law_written) : ∀ (X : Cx) (W : WX), Cs P w K mg base N__law_bad (defScope (top 51)) 4 X W → JB X C W (defBody (top 51)) m__law_bad := fun _ _ c =>
  (jb_cons (st_parO c (Nl.by (by decide +kernel)) (Nl.by (by decide +kernel)) (by decide) (x_split (v_ c.e (Nm.by (by decide +kernel))) (JE.o (j_str rfl)) rfl rfl rfl) (jf_lst j_vnil) rfl rfl (fun _ => rfl) rfl)
  (jb_cons (st_for c (x_enum c.e henum (Ng.by (by decide +kernel)) (j_vcons (v_ c.e (Nm.by (by decide +kernel))) j_vnil rfl) rfl) (jg_tup c.e.c.calm (jgs_cons (tgC c (Nb.by (by decide +kernel))) (jgs_cons (tgC c (Nb.by (by decide +kernel))) jgs_nil rfl) rfl) rfl rfl) (jb_cons (st_app c (Nm.by (by decide +kernel)) (x_call c.e d__law_row (by decide) (Ng.by (by decide +kernel)) (j_vcons (v_ c.e (Nm.by (by decide +kernel))) j_vnil rfl) (lenS len0) rfl rfl) rfl rfl rfl)
  (jb_one (js_if (t_is (JE.o (x_ix (p_ c.e (Nm.by (by decide +kernel))) (JE.o (x_neg (JE.o j_int))) (fun _ _ => rfl))) (JE.o j_non) rfl) (jb_one (js_ret (x_add (p_ c.e (Nm.by (by decide +kernel))) (JE.o j_int)))) jb_nil))) (fun _ => rfl))
  (jb_cons (st_set c (Nb.by (by decide +kernel)) (x_tuple c.e B (j_acons (JE.o (JF.e (x_lc [("_law_word", 9), ("_law_numbers", 10)] c.e (j_it (v_ c.e (Nm.by (by decide +kernel)))) (blk_by (by decide +kernel)) (fun _ c' => (jg_tup c'.c.calm (jgs_cons (tg_ c' (Nl.by (by decide +kernel))) (jgs_cons (tg_ c' (Nl.by (by decide +kernel))) jgs_nil rfl) rfl) rfl rfl)) (fun _ c' => (jts_one (t_eq (p_ c' (Nm.by (by decide +kernel))) (JE.o (j_str rfl)) c' rfl))) (fun _ c' => (v_ c' (Nm.by (by decide +kernel)))) (by decide) (fun _ => rfl)))) j_anil rfl) rfl rfl (Ng.by (by decide +kernel))) rfl rfl)
  (jb_cons (st_set c (Nb.by (by decide +kernel)) (x_tuple c.e B (j_acons (JE.o (JF.e (x_lc [("_law_word", 9), ("_law_numbers", 10)] c.e (j_it (v_ c.e (Nm.by (by decide +kernel)))) (blk_by (by decide +kernel)) (fun _ c' => (jg_tup c'.c.calm (jgs_cons (tg_ c' (Nl.by (by decide +kernel))) (jgs_cons (tg_ c' (Nl.by (by decide +kernel))) jgs_nil rfl) rfl) rfl rfl)) (fun _ c' => (jts_one (t_eq (p_ c' (Nm.by (by decide +kernel))) (JE.o (j_str rfl)) c' rfl))) (fun _ c' => (v_ c' (Nm.by (by decide +kernel)))) (by decide) (fun _ => rfl)))) j_anil rfl) rfl rfl (Ng.by (by decide +kernel))) rfl rfl)
  (jb_cons (st_set c (Nb.by (by decide +kernel)) (x_tuple c.e B (j_acons (JE.o (JF.e (x_lc [("_law_word", 9), ("_law_numbers", 10)] c.e (j_it (v_ c.e (Nm.by (by decide +kernel)))) (blk_by (by decide +kernel)) (fun _ c' => (jg_tup c'.c.calm (jgs_cons (tg_ c' (Nl.by (by decide +kernel))) (jgs_cons (tg_ c' (Nl.by (by decide +kernel))) jgs_nil rfl) rfl) rfl rfl)) (fun _ c' => (jts_one (t_eq (p_ c' (Nm.by (by decide +kernel))) (JE.o (j_str rfl)) c' rfl))) (fun _ c' => (x_ix (p_ c' (Nm.by (by decide +kernel))) (JE.o j_int) (fun _ _ => rfl))) (by decide) (fun _ => rfl)))) j_anil rfl) rfl rfl (Ng.by (by decide +kernel))) rfl rfl)
  (jb_cons (st_set c (Nb.by (by decide +kernel)) (j_tup (j_vcons (v_ c.e (Nm.by (by decide +kernel))) (j_vcons (v_ c.e (Nm.by (by decide +kernel))) (j_vcons (v_ c.e (Nm.by (by decide +kernel))) j_vnil rfl) rfl) rfl)) rfl rfl)
  (jb_cons (js_if (JW.t (jw_and (jt_val (x_call c.e d_is_question (by decide) (Ng.by (by decide +kernel)) (j_vcons (v_ c.e (Nm.by (by decide +kernel))) j_vnil rfl) (lenS len0) rfl rfl) (fun _ => rfl)) (jw_and1 (t_eq (JE.o (x_call c.e d__law_written (by decide) (Ng.by (by decide +kernel)) (j_vcons (v_ c.e (Nm.by (by decide +kernel))) j_vnil rfl) (lenS len0) rfl rfl)) (p_ c.e (Nm.by (by decide +kernel))) c.e rfl)))) (jb_one (js_ret j_non)) jb_nil)
  (jb_one (js_ret (x_add (JE.o (x_len c.e B (j_acons (p_ c.e (Nm.by (by decide +kernel))) j_anil rfl) rfl rfl (Ng.by (by decide +kernel)))) (JE.o j_int)))))))))))
theorem D__law_bad (B : Bts mg) (henum : mg "enumerate" = none) (d_is_question : Df P w K mg base C "is_question" 1 4 run_is_question) (d__law_row : Df P w K mg base C "_law_row" 1 1 run__law_row) (d__law_written : Df P w K mg base C "_law_written" 1 1 run__law_written) (F : FunD K "_law_bad" "_law_bad" (defArgs (top 51)) (defBody (top 51)) (defScope (top 51)) [] [] f fd) (hm : mg "_law_bad" = some (.ref f)) : Df P w K mg base C "_law_bad" 1 5 run__law_bad := def_ok F S__law_bad hm F.kp (F.bindsN fun _ _ _ _ _ _ us hl => match us, hl with | [_], _ => rfl) (b__law_bad B henum d_is_question d__law_row d__law_written)
abbrev N_law : List Str := ["_law_script", "_law_k", "_law_source_here", "_law_question_here", "_law_text_here", "_law_plan", "_law_turn", "_law_found", "_law_line", "_law_two", "_law_texts"]
def m_law : MS :=
  (mSeq (mFor (mRange1 (maCons (mB fAdd (mC (.int 1)) lId (mCall bMin (maCons (mCall bLen (maCons (mPk 0) maNil) (laCons (lPk 0) laNil)) (maCons (mC (.int 10)) maNil)) (laCons lId (laCons lId laNil))) lId) maNil)) (mgName 1) (mSeq (mOwn 2 (mUserN run__law_source (maCons (mVar 0) (maCons (mVar 1) maNil))))
  (mSeq (mSet 3 (mUserB run__law_question 2 (maCons (mC (.int 4)) maNil)))
  (mSeq (mSet 4 (mUser run__law_written (maCons (mVar 3) maNil)))
  (mSeq (mIfS (mB fNe (mUser run_question_text (maCons (mVar 3) maNil)) lId (mPk 4) (lPk 4)) (mRet (mC (.bl false))) mSkip)
  (mSeq (mFor (mIt (mLst (maCons (mUserB run__law_of 2 (maCons (mUser (run__law_plans 6) (maCons (mVar 3) (maCons (mListR1 (mCall bLen (maCons (mB fIx (mPk 3) (lPk 3) (mC (.int 0)) lId) maNil) (laCons lId laNil))) maNil))) maNil)) maNil))) (mgName 5) (mIfS (mB fNe (mUser run_plan_text (maCons (mVar 3) (maCons (mVar 5) maNil))) lId (mUser (run__law_text 6) (maCons (mVar 5) maNil)) lId) (mRet (mC (.bl false))) mSkip))
  (mSeq (mFor (mRange1 (maCons (mC (.int 7)) maNil)) (mgName 6) (mSeq (mAsg (mgTup 2 (mgsCons (mgName 7) (mgsCons (mgName 8) mgsNil))) (mUser run__law_read (maCons (mVar 4) maNil)))
  (mSeq (mIfS (mOr (mB fNe (mPk 8) (lPk 8) (mUser run__law_bad (maCons (mVar 4) maNil)) lId) (mAnd (mB fEq (mPk 6) (lPk 6) (mC (.int 0)) lId) (mB fNe (mPk 7) (lPk 7) (mPk 3) (lPk 3)))) (mRet (mC (.bl false))) mSkip)
  (mSeq (mIfS (mAnd (mB fIsN (mPk 8) (lPk 8) (mC .non) lId) (mB fNe (mUser run__law_written (maCons (mVar 7) maNil)) lId (mPk 4) (lPk 4))) (mRet (mC (.bl false))) mSkip)
  (mSet 4 (mSl (mUserB run__law_spoilt 2 (maCons (mVar 4) maNil)) lId (mC .non) (mPrt (mC (.int 900)))))))))
  (mIfS (mB fNe (mUser run__law_read (maCons (mUserB run__law_of 2 (maCons (mLst (maCons (mC .non) (maCons (mC (.int 5)) (maCons (mC (.bl true)) (maCons (mLst maNil) (maCons (mTup (maCons (mC (.str [116, 97, 98, 108, 101])) maNil)) (maCons (mVar 3) maNil))))))) maNil)) maNil)) lId (mTup (maCons (mC .non) (maCons (mC (.int 0)) maNil))) lId) (mRet (mC (.bl false))) mSkip))))))))
  (mSeq (mSet 9 (mC (.str [116, 97, 98, 108, 101, 32, 49, 32, 49, 10, 116, 97, 98, 108, 101, 32, 49, 32, 49])))
  (mSeq (mSet 10 (mLst (maCons (mC (.str [])) (maCons (mVar 9) (maCons (mB fAdd (mPk 9) (lPk 9) (mC (.str [10])) lId) (maCons (mB fAdd (mPk 9) (lPk 9) (mC (.str [10, 105, 110, 100, 101, 120, 32, 50])) lId) maNil))))))
  (mSeq (mSet 10 (mB fAdd (mPk 10) (lPk 10) (mLst (maCons (mB fAdd (mPk 9) (lPk 9) (mC (.str [10, 105, 110, 100, 101, 120, 32, 49, 10, 108, 105, 110, 107, 32, 48, 32, 49, 32, 49, 32, 49])) lId) (maCons (mC (.str [116, 97, 98, 108, 101, 32, 49, 32, 49])) (maCons (mC (.str [116, 97, 98, 108, 101, 32, 48, 49, 32, 49])) maNil)))) lId))
  (mSeq (mSet 10 (mB fAdd (mPk 10) (lPk 10) (mLst (maCons (mB fAdd (mPk 9) (lPk 9) (mC (.str [10, 108, 105, 110, 107, 32, 48, 32, 49, 32, 49])) lId) (maCons (mB fAdd (mPk 9) (lPk 9) (mC (.str [10, 108, 105, 110, 107, 32, 48, 32, 49, 32, 49, 48, 48, 32, 49])) lId) maNil))) lId))
  (mSeq (mSet 10 (mB fAdd (mPk 10) (lPk 10) (mLst (maCons (mB fAdd (mPk 9) (lPk 9) (mC (.str [10, 108, 105, 110, 107, 32, 48, 32, 49, 32, 48, 32, 49])) lId) (maCons (mB fAdd (mC (.str [105, 110, 100, 101, 120, 32, 49, 10])) lId (mPk 9) (lPk 9)) maNil))) lId))
  (mSeq (mSet 7 (mAsV (mLc (mIt (mVar 10)) [4] (mgName 4) mYes (mB fIx (mUser run__law_read (maCons (mVar 4) maNil)) lId (mC (.int 1)) lId))))
  (mSeq (mIfS (mB fNe (mPk 7) (lPk 7) (mLst (maCons (mC (.int 1)) (maCons (mC .non) (maCons (mC (.int 3)) (maCons (mC (.int 4)) (maCons (mC (.int 5)) (maCons (mC (.int 2)) (maCons (mC (.int 1)) (maCons (mC (.int 3)) (maCons (mC (.int 3)) (maCons (mC (.int 4)) (maCons (mC (.int 4)) maNil)))))))))))) lId) (mRet (mC (.bl false))) mSkip)
  (mRet (mB fEq (mUser run_plan_text (maCons (mB fIx (mUser0 run__law_known) lId (mC (.int 2)) lId) (maCons (mTup (maCons (mTup (maCons (mC (.int 0)) (maCons (mC (.int 1)) (maCons (mC (.str [104, 97, 115, 104])) maNil)))) (maCons (mC (.int 2)) (maCons (mC (.str [105, 110, 100, 101, 120])) maNil)))) maNil))) lId (mC (.str [40, 40, 48, 32, 104, 97, 115, 104, 32, 49, 41, 32, 105, 110, 100, 101, 120, 32, 50, 41])) lId))))))))))
def run_law : UF := runF 1 11 m_law
theorem S_law : FnScope N_law ["_law_script"] (defScope (top 53)) := ⟨rfl, rfl, rfl, by decide +kernel, rfl, by decide +kernel, by decide +kernel⟩
theorem b_law (B : Bts mg) (d__law_source : DfN P w K mg base C "_law_source" 2 1 run__law_source) (d__law_question : Df P w K mg base C "_law_question" 2 3 run__law_question) (d__law_written : Df P w K mg base C "_law_written" 1 1 run__law_written) (d_plan_text : Df P w K mg base C "plan_text" 2 20 run_plan_text) (d_question_text : Df P w K mg base C "question_text" 1 5 run_question_text) (d__law_of : Df P w K mg base C "_law_of" 2 2 run__law_of) (d__law_read : Df P w K mg base C "_law_read" 1 6 run__law_read) (d__law_plans : Df P w K mg base C "_law_plans" 2 15 (run__law_plans 6)) (d__law_text : Df P w K mg base C "_law_text" 1 7 (run__law_text 6)) (d__law_spoilt : Df P w K mg base C "_law_spoilt" 2 3 run__law_spoilt) (d__law_known : Df P w K mg base C "_law_known" 0 1 run__law_known) (d__law_bad : Df P w K mg base C "_law_bad" 1 5 run__law_bad) : ∀ (X : Cx) (W : WX), Cs P w K mg base N_law (defScope (top 53)) 20 X W → JB X C W (defBody (top 53)) m_law := fun _ _ c =>
  (jb_cons (st_for c (x_range1 c.e B (Ng.by (by decide +kernel)) (j_vcons (x_add (JE.o j_int) (JE.o (x_min c.e B (j_acons (JE.o (x_len c.e B (j_acons (p_ c.e (Nm.by (by decide +kernel))) j_anil rfl) rfl rfl (Ng.by (by decide +kernel)))) (j_acons (JE.o j_int) j_anil rfl) rfl) rfl rfl (Ng.by (by decide +kernel))))) j_vnil rfl) rfl) (tgC c (Nb.by (by decide +kernel))) (jb_cons (st_own c (Nb.by (by decide +kernel)) (x_callN c.e d__law_source (by decide) (Ng.by (by decide +kernel)) (j_vcons (v_ c.e (Nm.by (by decide +kernel))) (j_vcons (v_ c.e (Nm.by (by decide +kernel))) j_vnil rfl) rfl) (lenS (lenS len0)) rfl rfl) rfl rfl)
  (jb_cons (st_set c (Nb.by (by decide +kernel)) (x_lent c.e d__law_question (by decide) (Ng.by (by decide +kernel)) (Nm.by (by decide +kernel)) (j_vcons j_int j_vnil rfl) (lenS len0) rfl rfl) rfl rfl)
  (jb_cons (st_set c (Nb.by (by decide +kernel)) (x_call c.e d__law_written (by decide) (Ng.by (by decide +kernel)) (j_vcons (v_ c.e (Nm.by (by decide +kernel))) j_vnil rfl) (lenS len0) rfl rfl) rfl rfl)
  (jb_cons (js_if (t_ne (JE.o (x_call c.e d_question_text (by decide) (Ng.by (by decide +kernel)) (j_vcons (v_ c.e (Nm.by (by decide +kernel))) j_vnil rfl) (lenS len0) rfl rfl)) (p_ c.e (Nm.by (by decide +kernel))) c.e rfl) (jb_one (js_ret j_bl)) jb_nil)
  (jb_cons (st_for c (j_it (j_lst (j_vcons (x_lent c.e d__law_of (by decide) (Ng.by (by decide +kernel)) (Nm.by (by decide +kernel)) (j_vcons (x_call c.e d__law_plans (by decide) (Ng.by (by decide +kernel)) (j_vcons (v_ c.e (Nm.by (by decide +kernel))) (j_vcons (x_listR1 c.e B (Ng.by (by decide +kernel)) (Ng.by (by decide +kernel)) (x_len c.e B (j_acons (JE.o (x_ix (p_ c.e (Nm.by (by decide +kernel))) (JE.o j_int) (fun _ _ => rfl))) j_anil rfl) rfl rfl (Ng.by (by decide +kernel))) rfl) j_vnil rfl) rfl) (lenS (lenS len0)) rfl rfl) j_vnil rfl) (lenS len0) rfl rfl) j_vnil rfl))) (tgC c (Nb.by (by decide +kernel))) (jb_one (js_if (t_ne (JE.o (x_call c.e d_plan_text (by decide) (Ng.by (by decide +kernel)) (j_vcons (v_ c.e (Nm.by (by decide +kernel))) (j_vcons (v_ c.e (Nm.by (by decide +kernel))) j_vnil rfl) rfl) (lenS (lenS len0)) rfl rfl)) (JE.o (x_call c.e d__law_text (by decide) (Ng.by (by decide +kernel)) (j_vcons (v_ c.e (Nm.by (by decide +kernel))) j_vnil rfl) (lenS len0) rfl rfl)) c.e rfl) (jb_one (js_ret j_bl)) jb_nil)) (fun _ => rfl))
  (jb_cons (st_for c (x_range1 c.e B (Ng.by (by decide +kernel)) (j_vcons j_int j_vnil rfl) rfl) (tgC c (Nb.by (by decide +kernel))) (jb_cons (js_asg (jg_tup c.e.c.calm (jgs_cons (tgC c (Nb.by (by decide +kernel))) (jgs_cons (tgC c (Nb.by (by decide +kernel))) jgs_nil rfl) rfl) rfl rfl) (x_call c.e d__law_read (by decide) (Ng.by (by decide +kernel)) (j_vcons (v_ c.e (Nm.by (by decide +kernel))) j_vnil rfl) (lenS len0) rfl rfl) rfl rfl rfl)
  (jb_cons (js_if (JW.t (jw_or (t_ne (p_ c.e (Nm.by (by decide +kernel))) (JE.o (x_call c.e d__law_bad (by decide) (Ng.by (by decide +kernel)) (j_vcons (v_ c.e (Nm.by (by decide +kernel))) j_vnil rfl) (lenS len0) rfl rfl)) c.e rfl) (jw_or1 (JW.t (jw_and (t_eq (p_ c.e (Nm.by (by decide +kernel))) (JE.o j_int) c.e rfl) (jw_and1 (t_ne (p_ c.e (Nm.by (by decide +kernel))) (p_ c.e (Nm.by (by decide +kernel))) c.e rfl))))))) (jb_one (js_ret j_bl)) jb_nil)
  (jb_cons (js_if (JW.t (jw_and (t_is (p_ c.e (Nm.by (by decide +kernel))) (JE.o j_non) rfl) (jw_and1 (t_ne (JE.o (x_call c.e d__law_written (by decide) (Ng.by (by decide +kernel)) (j_vcons (v_ c.e (Nm.by (by decide +kernel))) j_vnil rfl) (lenS len0) rfl rfl)) (p_ c.e (Nm.by (by decide +kernel))) c.e rfl)))) (jb_one (js_ret j_bl)) jb_nil)
  (jb_one (st_set c (Nb.by (by decide +kernel)) (j_sl (JE.o (x_lent c.e d__law_spoilt (by decide) (Ng.by (by decide +kernel)) (Nm.by (by decide +kernel)) (j_vcons (v_ c.e (Nm.by (by decide +kernel))) j_vnil rfl) (lenS len0) rfl rfl)) jp_none (jp_of j_int)) rfl rfl))))) (fun _ => rfl))
  (jb_one (js_if (t_ne (JE.o (x_call c.e d__law_read (by decide) (Ng.by (by decide +kernel)) (j_vcons (x_lent c.e d__law_of (by decide) (Ng.by (by decide +kernel)) (Nm.by (by decide +kernel)) (j_vcons (j_lst (j_vcons j_non (j_vcons j_int (j_vcons j_bl (j_vcons (j_lst j_vnil) (j_vcons (j_tup (j_vcons (j_str rfl) j_vnil rfl)) (j_vcons (v_ c.e (Nm.by (by decide +kernel))) j_vnil rfl) rfl) rfl) rfl) rfl) rfl)) j_vnil rfl) (lenS len0) rfl rfl) j_vnil rfl) (lenS len0) rfl rfl)) (JE.o (j_tup (j_vcons j_non (j_vcons j_int j_vnil rfl) rfl))) c.e rfl) (jb_one (js_ret j_bl)) jb_nil)))))))) (fun _ => rfl))
  (jb_cons (st_set c (Nb.by (by decide +kernel)) (j_str rfl) rfl rfl)
  (jb_cons (st_set c (Nb.by (by decide +kernel)) (j_lst (j_vcons (j_str rfl) (j_vcons (v_ c.e (Nm.by (by decide +kernel))) (j_vcons (x_add (p_ c.e (Nm.by (by decide +kernel))) (JE.o (j_str rfl))) (j_vcons (x_add (p_ c.e (Nm.by (by decide +kernel))) (JE.o (j_str rfl))) j_vnil rfl) rfl) rfl) rfl)) rfl rfl)
  (jb_cons (st_set c (Nb.by (by decide +kernel)) (x_add (p_ c.e (Nm.by (by decide +kernel))) (JE.o (j_lst (j_vcons (x_add (p_ c.e (Nm.by (by decide +kernel))) (JE.o (j_str rfl))) (j_vcons (j_str rfl) (j_vcons (j_str rfl) j_vnil rfl) rfl) rfl)))) rfl rfl)
  (jb_cons (st_set c (Nb.by (by decide +kernel)) (x_add (p_ c.e (Nm.by (by decide +kernel))) (JE.o (j_lst (j_vcons (x_add (p_ c.e (Nm.by (by decide +kernel))) (JE.o (j_str rfl))) (j_vcons (x_add (p_ c.e (Nm.by (by decide +kernel))) (JE.o (j_str rfl))) j_vnil rfl) rfl)))) rfl rfl)
  (jb_cons (st_set c (Nb.by (by decide +kernel)) (x_add (p_ c.e (Nm.by (by decide +kernel))) (JE.o (j_lst (j_vcons (x_add (p_ c.e (Nm.by (by decide +kernel))) (JE.o (j_str rfl))) (j_vcons (x_add (JE.o (j_str rfl)) (p_ c.e (Nm.by (by decide +kernel)))) j_vnil rfl) rfl)))) rfl rfl)
  (jb_cons (x_setLc [("_law_text_here", 4)] c.e (j_it (v_ c.e (Nm.by (by decide +kernel)))) (blk_by (by decide +kernel)) (fun _ c' => (tg_ c' (Nl.by (by decide +kernel)))) (fun _ c' => jts_nil) (fun _ c' => (x_ix (JE.o (x_call c' d__law_read (by decide) (Ng.by (by decide +kernel)) (j_vcons (v_ c' (Nm.by (by decide +kernel))) j_vnil rfl) (lenS len0) rfl rfl)) (JE.o j_int) (fun _ _ => rfl))) (by decide) (fun _ => rfl) (Nl.by (by decide +kernel)) rfl rfl (by decide +kernel))
  (jb_cons (js_if (t_ne (p_ c.e (Nm.by (by decide +kernel))) (JE.o (j_lst (j_vcons j_int (j_vcons j_non (j_vcons j_int (j_vcons j_int (j_vcons j_int (j_vcons j_int (j_vcons j_int (j_vcons j_int (j_vcons j_int (j_vcons j_int (j_vcons j_int j_vnil rfl) rfl) rfl) rfl) rfl) rfl) rfl) rfl) rfl) rfl) rfl))) c.e rfl) (jb_one (js_ret j_bl)) jb_nil)
  (jb_one (js_ret (x_eq (JE.o (x_call c.e d_plan_text (by decide) (Ng.by (by decide +kernel)) (j_vcons (x_ix (JE.o (x_call0 c.e d__law_known (by decide) (Ng.by (by decide +kernel)))) (JE.o j_int) (fun _ _ => rfl)) (j_vcons (j_tup (j_vcons (j_tup (j_vcons j_int (j_vcons j_int (j_vcons (j_str rfl) j_vnil rfl) rfl) rfl)) (j_vcons j_int (j_vcons (j_str rfl) j_vnil rfl) rfl) rfl)) j_vnil rfl) rfl) (lenS (lenS len0)) rfl rfl)) (JE.o (j_str rfl)) c.e rfl)))))))))))
theorem D_law (B : Bts mg) (d__law_source : DfN P w K mg base C "_law_source" 2 1 run__law_source) (d__law_question : Df P w K mg base C "_law_question" 2 3 run__law_question) (d__law_written : Df P w K mg base C "_law_written" 1 1 run__law_written) (d_plan_text : Df P w K mg base C "plan_text" 2 20 run_plan_text) (d_question_text : Df P w K mg base C "question_text" 1 5 run_question_text) (d__law_of : Df P w K mg base C "_law_of" 2 2 run__law_of) (d__law_read : Df P w K mg base C "_law_read" 1 6 run__law_read) (d__law_plans : Df P w K mg base C "_law_plans" 2 15 (run__law_plans 6)) (d__law_text : Df P w K mg base C "_law_text" 1 7 (run__law_text 6)) (d__law_spoilt : Df P w K mg base C "_law_spoilt" 2 3 run__law_spoilt) (d__law_known : Df P w K mg base C "_law_known" 0 1 run__law_known) (d__law_bad : Df P w K mg base C "_law_bad" 1 5 run__law_bad) (F : FunD K "law" "law" (defArgs (top 53)) (defBody (top 53)) (defScope (top 53)) [] [] f fd) (hm : mg "law" = some (.ref f)) : Df P w K mg base C "law" 1 21 run_law := def_ok F S_law hm F.kp (F.bindsN fun _ _ _ _ _ _ us hl => match us, hl with | [_], _ => rfl) (b_law B d__law_source d__law_question d__law_written d_plan_text d_question_text d__law_of d__law_read d__law_plans d__law_text d__law_spoilt d__law_known d__law_bad)
end
end GJ

set_option Elab.async false
set_option linter.all false
set_option maxRecDepth 100000
set_option maxHeartbeats 0
namespace GJ
open PySem PySem.Spec L2 MP He
open PyProof.Rows hiding St
def dD (i : Nat) (x : Str) : DefD := ⟨(x, none), x, x, defArgs (top i), defBody (top i), defScope (top i), [], []⟩
def fn : List DefD := [dD 38 "_law_source", dD 39 "_law_draw", dD 40 "_law_of", dD 42 "_law_question", dD 48 "_law_written", dD 7 "is_tuple", dD 6 "is_number", dD 12 "are_numbers", dD 10 "is_table", dD 11 "is_link", dD 13 "is_good_question", dD 21 "need_question", dD 16 "tables_in", dD 17 "is_shape", dD 14 "are_linked", dD 15 "can_stand", dD 18 "can_be_led", dD 19 "is_part_plan", dD 20 "is_good_plan", dD 22 "need_plan", dD 23 "need_both", dD 26 "text_of", dD 34 "plan_text", dD 29 "line_of", dD 30 "lines_of", dD 35 "question_text", dD 31 "number_in", dD 32 "row_in", dD 33 "question_in", dD 36 "read_question", dD 49 "_law_read", dD 41 "_law_power", dD 43 "_law_tables", dD 44 "_law_can", dD 45 "_law_plans", dD 46 "_law_text", dD 52 "_law_spoilt", dD 47 "_law_known", dD 24 "is_question", dD 50 "_law_row", dD 51 "_law_bad", dD 53 "law"]
def fa : List Fa := ([.free "len", .free "abs", .free "int", .free "max", .free "min", .free "sum", .free "all", .free "any", .free "list", .free "tuple", .free "sorted", .free "range", .free "zip", .free "isinstance", .free "bool", .free "str", .free "set", .free "enumerate", .glo "_law_source", .glo "_law_draw", .glo "_law_of", .glo "_law_question", .glo "_law_written", .glo "is_tuple", .glo "is_number"] : List Fa) ++ ([.glo "are_numbers", .glo "is_table", .glo "is_link", .glo "is_good_question", .glo "need_question", .glo "tables_in", .glo "is_shape", .glo "are_linked", .glo "can_stand", .glo "can_be_led", .glo "is_part_plan", .glo "is_good_plan", .glo "need_plan", .glo "need_both", .glo "text_of", .glo "plan_text", .glo "line_of", .glo "lines_of", .glo "question_text", .glo "number_in", .glo "row_in", .glo "question_in", .glo "read_question", .glo "_law_read", .glo "_law_power"] : List Fa) ++ ([.glo "_law_tables", .glo "_law_can", .glo "_law_plans", .glo "_law_text", .glo "_law_spoilt", .glo "_law_known", .glo "is_question", .glo "_law_row", .glo "_law_bad", .glo "law", .glo "JoinError", .glo "InvalidQuestion", .glo "InvalidPlan", .glo "InvalidText", .glo "LENGTHS", .glo "METHODS", .exc "JoinError", .exc "InvalidQuestion", .exc "InvalidPlan", .free "super"] : List Fa)
def mks : List Str := []
def exK (K : PySem.W.Frag) : Bool := caB K "InvalidText" "InvalidText" "JoinError" true && (tupSB K "METHODS" [[104, 97, 115, 104], [105, 110, 100, 101, 120], [108, 111, 111, 112]] && (dctSB K "LENGTHS" [([116, 97, 98, 108, 101], 2), ([108, 105, 110, 107], 4), ([105, 110, 100, 101, 120], 1)] && (supB PySem.Challenge.rw_growjoins_k11_texts_of_questions_and_pla.prog.main.file K "InvalidText" "line" && (xfB K (ga K "InvalidText") && (true)))))
def loose : List Str := (["JoinError", "InvalidQuestion", "InvalidPlan", "InvalidText", "is_number", "is_tuple", "METHODS", "is_table", "is_link", "are_numbers", "is_good_question", "are_linked", "can_stand", "tables_in", "is_shape", "can_be_led", "is_part_plan", "is_good_plan", "need_question", "need_plan", "need_both", "is_question", "text_of", "LENGTHS", "line_of", "lines_of", "number_in", "row_in", "question_in", "plan_text"] : List Str) ++ (["question_text", "read_question", "_law_source", "_law_draw", "_law_of", "_law_power", "_law_question", "_law_tables", "_law_can", "_law_plans", "_law_text", "_law_known", "_law_written", "_law_read", "_law_row", "_law_bad", "_law_spoilt"] : List Str)
abbrev R : PySem.W.OpenRow := PySem.W.OpenLaw.row PySem.Challenge.rw_growjoins_k11_texts_of_questions_and_pla
def tsT : List Tab := [((fun K => ga K "LENGTHS"), [(⟨#[116, 97, 98, 108, 101]⟩ : Str), (⟨#[108, 105, 110, 107]⟩ : Str), (⟨#[105, 110, 100, 101, 120]⟩ : Str)])]
def spT : List (Str × Stmt) := [("InvalidText", (C8.clsBody (top 4)).getD 0 (.Pass ⟨0, 0, 0, 0⟩))]
abbrev tfs : List Defn := mks.map fun x => (x, none)
abbrev hk : PySem.W.Hook := hookY 4 fa fn tsT tfs exK spT
def ob (s : PySem.W.SharedT) : AlY := obsY 4 fa fn tsT tfs exK spT (HandSHeadRun.getT s)
theorem ob_eq (s : PySem.W.SharedT) : ob s = hk.obs s.abs := obsY_eq (HandSHeadRun.getT_eq s)
theorem rowRunF (w : World) : HandSHeadRun.RunEq R (PySem.W.view R.prog [53]) hk ob 3000 loose (w.withFollow "special-get-raises" false) := by
  intro os
  kernel_rfl
theorem rowRunT (w : World) : HandSHeadRun.RunEq R (PySem.W.view R.prog [53]) hk ob 3000 loose (w.withFollow "special-get-raises" true) := by
  intro os
  kernel_rfl
theorem run (w : World) : HandSHeadRun.RunEq R (PySem.W.view R.prog [53]) hk ob 3000 loose w := PySem.W.byRow2 "special-get-raises" (P := fun w => HandSHeadRun.RunEq R (PySem.W.view R.prog [53]) hk ob 3000 loose w) rowRunF rowRunT w
def CF (K : PySem.W.Frag) : Nat → Value
  | 0 => .ref (ga K "JoinError")
  | 1 => .ref (ga K "InvalidQuestion")
  | 2 => .ref (ga K "InvalidPlan")
  | 3 => .ref (ga K "InvalidText")
  | _ => .none
def FL : Nat → Str
  | 3 => "line"
  | _ => ""
def CC (K : PySem.W.Frag) : CT := ⟨CF K, tabL K mks, FL⟩
theorem facts {w : World} {K : PySem.W.Frag} {h : Heap} {mg : Str → Option Value} {f : Addr} (X : K.In h) (G : h.Ns mainGlobals mg) (hfa : mg "law" = some (.ref f)) (c : SaysD fa fn K) (ce : exK K = true) (ct : SaysT fa fn tsT w K) (ci : spT.map (fun p => iniObs K p.1) = spT.map iniVal) :
    ∃ fd : FuncData, (∀ (s : Shared) (v : Value), BindsTo s fd ⟨[v], []⟩ [("_law_script", v)]) ∧ ∀ base : Heap, K.In base → base.Ns mainGlobals mg → (∀ p ∈ tfs.map (cT K), LamX.TabB base mg p.1 p.2) → FnOk PySem.Challenge.rw_growjoins_k11_texts_of_questions_and_pla.prog w K mg base (L2.CX PySem.Challenge.rw_growjoins_k11_texts_of_questions_and_pla.prog w) 21 f fd ["_law_script"] (spU K (CC K) 1 run_law) := by
  have B : Bts mg := ⟨free_ok X G (c.fact 0 (f := .free "len") rfl), free_ok X G (c.fact 1 (f := .free "abs") rfl), free_ok X G (c.fact 2 (f := .free "int") rfl), free_ok X G (c.fact 3 (f := .free "max") rfl), free_ok X G (c.fact 4 (f := .free "min") rfl), free_ok X G (c.fact 5 (f := .free "sum") rfl), free_ok X G (c.fact 6 (f := .free "all") rfl), free_ok X G (c.fact 7 (f := .free "any") rfl), free_ok X G (c.fact 8 (f := .free "list") rfl), free_ok X G (c.fact 9 (f := .free "tuple") rfl), free_ok X G (c.fact 10 (f := .free "sorted") rfl), free_ok X G (c.fact 11 (f := .free "range") rfl), free_ok X G (c.fact 12 (f := .free "zip") rfl), free_ok X G (c.fact 13 (f := .free "isinstance") rfl), free_ok X G (c.fact 14 (f := .free "bool") rfl), free_ok X G (c.fact 15 (f := .free "str") rfl)⟩
  have g__law_source := glo_ok X G (c.fact 18 (f := .glo "_law_source") rfl)
  have g__law_draw := glo_ok X G (c.fact 19 (f := .glo "_law_draw") rfl)
  have g__law_of := glo_ok X G (c.fact 20 (f := .glo "_law_of") rfl)
  have g__law_question := glo_ok X G (c.fact 21 (f := .glo "_law_question") rfl)
  have g__law_written := glo_ok X G (c.fact 22 (f := .glo "_law_written") rfl)
  have g_is_tuple := glo_ok X G (c.fact 23 (f := .glo "is_tuple") rfl)
  have g_is_number := glo_ok X G (c.fact 24 (f := .glo "is_number") rfl)
  have g_are_numbers := glo_ok X G (c.fact 25 (f := .glo "are_numbers") rfl)
  have g_is_table := glo_ok X G (c.fact 26 (f := .glo "is_table") rfl)
  have g_is_link := glo_ok X G (c.fact 27 (f := .glo "is_link") rfl)
  have g_is_good_question := glo_ok X G (c.fact 28 (f := .glo "is_good_question") rfl)
  have g_need_question := glo_ok X G (c.fact 29 (f := .glo "need_question") rfl)
  have g_tables_in := glo_ok X G (c.fact 30 (f := .glo "tables_in") rfl)
  have g_is_shape := glo_ok X G (c.fact 31 (f := .glo "is_shape") rfl)
  have g_are_linked := glo_ok X G (c.fact 32 (f := .glo "are_linked") rfl)
  have g_can_stand := glo_ok X G (c.fact 33 (f := .glo "can_stand") rfl)
  have g_can_be_led := glo_ok X G (c.fact 34 (f := .glo "can_be_led") rfl)
  have g_is_part_plan := glo_ok X G (c.fact 35 (f := .glo "is_part_plan") rfl)
  have g_is_good_plan := glo_ok X G (c.fact 36 (f := .glo "is_good_plan") rfl)
  have g_need_plan := glo_ok X G (c.fact 37 (f := .glo "need_plan") rfl)
  have g_need_both := glo_ok X G (c.fact 38 (f := .glo "need_both") rfl)
  have g_text_of := glo_ok X G (c.fact 39 (f := .glo "text_of") rfl)
  have g_plan_text := glo_ok X G (c.fact 40 (f := .glo "plan_text") rfl)
  have g_line_of := glo_ok X G (c.fact 41 (f := .glo "line_of") rfl)
  have g_lines_of := glo_ok X G (c.fact 42 (f := .glo "lines_of") rfl)
  have g_question_text := glo_ok X G (c.fact 43 (f := .glo "question_text") rfl)
  have g_number_in := glo_ok X G (c.fact 44 (f := .glo "number_in") rfl)
  have g_row_in := glo_ok X G (c.fact 45 (f := .glo "row_in") rfl)
  have g_question_in := glo_ok X G (c.fact 46 (f := .glo "question_in") rfl)
  have g_read_question := glo_ok X G (c.fact 47 (f := .glo "read_question") rfl)
  have g__law_read := glo_ok X G (c.fact 48 (f := .glo "_law_read") rfl)
  have g__law_power := glo_ok X G (c.fact 49 (f := .glo "_law_power") rfl)
  have g__law_tables := glo_ok X G (c.fact 50 (f := .glo "_law_tables") rfl)
  have g__law_can := glo_ok X G (c.fact 51 (f := .glo "_law_can") rfl)
  have g__law_plans := glo_ok X G (c.fact 52 (f := .glo "_law_plans") rfl)
  have g__law_text := glo_ok X G (c.fact 53 (f := .glo "_law_text") rfl)
  have g__law_spoilt := glo_ok X G (c.fact 54 (f := .glo "_law_spoilt") rfl)
  have g__law_known := glo_ok X G (c.fact 55 (f := .glo "_law_known") rfl)
  have g_is_question := glo_ok X G (c.fact 56 (f := .glo "is_question") rfl)
  have g__law_row := glo_ok X G (c.fact 57 (f := .glo "_law_row") rfl)
  have g__law_bad := glo_ok X G (c.fact 58 (f := .glo "_law_bad") rfl)
  have g_law := glo_ok X G (c.fact 59 (f := .glo "law") rfl)
  have g_JoinError := glo_ok X G (c.fact 60 (f := .glo "JoinError") rfl)
  have g_InvalidQuestion := glo_ok X G (c.fact 61 (f := .glo "InvalidQuestion") rfl)
  have g_InvalidPlan := glo_ok X G (c.fact 62 (f := .glo "InvalidPlan") rfl)
  have g_InvalidText := glo_ok X G (c.fact 63 (f := .glo "InvalidText") rfl)
  have g_LENGTHS := glo_ok X G (c.fact 64 (f := .glo "LENGTHS") rfl)
  have g_METHODS := glo_ok X G (c.fact 65 (f := .glo "METHODS") rfl)
  have hset := free_ok X G (c.fact 16 (f := .free "set") rfl)
  have henum := free_ok X G (c.fact 17 (f := .free "enumerate") rfl)
  have e_JoinError : Er K mg (CC K) "JoinError" 0 := er_of (by decide) rfl g_JoinError (c.fact 66 (f := .exc "JoinError") rfl)
  have e_InvalidQuestion : Er K mg (CC K) "InvalidQuestion" 1 := er_of (by decide) rfl g_InvalidQuestion (c.fact 67 (f := .exc "InvalidQuestion") rfl)
  have e_InvalidPlan : Er K mg (CC K) "InvalidPlan" 2 := er_of (by decide) rfl g_InvalidPlan (c.fact 68 (f := .exc "InvalidPlan") rfl)
  have hsuper := free_ok X G (c.fact 69 (f := .free "super") rfl)
  unfold exK at ce
  obtain ⟨x_InvalidText, ce⟩ := ba ce
  obtain ⟨x_METHODS, ce⟩ := ba ce
  obtain ⟨x_LENGTHS, ce⟩ := ba ce
  obtain ⟨x_own_InvalidText, ce⟩ := ba ce
  obtain ⟨x_xf_InvalidText, ce⟩ := ba ce
  have e_InvalidText : ErF PySem.Challenge.rw_growjoins_k11_texts_of_questions_and_pla.prog K mg (CC K) "InvalidText" 3 := erF_of (st := (C8.clsBody (top 4)).getD 0 (.Pass ⟨0, 0, 0, 0⟩)) (self := "self") (par := "line") (by decide) rfl g_InvalidText rfl hsuper x_own_InvalidText (by have := congrArg (fun l : List IniV => l[0]?) ci; exact Option.some.inj this) rfl rfl (by decide +kernel) (by decide +kernel) rfl rfl (fun _ _ _ _ _ _ _ _ _ _ _ => rfl)
  have cf_InvalidText : CaughtF K (CC K) (.ref (ga K "InvalidText")) (.ref (ga K "JoinError")) "line" ex_InvalidText := ⟨fun n r e => by
    unfold ex_InvalidText at e
    cases q : Nat.ble 1000 n && Nat.beq (n % 1000) 3 with
    | false => rw [q] at e; cases e
    | true =>
      rw [q] at e; cases e
      obtain ⟨q1, q2⟩ := ba q
      have q2 := Nat.eq_of_beq_eq_true q2
      obtain ⟨k1, D0, k2, k3, k4⟩ := caB_ok x_InvalidText
      have hD : D0 = ga K "InvalidText" := (Value.ref.inj k2).symm
      subst hD
      have hc : (CC K) n = .ref (ga K "InvalidText") := by
        show CF K (n % 1000) = _
        rw [q2] <;> rfl
      refine ⟨Nat.le_of_ble_eq_true q1, rfl, (by show FL (n % 1000) = _; rw [q2] <;> rfl), (by rw [hc]; exact k1), _, hc, k3, xfB_ok x_xf_InvalidText, ?_, k4⟩
      unfold supB at x_own_InvalidText
      exact eqO_ok (ba (ba (ba (ba (ba (ba x_own_InvalidText).2).2).2).2).2).1⟩
  have h_LENGTHS : KvF w K mg "LENGTHS" [([116, 97, 98, 108, 101], 2), ([108, 105, 110, 107], 4), ([105, 110, 100, 101, 120], 1)] := ⟨g_LENGTHS, x_LENGTHS, ct.tab 0 (t := ((fun K => ga K "LENGTHS"), _)) rfl⟩
  have h_METHODS := And.intro g_METHODS x_METHODS
  obtain ⟨fd__law_source, F__law_source⟩ := c.def_ 0 (d := dD 38 "_law_source") rfl
  obtain ⟨fd__law_draw, F__law_draw⟩ := c.def_ 1 (d := dD 39 "_law_draw") rfl
  obtain ⟨fd__law_of, F__law_of⟩ := c.def_ 2 (d := dD 40 "_law_of") rfl
  obtain ⟨fd__law_question, F__law_question⟩ := c.def_ 3 (d := dD 42 "_law_question") rfl
  obtain ⟨fd__law_written, F__law_written⟩ := c.def_ 4 (d := dD 48 "_law_written") rfl
  obtain ⟨fd_is_tuple, F_is_tuple⟩ := c.def_ 5 (d := dD 7 "is_tuple") rfl
  obtain ⟨fd_is_number, F_is_number⟩ := c.def_ 6 (d := dD 6 "is_number") rfl
  obtain ⟨fd_are_numbers, F_are_numbers⟩ := c.def_ 7 (d := dD 12 "are_numbers") rfl
  obtain ⟨fd_is_table, F_is_table⟩ := c.def_ 8 (d := dD 10 "is_table") rfl
  obtain ⟨fd_is_link, F_is_link⟩ := c.def_ 9 (d := dD 11 "is_link") rfl
  obtain ⟨fd_is_good_question, F_is_good_question⟩ := c.def_ 10 (d := dD 13 "is_good_question") rfl
  obtain ⟨fd_need_question, F_need_question⟩ := c.def_ 11 (d := dD 21 "need_question") rfl
  obtain ⟨fd_tables_in, F_tables_in⟩ := c.def_ 12 (d := dD 16 "tables_in") rfl
  obtain ⟨fd_is_shape, F_is_shape⟩ := c.def_ 13 (d := dD 17 "is_shape") rfl
  obtain ⟨fd_are_linked, F_are_linked⟩ := c.def_ 14 (d := dD 14 "are_linked") rfl
  obtain ⟨fd_can_stand, F_can_stand⟩ := c.def_ 15 (d := dD 15 "can_stand") rfl
  obtain ⟨fd_can_be_led, F_can_be_led⟩ := c.def_ 16 (d := dD 18 "can_be_led") rfl
  obtain ⟨fd_is_part_plan, F_is_part_plan⟩ := c.def_ 17 (d := dD 19 "is_part_plan") rfl
  obtain ⟨fd_is_good_plan, F_is_good_plan⟩ := c.def_ 18 (d := dD 20 "is_good_plan") rfl
  obtain ⟨fd_need_plan, F_need_plan⟩ := c.def_ 19 (d := dD 22 "need_plan") rfl
  obtain ⟨fd_need_both, F_need_both⟩ := c.def_ 20 (d := dD 23 "need_both") rfl
  obtain ⟨fd_text_of, F_text_of⟩ := c.def_ 21 (d := dD 26 "text_of") rfl
  obtain ⟨fd_plan_text, F_plan_text⟩ := c.def_ 22 (d := dD 34 "plan_text") rfl
  obtain ⟨fd_line_of, F_line_of⟩ := c.def_ 23 (d := dD 29 "line_of") rfl
  obtain ⟨fd_lines_of, F_lines_of⟩ := c.def_ 24 (d := dD 30 "lines_of") rfl
  obtain ⟨fd_question_text, F_question_text⟩ := c.def_ 25 (d := dD 35 "question_text") rfl
  obtain ⟨fd_number_in, F_number_in⟩ := c.def_ 26 (d := dD 31 "number_in") rfl
  obtain ⟨fd_row_in, F_row_in⟩ := c.def_ 27 (d := dD 32 "row_in") rfl
  obtain ⟨fd_question_in, F_question_in⟩ := c.def_ 28 (d := dD 33 "question_in") rfl
  obtain ⟨fd_read_question, F_read_question⟩ := c.def_ 29 (d := dD 36 "read_question") rfl
  obtain ⟨fd__law_read, F__law_read⟩ := c.def_ 30 (d := dD 49 "_law_read") rfl
  obtain ⟨fd__law_power, F__law_power⟩ := c.def_ 31 (d := dD 41 "_law_power") rfl
  obtain ⟨fd__law_tables, F__law_tables⟩ := c.def_ 32 (d := dD 43 "_law_tables") rfl
  obtain ⟨fd__law_can, F__law_can⟩ := c.def_ 33 (d := dD 44 "_law_can") rfl
  obtain ⟨fd__law_plans, F__law_plans⟩ := c.def_ 34 (d := dD 45 "_law_plans") rfl
  obtain ⟨fd__law_text, F__law_text⟩ := c.def_ 35 (d := dD 46 "_law_text") rfl
  obtain ⟨fd__law_spoilt, F__law_spoilt⟩ := c.def_ 36 (d := dD 52 "_law_spoilt") rfl
  obtain ⟨fd__law_known, F__law_known⟩ := c.def_ 37 (d := dD 47 "_law_known") rfl
  obtain ⟨fd_is_question, F_is_question⟩ := c.def_ 38 (d := dD 24 "is_question") rfl
  obtain ⟨fd__law_row, F__law_row⟩ := c.def_ 39 (d := dD 50 "_law_row") rfl
  obtain ⟨fd__law_bad, F__law_bad⟩ := c.def_ 40 (d := dD 51 "_law_bad") rfl
  obtain ⟨fd, FL⟩ := c.def_ 41 (d := dD 53 "law") rfl
  have e := hfa.symm.trans g_law
  cases e
  have b := FunD.bindsA (ps := ["_law_script"]) FL fun _ _ _ _ _ _ us hl => match us, hl with | [_], _ => rfl
  refine ⟨fd, fun s v => b s [v] rfl, fun base _ _ tbs => ?_⟩
  have d__law_source : DfN PySem.Challenge.rw_growjoins_k11_texts_of_questions_and_pla.prog w K mg base (CC K) "_law_source" 2 1 run__law_source := D__law_source B F__law_source g__law_source
  have d__law_draw : Df PySem.Challenge.rw_growjoins_k11_texts_of_questions_and_pla.prog w K mg base (CC K) "_law_draw" 2 1 run__law_draw := D__law_draw B F__law_draw g__law_draw
  have d__law_of : Df PySem.Challenge.rw_growjoins_k11_texts_of_questions_and_pla.prog w K mg base (CC K) "_law_of" 2 2 run__law_of := D__law_of B d__law_draw F__law_of g__law_of
  have d__law_question : Df PySem.Challenge.rw_growjoins_k11_texts_of_questions_and_pla.prog w K mg base (CC K) "_law_question" 2 3 run__law_question := D__law_question B d__law_draw d__law_of F__law_question g__law_question
  have d__law_written : Df PySem.Challenge.rw_growjoins_k11_texts_of_questions_and_pla.prog w K mg base (CC K) "_law_written" 1 1 run__law_written := D__law_written B F__law_written g__law_written
  have d_is_tuple : Df PySem.Challenge.rw_growjoins_k11_texts_of_questions_and_pla.prog w K mg base (CC K) "is_tuple" 3 1 run_is_tuple := D_is_tuple B F_is_tuple g_is_tuple
  have d_is_number : Df PySem.Challenge.rw_growjoins_k11_texts_of_questions_and_pla.prog w K mg base (CC K) "is_number" 3 1 run_is_number := D_is_number B F_is_number g_is_number
  have d_are_numbers : Df PySem.Challenge.rw_growjoins_k11_texts_of_questions_and_pla.prog w K mg base (CC K) "are_numbers" 3 2 run_are_numbers := D_are_numbers B d_is_tuple d_is_number F_are_numbers g_are_numbers
  have d_is_table : Df PySem.Challenge.rw_growjoins_k11_texts_of_questions_and_pla.prog w K mg base (CC K) "is_table" 1 2 run_is_table := D_is_table B d_is_tuple d_is_number F_is_table g_is_table
  have d_is_link : Df PySem.Challenge.rw_growjoins_k11_texts_of_questions_and_pla.prog w K mg base (CC K) "is_link" 2 2 run_is_link := D_is_link B d_is_number d_is_tuple F_is_link g_is_link
  have d_is_good_question : Df PySem.Challenge.rw_growjoins_k11_texts_of_questions_and_pla.prog w K mg base (CC K) "is_good_question" 1 3 run_is_good_question := D_is_good_question B d_are_numbers d_is_tuple d_is_table d_is_link F_is_good_question g_is_good_question
  have d_need_question : Df PySem.Challenge.rw_growjoins_k11_texts_of_questions_and_pla.prog w K mg base (CC K) "need_question" 1 4 run_need_question := D_need_question B e_InvalidQuestion d_is_good_question F_need_question g_need_question
  have d_tables_in : Df PySem.Challenge.rw_growjoins_k11_texts_of_questions_and_pla.prog w K mg base (CC K) "tables_in" 1 7 (run_tables_in 6) := D_tables_in B F_tables_in g_tables_in 6
  have d_is_shape : Df PySem.Challenge.rw_growjoins_k11_texts_of_questions_and_pla.prog w K mg base (CC K) "is_shape" 3 8 (run_is_shape 6) := D_is_shape B h_METHODS d_is_number d_is_tuple F_is_shape g_is_shape 6
  have d_are_linked : Df PySem.Challenge.rw_growjoins_k11_texts_of_questions_and_pla.prog w K mg base (CC K) "are_linked" 3 1 run_are_linked := D_are_linked B F_are_linked g_are_linked
  have d_can_stand : Df PySem.Challenge.rw_growjoins_k11_texts_of_questions_and_pla.prog w K mg base (CC K) "can_stand" 4 8 run_can_stand := D_can_stand B d_are_linked d_tables_in F_can_stand g_can_stand
  have d_can_be_led : Df PySem.Challenge.rw_growjoins_k11_texts_of_questions_and_pla.prog w K mg base (CC K) "can_be_led" 2 15 (run_can_be_led 6) := D_can_be_led B d_can_stand F_can_be_led g_can_be_led 6
  have d_is_part_plan : Df PySem.Challenge.rw_growjoins_k11_texts_of_questions_and_pla.prog w K mg base (CC K) "is_part_plan" 2 16 run_is_part_plan := D_is_part_plan B hset d_tables_in d_is_shape d_can_be_led F_is_part_plan g_is_part_plan
  have d_is_good_plan : Df PySem.Challenge.rw_growjoins_k11_texts_of_questions_and_pla.prog w K mg base (CC K) "is_good_plan" 2 17 run_is_good_plan := D_is_good_plan B d_is_part_plan d_tables_in F_is_good_plan g_is_good_plan
  have d_need_plan : Df PySem.Challenge.rw_growjoins_k11_texts_of_questions_and_pla.prog w K mg base (CC K) "need_plan" 2 18 run_need_plan := D_need_plan B e_InvalidPlan d_is_good_plan F_need_plan g_need_plan
  have d_need_both : Df PySem.Challenge.rw_growjoins_k11_texts_of_questions_and_pla.prog w K mg base (CC K) "need_both" 2 19 run_need_both := D_need_both B d_need_question d_need_plan F_need_both g_need_both
  have d_text_of : Df PySem.Challenge.rw_growjoins_k11_texts_of_questions_and_pla.prog w K mg base (CC K) "text_of" 1 7 (run_text_of 6) := D_text_of B F_text_of g_text_of 6
  have d_plan_text : Df PySem.Challenge.rw_growjoins_k11_texts_of_questions_and_pla.prog w K mg base (CC K) "plan_text" 2 20 run_plan_text := D_plan_text B d_need_both d_text_of F_plan_text g_plan_text
  have d_line_of : Df PySem.Challenge.rw_growjoins_k11_texts_of_questions_and_pla.prog w K mg base (CC K) "line_of" 2 1 run_line_of := D_line_of B F_line_of g_line_of
  have d_lines_of : Df PySem.Challenge.rw_growjoins_k11_texts_of_questions_and_pla.prog w K mg base (CC K) "lines_of" 1 2 run_lines_of := D_lines_of B d_line_of F_lines_of g_lines_of
  have d_question_text : Df PySem.Challenge.rw_growjoins_k11_texts_of_questions_and_pla.prog w K mg base (CC K) "question_text" 1 5 run_question_text := D_question_text B d_need_question d_lines_of F_question_text g_question_text
  have d_number_in : Df PySem.Challenge.rw_growjoins_k11_texts_of_questions_and_pla.prog w K mg base (CC K) "number_in" 1 1 run_number_in := D_number_in B F_number_in g_number_in
  have d_row_in : Df PySem.Challenge.rw_growjoins_k11_texts_of_questions_and_pla.prog w K mg base (CC K) "row_in" 1 2 run_row_in := D_row_in B h_LENGTHS d_number_in F_row_in g_row_in
  have d_question_in : Df PySem.Challenge.rw_growjoins_k11_texts_of_questions_and_pla.prog w K mg base (CC K) "question_in" 1 4 run_question_in := D_question_in B e_InvalidText d_row_in d_is_good_question d_lines_of F_question_in g_question_in
  have d_read_question : Df PySem.Challenge.rw_growjoins_k11_texts_of_questions_and_pla.prog w K mg base (CC K) "read_question" 1 5 run_read_question := D_read_question B d_question_in F_read_question g_read_question
  have d__law_read : Df PySem.Challenge.rw_growjoins_k11_texts_of_questions_and_pla.prog w K mg base (CC K) "_law_read" 1 6 run__law_read := D__law_read B g_InvalidText g_JoinError cf_InvalidText d_read_question F__law_read g__law_read
  have d__law_power : Df PySem.Challenge.rw_growjoins_k11_texts_of_questions_and_pla.prog w K mg base (CC K) "_law_power" 2 1 run__law_power := D__law_power B F__law_power g__law_power
  have d__law_tables : Df PySem.Challenge.rw_growjoins_k11_texts_of_questions_and_pla.prog w K mg base (CC K) "_law_tables" 1 7 (run__law_tables 6) := D__law_tables B F__law_tables g__law_tables 6
  have d__law_can : Df PySem.Challenge.rw_growjoins_k11_texts_of_questions_and_pla.prog w K mg base (CC K) "_law_can" 4 8 run__law_can := D__law_can B d__law_tables F__law_can g__law_can
  have d__law_plans : Df PySem.Challenge.rw_growjoins_k11_texts_of_questions_and_pla.prog w K mg base (CC K) "_law_plans" 2 15 (run__law_plans 6) := D__law_plans B d__law_power d__law_can F__law_plans g__law_plans 6
  have d__law_text : Df PySem.Challenge.rw_growjoins_k11_texts_of_questions_and_pla.prog w K mg base (CC K) "_law_text" 1 7 (run__law_text 6) := D__law_text B F__law_text g__law_text 6
  have d__law_spoilt : Df PySem.Challenge.rw_growjoins_k11_texts_of_questions_and_pla.prog w K mg base (CC K) "_law_spoilt" 2 3 run__law_spoilt := D__law_spoilt B d__law_draw d__law_of F__law_spoilt g__law_spoilt
  have d__law_known : Df PySem.Challenge.rw_growjoins_k11_texts_of_questions_and_pla.prog w K mg base (CC K) "_law_known" 0 1 run__law_known := D__law_known B F__law_known g__law_known
  have d_is_question : Df PySem.Challenge.rw_growjoins_k11_texts_of_questions_and_pla.prog w K mg base (CC K) "is_question" 1 4 run_is_question := D_is_question B d_is_good_question F_is_question g_is_question
  have d__law_row : Df PySem.Challenge.rw_growjoins_k11_texts_of_questions_and_pla.prog w K mg base (CC K) "_law_row" 1 1 run__law_row := D__law_row B F__law_row g__law_row
  have d__law_bad : Df PySem.Challenge.rw_growjoins_k11_texts_of_questions_and_pla.prog w K mg base (CC K) "_law_bad" 1 5 run__law_bad := D__law_bad B henum d_is_question d__law_row d__law_written F__law_bad g__law_bad
  exact law_ok FL S_law (b_law B d__law_source d__law_question d__law_written d_plan_text d_question_text d__law_of d__law_read d__law_plans d__law_text d__law_spoilt d__law_known d__law_bad)
end GJ

set_option Elab.async false
set_option linter.all false
set_option maxRecDepth 100000
set_option maxHeartbeats 2000000
namespace GJ
open PySem L2 MP

@[simp] theorem blt_dec (a b : Nat) : Nat.blt a b = decide (a < b) := by
  cases h : Nat.blt a b with
  | true => exact (decide_eq_true (p := a < b) (Nat.le_of_ble_eq_true h)).symm
  | false =>
    by_cases q : a < b
    · have := Nat.ble_eq_true_of_le q
      rw [show Nat.blt a b = Nat.ble (a + 1) b from rfl] at h
      rw [h] at this; cases this
    · rw [decide_eq_false q]
@[simp] theorem ble_dec (a b : Nat) : Nat.ble a b = decide (a ≤ b) := by
  cases h : Nat.ble a b with
  | true => rw [decide_eq_true (Nat.le_of_ble_eq_true h)]
  | false =>
    by_cases q : a ≤ b
    · rw [Nat.ble_eq_true_of_le q] at h; cases h
    · rw [decide_eq_false q]
theorem gcd_step (a b : Int) (h : 0 < b) : Int.gcd b (a % b) = Int.gcd a b := by
  have e := Int.emod_add_mul_ediv a b
  apply Nat.dvd_antisymm
  · apply Int.ofNat_dvd.mp
    apply Int.dvd_coe_gcd
    · have h1 := Int.gcd_dvd_left b (a % b)
      have h2 := Int.gcd_dvd_right b (a % b)
      have := Int.dvd_add h2 (Int.dvd_mul_of_dvd_left (c := a / b) h1)
      rwa [e] at this
    · exact Int.gcd_dvd_left b (a % b)
  · apply Int.ofNat_dvd.mp
    apply Int.dvd_coe_gcd
    · exact Int.gcd_dvd_right a b
    · have h1 := Int.gcd_dvd_left a b
      have h2 := Int.gcd_dvd_right a b
      have := Int.dvd_sub h1 (Int.dvd_mul_of_dvd_left (c := a / b) h2)
      have e2 : a - b * (a / b) = a % b := by omega
      rwa [e2] at this
theorem half_lt {k : Nat} {a b : Int} (hb : 0 < b) (ha : b < a) (h : a < 2 ^ (k + 1)) : a % b < 2 ^ k := by
  have h1 : a % b < b := Int.emod_lt_of_pos a hb
  have h2 : a % b + b ≤ a := by
    have := Int.emod_add_mul_ediv a b
    have h3 : 1 ≤ a / b := by
      apply (Int.le_ediv_iff_mul_le hb).mpr
      omega
    have h4 : b * 1 ≤ b * (a / b) := Int.mul_le_mul_of_nonneg_left h3 (by omega)
    omega
  have h5 : (2 : Int) ^ (k + 1) = 2 * 2 ^ k := by rw [Int.pow_succ]; omega
  omega
/-- Euclid's loop -/
theorem loop_gcd {mc : ME} {mb : MS} (h1 : ∀ a b : Int, mc [.va (.int a), .va (.int b)] = .ok (.bl (!decide (b = 0))) [.va (.int a), .va (.int b)])
    (h2 : ∀ a b : Int, 0 < b → mb [.va (.int a), .va (.int b)] = .nx [.va (.int b), .va (.int (a % b))]) :
    ∀ (k : Nat) (a b : Int), 0 ≤ b → b < 2 ^ k → ∀ n, 2 * k + 1 ≤ n → ∃ g : Int, whileGo mc mb n [.va (.int a), .va (.int b)] = .nx [.va (.int g), .va (.int 0)] ∧ g.natAbs = Int.gcd a b ∧ (0 ≤ a → 0 ≤ g) := by
  intro k
  induction k with
  | zero =>
    intro a b h0 hb n hn
    have : b = 0 := by simp at hb; omega
    subst this
    obtain ⟨m, rfl⟩ : ∃ m, n = m + 1 := ⟨n - 1, by omega⟩
    exact ⟨a, by simp [whileGo, h1], by simp, id⟩
  | succ k ih =>
    intro a b h0 hb n hn
    obtain ⟨m, rfl⟩ : ∃ m, n = m + 2 := ⟨n - 2, by omega⟩
    by_cases hz : b = 0
    · subst hz
      exact ⟨a, by simp [whileGo, h1], by simp, id⟩
    · have hp : 0 < b := by omega
      have hr0 : 0 ≤ a % b := Int.emod_nonneg a hz
      by_cases hr : a % b = 0
      · refine ⟨b, ?_, ?_, fun _ => h0⟩
        · simp [whileGo, h1, h2 a b hp, hz, hr]
        · rw [← gcd_step a b hp, hr]; simp
      · have hrp : 0 < a % b := by omega
        obtain ⟨g, e1, e2, e3⟩ := ih (a % b) (b % (a % b)) (Int.emod_nonneg _ hr) (half_lt hrp (Int.emod_lt_of_pos a hp) hb) m (by omega)
        refine ⟨g, ?_, ?_, fun _ => e3 hr0⟩
        · simp [whileGo, h1, h2 a b hp, h2 b (a % b) hrp, hz, hr]
          exact e1
        · rw [e2, gcd_step _ _ hrp, gcd_step a b hp]
def Bd (x : Int) (k : Nat) : Prop := x.natAbs ≤ 2 ^ k
theorem Bd.mono {x : Int} {a b : Nat} (h : Bd x a) (e : a ≤ b) : Bd x b := Nat.le_trans h (Nat.pow_le_pow_right (by decide) e)
theorem Bd.mul {x y : Int} {a b : Nat} (h : Bd x a) (h' : Bd y b) : Bd (x * y) (a + b) := by
  unfold Bd at *
  rw [Int.natAbs_mul, Nat.pow_add]
  exact Nat.mul_le_mul h h'
theorem Bd.add {x y : Int} {a : Nat} (h : Bd x a) (h' : Bd y a) : Bd (x + y) (a + 1) := by
  unfold Bd at *
  have := Int.natAbs_add_le x y
  rw [Nat.pow_succ]
  omega
theorem Bd.neg {x : Int} {a : Nat} (h : Bd x a) : Bd (-x) a := by
  unfold Bd at *
  rw [Int.natAbs_neg]; exact h
theorem Bd.sub {x y : Int} {a : Nat} (h : Bd x a) (h' : Bd y a) : Bd (x - y) (a + 1) := by
  rw [Int.sub_eq_add_neg]
  exact h.add h'.neg
theorem Bd.pow {x : Int} {a : Nat} (h : Bd x a) : ∀ n : Nat, Bd (x ^ n) (a * n)
  | 0 => by unfold Bd; simp
  | n + 1 => by
    rw [Int.pow_succ, Nat.mul_succ]
    exact (Bd.pow h n).mul h
theorem Bd.of {x : Int} {k : Nat} (h : x.natAbs ≤ 2 ^ k) : Bd x k := h
theorem Bd.log {x : Int} {a : Nat} (h : Bd x a) : x.natAbs.log2 ≤ a := by
  unfold Bd at h
  by_cases h0 : x.natAbs = 0
  · rw [h0]; exact Nat.le_trans (by decide) (Nat.zero_le a)
  · have : x.natAbs < 2 ^ (a + 1) := by rw [Nat.pow_succ]; have := Nat.two_pow_pos a; omega
    have := (Nat.log2_lt h0).mpr this
    omega
theorem fMul_ok {x y : Int} {a b : Nat} (hx : Bd x a) (hy : Bd y b) (h : a + b < 1000000) : fMul (.int x) (.int y) = some (.int (x * y)) := by
  have h1 := hx.log
  have h2 := hy.log
  have : x.natAbs.log2 + y.natAbs.log2 < 1000000 := by omega
  simp only [fMul, blt_dec, decide_eq_true this]
theorem fDiv_ok {x y : Int} {b : Nat} (h0 : 0 < y) (hy : Bd y b) (h : b < 9000) : fDiv (.int x) (.int y) = some (.int (x / y)) := by
  have h2 := hy.log
  have : y.natAbs.log2 < 9000 := by omega
  simp only [fDiv, blt_dec, decide_eq_true this, decide_eq_true h0, Bool.and_self]
def qD (q : Rat) : D := .tup [.int q.num, .int (q.den : Int)]
theorem Bd.lt {x : Int} {a k : Nat} (h : Bd x a) (h0 : 0 ≤ x) (e : a < k) : x < 2 ^ k := by
  have h1 : x.natAbs < 2 ^ k := Nat.lt_of_le_of_lt h (Nat.pow_lt_pow_right (by decide) e)
  have h2 : (x.natAbs : Int) = x := Int.natAbs_of_nonneg h0
  have h3 : ((x.natAbs : Int)) < ((2 ^ k : Nat) : Int) := Int.ofNat_lt.mpr h1
  rw [h2] at h3
  rw [Int.natCast_pow] at h3
  exact h3
theorem pow_loop (f0 : UF) (n : Int) (k : Nat) (hn : Bd n k) (m : Int) : ∀ (ds : List D) (f : Int) (l : Nat) (t : Sl), Bd f l → l + k * ds.length < 900000 → ∃ t', forGo (mgName 3) (mSet 2 (mB fMul (mPk 2) (lPk 2) (mPk 0) (lPk 0))) ds [.va (.int n), .va (.int m), .va (.int f), t] = .nx [.va (.int n), .va (.int m), .va (.int (f * n ^ ds.length)), t']
  | [], f, l, t, hf, hl => ⟨t, by simp [forGo]⟩
  | d :: ds, f, l, t, hf, hl => by
    simp only [List.length_cons] at hl
    have hl2 : l + k + k * ds.length < 900000 := by
      have : k * (ds.length + 1) = k * ds.length + k := Nat.mul_succ _ _
      omega
    obtain ⟨t', e⟩ := pow_loop f0 n k hn m ds (f * n) (l + k) (.va d) (hf.mul hn) hl2
    have em := fMul_ok hf hn (by omega)
    refine ⟨t', ?_⟩
    have e3 : f * n ^ (ds.length + 1) = f * n * n ^ ds.length := by rw [Int.pow_succ]; grind
    simp [forGo, mgName, em, slotD, outOf, fAdd, fSub, fMod, fLt, fLe, fGt, fGe, fNeg, fIsN, fNotN, MP.isNon, bAbs, bInt, isInt, isBool, isTup, isStr, bLen, line]
    rw [e3]
    exact e
theorem ups_length : ∀ (lo : Int) (n : Nat), (ups lo n).length = n := fun lo n => ups_len n lo
theorem ic0 {b : Int} (h : b ≠ 0) : (b : Rat) ≠ 0 := fun e => h (Rat.intCast_eq_zero_iff.mp e)
theorem q_nd (q : Rat) : (q.num : Rat) = q * ((q.den : Int) : Rat) := by
  have h1 := Rat.num_divInt_den q
  rw [Rat.divInt_eq_div] at h1
  have h2 : ((q.den : Int) : Rat) ≠ 0 := ic0 (by have := q.den_nz; omega)
  have h3 : (q.num : Rat) / ((q.den : Int) : Rat) = q := h1
  grind
theorem bd_num {t b : Int} (hb : 0 < b) {a : Nat} (h : Bd t a) : Bd (Rat.divInt t b).num a := by
  rw [Rat.num_divInt, Int.sign_eq_one_of_pos hb, Int.one_mul]
  unfold Bd at *
  exact Nat.le_trans (Int.natAbs_ediv_le_natAbs _ _) h
theorem bd_den {t b : Int} (hb : 0 < b) {a : Nat} (h : Bd b a) : Bd ((Rat.divInt t b).den : Int) a := by
  rw [Rat.den_divInt, if_neg (by omega)]
  unfold Bd at *
  rw [Int.natAbs_natCast]
  exact Nat.le_trans (Nat.div_le_self _ _) h
theorem den_pos (q : Rat) : 0 < (q.den : Int) := by have := q.den_nz; omega
mutual
def Pl : D → Bool
  | .tup xs => PlL xs
  | .lst xs => PlL xs
  | .scr _ => false
  | .dct _ _ => false
  | .dtp _ _ => false
  | _ => true
def PlL : List D → Bool
  | [] => true
  | x :: xs => Pl x && PlL xs
end
theorem PlL_mem : ∀ {xs : List D} {x : D}, PlL xs = true → x ∈ xs → Pl x = true
  | [], x, h, m => by simp at m
  | y :: ys, x, h, m => by
    simp only [PlL, Bool.and_eq_true] at h
    rcases List.mem_cons.mp m with e | m
    · rw [e]; exact h.1
    · exact PlL_mem h.2 m
def numB (v : D) (lo hi : Int) : Bool := match v with
  | .int i => decide (lo ≤ i) && decide (i ≤ hi)
  | _ => false
theorem number_ok (v : D) (lo hi : Int) (h : Pl v = true) : run_is_number [.va v, .va (.int lo), .va (.int hi)] = .ok (.bl (numB v lo hi)) none := by
  cases v <;> simp [Pl] at h <;> simp [run_is_number, runF, m_is_number, numB, slotD, outOf, fAdd, fSub, fMod, fLt, fLe, fGt, fGe, fNeg, fIsN, fNotN, MP.isNon, bAbs, bInt, isInt, isBool, isTup, isStr, bLen, line]
  rename_i i
  by_cases h1 : lo ≤ i <;> simp [h1]
def tupB (v : D) (lo hi : Int) : Bool := match v with
  | .tup xs => decide (lo ≤ xs.length) && decide ((xs.length : Int) ≤ hi)
  | _ => false
theorem tuple_ok (v : D) (lo hi : Int) (h : Pl v = true) : run_is_tuple [.va v, .va (.int lo), .va (.int hi)] = .ok (.bl (tupB v lo hi)) none := by
  cases v <;> simp [Pl] at h <;> simp [run_is_tuple, runF, m_is_tuple, tupB, slotD, outOf, fAdd, fSub, fMod, fLt, fLe, fGt, fGe, fNeg, fIsN, fNotN, MP.isNon, bAbs, bInt, isInt, isBool, isTup, isStr, bLen, line]
  rename_i xs
  by_cases h1 : lo ≤ xs.length <;> simp [h1]
theorem cutD_from {α : Type} (xs : List α) (k : Nat) : cutD xs (some (k : Int)) none = xs.drop k := by
  unfold cutD
  rw [HT.sIx_nat, HT.sIx_none]
  by_cases h : k ≤ xs.length
  · rw [Nat.min_eq_left h, List.take_of_length_le (by rw [List.length_drop]; omega)]
  · rw [Nat.min_eq_right (by omega), List.drop_eq_nil_of_le (by omega), List.drop_eq_nil_of_le (by omega)]
    simp
theorem cutD_to {α : Type} (xs : List α) (k : Nat) : cutD xs none (some (k : Int)) = xs.take k := by
  unfold cutD
  rw [HT.sIx_nat, HT.sIx_none, List.drop_zero, Nat.sub_zero]
  by_cases h : k ≤ xs.length
  · rw [Nat.min_eq_left h]
  · rw [Nat.min_eq_right (by omega), List.take_of_length_le (by omega), List.take_of_length_le (by omega)]
theorem lc_gen {mg : MT} {mt me : ME} {benv : Ev} {g : D → Bool} {h : D → D} : ∀ {ds : List D} {acc : List D}, (∀ d ∈ ds, ∃ e1 e2 e3, mg d benv = some e1 ∧ mt e1 = .ok (.bl (g d)) e2 ∧ (g d = true → me e2 = .ok (h d) e3)) → lcGo mg mt me benv ds acc = some (acc ++ (ds.filter g).map h)
  | [], acc, _ => by simp [lcGo]
  | d :: ds, acc, q => by
    obtain ⟨e1, e2, e3, h1, h2, h3⟩ := q d List.mem_cons_self
    have ih := fun acc => lc_gen (mg := mg) (mt := mt) (me := me) (benv := benv) (g := g) (h := h) (ds := ds) (acc := acc) (fun x hx => q x (List.mem_cons_of_mem _ hx))
    unfold lcGo
    rw [h1]
    dsimp only
    rw [h2]
    cases hg : g d with
    | true =>
      dsimp only
      rw [h3 hg]
      dsimp only
      rw [ih, List.filter_cons, hg]
      simp
    | false =>
      dsimp only
      rw [ih, List.filter_cons, hg]
      simp
theorem lc_all {mg : MT} {me : ME} {benv : Ev} {h : D → D} {ds : List D} (q : ∀ d ∈ ds, ∃ e1 e3, mg d benv = some e1 ∧ me e1 = .ok (h d) e3) : lcGo mg mYes me benv ds [] = some (ds.map h) := by
  have := lc_gen (mg := mg) (mt := mYes) (me := me) (benv := benv) (g := fun _ => true) (h := h) (ds := ds) (acc := []) (fun d hd => by
    obtain ⟨e1, e3, h1, h2⟩ := q d hd
    exact ⟨e1, e1, e3, h1, rfl, fun _ => h2⟩)
  rw [this, List.filter_eq_self.mpr (by simp)]
  simp
theorem blsOf_map {α : Type} (p : α → Bool) : ∀ xs : List α, blsOf (xs.map fun x => D.bl (p x)) = some (xs.map p)
  | [] => rfl
  | x :: xs => by simp [blsOf, blsOf_map p xs]
theorem bAll_map {α : Type} (p : α → Bool) (xs : List α) : bAll [.lst (xs.map fun x => D.bl (p x))] = some (.bl (xs.all p)) := by
  simp only [bAll, blsOf_map]
  simp [List.all_map]
theorem range1_ok {ma : MA} {e e1 : Ev} {j : Int} (h : ma e = .ok [.int j] e1) (hb : big j = true) : mRange1 ma e = .ok (ups 0 j.toNat) e1 := by
  unfold mRange1
  rw [h]
  dsimp only
  rw [hb]
theorem for_ok {mi : MA} {mg : MT} {mb : MS} {e e1 : Ev} {ds : List D} {r : RS} (h : mi e = .ok ds e1) (h2 : forGo mg mb ds e1 = r) : mFor mi mg mb e = r := by
  rw [mFor_ap, h]
  exact h2
theorem big_nat {p : Nat} (hp : p < 1000) : big (p : Int) = true := by
  unfold big
  rw [decide_eq_true (by omega), decide_eq_true (by omega)]
  rfl
theorem range2_ok {ma : MA} {e e1 : Ev} {i j : Int} (h : ma e = .ok [.int i, .int j] e1) (hi : big i = true) (hj : big j = true) : mRange2 ma e = .ok (ups i (j - i).toNat) e1 := by
  unfold mRange2
  rw [h]
  dsimp only
  rw [hi, hj]
  rfl
theorem run_rt {n tot : Nat} {m : MS} {args : List Sl} {d : D} {e : Ev} (h : m (args ++ List.replicate (tot - n) .no) = .rt d e) : runF n tot m args = .ok d (outOf e) := by
  unfold runF
  rw [h]
theorem run_nx {n tot : Nat} {m : MS} {args : List Sl} {e : Ev} (h : m (args ++ List.replicate (tot - n) .no) = .nx e) : runF n tot m args = .ok .non (outOf e) := by
  unfold runF
  rw [h]
theorem run_ex {n tot : Nat} {m : MS} {args : List Sl} {c : Nat} {e : Ev} (h : m (args ++ List.replicate (tot - n) .no) = .ex c e) : runF n tot m args = .ex c (outOf e) := by
  unfold runF
  rw [h]
theorem seq_nx {a b : MS} {e e1 : Ev} {r : RS} (h : a e = .nx e1) (h2 : b e1 = r) : mSeq a b e = r := by
  unfold mSeq
  rw [h]
  exact h2
theorem seq_rt {a b : MS} {e e1 : Ev} {d : D} (h : a e = .rt d e1) : mSeq a b e = .rt d e1 := by
  unfold mSeq
  rw [h]
theorem eq_int (a b : Int) : fEq (.int a) (.int b) = some (.bl (decide (a = b))) := by simp [fEq, okD, eqD]
theorem intsOf_map : ∀ xs : List Int, intsOf (xs.map D.int) = some xs
  | [] => rfl
  | x :: xs => by simp [intsOf, intsOf_map xs]
theorem if_tt {mc : ME} {a b : MS} {e e1 : Ev} {r : RS} (h : mc e = .ok (.bl true) e1) (h2 : a e1 = r) : mIfS mc a b e = r := by
  unfold mIfS
  rw [h]
  exact h2
theorem if_ff {mc : ME} {a b : MS} {e e1 : Ev} {r : RS} (h : mc e = .ok (.bl false) e1) (h2 : b e1 = r) : mIfS mc a b e = r := by
  unfold mIfS
  rw [h]
  exact h2
theorem ne_int (a b : Int) : fNe (.int a) (.int b) = some (.bl (!decide (a = b))) := by simp [fNe, okD, eqD]
theorem go_cons {mg : MT} {mb : MS} {d : D} {ds : List D} {e e1 e2 : Ev} {r : RS} (h1 : mg d e = some e1) (h2 : mb e1 = .nx e2) (h3 : forGo mg mb ds e2 = r) : forGo mg mb (d :: ds) e = r := by
  unfold forGo
  rw [h1]
  dsimp only
  rw [h2]
  exact h3
theorem ne_bl (b : Bool) : fNe (.bl b) (.bl b) = some (.bl false) := by simp [fNe, okD, eqD]
theorem lc_run {mi : MA} {vs : List Nat} {mg : MT} {mt me : ME} {e e1 b : Ev} {ds ys : List D} (h : mi e = .ok ds e1) (hl : ds.length < 16777216) (hb : wipeE (e1.map roE) vs = b) (h2 : lcGo mg mt me b ds [] = some ys) : mAsV (mLc mi vs mg mt me) e = .ok (.lst ys) e1 := by
  rw [mAsV_ap, mLc_ap, h]
  dsimp only
  rw [blt_dec, decide_eq_true (show ds.length < line from hl)]
  dsimp only
  rw [hb, h2]
theorem set_run {i : Nat} {m : ME} {e e1 e2 : Ev} {d : D} (h : m e = .ok d e1) (hi : Nat.blt i e1.length = true) (h2 : e1.set i (.va d) = e2) : mSet i m e = .nx e2 := by
  rw [mSet_ap, h]
  dsimp only
  rw [hi]
  dsimp only
  rw [h2]
structure Src (x : D) : Prop where
  ex : ∃ a b : Int, x = .lst [.int a, .int b] ∧ 0 ≤ a ∧ 0 ≤ b ∧ b < 2147483647
theorem bd31 {b : Int} (h0 : 0 ≤ b) (h1 : b < 2147483647) : Bd b 31 := by unfold Bd; omega
theorem draw_ok {x : D} (hx : Src x) (m : Int) (hm : 0 < m) (hm2 : m < 2 ^ 40) : ∃ (r : Int) (x' : D), run__law_draw [.bo x, .va (.int m)] = .ok (.int r) (some x') ∧ Src x' ∧ 0 ≤ r ∧ r < m := by
  obtain ⟨a, b, rfl, ha, hb, hb2⟩ := hx.ex
  have bm : Bd m 40 := by
    unfold Bd
    have : (m.natAbs : Int) = m := Int.natAbs_of_nonneg (by omega)
    omega
  by_cases h : 0 < a
  · have dv := fDiv_ok (x := a) hm bm (by decide)
    have md : fMod (.int a) (.int m) = some (.int (a % m)) := by simp [fMod, hm]
    refine ⟨a % m, .lst [.int (a / m), .int b], ?_, ⟨⟨a / m, b, rfl, Int.ediv_nonneg ha (by omega), hb, hb2⟩⟩, Int.emod_nonneg _ (by omega), Int.emod_lt_of_pos _ hm⟩
    simp [run__law_draw, runF, m__law_draw, fIx, ixD, h, dv, fMod, hm, atC, kput, ixN, slotD, outOf, fAdd, fSub, fMod, fLt, fLe, fGt, fGe, fNeg, fIsN, fNotN, MP.isNon, bAbs, bInt, isInt, isBool, isTup, isStr, bLen, line]
  · have b1 := bd31 hb hb2
    have m1 := fMul_ok b1 (y := 48271) (b := 16) (by unfold Bd; decide) (by decide)
    have e0 : 0 ≤ b * 48271 % 2147483647 := Int.emod_nonneg _ (by decide)
    have e1 : b * 48271 % 2147483647 < 2147483647 := Int.emod_lt_of_pos _ (by decide)
    have b2 := bd31 e0 e1
    have m2 := fMul_ok b2 b2 (by decide)
    have dv := fDiv_ok (x := (b * 48271 % 2147483647) * (b * 48271 % 2147483647) % 2147483629) (y := 64) (b := 6) (by decide) (by unfold Bd; decide) (by decide)
    refine ⟨((b * 48271 % 2147483647) * (b * 48271 % 2147483647) % 2147483629 / 64) % m, .lst [.int a, .int (b * 48271 % 2147483647)], ?_, ⟨⟨a, _, rfl, ha, e0, e1⟩⟩, Int.emod_nonneg _ (by omega), Int.emod_lt_of_pos _ hm⟩
    have ix1 : ixN 2 1 = some 1 := rfl
    simp [run__law_draw, runF, m__law_draw, fIx, ixD, h, m1, m2, dv, fMod, hm, atC, kput, ixN, slotD, outOf, fAdd, fSub, fMod, fLt, fLe, fGt, fGe, fNeg, fIsN, fNotN, MP.isNon, bAbs, bInt, isInt, isBool, isTup, isStr, bLen, line]
theorem ixD_natU {α : Type} (xs : List α) (s : Nat) : ixD xs (s : Int) = xs[s]? := by
  unfold ixD
  rw [decide_eq_true (by omega)]
  simp
theorem seq_nxU {a b : MS} {e e1 : Ev} {r : RS} (h : a e = .nx e1) (h2 : b e1 = r) : mSeq a b e = r := by
  unfold mSeq
  rw [h]
  exact h2
theorem seq_rtU {a b : MS} {e e1 : Ev} {d : D} (h : a e = .rt d e1) : mSeq a b e = .rt d e1 := by
  unfold mSeq
  rw [h]
theorem source_ok (ns : List Int) (k : Nat) (hk : k < 100) : ∃ x, run__law_source [.va (.scr ns), .va (.int (k : Int))] = .ok x none ∧ Src x := by
  have p18 : fPow (.int 10) (.int 18) = some (.int 1000000000000000000) := by simp [fPow]
  have s0 : (mNoRt (mSet 2 (mC (.int 0)))) [.va (.scr ns), .va (.int (k : Int)), .no] = .nx [.va (.scr ns), .va (.int (k : Int)), .va (.int 0)] := by simp
  obtain ⟨c, hc, s1⟩ : ∃ c : Int, 0 ≤ c ∧ (mIfS (mB fLt (mPk 1) (lPk 1) (mCall bLen (maCons (mPk 0) maNil) (laCons (lPk 0) laNil)) lId) (mNoRt (mSet 2 (mCall bAbs (maCons (mCall bInt (maCons (mB fIx (mPk 0) (lPk 0) (mPk 1) (lPk 1)) maNil) (laCons lId laNil)) maNil) (laCons lId laNil)))) mSkip) [.va (.scr ns), .va (.int (k : Int)), .va (.int 0)] = .nx [.va (.scr ns), .va (.int (k : Int)), .va (.int c)] := by
    by_cases h : k < ns.length
    · have ix : ixD ns (k : Int) = some ns[k] := by rw [ixD_natU]; exact List.getElem?_eq_getElem h
      refine ⟨if ns[k] < 0 then -ns[k] else ns[k], by split <;> omega, ?_⟩
      simp [h, fIx, ix, slotD, outOf, fAdd, fSub, fMod, fLt, fLe, fGt, fGe, fNeg, fIsN, fNotN, MP.isNon, bAbs, bInt, isInt, isBool, isTup, isStr, bLen, line]
    · exact ⟨0, by omega, by simp [h, slotD, outOf, fAdd, fSub, fMod, fLt, fLe, fGt, fGe, fNeg, fIsN, fNotN, MP.isNon, bAbs, bInt, isInt, isBool, isTup, isStr, bLen, line]⟩
  have runN_rt : ∀ {d : D} {e : Ev}, m__law_source [.va (.scr ns), .va (.int (k : Int)), .no] = .rt d e → run__law_source [.va (.scr ns), .va (.int (k : Int))] = .ok d none := fun {d e} h => by
    show MP.runN 2 3 m__law_source [.va (.scr ns), .va (.int (k : Int))] = .ok d none
    unfold MP.runN
    have e0 : ([.va (.scr ns), .va (.int (k : Int))] ++ List.replicate (3 - 2) Sl.no : Ev) = [.va (.scr ns), .va (.int (k : Int)), .no] := rfl
    rw [e0, h]
  by_cases hb : c < 1000000000000000000
  · have bc : Bd c 60 := by
      unfold Bd
      have : (c.natAbs : Int) = c := Int.natAbs_of_nonneg hc
      omega
    have m1 := fMul_ok bc (y := 7919) (b := 13) (by unfold Bd; decide) (by decide)
    have bk : Bd (k : Int) 7 := by unfold Bd; rw [Int.natAbs_natCast]; omega
    have m2 := fMul_ok (x := 104729) (a := 17) (by unfold Bd; decide) bk (by decide)
    refine ⟨.lst [.int 0, .int (1 + (c * 7919 + 104729 * (k : Int)) % 2147483646)], runN_rt (e := [.va (.scr ns), .va (.int (k : Int)), .va (.int c)]) (seq_nxU s0 (seq_nxU s1 (seq_rtU ?_))), ⟨⟨0, _, rfl, by omega, by omega, by omega⟩⟩⟩
    simp [p18, hb, m1, m2, fMod, slotD, outOf, fAdd, fSub, fMod, fLt, fLe, fGt, fGe, fNeg, fIsN, fNotN, MP.isNon, bAbs, bInt, isInt, isBool, isTup, isStr, bLen, line]
  · refine ⟨.lst [.int c, .int (1 + (c + (k : Int)) % 2147483646)], runN_rt (e := [.va (.scr ns), .va (.int (k : Int)), .va (.int c)]) (seq_nxU s0 (seq_nxU s1 (seq_nxU (e1 := [.va (.scr ns), .va (.int (k : Int)), .va (.int c)]) ?_ ?_))), ⟨⟨c, _, rfl, by omega, by omega, by omega⟩⟩⟩
    · simp [p18, hb, slotD, outOf, fAdd, fSub, fMod, fLt, fLe, fGt, fGe, fNeg, fIsN, fNotN, MP.isNon, bAbs, bInt, isInt, isBool, isTup, isStr, bLen, line]
    · simp [fMod, slotD, outOf, fAdd, fSub, fMod, fLt, fLe, fGt, fGe, fNeg, fIsN, fNotN, MP.isNon, bAbs, bInt, isInt, isBool, isTup, isStr, bLen, line]
/-- to draw of a list -/
theorem of_ok {x : D} (hx : Src x) (ys : List D) (h0 : ys ≠ []) (hl : ys.length ≤ 1000) : ∃ (y x' : D), run__law_of [.bo x, .va (.lst ys)] = .ok y (some x') ∧ Src x' ∧ y ∈ ys := by
  have hp : 0 < ys.length := List.length_pos_iff.mpr h0
  obtain ⟨r, x', e, hs, h1, h2⟩ := draw_ok hx (ys.length : Int) (by omega) (by omega)
  obtain ⟨q, rfl⟩ : ∃ q : Nat, r = (q : Int) := ⟨r.toNat, by omega⟩
  have hr : q < ys.length := by omega
  have ix : fIx (.lst ys) (.int (q : Int)) = some ys[q] := by
    show ixD ys (q : Int) = _
    rw [ixD_natU]
    exact List.getElem?_eq_getElem hr
  refine ⟨ys[q], x', ?_, hs, List.getElem_mem hr⟩
  simp [run__law_of, runF, m__law_of, e, ix, mUserB, slotD, outOf, fAdd, fSub, fMod, fLt, fLe, fGt, fGe, fNeg, fIsN, fNotN, MP.isNon, bAbs, bInt, isInt, isBool, isTup, isStr, bLen, line]
end GJ

set_option Elab.async false
set_option linter.all false
set_option maxRecDepth 100000
set_option maxHeartbeats 2000000
namespace GJ
open PySem L2 MP

/-! ### tables, links, numbers of tables -/
theorem pairs_ints : ∀ (f g : List Int), pairs (f.map D.int) (g.map D.int) = (f.zip g).map fun p => .tup [.int p.1, .int p.2]
  | [], g => by simp [pairs]
  | _ :: _, [] => by simp [pairs]
  | x :: f, y :: g => by simp [pairs, pairs_ints f g]
theorem tupB_nn (xs : List D) (n : Nat) : tupB (.tup xs) n n = decide (xs.length = n) := by
  simp only [tupB]
  by_cases h : xs.length = n
  · rw [decide_eq_true h, h]; simp
  · rw [decide_eq_false h]
    by_cases h2 : (n : Int) ≤ xs.length
    · rw [decide_eq_true h2, decide_eq_false (by omega)]; rfl
    · rw [decide_eq_false h2]; rfl
theorem numB_int {v : D} {lo hi : Int} (h : numB v lo hi = true) : ∃ i, v = .int i ∧ lo ≤ i ∧ i ≤ hi := by
  unfold numB at h
  split at h
  · rename_i i
    simp only [Bool.and_eq_true, decide_eq_true_eq] at h
    exact ⟨i, rfl, h.1, h.2⟩
  · cases h
def tabB : D → Bool
  | .tup [a, b] => numB a 1 99 && numB b 0 2
  | _ => false
def ltB : D → D → Bool
  | .int a, .int b => decide (a < b)
  | _, _ => false
def linkB (many : Int) : D → Bool
  | .tup [a, b, c, d] => (numB a 0 (many - 1) && numB b 0 (many - 1)) && (ltB a b && (numB c 1 99 && numB d 0 2))
  | _ => false
theorem is_table_ok (v : D) (h : Pl v = true) : run_is_table [.va v] = .ok (.bl (tabB v)) none := by
  have ht := tuple_ok v 2 2 h
  cases v with
  | tup xs =>
    have hx := fun (x : D) (m : x ∈ xs) => PlL_mem (by simpa [Pl] using h) m
    have e : tupB (.tup xs) 2 2 = decide (xs.length = 2) := tupB_nn xs 2
    rw [e] at ht
    by_cases hl : xs.length = 2
    · rw [decide_eq_true hl] at ht
      match xs, hl with
      | [a, b], _ =>
        have na := number_ok a 1 99 (hx a (by simp))
        have nb := number_ok b 0 2 (hx b (by simp))
        have i0 : fIx (.tup [a, b]) (.int 0) = some a := by simp [fIx, ixD]
        have i1 : fIx (.tup [a, b]) (.int 1) = some b := by simp [fIx, ixD]
        simp only [tabB]
        cases ea : numB a 1 99 <;> rw [ea] at na <;> simp [run_is_table, runF, m_is_table, ht, i0, i1, na, nb, slotD, outOf, fAdd, fSub, fMod, fLt, fLe, fGt, fGe, fNeg, fIsN, fNotN, MP.isNon, bAbs, bInt, isInt, isBool, isTup, isStr, bLen, line]
    · rw [decide_eq_false hl] at ht
      have : tabB (.tup xs) = false := by
        unfold tabB; split <;> rename_i q <;> try rfl
        cases q
        simp at hl
      rw [this]
      simp [run_is_table, runF, m_is_table, ht, slotD, outOf, fAdd, fSub, fMod, fLt, fLe, fGt, fGe, fNeg, fIsN, fNotN, MP.isNon, bAbs, bInt, isInt, isBool, isTup, isStr, bLen, line]
  | _ =>
    simp only [tupB] at ht
    simp [run_is_table, runF, m_is_table, ht, tabB, slotD, outOf, fAdd, fSub, fMod, fLt, fLe, fGt, fGe, fNeg, fIsN, fNotN, MP.isNon, bAbs, bInt, isInt, isBool, isTup, isStr, bLen, line]
theorem is_link_ok (many : Int) (v : D) (h : Pl v = true) : run_is_link [.va (.int many), .va v] = .ok (.bl (linkB many v)) none := by
  have ht := tuple_ok v 4 4 h
  cases v with
  | tup xs =>
    have hx := fun (x : D) (m : x ∈ xs) => PlL_mem (by simpa [Pl] using h) m
    have e : tupB (.tup xs) 4 4 = decide (xs.length = 4) := tupB_nn xs 4
    rw [e] at ht
    by_cases hl : xs.length = 4
    · rw [decide_eq_true hl] at ht
      match xs, hl with
      | [a, b, c, d], _ =>
        have na := number_ok a 0 (many - 1) (hx a (by simp))
        have nb := number_ok b 0 (many - 1) (hx b (by simp))
        have nc := number_ok c 1 99 (hx c (by simp))
        have nd := number_ok d 0 2 (hx d (by simp))
        have i0 : fIx (.tup [a, b, c, d]) (.int 0) = some a := by simp [fIx, ixD]
        have i1 : fIx (.tup [a, b, c, d]) (.int 1) = some b := by simp [fIx, ixD]
        have i2 : fIx (.tup [a, b, c, d]) (.int 2) = some c := by simp [fIx, ixD]
        have i3 : fIx (.tup [a, b, c, d]) (.int 3) = some d := by simp [fIx, ixD]
        simp only [linkB]
        cases ea : numB a 0 (many - 1) with
        | false =>
          rw [ea] at na
          simp [run_is_link, runF, m_is_link, ht, i0, i1, na, slotD, outOf, fAdd, fSub, fMod, fLt, fLe, fGt, fGe, fNeg, fIsN, fNotN, MP.isNon, bAbs, bInt, isInt, isBool, isTup, isStr, bLen, line]
        | true =>
          rw [ea] at na
          cases eb : numB b 0 (many - 1) with
          | false =>
            rw [eb] at nb
            simp [run_is_link, runF, m_is_link, ht, i0, i1, na, nb, slotD, outOf, fAdd, fSub, fMod, fLt, fLe, fGt, fGe, fNeg, fIsN, fNotN, MP.isNon, bAbs, bInt, isInt, isBool, isTup, isStr, bLen, line]
          | true =>
            rw [eb] at nb
            obtain ⟨i, rfl, _⟩ := numB_int ea
            obtain ⟨j, rfl, _⟩ := numB_int eb
            simp only [ltB]
            by_cases hij : i < j
            · cases ec : numB c 1 99 <;> rw [ec] at nc <;> simp [run_is_link, runF, m_is_link, ht, i0, i1, i2, i3, na, nb, nc, nd, hij, slotD, outOf, fAdd, fSub, fMod, fLt, fLe, fGt, fGe, fNeg, fIsN, fNotN, MP.isNon, bAbs, bInt, isInt, isBool, isTup, isStr, bLen, line]
            · simp [run_is_link, runF, m_is_link, ht, i0, i1, i2, i3, na, nb, nc, nd, hij, slotD, outOf, fAdd, fSub, fMod, fLt, fLe, fGt, fGe, fNeg, fIsN, fNotN, MP.isNon, bAbs, bInt, isInt, isBool, isTup, isStr, bLen, line]
    · rw [decide_eq_false hl] at ht
      have : linkB many (.tup xs) = false := by
        unfold linkB; split <;> rename_i q <;> try rfl
        cases q
        simp at hl
      rw [this]
      simp [run_is_link, runF, m_is_link, ht, slotD, outOf, fAdd, fSub, fMod, fLt, fLe, fGt, fGe, fNeg, fIsN, fNotN, MP.isNon, bAbs, bInt, isInt, isBool, isTup, isStr, bLen, line]
  | _ =>
    simp only [tupB] at ht
    simp [run_is_link, runF, m_is_link, ht, linkB, slotD, outOf, fAdd, fSub, fMod, fLt, fLe, fGt, fGe, fNeg, fIsN, fNotN, MP.isNon, bAbs, bInt, isInt, isBool, isTup, isStr, bLen, line]
def ascI : List D → Bool
  | x :: y :: r => ltB x y && ascI (y :: r)
  | _ => true
def numsB (many : Int) (v : D) (least : Int) : Bool := tupB v least many && (match v with
  | .tup xs => xs.all (fun x => numB x 0 (many - 1)) && ascI xs
  | _ => false)
theorem all_num {lo hi : Int} : ∀ {xs : List D}, (xs.all fun x => numB x lo hi) = true → ∃ ns : List Int, xs = ns.map D.int ∧ ∀ n ∈ ns, lo ≤ n ∧ n ≤ hi
  | [], _ => ⟨[], rfl, fun n hn => by simp at hn⟩
  | x :: xs, h => by
    simp only [List.all_cons, Bool.and_eq_true] at h
    obtain ⟨i, rfl, h1, h2⟩ := numB_int h.1
    obtain ⟨ns, rfl, hb⟩ := all_num h.2
    refine ⟨i :: ns, rfl, fun n hn => ?_⟩
    rcases List.mem_cons.mp hn with e | e
    · rw [e]; exact ⟨h1, h2⟩
    · exact hb n e
theorem num_all {lo hi : Int} (ns : List Int) (h : ∀ n ∈ ns, lo ≤ n ∧ n ≤ hi) : ((ns.map D.int).all fun x => numB x lo hi) = true := by
  rw [List.all_eq_true]
  intro d hd
  obtain ⟨n, hn, rfl⟩ := List.mem_map.mp hd
  simp only [numB, Bool.and_eq_true, decide_eq_true_eq]
  exact h n hn
theorem ascI_zip : ∀ ns : List Int, ((ns.zip (ns.drop 1)).all fun p => decide (p.1 < p.2)) = ascI (ns.map D.int)
  | [] => rfl
  | [_] => rfl
  | x :: y :: r => by
    have ih := ascI_zip (y :: r)
    simp only [List.drop_succ_cons, List.drop_zero, List.zip_cons_cons, List.all_cons, List.map_cons, ascI, ltB] at ih ⊢
    rw [ih]
theorem ascI_strict : ∀ ns : List Int, ascI (ns.map D.int) = true ↔ ns.Pairwise (· < ·)
  | [] => by simp [ascI]
  | [_] => by simp [ascI]
  | x :: y :: r => by
    have ih := ascI_strict (y :: r)
    simp only [List.map_cons, ascI, ltB, Bool.and_eq_true, decide_eq_true_eq] at ih ⊢
    rw [ih]
    constructor
    · rintro ⟨h1, h2⟩
      refine List.pairwise_cons.mpr ⟨fun z hz => ?_, h2⟩
      rcases List.mem_cons.mp hz with e | e
      · omega
      · have := (List.pairwise_cons.mp h2).1 z e; omega
    · intro h
      obtain ⟨h1, h2⟩ := List.pairwise_cons.mp h
      exact ⟨h1 y (by simp), h2⟩
theorem drop1_ints (ns : List Int) : cutD (ns.map D.int) (some 1) none = (ns.drop 1).map D.int := by
  have := cutD_from (ns.map D.int) 1
  rw [show ((1 : Nat) : Int) = 1 from rfl] at this
  rw [this, List.map_drop]
theorem are_numbers_ok (many least : Int) (v : D) (h : Pl v = true) (hm : many ≤ 1000) : run_are_numbers [.va (.int many), .va v, .va (.int least)] = .ok (.bl (numsB many v least)) none := by
  have ht := tuple_ok v least many h
  cases v with
  | tup xs =>
    have hx := fun (x : D) (m : x ∈ xs) => PlL_mem (by simpa [Pl] using h) m
    simp only [numsB]
    cases hb : tupB (.tup xs) least many with
    | false =>
      rw [hb] at ht
      simp [run_are_numbers, runF, m_are_numbers, ht, slotD, outOf, fAdd, fSub, fMod, fLt, fLe, fGt, fGe, fNeg, fIsN, fNotN, MP.isNon, bAbs, bInt, isInt, isBool, isTup, isStr, bLen, line]
    | true =>
      rw [hb] at ht
      have hl : xs.length < 16777216 := by simp only [tupB, Bool.and_eq_true, decide_eq_true_eq] at hb; omega
      have l1 : lcGo (mgName 3) mYes (mUser run_is_number (maCons (mVar 3) (maCons (mC (.int 0)) (maCons (mB fSub (mPk 0) (lPk 0) (mC (.int 1)) lId) maNil)))) [.va (.int many), .va (.tup xs), .va (.int least), .no, .no, .no] xs [] = some (xs.map fun x => .bl (numB x 0 (many - 1))) :=
        lc_all fun d hd => ⟨[.va (.int many), .va (.tup xs), .va (.int least), .va d, .no, .no], _, by simp, by simp [number_ok d 0 (many - 1) (hx d hd), slotD, outOf, fAdd, fSub, fMod, fLt, fLe, fGt, fGe, fNeg, fIsN, fNotN, MP.isNon, bAbs, bInt, isInt, isBool, isTup, isStr, bLen, line]; rfl⟩
      have b1 := bAll_map (fun x => numB x 0 (many - 1)) xs
      cases ha : xs.all (fun x => numB x 0 (many - 1)) with
      | false =>
        rw [ha] at b1
        simp [run_are_numbers, runF, m_are_numbers, ht, wipeE, roE, slotD, outOf, fAdd, fSub, fMod, fLt, fLe, fGt, fGe, fNeg, fIsN, fNotN, MP.isNon, bAbs, bInt, isInt, isBool, isTup, isStr, bLen, line]
        rw [l1]
        simp [b1, hl]
      | true =>
        rw [ha] at b1
        obtain ⟨ns, rfl, hb2⟩ := all_num ha
        have hdrop := drop1_ints ns
        have l2 : lcGo (mgTup 2 (mgsCons (mgName 4) (mgsCons (mgName 5) mgsNil))) mYes (mB fLt (mPk 4) (lPk 4) (mPk 5) (lPk 5)) [.va (.int many), .va (.tup (ns.map D.int)), .va (.int least), .no, .no, .no] (pairs (ns.map D.int) ((ns.drop 1).map D.int)) [] = some ((ns.zip (ns.drop 1)).map fun p => .bl (decide (p.1 < p.2))) := by
          rw [pairs_ints]
          have := lc_all (mg := (mgTup 2 (mgsCons (mgName 4) (mgsCons (mgName 5) mgsNil)))) (me := (mB fLt (mPk 4) (lPk 4) (mPk 5) (lPk 5))) (benv := [.va (.int many), .va (.tup (ns.map D.int)), .va (.int least), .no, .no, .no]) (h := fun d => match d with | .tup [.int a, .int b] => .bl (decide (a < b)) | _ => .non) (ds := (ns.zip (ns.drop 1)).map fun p => .tup [.int p.1, .int p.2]) (fun d hd => by
            obtain ⟨p, _, rfl⟩ := List.mem_map.mp hd
            exact ⟨[.va (.int many), .va (.tup (ns.map D.int)), .va (.int least), .no, .va (.int p.1), .va (.int p.2)], [.va (.int many), .va (.tup (ns.map D.int)), .va (.int least), .no, .va (.int p.1), .va (.int p.2)], by simp, by simp [slotD, outOf, fAdd, fSub, fMod, fLt, fLe, fGt, fGe, fNeg, fIsN, fNotN, MP.isNon, bAbs, bInt, isInt, isBool, isTup, isStr, bLen, line]⟩)
          rw [this, List.map_map]
          rfl
        have b2 := bAll_map (fun p : Int × Int => decide (p.1 < p.2)) (ns.zip (ns.drop 1))
        rw [ascI_zip] at b2
        have hl2 : (pairs (ns.map D.int) ((ns.drop 1).map D.int)).length < 16777216 := by
          rw [pairs_len]
          simp only [List.length_map] at hl ⊢
          omega
        simp only [List.drop_one] at b2 l2 hl2 hdrop
        generalize ns.map D.int = L at *
        generalize ns.tail.map D.int = L2 at *
        simp [run_are_numbers, runF, m_are_numbers, ht, wipeE, roE, fSl, prt, hdrop, slotD, outOf, fAdd, fSub, fMod, fLt, fLe, fGt, fGe, fNeg, fIsN, fNotN, MP.isNon, bAbs, bInt, isInt, isBool, isTup, isStr, bLen, line]
        rw [l1]
        simp [b1, hl, fSl, prt, hdrop, roE, wipeE, slotD, outOf, fAdd, fSub, fMod, fLt, fLe, fGt, fGe, fNeg, fIsN, fNotN, MP.isNon, bAbs, bInt, isInt, isBool, isTup, isStr, bLen, line]
        rw [l2]
        simp [b2, hl2]
  | _ =>
    simp only [numsB]
    simp only [tupB] at ht ⊢
    simp [run_are_numbers, runF, m_are_numbers, ht, slotD, outOf, fAdd, fSub, fMod, fLt, fLe, fGt, fGe, fNeg, fIsN, fNotN, MP.isNon, bAbs, bInt, isInt, isBool, isTup, isStr, bLen, line]
end GJ

set_option Elab.async false
set_option linter.all false
set_option maxRecDepth 100000
set_option maxHeartbeats 2000000
namespace GJ
open PySem L2 MP

/-! ### is it a question? -/
abbrev Lk : Type := Int × Int × Int × Int
def l4D (x : Lk) : D := .tup [.int x.1, .int x.2.1, .int x.2.2.1, .int x.2.2.2]
structure LkOk (m : Int) (x : Lk) : Prop where
  a0 : 0 ≤ x.1
  ab : x.1 < x.2.1
  b1 : x.2.1 ≤ m - 1
  c0 : 1 ≤ x.2.2.1
  c1 : x.2.2.1 ≤ 99
  d0 : 0 ≤ x.2.2.2
  d1 : x.2.2.2 ≤ 2
theorem linkB_form {m : Int} {v : D} (h : linkB m v = true) : ∃ x : Lk, v = l4D x ∧ LkOk m x := by
  unfold linkB at h
  split at h
  · rename_i a b c d
    simp only [Bool.and_eq_true] at h
    obtain ⟨⟨h1, h2⟩, h3, h4, h5⟩ := h
    obtain ⟨i, rfl, i1, i2⟩ := numB_int h1
    obtain ⟨j, rfl, j1, j2⟩ := numB_int h2
    obtain ⟨k, rfl, k1, k2⟩ := numB_int h4
    obtain ⟨l, rfl, l1, l2⟩ := numB_int h5
    simp only [ltB, decide_eq_true_eq] at h3
    exact ⟨(i, j, k, l), rfl, ⟨i1, h3, j2, k1, k2, l1, l2⟩⟩
  · cases h
theorem linkB_of {m : Int} {x : Lk} (h : LkOk m x) : linkB m (l4D x) = true := by
  obtain ⟨h1, h2, h3, h4, h5, h6, h7⟩ := h
  simp only [linkB, l4D, numB, ltB, Bool.and_eq_true, decide_eq_true_eq]
  exact ⟨⟨⟨h1, by omega⟩, by omega, h3⟩, h2, ⟨h4, h5⟩, h6, h7⟩
theorem links_form {m : Int} : ∀ {ls : List D}, ls.all (linkB m) = true → ∃ L : List Lk, ls = L.map l4D ∧ ∀ x ∈ L, LkOk m x
  | [], _ => ⟨[], rfl, fun x hx => by simp at hx⟩
  | v :: ls, h => by
    simp only [List.all_cons, Bool.and_eq_true] at h
    obtain ⟨x, rfl, hx⟩ := linkB_form h.1
    obtain ⟨L, rfl, hL⟩ := links_form h.2
    refine ⟨x :: L, rfl, fun y hy => ?_⟩
    rcases List.mem_cons.mp hy with e | e
    · rw [e]; exact hx
    · exact hL y e
def lt2 : D → D → Bool
  | .tup (.int a :: .int b :: _), .tup (.int c :: .int d :: _) => seqLt [a, b] [c, d]
  | _, _ => false
def ascL : List D → Bool
  | x :: y :: r => lt2 x y && ascL (y :: r)
  | _ => true
theorem pairs_l4 : ∀ (f g : List Lk), pairs (f.map l4D) (g.map l4D) = (f.zip g).map fun p => .tup [l4D p.1, l4D p.2]
  | [], g => by simp [pairs]
  | _ :: _, [] => by simp [pairs]
  | x :: f, y :: g => by simp [pairs, pairs_l4 f g]
theorem ascL_zip : ∀ L : List Lk, ((L.zip (L.drop 1)).all fun p => seqLt [p.1.1, p.1.2.1] [p.2.1, p.2.2.1]) = ascL (L.map l4D)
  | [] => rfl
  | [_] => rfl
  | x :: y :: r => by
    have ih := ascL_zip (y :: r)
    simp only [List.drop_succ_cons, List.drop_zero, List.zip_cons_cons, List.all_cons, List.map_cons, ascL, lt2, l4D] at ih ⊢
    rw [ih]
def qB (a b c : D) : Bool := tupB a 2 4 && (match a with
  | .tup ts => ts.all tabB && (tupB b 0 6 && (match b with
    | .tup ls => ls.all (linkB ts.length) && (ascL ls && numsB ts.length c 0)
    | _ => false))
  | _ => false)
def goodQ : D → Bool
  | .tup [a, b, c] => qB a b c
  | _ => false
theorem fLt2 (a b c d : Int) : fLt (.tup [.int a, .int b]) (.tup [.int c, .int d]) = some (.bl (seqLt [a, b] [c, d])) := rfl
theorem cut2 (x : Lk) : cutD [.int x.1, .int x.2.1, .int x.2.2.1, .int x.2.2.2] none (some 2) = [D.int x.1, .int x.2.1] := by
  have := cutD_to [D.int x.1, .int x.2.1, .int x.2.2.1, .int x.2.2.2] 2
  rw [show ((2 : Nat) : Int) = 2 from rfl] at this
  rw [this]; rfl
theorem tup_of {v : D} {lo hi : Int} (h : tupB v lo hi = true) : ∃ xs, v = .tup xs ∧ lo ≤ xs.length ∧ (xs.length : Int) ≤ hi := by
  cases v <;> simp only [tupB, Bool.and_eq_true, decide_eq_true_eq] at h <;> try (cases h; done)
  exact ⟨_, rfl, h.1, h.2⟩
theorem good_question_ok (v : D) (h : Pl v = true) : run_is_good_question [.va v] = .ok (.bl (goodQ v)) none := by
  have ht := tuple_ok v 3 3 h
  cases v with
  | tup xs =>
    have hx := fun (x : D) (m : x ∈ xs) => PlL_mem (by simpa [Pl] using h) m
    have e : tupB (.tup xs) 3 3 = decide (xs.length = 3) := tupB_nn xs 3
    rw [e] at ht
    by_cases hl : xs.length = 3
    · rw [decide_eq_true hl] at ht
      match xs, hl with
      | [a, b, c], _ =>
        have pa := hx a (by simp)
        have pb := hx b (by simp)
        have pc := hx c (by simp)
        have i0 : fIx (.tup [a, b, c]) (.int 0) = some a := by simp [fIx, ixD]
        have i1 : fIx (.tup [a, b, c]) (.int 1) = some b := by simp [fIx, ixD]
        have i2 : fIx (.tup [a, b, c]) (.int 2) = some c := by simp [fIx, ixD]
        have ta := tuple_ok a 2 4 pa
        simp only [goodQ, qB]
        generalize D.tup [a, b, c] = V at *
        cases ea : tupB a 2 4 with
        | false =>
          rw [ea] at ta
          simp [run_is_good_question, runF, m_is_good_question, ht, i0, ta, slotD, outOf, fAdd, fSub, fMod, fLt, fLe, fGt, fGe, fNeg, fIsN, fNotN, MP.isNon, bAbs, bInt, isInt, isBool, isTup, isStr, bLen, line]
        | true =>
          rw [ea] at ta
          obtain ⟨ts, rfl, t1, t2⟩ := tup_of ea
          have hts := fun (x : D) (m : x ∈ ts) => PlL_mem (by simpa [Pl] using pa) m
          have l1 : lcGo (mgName 2) mYes (mUser run_is_table (maCons (mVar 2) maNil)) [.va V, .no, .no, .no, .no, .no] ts [] = some (ts.map fun x => .bl (tabB x)) :=
            lc_all fun d hd => ⟨[.va V, .no, .va d, .no, .no, .no], _, by simp, by simp [is_table_ok d (hts d hd), slotD, outOf, fAdd, fSub, fMod, fLt, fLe, fGt, fGe, fNeg, fIsN, fNotN, MP.isNon, bAbs, bInt, isInt, isBool, isTup, isStr, bLen, line]; rfl⟩
          have b1 := bAll_map tabB ts
          have z1 : ts.length < 16777216 := by omega
          have ln : bLen [.tup ts] = some (.int (ts.length : Int)) := rfl
          dsimp only
          cases eb : ts.all tabB with
          | false =>
            rw [eb] at b1
            simp [run_is_good_question, runF, m_is_good_question, ht, i0, ta, wipeE, roE, slotD, outOf, fAdd, fSub, fMod, fLt, fLe, fGt, fGe, fNeg, fIsN, fNotN, MP.isNon, bAbs, bInt, isInt, isBool, isTup, isStr, bLen, line]
            rw [l1]
            simp [b1, z1]
          | true =>
            rw [eb] at b1
            have s0 : (mIfS (mOr (mNot (mUser run_is_tuple (maCons (mVar 0) (maCons (mC (.int 3)) (maCons (mC (.int 3)) maNil))))) (mOr (mNot (mUser run_is_tuple (maCons (mB fIx (mPk 0) (lPk 0) (mC (.int 0)) lId) (maCons (mC (.int 2)) (maCons (mC (.int 4)) maNil))))) (mNot (mCall bAll (maCons (mAsV (mLc (mIt (mB fIx (mPk 0) (lPk 0) (mC (.int 0)) lId)) [2] (mgName 2) mYes (mUser run_is_table (maCons (mVar 2) maNil)))) maNil) (laCons lId laNil))))) (mRet (mC (.bl false))) mSkip) [.va V, .no, .no, .no, .no, .no] = .nx [.va V, .no, .no, .no, .no, .no] := by
              refine if_ff (e1 := [.va V, .no, .no, .no, .no, .no]) ?_ rfl
              simp [ht, i0, ta, wipeE, roE, slotD]
              rw [l1]
              simp [b1, z1, line]
            have s1 : (mSet 1 (mCall bLen (maCons (mB fIx (mPk 0) (lPk 0) (mC (.int 0)) lId) maNil) (laCons lId laNil))) [.va V, .no, .no, .no, .no, .no] = .nx [.va V, .va (.int (ts.length : Int)), .no, .no, .no, .no] := by
              simp [i0, ln, slotD]
            have tb := tuple_ok b 0 6 pb
            have fin : ∀ {d : D} {e : Ev}, (mSeq (mIfS (mOr (mNot (mUser run_is_tuple (maCons (mB fIx (mPk 0) (lPk 0) (mC (.int 1)) lId) (maCons (mC (.int 0)) (maCons (mC (.int 6)) maNil))))) (mNot (mCall bAll (maCons (mAsV (mLc (mIt (mB fIx (mPk 0) (lPk 0) (mC (.int 1)) lId)) [3] (mgName 3) mYes (mUser run_is_link (maCons (mVar 1) (maCons (mVar 3) maNil))))) maNil) (laCons lId laNil)))) (mRet (mC (.bl false))) mSkip) (mSeq (mIfS (mNot (mCall bAll (maCons (mAsV (mLc (mZip (maCons (mB fIx (mPk 0) (lPk 0) (mC (.int 1)) lId) (maCons (mSl (mB fIx (mPk 0) (lPk 0) (mC (.int 1)) lId) lId (mPrt (mC (.int 1))) (mC .non)) maNil))) [4, 5] (mgTup 2 (mgsCons (mgName 4) (mgsCons (mgName 5) mgsNil))) mYes (mB fLt (mSl (mPk 4) (lPk 4) (mC .non) (mPrt (mC (.int 2)))) lId (mSl (mPk 5) (lPk 5) (mC .non) (mPrt (mC (.int 2)))) lId))) maNil) (laCons lId laNil))) (mRet (mC (.bl false))) mSkip) (mRet (mUser run_are_numbers (maCons (mVar 1) (maCons (mB fIx (mPk 0) (lPk 0) (mC (.int 2)) lId) (maCons (mC (.int 0)) maNil))))))) [.va V, .va (.int (ts.length : Int)), .no, .no, .no, .no] = .rt d (.va V :: e) → run_is_good_question [.va V] = .ok d none := fun {d e} q => by
              have := run_rt (n := 1) (tot := 6) (m := m_is_good_question) (args := [.va V]) (seq_nx s0 (seq_nx s1 q))
              exact this
            cases ec : tupB b 0 6 with
            | false =>
              rw [ec] at tb
              refine fin (e := [.va (.int (ts.length : Int)), .no, .no, .no, .no]) (seq_rt (if_tt (e1 := [.va V, .va (.int (ts.length : Int)), .no, .no, .no, .no]) ?_ rfl))
              simp [i1, tb, slotD]
            | true =>
              rw [ec] at tb
              obtain ⟨ls, rfl, t3, t4⟩ := tup_of ec
              have hls := fun (x : D) (m : x ∈ ls) => PlL_mem (by simpa [Pl] using pb) m
              have l2 : lcGo (mgName 3) mYes (mUser run_is_link (maCons (mVar 1) (maCons (mVar 3) maNil))) [.va V, .va (.int (ts.length : Int)), .no, .no, .no, .no] ls [] = some (ls.map fun x => .bl (linkB ts.length x)) :=
                lc_all fun d hd => ⟨[.va V, .va (.int (ts.length : Int)), .no, .va d, .no, .no], _, by simp, by simp [is_link_ok (ts.length : Int) d (hls d hd), slotD, outOf, fAdd, fSub, fMod, fLt, fLe, fGt, fGe, fNeg, fIsN, fNotN, MP.isNon, bAbs, bInt, isInt, isBool, isTup, isStr, bLen, line]; rfl⟩
              have b2 := bAll_map (linkB ts.length) ls
              have z2 : ls.length < 16777216 := by omega
              dsimp only
              cases ed : ls.all (linkB ts.length) with
              | false =>
                rw [ed] at b2
                refine fin (e := [.va (.int (ts.length : Int)), .no, .no, .no, .no]) (seq_rt (if_tt (e1 := [.va V, .va (.int (ts.length : Int)), .no, .no, .no, .no]) ?_ rfl))
                simp [i1, tb, wipeE, roE, slotD]
                rw [l2]
                simp [b2, z2, line]
              | true =>
                rw [ed] at b2
                have s2 : (mIfS (mOr (mNot (mUser run_is_tuple (maCons (mB fIx (mPk 0) (lPk 0) (mC (.int 1)) lId) (maCons (mC (.int 0)) (maCons (mC (.int 6)) maNil))))) (mNot (mCall bAll (maCons (mAsV (mLc (mIt (mB fIx (mPk 0) (lPk 0) (mC (.int 1)) lId)) [3] (mgName 3) mYes (mUser run_is_link (maCons (mVar 1) (maCons (mVar 3) maNil))))) maNil) (laCons lId laNil)))) (mRet (mC (.bl false))) mSkip) [.va V, .va (.int (ts.length : Int)), .no, .no, .no, .no] = .nx [.va V, .va (.int (ts.length : Int)), .no, .no, .no, .no] := by
                  refine if_ff (e1 := [.va V, .va (.int (ts.length : Int)), .no, .no, .no, .no]) ?_ rfl
                  simp [i1, tb, wipeE, roE, slotD]
                  rw [l2]
                  simp [b2, z2, line]
                obtain ⟨L, rfl, hL⟩ := links_form ed
                have hdrop : cutD (L.map l4D) (some 1) none = (L.drop 1).map l4D := by
                  have := cutD_from (L.map l4D) 1
                  rw [show ((1 : Nat) : Int) = 1 from rfl] at this
                  rw [this, List.map_drop]
                have l3 : lcGo (mgTup 2 (mgsCons (mgName 4) (mgsCons (mgName 5) mgsNil))) mYes (mB fLt (mSl (mPk 4) (lPk 4) (mC .non) (mPrt (mC (.int 2)))) lId (mSl (mPk 5) (lPk 5) (mC .non) (mPrt (mC (.int 2)))) lId) [.va V, .va (.int (ts.length : Int)), .no, .no, .no, .no] (pairs (L.map l4D) ((L.drop 1).map l4D)) [] = some ((L.zip (L.drop 1)).map fun p => .bl (seqLt [p.1.1, p.1.2.1] [p.2.1, p.2.2.1])) := by
                  rw [pairs_l4]
                  have := lc_all (mg := (mgTup 2 (mgsCons (mgName 4) (mgsCons (mgName 5) mgsNil)))) (me := (mB fLt (mSl (mPk 4) (lPk 4) (mC .non) (mPrt (mC (.int 2)))) lId (mSl (mPk 5) (lPk 5) (mC .non) (mPrt (mC (.int 2)))) lId)) (benv := [.va V, .va (.int (ts.length : Int)), .no, .no, .no, .no]) (h := fun d => match d with | .tup [x, y] => .bl (lt2 x y) | _ => .non) (ds := (L.zip (L.drop 1)).map fun p => .tup [l4D p.1, l4D p.2]) (fun d hd => by
                    obtain ⟨p, _, rfl⟩ := List.mem_map.mp hd
                    have c1 := cut2 p.1
                    have c2 := cut2 p.2
                    have f1 := fLt2 p.1.1 p.1.2.1 p.2.1 p.2.2.1
                    exact ⟨[.va V, .va (.int (ts.length : Int)), .no, .no, .va (l4D p.1), .va (l4D p.2)], [.va V, .va (.int (ts.length : Int)), .no, .no, .va (l4D p.1), .va (l4D p.2)], by simp, by simp [l4D, fSl, prt, c1, c2, f1, lt2, slotD]⟩)
                  rw [this, List.map_map]
                  rfl
                have b3 := bAll_map (fun p : Lk × Lk => seqLt [p.1.1, p.1.2.1] [p.2.1, p.2.2.1]) (L.zip (L.drop 1))
                rw [ascL_zip] at b3
                have z3 : (pairs (L.map l4D) ((L.drop 1).map l4D)).length < 16777216 := by
                  rw [pairs_len]
                  simp only [List.length_map] at z2 ⊢
                  omega
                have hc : (mNot (mCall bAll (maCons (mAsV (mLc (mZip (maCons (mB fIx (mPk 0) (lPk 0) (mC (.int 1)) lId) (maCons (mSl (mB fIx (mPk 0) (lPk 0) (mC (.int 1)) lId) lId (mPrt (mC (.int 1))) (mC .non)) maNil))) [4, 5] (mgTup 2 (mgsCons (mgName 4) (mgsCons (mgName 5) mgsNil))) mYes (mB fLt (mSl (mPk 4) (lPk 4) (mC .non) (mPrt (mC (.int 2)))) lId (mSl (mPk 5) (lPk 5) (mC .non) (mPrt (mC (.int 2)))) lId))) maNil) (laCons lId laNil))) [.va V, .va (.int (ts.length : Int)), .no, .no, .no, .no] = .ok (.bl (!ascL (L.map l4D))) [.va V, .va (.int (ts.length : Int)), .no, .no, .no, .no] := by
                  have it : (mZip (maCons (mB fIx (mPk 0) (lPk 0) (mC (.int 1)) lId) (maCons (mSl (mB fIx (mPk 0) (lPk 0) (mC (.int 1)) lId) lId (mPrt (mC (.int 1))) (mC .non)) maNil))) [.va V, .va (.int (ts.length : Int)), .no, .no, .no, .no] = .ok (pairs (L.map l4D) ((L.drop 1).map l4D)) [.va V, .va (.int (ts.length : Int)), .no, .no, .no, .no] := by
                    rw [← hdrop]
                    generalize L.map l4D = Q at *
                    simp [i1, fSl, prt, slotD]
                  have r := lc_run (vs := [4, 5]) it z3 rfl l3
                  rw [mNot_ap, mCall_ap, maCons_ap, r]
                  generalize ascL (L.map l4D) = B0 at *
                  generalize (L.zip (L.drop 1)).map (fun p : Lk × Lk => D.bl (seqLt [p.1.1, p.1.2.1] [p.2.1, p.2.2.1])) = Q at *
                  simp [b3]
                cases ee : ascL (L.map l4D) with
                | false =>
                  rw [ee] at hc
                  exact fin (e := [.va (.int (ts.length : Int)), .no, .no, .no, .no]) (seq_nx s2 (seq_rt (if_tt hc rfl)))
                | true =>
                  rw [ee] at hc
                  have an := are_numbers_ok (ts.length : Int) 0 c pc (by omega)
                  refine fin (e := [.va (.int (ts.length : Int)), .no, .no, .no, .no]) (seq_nx s2 (seq_nx (if_ff hc rfl) ?_))
                  simp [i2, an, slotD]
    · rw [decide_eq_false hl] at ht
      have : goodQ (.tup xs) = false := by
        unfold goodQ; split <;> rename_i q <;> try rfl
        cases q
        simp at hl
      rw [this]
      simp [run_is_good_question, runF, m_is_good_question, ht, slotD, outOf, fAdd, fSub, fMod, fLt, fLe, fGt, fGe, fNeg, fIsN, fNotN, MP.isNon, bAbs, bInt, isInt, isBool, isTup, isStr, bLen, line]
  | _ =>
    simp only [tupB] at ht
    simp [run_is_good_question, runF, m_is_good_question, ht, goodQ, slotD, outOf, fAdd, fSub, fMod, fLt, fLe, fGt, fGe, fNeg, fIsN, fNotN, MP.isNon, bAbs, bInt, isInt, isBool, isTup, isStr, bLen, line]
theorem is_question_ok (v : D) (h : Pl v = true) : run_is_question [.va v] = .ok (.bl (goodQ v)) none := by
  simp [run_is_question, runF, m_is_question, good_question_ok v h, slotD, outOf, fAdd, fSub, fMod, fLt, fLe, fGt, fGe, fNeg, fIsN, fNotN, MP.isNon, bAbs, bInt, isInt, isBool, isTup, isStr, bLen, line]
theorem need_question_ok (v : D) (h : Pl v = true) (g : goodQ v = true) : run_need_question [.va v] = .ok .non none := by
  have := good_question_ok v h
  rw [g] at this
  simp [run_need_question, runF, m_need_question, this, slotD, outOf, fAdd, fSub, fMod, fLt, fLe, fGt, fGe, fNeg, fIsN, fNotN, MP.isNon, bAbs, bInt, isInt, isBool, isTup, isStr, bLen, line]
end GJ

set_option Elab.async false
set_option linter.all false
set_option maxRecDepth 100000
set_option maxHeartbeats 2000000
namespace GJ
open PySem L2 MP

/-! ### the law's reading of questions -/
theorem seqLt2 (a b c d : Int) : seqLt [a, b] [c, d] = true ↔ a < c ∨ (a = c ∧ b < d) := by
  unfold seqLt
  by_cases h : a = c
  · subst h
    simp only [if_true]
    unfold seqLt
    by_cases h2 : b = d
    · subst h2; simp [seqLt]
    · simp [h2]
  · simp [h]
theorem tup_len_ne (xs : List D) (n : Int) : fNe (.int (xs.length : Int)) (.int n) = some (.bl (!decide ((xs.length : Int) = n))) := ne_int _ _
def lkGo (m : Int) : Int × Int → List D → Bool
  | _, [] => true
  | p, d :: r => linkB m d && (match d with
    | .tup (.int a :: .int b :: _) => seqLt [p.1, p.2] [a, b] && lkGo m (a, b) r
    | _ => false)
theorem num_le_link (i : Int) (b : D) (m : Int) : (numB (.int i) 0 (m - 1) && numB b 0 (m - 1) && ltB (.int i) b) = (numB (.int i) 0 (m - 2) && numB b (i + 1) (m - 1)) := by
  cases b <;> simp only [numB, ltB, Bool.and_false, Bool.false_and]
  rename_i j
  rw [Bool.eq_iff_iff]
  simp only [Bool.and_eq_true, decide_eq_true_eq]
  omega
theorem numB_no {v : D} (h : ∀ i, v ≠ .int i) (lo hi : Int) : numB v lo hi = false := by
  unfold numB
  split
  · exact absurd rfl (h _)
  · rfl
theorem lkGo_cons (m : Int) (p : Int × Int) (a b : Int) (xs ds : List D) (h : lkGo m p [.tup (.int a :: .int b :: xs)] = true) : lkGo m p (.tup (.int a :: .int b :: xs) :: ds) = lkGo m (a, b) ds := by
  simp only [lkGo, Bool.and_eq_true, Bool.and_true] at h ⊢
  rw [h.1, h.2]
  simp
theorem lkGo_bad (m : Int) (p : Int × Int) (d : D) (ds : List D) (h : lkGo m p [d] = false) : lkGo m p (d :: ds) = false := by
  simp only [lkGo] at h ⊢
  cases e : linkB m d with
  | false => rfl
  | true =>
    rw [e, Bool.true_and] at h
    rw [Bool.true_and]
    split at h
    · rename_i a b xs
      rw [Bool.and_true] at h
      rw [h, Bool.false_and]
    · rfl
theorem lkGo_typed (m : Int) : ∀ (L : List Lk) (p : Int × Int), (∀ x ∈ L, LkOk m x) → lkGo m p (L.map l4D) = (match L with | [] => true | x :: _ => seqLt [p.1, p.2] [x.1, x.2.1] && ascL (L.map l4D))
  | [], p, h => rfl
  | x :: L, p, h => by
    have hx := linkB_of (h x List.mem_cons_self)
    have ih := lkGo_typed m L (x.1, x.2.1) (fun y hy => h y (List.mem_cons_of_mem _ hy))
    simp only [List.map_cons, lkGo, hx, Bool.true_and]
    rw [show l4D x = .tup (.int x.1 :: .int x.2.1 :: [.int x.2.2.1, .int x.2.2.2]) from rfl]
    dsimp only
    rw [ih]
    cases L with
    | nil => simp [ascL]
    | cons y L => simp only [List.map_cons, ascL]; rfl
theorem lkGo_all (m : Int) : ∀ (ls : List D) (p : Int × Int), lkGo m p ls = true → ls.all (linkB m) = true
  | [], _, _ => rfl
  | d :: ls, p, h => by
    simp only [lkGo, Bool.and_eq_true] at h
    simp only [List.all_cons, Bool.and_eq_true]
    refine ⟨h.1, ?_⟩
    have h2 := h.2
    split at h2
    · simp only [Bool.and_eq_true] at h2
      exact lkGo_all m ls _ h2.2
    · cases h2
theorem lkGo_eq (m : Int) (ls : List D) : lkGo m (-1, -1) ls = (ls.all (linkB m) && ascL ls) := by
  cases e : ls.all (linkB m) with
  | false =>
    cases e2 : lkGo m (-1, -1) ls with
    | false => rfl
    | true => rw [lkGo_all m ls _ e2] at e; cases e
  | true =>
    obtain ⟨L, rfl, hL⟩ := links_form e
    rw [lkGo_typed m L _ hL, Bool.true_and]
    cases L with
    | nil => rfl
    | cons x L =>
      have := hL x List.mem_cons_self
      have q : seqLt [-1, -1] [x.1, x.2.1] = true := (seqLt2 _ _ _ _).mpr (.inl (by have := this.a0; omega))
      dsimp only
      rw [q, Bool.true_and]
def idGo (m : Int) : Int → List D → Bool
  | _, [] => true
  | f, x :: r => numB x (f + 1) (m - 1) && (match x with
    | .int i => idGo m i r
    | _ => false)
def hdB (f : Int) : List Int → Bool
  | [] => true
  | n :: _ => decide (f < n)
theorem idGo_ints (m : Int) : ∀ (ns : List Int) (f : Int), idGo m f (ns.map D.int) = (hdB f ns && (ascI (ns.map D.int) && ns.all fun n => decide (n ≤ m - 1)))
  | [], f => rfl
  | n :: ns, f => by
    have ih := idGo_ints m ns n
    simp only [List.map_cons, idGo, numB]
    rw [ih, Bool.eq_iff_iff]
    cases ns with
    | nil => simp [ascI, hdB]; omega
    | cons k ns =>
      simp only [List.map_cons, ascI, ltB, List.all_cons, hdB, Bool.and_eq_true, decide_eq_true_eq]
      constructor
      · rintro ⟨⟨h1, h2⟩, h3, h4, h5, h6⟩
        exact ⟨by omega, ⟨h3, h4⟩, h2, h5, h6⟩
      · rintro ⟨h1, ⟨h3, h4⟩, h2, h5, h6⟩
        exact ⟨⟨by omega, h2⟩, h3, h4, h5, h6⟩
theorem idGo_all (m : Int) : ∀ (xs : List D) (f : Int), -1 ≤ f → idGo m f xs = true → (xs.all fun x => numB x 0 (m - 1)) = true
  | [], _, _, _ => rfl
  | x :: xs, f, hf, h => by
    simp only [idGo, Bool.and_eq_true] at h
    obtain ⟨i, rfl, h1, h2⟩ := numB_int h.1
    simp only [List.all_cons, Bool.and_eq_true]
    exact ⟨by simp only [numB, Bool.and_eq_true, decide_eq_true_eq]; omega, idGo_all m xs i (by omega) h.2⟩
theorem strict_len : ∀ (ks : List Int) (lo hi : Int), (∀ k ∈ ks, lo ≤ k ∧ k ≤ hi) → ks.Pairwise (· < ·) → ks.length ≤ (hi - lo + 1).toNat
  | [], _, _, _, _ => by simp
  | k :: ks, lo, hi, h, p => by
    obtain ⟨p1, p2⟩ := List.pairwise_cons.mp p
    have := strict_len ks (k + 1) hi (fun j hj => ⟨by have := p1 j hj; omega, (h j (List.mem_cons_of_mem _ hj)).2⟩) p2
    have := h k List.mem_cons_self
    simp only [List.length_cons]
    omega
theorem idGo_eq (m : Int) (xs : List D) (hm : 0 ≤ m) : idGo m (-1) xs = numsB m (.tup xs) 0 := by
  cases e : xs.all (fun x => numB x 0 (m - 1)) with
  | false =>
    simp only [numsB, e, Bool.false_and, Bool.and_false]
    cases e2 : idGo m (-1) xs with
    | false => rfl
    | true => rw [idGo_all m xs _ (by omega) e2] at e; cases e
  | true =>
    obtain ⟨ns, rfl, hb⟩ := all_num e
    rw [idGo_ints]
    have z1 : hdB (-1) ns = true := by
      cases ns with
      | nil => rfl
      | cons n ns => have := hb n List.mem_cons_self; simp [hdB]; omega
    have z2 : (ns.all fun n => decide (n ≤ m - 1)) = true := by
      rw [List.all_eq_true]
      intro n hn
      have := hb n hn
      simp; omega
    rw [z1, z2, Bool.true_and, Bool.and_true]
    simp only [numsB, num_all ns hb, Bool.true_and]
    cases ea : ascI (ns.map D.int) with
    | false => simp
    | true =>
      have := strict_len ns 0 (m - 1) hb ((ascI_strict ns).mp ea)
      simp only [tupB, List.length_map, Bool.and_true]
      rw [decide_eq_true (by omega), decide_eq_true (by omega)]
      rfl
/-- six links at most -/
def rk (x : Lk) : Int := if x.1 = 0 then x.2.1 - 1 else if x.1 = 1 then x.2.1 + 1 else x.2.1 + 2
theorem asc_rk {m : Int} (hm : m ≤ 4) : ∀ (L : List Lk), (∀ x ∈ L, LkOk m x) → ascL (L.map l4D) = true → (L.map rk).Pairwise (· < ·)
  | [], _, _ => by simp
  | [_], _, _ => by simp
  | x :: y :: r, h, a => by
    simp only [List.map_cons, ascL, Bool.and_eq_true] at a
    have ih := asc_rk hm (y :: r) (fun z hz => h z (List.mem_cons_of_mem _ hz)) (by simpa using a.2)
    have hx := h x (by simp)
    have hy := h y (by simp)
    have q := (seqLt2 x.1 x.2.1 y.1 y.2.1).mp a.1
    have lt : rk x < rk y := by
      obtain ⟨x1, x2, x3, _⟩ := hx
      obtain ⟨y1, y2, y3, _⟩ := hy
      unfold rk
      split <;> split <;> (try split) <;> omega
    refine List.pairwise_cons.mpr ⟨fun z hz => ?_, ih⟩
    rcases List.mem_cons.mp hz with e | e
    · rw [e]; exact lt
    · have := (List.pairwise_cons.mp ih).1 z e
      omega
theorem six {m : Int} (hm : m ≤ 4) (L : List Lk) (h : ∀ x ∈ L, LkOk m x) (a : ascL (L.map l4D) = true) : L.length ≤ 6 := by
  have := strict_len (L.map rk) 0 5 (fun k hk => by
    obtain ⟨x, hx, rfl⟩ := List.mem_map.mp hk
    obtain ⟨x1, x2, x3, _⟩ := h x hx
    unfold rk
    split
    · omega
    · split <;> omega) (asc_rk hm L h a)
  rw [List.length_map] at this
  omega
end GJ

set_option Elab.async false
set_option linter.all false
set_option maxRecDepth 100000
set_option maxHeartbeats 2000000
namespace GJ
open PySem L2 MP

/-! ### plans -/
abbrev HASH : List Nat := [104, 97, 115, 104]
abbrev INDEX : List Nat := [105, 110, 100, 101, 120]
abbrev LOOP : List Nat := [108, 111, 111, 112]
def methB : D → Bool
  | .str cs => decide (cs = HASH) || (decide (cs = INDEX) || decide (cs = LOOP))
  | _ => false
structure QF (Q : D) (m : Nat) (ts : List D) (L : List Lk) (I : List Int) : Prop where
  q0 : fIx Q (.int 0) = some (.tup ts)
  q1 : fIx Q (.int 1) = some (.tup (L.map l4D))
  q2 : fIx Q (.int 2) = some (.tup (I.map D.int))
  ln : ts.length = m
  m2 : 2 ≤ m
  m4 : m ≤ 4
  lk : ∀ x ∈ L, LkOk m x
  l6 : L.length ≤ 6
  i4 : I.length ≤ 4
def shapeB (m : Int) : Nat → D → Bool
  | 0, v => numB v 0 (m - 1)
  | k + 1, v => numB v 0 (m - 1) || (match v with
    | .tup [a, b, c] => methB c && (shapeB m k a && shapeB m k b)
    | _ => false)
theorem inMeth (cs : List Nat) : anyEq (.str cs) [.str HASH, .str INDEX, .str LOOP] = methB (.str cs) := by
  simp only [anyEq, eqD, methB, natsEq_eq]
  by_cases a : HASH = cs
  · rw [decide_eq_true a, decide_eq_true a.symm]; rfl
  · rw [decide_eq_false a, decide_eq_false (p := cs = HASH) (fun e => a e.symm)]
    by_cases b : INDEX = cs
    · rw [decide_eq_true b, decide_eq_true b.symm]; rfl
    · rw [decide_eq_false b, decide_eq_false (p := cs = INDEX) (fun e => b e.symm)]
      by_cases c : LOOP = cs
      · rw [decide_eq_true c, decide_eq_true c.symm]; rfl
      · rw [decide_eq_false c, decide_eq_false (p := cs = LOOP) (fun e => c e.symm)]; rfl
theorem notin_meth (cs : List Nat) : fNotIn (.str cs) (.tup [.str HASH, .str INDEX, .str LOOP]) = some (.bl (!methB (.str cs))) := by
  rw [← inMeth]; rfl
theorem notin_methL (cs : List Nat) : fNotIn (.str cs) (.lst [.str HASH, .str INDEX, .str LOOP]) = some (.bl (!methB (.str cs))) := by
  rw [← inMeth]; rfl
theorem tup3 (xs : List D) : tupB (.tup xs) 3 3 = decide (xs.length = 3) := tupB_nn xs 3
theorem shape_ok {Q : D} {m : Nat} {ts : List D} {L : List Lk} {I : List Int} (q : QF Q m ts L I) : ∀ (k f : Nat) (v : D), k < f → k ≤ 60 → Pl v = true → run_is_shape f [.va Q, .va v, .va (.int (k : Int))] = .ok (.bl (shapeB m k v)) none := by
  intro k
  induction k with
  | zero =>
    intro f v hf _ hv
    obtain ⟨g, rfl⟩ : ∃ g, f = g + 1 := ⟨f - 1, by omega⟩
    have ln : bLen [.tup ts] = some (.int (m : Int)) := by rw [← q.ln]; rfl
    have n := number_ok v 0 ((m : Int) - 1) hv
    have e0 := eq_int 0 0
    simp only [shapeB]
    have sb : fSub (.int (m : Int)) (.int 1) = some (.int ((m : Int) - 1)) := rfl
    cases e : numB v 0 ((m : Int) - 1) <;> rw [e] at n <;> simp [run_is_shape, runF, m_is_shape, q.q0, ln, n, sb, e0, slotD, outOf]
  | succ k ih =>
    intro f v hf hk hv
    obtain ⟨g, rfl⟩ : ∃ g, f = g + 1 := ⟨f - 1, by omega⟩
    have ln : bLen [.tup ts] = some (.int (m : Int)) := by rw [← q.ln]; rfl
    have n := number_ok v 0 ((m : Int) - 1) hv
    have sb : fSub (.int (m : Int)) (.int 1) = some (.int ((m : Int) - 1)) := rfl
    have sk : fSub (.int (((k + 1 : Nat)) : Int)) (.int 1) = some (.int (k : Int)) := by
      show some (D.int _) = _
      rw [show (((k + 1 : Nat)) : Int) - 1 = (k : Int) by omega]
    have e0 := eq_int (((k + 1 : Nat)) : Int) 0
    rw [decide_eq_false (by omega)] at e0
    have ht := tuple_ok v 3 3 hv
    have q0 := q.q0
    simp only [shapeB]
    generalize (((k + 1 : Nat)) : Int) = K at *
    cases e : numB v 0 ((m : Int) - 1) with
    | true =>
      rw [e] at n
      simp [run_is_shape, runF, m_is_shape, q0, ln, n, sb, slotD, outOf]
    | false =>
      rw [e] at n
      rw [Bool.false_or]
      have un : run_is_shape (g + 1) = runF 3 3 (m_is_shape (run_is_shape g)) := rfl
      rw [un]
      cases v with
      | tup xs =>
        rw [tup3] at ht
        have hx := fun (x : D) (m : x ∈ xs) => PlL_mem (by simpa [Pl] using hv) m
        by_cases hl : xs.length = 3
        · rw [decide_eq_true hl] at ht
          match xs, hl with
          | [a, b, c], _ =>
            have i0 : fIx (.tup [a, b, c]) (.int 0) = some a := by simp [fIx, ixD]
            have i1 : fIx (.tup [a, b, c]) (.int 1) = some b := by simp [fIx, ixD]
            have i2 : fIx (.tup [a, b, c]) (.int 2) = some c := by simp [fIx, ixD]
            have ra := ih g a (by omega) (by omega) (hx a (by simp))
            have rb := ih g b (by omega) (by omega) (hx b (by simp))
            have pc := hx c (by simp)
            dsimp only
            generalize run_is_shape g = self at *
            have td : tupSD [[104, 97, 115, 104], [105, 110, 100, 101, 120], [108, 111, 111, 112]] = .tup [.str HASH, .str INDEX, .str LOOP] := rfl
            by_cases hc : ∃ cs, c = .str cs
            · obtain ⟨cs, rfl⟩ := hc
              have ni := notin_meth cs
              have is : isStr (.str cs) = some (.bl true) := rfl
              generalize D.tup [a, b, D.str cs] = V at *
              cases em : methB (.str cs) with
              | false =>
                rw [em] at ni
                rw [Bool.false_and]
                simp [runF, m_is_shape, q0, ln, n, sb, e0, ht, i2, ni, td, is, slotD, outOf]
              | true =>
                rw [em] at ni
                rw [Bool.true_and]
                generalize shapeB m k a = sa at *
                generalize shapeB m k b = sb2 at *
                cases sa <;> simp [runF, m_is_shape, q0, ln, n, sb, sk, e0, ht, i0, i1, i2, ni, td, is, ra, rb, slotD, outOf]
            · have is : isStr c = some (.bl false) := by cases c <;> first | rfl | (exfalso; exact hc ⟨_, rfl⟩) | (exfalso; simp [Pl] at pc; done)
              have mc : methB c = false := by cases c <;> first | rfl | (exfalso; exact hc ⟨_, rfl⟩)
              rw [mc, Bool.false_and]
              generalize D.tup [a, b, c] = V at *
              simp [runF, m_is_shape, q0, ln, n, sb, e0, ht, i2, td, is, slotD, outOf]
        · rw [decide_eq_false hl] at ht
          have : (match D.tup xs with
            | .tup [a, b, c] => methB c && (shapeB m k a && shapeB m k b)
            | _ => false) = false := by
            split <;> rename_i q <;> try rfl
            cases q
            simp at hl
          rw [this]
          generalize D.tup xs = V at *
          simp [runF, m_is_shape, q0, ln, n, sb, e0, ht, slotD, outOf]
      | _ =>
        simp only [tupB] at ht
        simp [runF, m_is_shape, q0, ln, n, sb, e0, ht, slotD, outOf]
end GJ

set_option Elab.async false
set_option linter.all false
set_option maxRecDepth 100000
set_option maxHeartbeats 2000000
namespace GJ
open PySem L2 MP

/-! ### the tables of a plan; led plans -/
theorem any_ints (x : Int) : ∀ A : List Int, anyEq (.int x) (A.map D.int) = decide (x ∈ A)
  | [] => by simp [anyEq]
  | a :: A => by
    have ih := any_ints x A
    simp only [List.map_cons, anyEq, eqD]
    by_cases h : a = x
    · subst h; simp
    · rw [decide_eq_false h, ih, Bool.eq_iff_iff]
      simp only [decide_eq_true_eq, List.mem_cons]
      exact ⟨.inr, fun q => q.elim (fun e => absurd e.symm h) id⟩
theorem flat_ints : ∀ A : List Int, allFlat (A.map D.int) = true
  | [] => rfl
  | a :: A => by
    have ih := flat_ints A
    simp only [List.map_cons, allFlat, flatD, ih]
theorem in_tup (x : Int) (A : List Int) : fIn (.int x) (.tup (A.map D.int)) = some (.bl (decide (x ∈ A))) := by
  simp [fIn, inOf, flatD, flat_ints, any_ints]
theorem in_lst (x : Int) (A : List Int) : fIn (.int x) (.lst (A.map D.int)) = some (.bl (decide (x ∈ A))) := by
  simp [fIn, inOf, flatD, flat_ints, any_ints]
theorem nin_tup (x : Int) (A : List Int) : fNotIn (.int x) (.tup (A.map D.int)) = some (.bl (!decide (x ∈ A))) := by
  simp [fNotIn, inOf, flatD, flat_ints, any_ints]
theorem nin_lst (x : Int) (A : List Int) : fNotIn (.int x) (.lst (A.map D.int)) = some (.bl (!decide (x ∈ A))) := by
  simp [fNotIn, inOf, flatD, flat_ints, any_ints]
def tabsI : Nat → D → List Int
  | _, .int i => [i]
  | k + 1, .tup [a, b, _] => sortI (tabsI k a ++ tabsI k b)
  | _, _ => []
theorem shape_cases {m : Int} {k : Nat} {v : D} (h : shapeB m (k + 1) v = true) : (∃ i, v = .int i ∧ 0 ≤ i ∧ i ≤ m - 1) ∨ ∃ a b cs, v = .tup [a, b, .str cs] ∧ methB (.str cs) = true ∧ shapeB m k a = true ∧ shapeB m k b = true := by
  simp only [shapeB, Bool.or_eq_true] at h
  rcases h with h | h
  · exact .inl (numB_int h)
  · split at h
    · rename_i a b c
      simp only [Bool.and_eq_true] at h
      cases c <;> simp only [methB] at h <;> try (simp at h; done)
      rename_i cs
      exact .inr ⟨a, b, cs, rfl, by simpa [methB] using h.1, h.2.1, h.2.2⟩
    · cases h
theorem tabsI_sorted : ∀ (k : Nat) (v : D), (tabsI k v).Pairwise (· ≤ ·) := by
  intro k v
  unfold tabsI
  split
  · simp
  · exact sortI_sorted _
  · simp
theorem add_tup (A B : List Int) (h : A.length + B.length ≤ 60) : fAdd (.tup (A.map D.int)) (.tup (B.map D.int)) = some (.tup ((A ++ B).map D.int)) := by
  simp only [fAdd, List.length_map, ble_dec]
  rw [decide_eq_true (by show _ ≤ 16777216; omega), List.map_append]
theorem add_lst (A B : List Int) (h : A.length + B.length ≤ 60) : fAdd (.lst (A.map D.int)) (.lst (B.map D.int)) = some (.lst ((A ++ B).map D.int)) := by
  simp only [fAdd, List.length_map, ble_dec]
  rw [decide_eq_true (by show _ ≤ 16777216; omega), List.map_append]
theorem srt_tup (A : List Int) (h : A.length ≤ 60) : bSortedX [.tup (A.map D.int)] = some (.lst ((sortI A).map D.int)) := by
  simp only [bSortedX, intsOf_map, blt_dec]
  rw [decide_eq_true (by omega)]
theorem srt_lst (A : List Int) (h : A.length ≤ 60) : bSortedX [.lst (A.map D.int)] = some (.lst ((sortI A).map D.int)) := by
  simp only [bSortedX, intsOf_map, blt_dec]
  rw [decide_eq_true (by omega)]
theorem tables_ok (m : Int) : ∀ (k f : Nat) (v : D), k < f → k ≤ 3 → shapeB m k v = true →
    run_tables_in f [.va v] = .ok (.tup ((tabsI k v).map D.int)) none ∧ run__law_tables f [.va v] = .ok (.lst ((tabsI k v).map D.int)) none ∧ (tabsI k v).length ≤ 2 ^ k ∧ ∀ i ∈ tabsI k v, 0 ≤ i ∧ i ≤ m - 1 := by
  intro k
  induction k with
  | zero =>
    intro f v hf _ h
    obtain ⟨g, rfl⟩ : ∃ g, f = g + 1 := ⟨f - 1, by omega⟩
    obtain ⟨i, rfl, h1, h2⟩ := numB_int h
    refine ⟨?_, ?_, by simp [tabsI], by simpa [tabsI] using ⟨h1, h2⟩⟩
    · simp [run_tables_in, runF, m_tables_in, tabsI, slotD, outOf, fAdd, fSub, fMod, fLt, fLe, fGt, fGe, fNeg, fIsN, fNotN, MP.isNon, bAbs, bInt, isInt, isBool, isTup, isStr, bLen, line]
    · simp [run__law_tables, runF, m__law_tables, tabsI, slotD, outOf, fAdd, fSub, fMod, fLt, fLe, fGt, fGe, fNeg, fIsN, fNotN, MP.isNon, bAbs, bInt, isInt, isBool, isTup, isStr, bLen, line]
  | succ k ih =>
    intro f v hf hk h
    obtain ⟨g, rfl⟩ : ∃ g, f = g + 1 := ⟨f - 1, by omega⟩
    rcases shape_cases h with ⟨i, rfl, h1, h2⟩ | ⟨a, b, cs, rfl, hc, ha, hb⟩
    · refine ⟨?_, ?_, by simp [tabsI]; exact Nat.one_le_two_pow, by simpa [tabsI] using ⟨h1, h2⟩⟩
      · simp [run_tables_in, runF, m_tables_in, tabsI, slotD, outOf, fAdd, fSub, fMod, fLt, fLe, fGt, fGe, fNeg, fIsN, fNotN, MP.isNon, bAbs, bInt, isInt, isBool, isTup, isStr, bLen, line]
      · simp [run__law_tables, runF, m__law_tables, tabsI, slotD, outOf, fAdd, fSub, fMod, fLt, fLe, fGt, fGe, fNeg, fIsN, fNotN, MP.isNon, bAbs, bInt, isInt, isBool, isTup, isStr, bLen, line]
    · obtain ⟨a1, a2, a3, a4⟩ := ih g a (by omega) (by omega) ha
      obtain ⟨b1, b2, b3, b4⟩ := ih g b (by omega) (by omega) hb
      have i0 : fIx (.tup [a, b, .str cs]) (.int 0) = some a := by simp [fIx, ixD]
      have i1 : fIx (.tup [a, b, .str cs]) (.int 1) = some b := by simp [fIx, ixD]
      have it : isInt (.tup [a, b, .str cs]) = some (.bl false) := rfl
      have p8 : 2 ^ k ≤ 2 ^ 2 := Nat.pow_le_pow_right (by decide) (by omega)
      have el : tabsI (k + 1) (.tup [a, b, .str cs]) = sortI (tabsI k a ++ tabsI k b) := rfl
      rw [el]
      have sl : (sortI (tabsI k a ++ tabsI k b)).length = (tabsI k a).length + (tabsI k b).length := by
        rw [(sortI_perm _).length_eq, List.length_append]
      have ad := add_tup (tabsI k a) (tabsI k b) (by omega)
      have al := add_lst (tabsI k a) (tabsI k b) (by omega)
      have st := srt_tup (tabsI k a ++ tabsI k b) (by rw [List.length_append]; omega)
      have sl2 := srt_lst (tabsI k a ++ tabsI k b) (by rw [List.length_append]; omega)
      refine ⟨?_, ?_, by rw [sl, Nat.pow_succ]; omega, fun i hi => ?_⟩
      · rw [show run_tables_in (g + 1) = runF 1 1 (m_tables_in (run_tables_in g)) from rfl]
        generalize run_tables_in g = self at *
        generalize D.tup [a, b, D.str cs] = V at *
        generalize (tabsI k a ++ tabsI k b).map D.int = AB at *
        generalize (sortI (tabsI k a ++ tabsI k b)).map D.int = SS at *
        generalize (tabsI k a).map D.int = A at *
        generalize (tabsI k b).map D.int = B at *
        simp [runF, m_tables_in, it, i0, i1, a1, b1, ad, st, bTuple, slotD, outOf]
      · rw [show run__law_tables (g + 1) = runF 1 1 (m__law_tables (run__law_tables g)) from rfl]
        generalize run__law_tables g = self at *
        generalize D.tup [a, b, D.str cs] = V at *
        generalize (tabsI k a ++ tabsI k b).map D.int = AB at *
        generalize (sortI (tabsI k a ++ tabsI k b)).map D.int = SS at *
        generalize (tabsI k a).map D.int = A at *
        generalize (tabsI k b).map D.int = B at *
        simp [runF, m__law_tables, it, i0, i1, a2, b2, al, sl2, slotD, outOf]
      · rw [(sortI_perm _).mem_iff, List.mem_append] at hi
        exact hi.elim (a4 i) (b4 i)
def linkedB (L : List Lk) (A B : List Int) : Bool := L.any fun x => (decide (x.1 ∈ A) && decide (x.2.1 ∈ B)) || (decide (x.1 ∈ B) && decide (x.2.1 ∈ A))
theorem bAny_map {α : Type} (p : α → Bool) (xs : List α) : bAny [.lst (xs.map fun x => D.bl (p x))] = some (.bl (xs.any p)) := by
  simp only [bAny, blsOf_map]
  simp [List.any_map]
theorem are_linked_ok {Q : D} {m : Nat} {ts : List D} {L : List Lk} {I : List Int} (q : QF Q m ts L I) (A B : List Int) :
    run_are_linked [.va Q, .va (.tup (A.map D.int)), .va (.tup (B.map D.int))] = .ok (.bl (linkedB L A B)) none := by
  have q1 := q.q1
  have l6 := q.l6
  have l1 : lcGo (mgTup 4 (mgsCons (mgName 3) (mgsCons (mgName 4) (mgsCons (mgName 5) (mgsCons (mgName 6) mgsNil))))) mYes (mOr (mAnd (mB fIn (mPk 3) (lPk 3) (mPk 1) (lPk 1)) (mB fIn (mPk 4) (lPk 4) (mPk 2) (lPk 2))) (mAnd (mB fIn (mPk 3) (lPk 3) (mPk 2) (lPk 2)) (mB fIn (mPk 4) (lPk 4) (mPk 1) (lPk 1)))) [.va Q, .va (.tup (A.map D.int)), .va (.tup (B.map D.int)), .no, .no, .no, .no] (L.map l4D) [] = some (L.map fun x => .bl ((decide (x.1 ∈ A) && decide (x.2.1 ∈ B)) || (decide (x.1 ∈ B) && decide (x.2.1 ∈ A)))) := by
    have := lc_all (mg := (mgTup 4 (mgsCons (mgName 3) (mgsCons (mgName 4) (mgsCons (mgName 5) (mgsCons (mgName 6) mgsNil)))))) (me := (mOr (mAnd (mB fIn (mPk 3) (lPk 3) (mPk 1) (lPk 1)) (mB fIn (mPk 4) (lPk 4) (mPk 2) (lPk 2))) (mAnd (mB fIn (mPk 3) (lPk 3) (mPk 2) (lPk 2)) (mB fIn (mPk 4) (lPk 4) (mPk 1) (lPk 1))))) (benv := [.va Q, .va (.tup (A.map D.int)), .va (.tup (B.map D.int)), .no, .no, .no, .no]) (h := fun d => match d with | .tup [.int x, .int y, _, _] => .bl ((decide (x ∈ A) && decide (y ∈ B)) || (decide (x ∈ B) && decide (y ∈ A))) | _ => .non) (ds := L.map l4D) (fun d hd => by
      obtain ⟨x, _, rfl⟩ := List.mem_map.mp hd
      have n1 := in_tup x.1 A
      have n2 := in_tup x.2.1 B
      have n3 := in_tup x.1 B
      have n4 := in_tup x.2.1 A
      refine ⟨[.va Q, .va (.tup (A.map D.int)), .va (.tup (B.map D.int)), .va (.int x.1), .va (.int x.2.1), .va (.int x.2.2.1), .va (.int x.2.2.2)], [.va Q, .va (.tup (A.map D.int)), .va (.tup (B.map D.int)), .va (.int x.1), .va (.int x.2.1), .va (.int x.2.2.1), .va (.int x.2.2.2)], by simp [l4D], ?_⟩
      generalize A.map D.int = A' at *
      generalize B.map D.int = B' at *
      simp only [l4D]
      cases d1 : decide (x.1 ∈ A) <;> cases d2 : decide (x.2.1 ∈ B) <;> cases d3 : decide (x.1 ∈ B) <;> rw [d1] at n1 <;> rw [d2] at n2 <;> rw [d3] at n3 <;> simp [n1, n2, n3, n4, slotD])
    rw [this, List.map_map]
    rfl
  have b1 := bAny_map (fun x : Lk => (decide (x.1 ∈ A) && decide (x.2.1 ∈ B)) || (decide (x.1 ∈ B) && decide (x.2.1 ∈ A))) L
  generalize A.map D.int = A' at *
  generalize B.map D.int = B' at *
  have it : (mIt (mB fIx (mPk 0) (lPk 0) (mC (.int 1)) lId)) [.va Q, .va (.tup A'), .va (.tup B'), .no, .no, .no, .no] = .ok (L.map l4D) [.va Q, .va (.tup A'), .va (.tup B'), .no, .no, .no, .no] := by simp [q1, slotD]
  have r := lc_run (vs := [3, 4, 5, 6]) it (by rw [List.length_map]; omega) rfl l1
  refine run_rt (n := 3) (tot := 7) (e := [.va Q, .va (.tup A'), .va (.tup B'), .no, .no, .no, .no]) ?_
  show m_are_linked [.va Q, .va (.tup A'), .va (.tup B'), .no, .no, .no, .no] = _
  unfold m_are_linked
  rw [mRet_ap, mCall_ap, maCons_ap, r]
  simp [b1, linkedB]
end GJ

set_option Elab.async false
set_option linter.all false
set_option maxRecDepth 100000
set_option maxHeartbeats 2000000
namespace GJ
open PySem L2 MP

def intI (I : List Int) : D → Bool
  | .int i => decide (i ∈ I)
  | _ => false
def canB (L : List Lk) (I : List Int) (A B : List Int) (b c : D) : Bool := match c with
  | .str cs => decide (cs = LOOP) || ((!decide (cs = INDEX) || intI I b) && linkedB L A B)
  | _ => false
theorem eq_str (a b : List Nat) (h : a.all (fun c => Nat.blt c 1114112) = true) (h2 : b.all (fun c => Nat.blt c 1114112) = true) : fEq (.str a) (.str b) = some (.bl (decide (a = b))) := by
  simp only [fEq, okD, h, h2, eqD, natsEq_eq]
theorem meth_ok {cs : List Nat} (h : methB (.str cs) = true) : cs.all (fun c => Nat.blt c 1114112) = true := by
  simp only [methB, Bool.or_eq_true, decide_eq_true_eq] at h
  rcases h with rfl | rfl | rfl <;> rfl
theorem can_ok {Q : D} {m : Nat} {ts : List D} {L : List Lk} {I : List Int} (q : QF Q m ts L I) {k j : Nat} (hk : k ≤ 3) (hj : j ≤ 3) {a b : D} {cs : List Nat} (ha : shapeB m k a = true) (hb : shapeB m j b = true) (hc : methB (.str cs) = true) :
    run_can_stand [.va Q, .va a, .va b, .va (.str cs)] = .ok (.bl (canB L I (tabsI k a) (tabsI j b) b (.str cs))) none := by
  have q2 := q.q2
  obtain ⟨a1, a2, a3, a4⟩ := tables_ok m k 6 a (by omega) hk ha
  obtain ⟨b1, b2, b3, b4⟩ := tables_ok m j 6 b (by omega) hj hb
  have al := are_linked_ok q (tabsI k a) (tabsI j b)
  have e1 := eq_str cs LOOP (meth_ok hc) rfl
  have e2 := eq_str cs INDEX (meth_ok hc) rfl
  simp only [canB]
  have hi : (∃ i, b = .int i) ∨ isInt b = some (.bl false) ∧ intI I b = false := by
    cases j with
    | zero => obtain ⟨i, rfl, _⟩ := numB_int hb; exact .inl ⟨i, rfl⟩
    | succ j =>
      rcases shape_cases hb with ⟨i, rfl, _⟩ | ⟨x, y, z, rfl, _⟩
      · exact .inl ⟨i, rfl⟩
      · exact .inr ⟨rfl, rfl⟩
  generalize (tabsI k a).map D.int = A at *
  generalize (tabsI j b).map D.int = B at *
  cases c1 : decide (cs = LOOP) with
  | true =>
    rw [c1] at e1
    simp [run_can_stand, runF, m_can_stand, a1, b1, e1, slotD, outOf]
  | false =>
    rw [c1] at e1
    cases c2 : decide (cs = INDEX) with
    | false =>
      rw [c2] at e2
      simp [run_can_stand, runF, m_can_stand, a1, b1, e1, e2, al, slotD, outOf]
    | true =>
      rw [c2] at e2
      rcases hi with ⟨i, rfl⟩ | ⟨n1, n2⟩
      · have ni := nin_tup i I
        have it : isInt (.int i) = some (.bl true) := rfl
        generalize I.map D.int = I' at *
        simp only [intI]
        cases c3 : decide (i ∈ I) <;> rw [c3] at ni <;> simp [run_can_stand, runF, m_can_stand, a1, b1, e1, e2, al, q2, it, ni, slotD, outOf]
      · rw [n2]
        simp [run_can_stand, runF, m_can_stand, a1, b1, e1, e2, al, q2, n1, slotD, outOf]
theorem can_loop (Q a b c : D) (A B : List Int) : ∀ (L : List Lk) (s6 s7 s8 s9 : Sl),
    (linkedB L A B = true → ∃ e, forGo (mgTup 4 (mgsCons (mgName 6) (mgsCons (mgName 7) (mgsCons (mgName 8) (mgsCons (mgName 9) mgsNil))))) (mSeq (mIfS (mAnd (mB fIn (mPk 6) (lPk 6) (mPk 4) (lPk 4)) (mB fIn (mPk 7) (lPk 7) (mPk 5) (lPk 5))) (mRet (mC (.bl true))) mSkip) (mIfS (mAnd (mB fIn (mPk 6) (lPk 6) (mPk 5) (lPk 5)) (mB fIn (mPk 7) (lPk 7) (mPk 4) (lPk 4))) (mRet (mC (.bl true))) mSkip)) (L.map l4D) [.va Q, .va a, .va b, .va c, .va (.lst (A.map D.int)), .va (.lst (B.map D.int)), s6, s7, s8, s9] = .rt (.bl true) (.va Q :: e)) ∧
    (linkedB L A B = false → ∃ t6 t7 t8 t9, forGo (mgTup 4 (mgsCons (mgName 6) (mgsCons (mgName 7) (mgsCons (mgName 8) (mgsCons (mgName 9) mgsNil))))) (mSeq (mIfS (mAnd (mB fIn (mPk 6) (lPk 6) (mPk 4) (lPk 4)) (mB fIn (mPk 7) (lPk 7) (mPk 5) (lPk 5))) (mRet (mC (.bl true))) mSkip) (mIfS (mAnd (mB fIn (mPk 6) (lPk 6) (mPk 5) (lPk 5)) (mB fIn (mPk 7) (lPk 7) (mPk 4) (lPk 4))) (mRet (mC (.bl true))) mSkip)) (L.map l4D) [.va Q, .va a, .va b, .va c, .va (.lst (A.map D.int)), .va (.lst (B.map D.int)), s6, s7, s8, s9] = .nx [.va Q, .va a, .va b, .va c, .va (.lst (A.map D.int)), .va (.lst (B.map D.int)), t6, t7, t8, t9])
  | [], s6, s7, s8, s9 => ⟨fun h => by simp [linkedB] at h, fun _ => ⟨s6, s7, s8, s9, rfl⟩⟩
  | x :: L, s6, s7, s8, s9 => by
    obtain ⟨i1, i2⟩ := can_loop Q a b c A B L (.va (.int x.1)) (.va (.int x.2.1)) (.va (.int x.2.2.1)) (.va (.int x.2.2.2))
    have n1 := in_lst x.1 A
    have n2 := in_lst x.2.1 B
    have n3 := in_lst x.1 B
    have n4 := in_lst x.2.1 A
    have lb : linkedB (x :: L) A B = (((decide (x.1 ∈ A) && decide (x.2.1 ∈ B)) || (decide (x.1 ∈ B) && decide (x.2.1 ∈ A))) || linkedB L A B) := rfl
    rw [lb]
    generalize A.map D.int = A' at *
    generalize B.map D.int = B' at *
    have tg : (mgTup 4 (mgsCons (mgName 6) (mgsCons (mgName 7) (mgsCons (mgName 8) (mgsCons (mgName 9) mgsNil))))) (l4D x) [.va Q, .va a, .va b, .va c, .va (.lst A'), .va (.lst B'), s6, s7, s8, s9] = some [.va Q, .va a, .va b, .va c, .va (.lst A'), .va (.lst B'), .va (.int x.1), .va (.int x.2.1), .va (.int x.2.2.1), .va (.int x.2.2.2)] := by simp [l4D]
    cases e : ((decide (x.1 ∈ A) && decide (x.2.1 ∈ B)) || (decide (x.1 ∈ B) && decide (x.2.1 ∈ A))) with
    | true =>
      refine ⟨fun _ => ?_, fun h => by simp at h⟩
      have bb : (mSeq (mIfS (mAnd (mB fIn (mPk 6) (lPk 6) (mPk 4) (lPk 4)) (mB fIn (mPk 7) (lPk 7) (mPk 5) (lPk 5))) (mRet (mC (.bl true))) mSkip) (mIfS (mAnd (mB fIn (mPk 6) (lPk 6) (mPk 5) (lPk 5)) (mB fIn (mPk 7) (lPk 7) (mPk 4) (lPk 4))) (mRet (mC (.bl true))) mSkip)) [.va Q, .va a, .va b, .va c, .va (.lst A'), .va (.lst B'), .va (.int x.1), .va (.int x.2.1), .va (.int x.2.2.1), .va (.int x.2.2.2)] = .rt (.bl true) [.va Q, .va a, .va b, .va c, .va (.lst A'), .va (.lst B'), .va (.int x.1), .va (.int x.2.1), .va (.int x.2.2.1), .va (.int x.2.2.2)] := by
        cases d1 : decide (x.1 ∈ A) <;> cases d2 : decide (x.2.1 ∈ B) <;> cases d3 : decide (x.1 ∈ B) <;> cases d4 : decide (x.2.1 ∈ A) <;> rw [d1, d2, d3, d4] at e <;> rw [d1] at n1 <;> rw [d2] at n2 <;> rw [d3] at n3 <;> rw [d4] at n4 <;> first | (exfalso; simp at e; done) | simp [n1, n2, n3, n4, slotD]
      exact ⟨_, by unfold forGo; rw [List.map_cons] ; dsimp only; rw [tg]; dsimp only; rw [bb]⟩
    | false =>
      have bb : (mSeq (mIfS (mAnd (mB fIn (mPk 6) (lPk 6) (mPk 4) (lPk 4)) (mB fIn (mPk 7) (lPk 7) (mPk 5) (lPk 5))) (mRet (mC (.bl true))) mSkip) (mIfS (mAnd (mB fIn (mPk 6) (lPk 6) (mPk 5) (lPk 5)) (mB fIn (mPk 7) (lPk 7) (mPk 4) (lPk 4))) (mRet (mC (.bl true))) mSkip)) [.va Q, .va a, .va b, .va c, .va (.lst A'), .va (.lst B'), .va (.int x.1), .va (.int x.2.1), .va (.int x.2.2.1), .va (.int x.2.2.2)] = .nx [.va Q, .va a, .va b, .va c, .va (.lst A'), .va (.lst B'), .va (.int x.1), .va (.int x.2.1), .va (.int x.2.2.1), .va (.int x.2.2.2)] := by
        cases d1 : decide (x.1 ∈ A) <;> cases d2 : decide (x.2.1 ∈ B) <;> cases d3 : decide (x.1 ∈ B) <;> cases d4 : decide (x.2.1 ∈ A) <;> rw [d1, d2, d3, d4] at e <;> rw [d1] at n1 <;> rw [d2] at n2 <;> rw [d3] at n3 <;> rw [d4] at n4 <;> first | (exfalso; simp at e; done) | simp [n1, n2, n3, n4, slotD]
      rw [Bool.false_or]
      refine ⟨fun w => ?_, fun w => ?_⟩
      · obtain ⟨e', r⟩ := i1 w
        exact ⟨e', go_cons tg bb r⟩
      · obtain ⟨t6, t7, t8, t9, r⟩ := i2 w
        exact ⟨t6, t7, t8, t9, go_cons tg bb r⟩
theorem lcan_ok {Q : D} {m : Nat} {ts : List D} {L : List Lk} {I : List Int} (q : QF Q m ts L I) {k j : Nat} (hk : k ≤ 3) (hj : j ≤ 3) {a b : D} {cs : List Nat} (ha : shapeB m k a = true) (hb : shapeB m j b = true) (hc : methB (.str cs) = true) :
    run__law_can [.va Q, .va a, .va b, .va (.str cs)] = .ok (.bl (canB L I (tabsI k a) (tabsI j b) b (.str cs))) none := by
  have q2 := q.q2
  have q1 := q.q1
  obtain ⟨a1, a2, a3, a4⟩ := tables_ok m k 6 a (by omega) hk ha
  obtain ⟨b1, b2, b3, b4⟩ := tables_ok m j 6 b (by omega) hj hb
  obtain ⟨l1, l2⟩ := can_loop Q a b (.str cs) (tabsI k a) (tabsI j b) L .no .no .no .no
  have e1 := eq_str cs LOOP (meth_ok hc) rfl
  have e2 := eq_str cs INDEX (meth_ok hc) rfl
  simp only [canB]
  have hi : (∃ i, b = .int i) ∨ isInt b = some (.bl false) ∧ intI I b = false := by
    cases j with
    | zero => obtain ⟨i, rfl, _⟩ := numB_int hb; exact .inl ⟨i, rfl⟩
    | succ j =>
      rcases shape_cases hb with ⟨i, rfl, _⟩ | ⟨x, y, z, rfl, _⟩
      · exact .inl ⟨i, rfl⟩
      · exact .inr ⟨rfl, rfl⟩
  have ra : ∀ d e, m__law_can [.va Q, .va a, .va b, .va (.str cs), .no, .no, .no, .no, .no, .no] = .rt d (.va Q :: e) → run__law_can [.va Q, .va a, .va b, .va (.str cs)] = .ok d none := fun d e q => run_rt (n := 4) (tot := 10) (m := m__law_can) (args := [.va Q, .va a, .va b, .va (.str cs)]) q
  cases c1 : decide (cs = LOOP) with
  | true =>
    rw [c1] at e1
    refine ra _ [.va a, .va b, .va (.str cs), .no, .no, .no, .no, .no, .no] (seq_rt ?_)
    simp [e1, slotD]
  | false =>
    rw [c1] at e1
    have s0 : (mIfS (mB fEq (mPk 3) (lPk 3) (mC (.str [108, 111, 111, 112])) lId) (mRet (mC (.bl true))) mSkip) [.va Q, .va a, .va b, .va (.str cs), .no, .no, .no, .no, .no, .no] = .nx [.va Q, .va a, .va b, .va (.str cs), .no, .no, .no, .no, .no, .no] := by simp [e1, slotD]
    have rest : (mIfS (mAnd (mB fEq (mPk 3) (lPk 3) (mC (.str [105, 110, 100, 101, 120])) lId) (mOr (mNot (mU isInt (mPk 2) (lPk 2))) (mB fNotIn (mPk 2) (lPk 2) (mB fIx (mPk 0) (lPk 0) (mC (.int 2)) lId) lId))) (mRet (mC (.bl false))) mSkip) [.va Q, .va a, .va b, .va (.str cs), .no, .no, .no, .no, .no, .no] = .nx [.va Q, .va a, .va b, .va (.str cs), .no, .no, .no, .no, .no, .no] → run__law_can [.va Q, .va a, .va b, .va (.str cs)] = .ok (.bl (linkedB L (tabsI k a) (tabsI j b))) none := fun s1 => by
      have s2 : (mPar 4 5 (maCons (mUser (run__law_tables 6) (maCons (mVar 1) maNil)) (maCons (mUser (run__law_tables 6) (maCons (mVar 2) maNil)) maNil))) [.va Q, .va a, .va b, .va (.str cs), .no, .no, .no, .no, .no, .no] = .nx [.va Q, .va a, .va b, .va (.str cs), .va (.lst ((tabsI k a).map D.int)), .va (.lst ((tabsI j b).map D.int)), .no, .no, .no, .no] := by
        simp [a2, b2, slotD]
      have m0 : (mIt (mB fIx (mPk 0) (lPk 0) (mC (.int 1)) lId)) [.va Q, .va a, .va b, .va (.str cs), .va (.lst ((tabsI k a).map D.int)), .va (.lst ((tabsI j b).map D.int)), .no, .no, .no, .no] = .ok (L.map l4D) [.va Q, .va a, .va b, .va (.str cs), .va (.lst ((tabsI k a).map D.int)), .va (.lst ((tabsI j b).map D.int)), .no, .no, .no, .no] := by simp [q1, slotD]
      cases e : linkedB L (tabsI k a) (tabsI j b) with
      | true =>
        obtain ⟨e', r⟩ := l1 e
        exact ra _ e' (seq_nx s0 (seq_nx s1 (seq_nx s2 (seq_rt (for_ok m0 r)))))
      | false =>
        obtain ⟨t6, t7, t8, t9, r⟩ := l2 e
        exact ra _ _ (seq_nx s0 (seq_nx s1 (seq_nx s2 (seq_nx (for_ok m0 r) rfl))))
    cases c2 : decide (cs = INDEX) with
    | false =>
      rw [c2] at e2
      rw [rest (by simp [e2, slotD])]
      simp
    | true =>
      rw [c2] at e2
      rcases hi with ⟨i, rfl⟩ | ⟨n1, n2⟩
      · have ni := nin_tup i I
        have it : isInt (.int i) = some (.bl true) := rfl
        simp only [intI]
        cases c3 : decide (i ∈ I) with
        | true =>
          rw [c3] at ni
          rw [rest (by simp [e2, q2, it, ni, slotD])]
          simp
        | false =>
          rw [c3] at ni
          rw [show (false || ((!true || false) && linkedB L (tabsI k a) (tabsI j (.int i)))) = false from rfl]
          refine ra _ [.va a, .va (.int i), .va (.str cs), .no, .no, .no, .no, .no, .no] (seq_nx s0 (seq_rt ?_))
          generalize I.map D.int = I' at *
          simp [e2, q2, it, ni, slotD]
      · rw [n2]
        refine ra _ [.va a, .va b, .va (.str cs), .no, .no, .no, .no, .no, .no] (seq_nx s0 (seq_rt ?_))
        simp [e2, n1, slotD]
end GJ

set_option Elab.async false
set_option linter.all false
set_option maxRecDepth 100000
set_option maxHeartbeats 2000000
namespace GJ
open PySem L2 MP

def ledB (L : List Lk) (I : List Int) : Nat → D → Bool
  | k + 1, .tup [a, b, c] => ledB L I k a && (ledB L I k b && canB L I (tabsI k a) (tabsI k b) b c)
  | _, _ => true
theorem led_ok {Q : D} {m : Nat} {ts : List D} {L : List Lk} {I : List Int} (q : QF Q m ts L I) : ∀ (k f : Nat) (v : D), k < f → k ≤ 3 → shapeB m k v = true →
    run_can_be_led f [.va Q, .va v] = .ok (.bl (ledB L I k v)) none := by
  intro k
  induction k with
  | zero =>
    intro f v hf _ h
    obtain ⟨g, rfl⟩ : ∃ g, f = g + 1 := ⟨f - 1, by omega⟩
    obtain ⟨i, rfl, h1, h2⟩ := numB_int h
    simp [run_can_be_led, runF, m_can_be_led, ledB, isInt, slotD, outOf]
  | succ k ih =>
    intro f v hf hk h
    obtain ⟨g, rfl⟩ : ∃ g, f = g + 1 := ⟨f - 1, by omega⟩
    rcases shape_cases h with ⟨i, rfl, h1, h2⟩ | ⟨a, b, cs, rfl, hc, ha, hb⟩
    · simp [run_can_be_led, runF, m_can_be_led, ledB, isInt, slotD, outOf]
    · have ra := ih g a (by omega) (by omega) ha
      have rb := ih g b (by omega) (by omega) hb
      have rc := can_ok q (show k ≤ 3 by omega) (show k ≤ 3 by omega) ha hb hc
      have i0 : fIx (.tup [a, b, .str cs]) (.int 0) = some a := by simp [fIx, ixD]
      have i1 : fIx (.tup [a, b, .str cs]) (.int 1) = some b := by simp [fIx, ixD]
      have i2 : fIx (.tup [a, b, .str cs]) (.int 2) = some (.str cs) := by simp [fIx, ixD]
      have it : isInt (.tup [a, b, .str cs]) = some (.bl false) := rfl
      simp only [ledB]
      rw [show run_can_be_led (g + 1) = runF 2 2 (m_can_be_led (run_can_be_led g)) from rfl]
      generalize run_can_be_led g = self at *
      generalize D.tup [a, b, D.str cs] = V at *
      generalize canB L I (tabsI k a) (tabsI k b) b (.str cs) = z at *
      cases e1 : ledB L I k a <;> rw [e1] at ra <;> cases e2 : ledB L I k b <;> rw [e2] at rb <;> simp [runF, m_can_be_led, it, i0, i1, i2, ra, rb, rc, slotD, outOf]
def nodB (A : List Int) : Bool := decide ((ddI A).length = A.length)
def partB (m : Int) (L : List Lk) (I : List Int) (v : D) : Bool := shapeB m 3 v && (nodB (tabsI 3 v) && ledB L I 3 v)
theorem lenset_tup (A : List Int) (h : A.length < 64) : bLenSet (.tup (A.map D.int)) = some (.int (ddI A).length) := by
  simp only [bLenSet, intsOf_map, blt_dec]
  rw [decide_eq_true h]
theorem lenset_lst (A : List Int) (h : A.length < 64) : bLenSet (.lst (A.map D.int)) = some (.int (ddI A).length) := by
  simp only [bLenSet, intsOf_map, blt_dec]
  rw [decide_eq_true h]
theorem len_tup (A : List Int) : bLen [.tup (A.map D.int)] = some (.int A.length) := by simp [bLen]
theorem len_lst (A : List Int) : bLen [.lst (A.map D.int)] = some (.int A.length) := by simp [bLen]
theorem nod_int (A : List Int) : decide (((ddI A).length : Int) = (A.length : Int)) = nodB A := by
  unfold nodB
  rw [Bool.eq_iff_iff, decide_eq_true_iff, decide_eq_true_iff]
  omega
theorem part_ok {Q : D} {m : Nat} {ts : List D} {L : List Lk} {I : List Int} (q : QF Q m ts L I) (v : D) (hv : Pl v = true) :
    run_is_part_plan [.va Q, .va v] = .ok (.bl (partB m L I v)) none := by
  have s := shape_ok q 3 6 v (by omega) (by omega) hv
  rw [show ((3 : Nat) : Int) = 3 from rfl] at s
  unfold partB
  cases e : shapeB m 3 v with
  | false =>
    rw [e] at s
    simp [run_is_part_plan, runF, m_is_part_plan, s, slotD, outOf]
  | true =>
    rw [e] at s
    obtain ⟨t1, t2, t3, t4⟩ := tables_ok m 3 6 v (by omega) (by omega) e
    have l := led_ok q 3 6 v (by omega) (by omega) e
    have ls := lenset_tup (tabsI 3 v) (by omega)
    have le := len_tup (tabsI 3 v)
    have eq := eq_int ((ddI (tabsI 3 v)).length : Int) ((tabsI 3 v).length : Int)
    rw [nod_int] at eq
    generalize (tabsI 3 v).map D.int = A at *
    generalize ledB L I 3 v = z at *
    cases e2 : nodB (tabsI 3 v) <;> rw [e2] at eq <;> simp [run_is_part_plan, runF, m_is_part_plan, s, t1, ls, le, eq, l, slotD, outOf]
def planB (m : Int) (L : List Lk) (I : List Int) (v : D) : Bool := partB m L I v && decide (((tabsI 3 v).length : Int) = m)
def planL (m : Int) (L : List Lk) (I : List Int) : Nat → D → Bool
  | 0, v => numB v 0 (m - 1)
  | k + 1, v => numB v 0 (m - 1) || (match v with
    | .tup [a, b, c] => methB c && (planL m L I k a && (planL m L I k b && (nodB (sortI (tabsI k a ++ tabsI k b)) && canB L I (tabsI k a) (tabsI k b) b c)))
    | _ => false)
theorem planL_shape {m : Int} {L : List Lk} {I : List Int} : ∀ (k : Nat) (v : D), planL m L I k v = true → shapeB m k v = true := by
  intro k
  induction k with
  | zero => intro v h; exact h
  | succ k ih =>
    intro v h
    simp only [planL, Bool.or_eq_true] at h
    simp only [shapeB, Bool.or_eq_true]
    rcases h with h | h
    · exact .inl h
    · refine .inr ?_
      split at h
      · rename_i a b c
        simp only [Bool.and_eq_true] at h ⊢
        exact ⟨h.1, ih a h.2.1, ih b h.2.2.1⟩
      · cases h
end GJ

set_option Elab.async false
set_option linter.all false
set_option maxRecDepth 100000
set_option maxHeartbeats 2000000
namespace GJ
open PySem L2 MP

theorem dd_le : ∀ A : List Int, (ddI A).length ≤ A.length
  | [] => by simp [ddI]
  | x :: A => by
    have := dd_le A
    unfold ddI
    split <;> simp only [List.length_cons] <;> omega
theorem nodB_iff : ∀ A : List Int, nodB A = true ↔ A.Nodup := by
  intro A
  unfold nodB
  rw [decide_eq_true_iff]
  constructor
  · induction A with
    | nil => intro _; exact List.nodup_nil
    | cons x A ih =>
      intro h
      have le := dd_le A
      unfold ddI at h
      by_cases hx : x ∈ ddI A
      · rw [decide_eq_true hx] at h
        simp only [List.length_cons] at h
        omega
      · rw [decide_eq_false hx] at h
        simp only [List.length_cons] at h
        refine List.nodup_cons.mpr ⟨fun q => hx (((ddI_spec A).2 x).mpr q), ih (by omega)⟩
  · intro h
    exact (dd_len h (fun k => Iff.rfl)).symm
theorem nod_of_sort {A B : List Int} (h : nodB (sortI (A ++ B)) = true) : nodB A = true ∧ nodB B = true := by
  have h1 := (nodB_iff _).mp h
  have h2 : (A ++ B).Nodup := (sortI_perm (A ++ B)).nodup_iff.mp h1
  exact ⟨(nodB_iff _).mpr (List.nodup_append.mp h2).1, (nodB_iff _).mpr (List.nodup_append.mp h2).2.1⟩
theorem nod_one (i : Int) : nodB [i] = true := (nodB_iff _).mpr (by simp)
theorem planL_eq {m : Int} {L : List Lk} {I : List Int} : ∀ (k : Nat) (v : D), planL m L I k v = (shapeB m k v && (nodB (tabsI k v) && ledB L I k v)) := by
  intro k
  induction k with
  | zero =>
    intro v
    simp only [planL, shapeB]
    cases e : numB v 0 (m - 1) with
    | false => rfl
    | true =>
      obtain ⟨i, rfl, _⟩ := numB_int e
      simp [tabsI, nod_one, ledB]
  | succ k ih =>
    intro v
    simp only [planL, shapeB]
    cases e : numB v 0 (m - 1) with
    | true =>
      obtain ⟨i, rfl, _⟩ := numB_int e
      simp [tabsI, nod_one, ledB]
    | false =>
      simp only [Bool.false_or]
      split
      · rename_i a b c
        rw [ih a, ih b]
        simp only [tabsI, ledB]
        have no := @nod_of_sort (tabsI k a) (tabsI k b)
        generalize canB L I (tabsI k a) (tabsI k b) b c = z
        generalize nodB (sortI (tabsI k a ++ tabsI k b)) = n0 at *
        generalize nodB (tabsI k a) = n1 at *
        generalize nodB (tabsI k b) = n2 at *
        generalize shapeB m k a = x1
        generalize shapeB m k b = x2
        generalize ledB L I k a = x3
        generalize ledB L I k b = x4
        generalize methB c = x5
        cases n0 with
        | false => simp
        | true =>
          obtain ⟨y1, y2⟩ := no rfl
          rw [y1, y2]
          cases x1 <;> cases x2 <;> cases x3 <;> cases x4 <;> cases x5 <;> cases z <;> rfl
      · simp
def RnI (m : Nat) : List Int := (List.range m).map fun i => ((i : Nat) : Int)
theorem strict_full : ∀ (ks : List Int) (lo : Int), (∀ k ∈ ks, lo ≤ k ∧ k ≤ lo + ks.length - 1) → ks.Pairwise (· < ·) → ks = (List.range ks.length).map fun i => lo + ((i : Nat) : Int)
  | [], _, _, _ => rfl
  | k :: ks, lo, h, p => by
    obtain ⟨p1, p2⟩ := List.pairwise_cons.mp p
    have h0 := h k List.mem_cons_self
    simp only [List.length_cons] at h h0 ⊢
    have sl := strict_len ks (k + 1) (lo + ks.length) (fun j hj => ⟨by have := p1 j hj; omega, by have := (h j (List.mem_cons_of_mem _ hj)).2; omega⟩) p2
    have ek : k = lo := by
      by_cases z : ks.length = 0
      · omega
      · omega
    subst ek
    have := strict_full ks (k + 1) (fun j hj => ⟨by have := p1 j hj; omega, by have := (h j (List.mem_cons_of_mem _ hj)).2; omega⟩) p2
    rw [List.range_succ_eq_map, List.map_cons, List.map_map]
    conv => lhs; rw [this]
    congr 1
    · simp
    · refine List.map_congr_left fun i _ => ?_
      simp only [Function.comp, Nat.succ_eq_add_one]
      omega
theorem R_nodup (m : Nat) : (RnI m).Nodup := by
  unfold RnI
  rw [List.nodup_iff_pairwise_ne, List.pairwise_map]
  refine List.Pairwise.imp ?_ (List.nodup_iff_pairwise_ne.mp List.nodup_range)
  intro a b h e
  exact h (by omega)
theorem planB_eq {m : Nat} {L : List Lk} {I : List Int} (v : D) : planB m L I v = (planL m L I 3 v && decide (tabsI 3 v = RnI m)) := by
  have pl : planL m L I 3 v = partB m L I v := planL_eq 3 v
  unfold planB
  rw [pl]
  cases e : partB m L I v with
  | false => rfl
  | true =>
    rw [Bool.true_and, Bool.true_and, Bool.eq_iff_iff, decide_eq_true_iff, decide_eq_true_iff]
    unfold partB at e
    simp only [Bool.and_eq_true] at e
    obtain ⟨t1, t2, t3, t4⟩ := tables_ok m 3 6 v (by omega) (by omega) e.1
    have nd := (nodB_iff _).mp e.2.1
    have so := tabsI_sorted 3 v
    constructor
    · intro h
      have st : (tabsI 3 v).Pairwise (· < ·) := by
        have := List.Pairwise.and so (List.nodup_iff_pairwise_ne.mp nd)
        exact this.imp fun {a b} h => by omega
      have := strict_full (tabsI 3 v) 0 (fun k hk => by have := t4 k hk; omega) st
      rw [this]
      unfold RnI
      rw [show (tabsI 3 v).length = m by omega]
      refine List.map_congr_left fun i _ => ?_
      omega
    · intro h
      rw [h]
      simp [RnI]
end GJ

set_option Elab.async false
set_option linter.all false
set_option maxRecDepth 100000
set_option maxHeartbeats 2000000
namespace GJ
open PySem L2 MP

/-! ### spoilt values -/
mutual
def Ok (n : Nat) : Nat → D → Bool
  | d, .tup xs => (match d with
    | 0 => false
    | d + 1 => decide (xs.length ≤ n) && OkL n d xs)
  | d, .lst xs => (match d with
    | 0 => false
    | d + 1 => decide (xs.length ≤ n) && OkL n d xs)
  | _, .str cs => cs.all fun c => Nat.blt c 1114112
  | _, .scr _ => false
  | _, .dct _ _ => false
  | _, .dtp _ _ => false
  | _, _ => true
def OkL (n : Nat) : Nat → List D → Bool
  | _, [] => true
  | d, x :: xs => Ok n d x && OkL n d xs
end
theorem okL_iff (n d : Nat) : ∀ xs : List D, OkL n d xs = true ↔ ∀ x ∈ xs, Ok n d x = true
  | [] => by simp [OkL]
  | x :: xs => by simp [OkL, okL_iff n d xs]
mutual
theorem Ok.mono {n n' : Nat} (hn : n ≤ n') : ∀ (v : D) (d d' : Nat), d ≤ d' → Ok n d v = true → Ok n' d' v = true
  | .non, d, d', hd, h => by simp [Ok]
  | .bl b, d, d', hd, h => by simp [Ok]
  | .int i, d, d', hd, h => by simp [Ok]
  | .str cs, d, d', hd, h => by simp only [Ok] at h ⊢; exact h
  | .tup xs, d, d', hd, h => by
    cases d with
    | zero => simp [Ok] at h
    | succ d =>
      cases d' with
      | zero => omega
      | succ d' =>
        simp only [Ok, Bool.and_eq_true, decide_eq_true_eq] at h ⊢
        exact ⟨by omega, OkL.mono hn xs d d' (by omega) h.2⟩
  | .lst xs, d, d', hd, h => by
    cases d with
    | zero => simp [Ok] at h
    | succ d =>
      cases d' with
      | zero => omega
      | succ d' =>
        simp only [Ok, Bool.and_eq_true, decide_eq_true_eq] at h ⊢
        exact ⟨by omega, OkL.mono hn xs d d' (by omega) h.2⟩
  | .scr _, d, d', hd, h => by simp [Ok] at h
  | .dct _ _, d, d', hd, h => by simp [Ok] at h
  | .dtp _ _, d, d', hd, h => by simp [Ok] at h
theorem OkL.mono {n n' : Nat} (hn : n ≤ n') : ∀ (xs : List D) (d d' : Nat), d ≤ d' → OkL n d xs = true → OkL n' d' xs = true
  | [], d, d', hd, h => by simp [OkL]
  | x :: xs, d, d', hd, h => by
    simp only [OkL, Bool.and_eq_true] at h ⊢
    exact ⟨Ok.mono hn x d d' hd h.1, OkL.mono hn xs d d' hd h.2⟩
end
mutual
theorem Ok.pl {n : Nat} : ∀ (v : D) (d : Nat), Ok n d v = true → Pl v = true
  | .non, d, h => by simp [Pl]
  | .bl b, d, h => by simp [Pl]
  | .int i, d, h => by simp [Pl]
  | .str cs, d, h => by simp [Pl]
  | .tup xs, d, h => by
    cases d with
    | zero => simp [Ok] at h
    | succ d =>
      simp only [Ok, Bool.and_eq_true] at h
      simp only [Pl]
      exact OkL.pl xs d h.2
  | .lst xs, d, h => by
    cases d with
    | zero => simp [Ok] at h
    | succ d =>
      simp only [Ok, Bool.and_eq_true] at h
      simp only [Pl]
      exact OkL.pl xs d h.2
  | .scr _, d, h => by simp [Ok] at h
  | .dct _ _, d, h => by simp [Ok] at h
  | .dtp _ _, d, h => by simp [Ok] at h
theorem OkL.pl {n : Nat} : ∀ (xs : List D) (d : Nat), OkL n d xs = true → PlL xs = true
  | [], d, h => by simp [PlL]
  | x :: xs, d, h => by
    simp only [OkL, Bool.and_eq_true] at h
    simp only [PlL, Bool.and_eq_true]
    exact ⟨Ok.pl x d h.1, OkL.pl xs d h.2⟩
end
mutual
theorem Ok.ok {n : Nat} : ∀ (v : D) (d k : Nat), d ≤ k → Ok n d v = true → okD k v = true
  | .non, d, k, hk, h => by simp [okD]
  | .bl b, d, k, hk, h => by simp [okD]
  | .int i, d, k, hk, h => by simp [okD]
  | .str cs, d, k, hk, h => by
    simp only [Ok] at h
    simp only [okD, h]
  | .tup xs, d, k, hk, h => by
    cases d with
    | zero => simp [Ok] at h
    | succ d =>
      cases k with
      | zero => omega
      | succ k =>
        simp only [Ok, Bool.and_eq_true] at h
        simp only [okD]
        exact OkL.ok xs d k (by omega) h.2
  | .lst xs, d, k, hk, h => by
    cases d with
    | zero => simp [Ok] at h
    | succ d =>
      cases k with
      | zero => omega
      | succ k =>
        simp only [Ok, Bool.and_eq_true] at h
        simp only [okD]
        exact OkL.ok xs d k (by omega) h.2
  | .scr _, d, k, hk, h => by simp [Ok] at h
  | .dct _ _, d, k, hk, h => by simp [Ok] at h
  | .dtp _ _, d, k, hk, h => by simp [Ok] at h
theorem OkL.ok {n : Nat} : ∀ (xs : List D) (d k : Nat), d ≤ k → OkL n d xs = true → okL k xs = true
  | [], d, k, hk, h => by simp [okL]
  | x :: xs, d, k, hk, h => by
    simp only [OkL, Bool.and_eq_true] at h
    simp only [okL, Ok.ok x d k hk h.1, OkL.ok xs d k hk h.2]
end
end GJ

set_option Elab.async false
set_option linter.all false
set_option maxRecDepth 100000
set_option maxHeartbeats 2000000
namespace GJ
open PySem L2 MP

/-! ### the drawn question -/
def lkLt (x y : Lk) : Prop := x.2.1 < y.2.1 ∨ (x.2.1 = y.2.1 ∧ x.1 < y.1)
structure InL (i j : Nat) (L : List Lk) : Prop where
  ok : ∀ x ∈ L, LkOk ((i : Int) + 1) x
  lt : ∀ x ∈ L, x.2.1 < i ∨ x.1 < j
  pw : L.Pairwise lkLt
theorem inL_snoc {i j : Nat} {L : List Lk} (h : InL i j L) {x : Lk} (hx : LkOk ((i : Int) + 1) x) (h1 : x.1 = (j : Int)) (h2 : x.2.1 = (i : Int)) : InL i (j + 1) (L ++ [x]) := by
  refine ⟨fun y hy => ?_, fun y hy => ?_, ?_⟩
  · rcases List.mem_append.mp hy with q | q
    · exact h.ok y q
    · rw [List.mem_singleton.mp q]; exact hx
  · rcases List.mem_append.mp hy with q | q
    · rcases h.lt y q with z | z
      · exact .inl z
      · exact .inr (by omega)
    · rw [List.mem_singleton.mp q]; exact .inr (by omega)
  · refine List.pairwise_append.mpr ⟨h.pw, by simp, fun a ha b hb => ?_⟩
    rw [List.mem_singleton.mp hb]
    unfold lkLt
    have o := h.ok a ha
    obtain ⟨o1, o2, o3, _⟩ := o
    rcases h.lt a ha with z | z
    · exact .inl (by omega)
    · by_cases w : a.2.1 < x.2.1
      · exact .inl w
      · exact .inr ⟨by omega, by omega⟩
theorem inL_mono {i j : Nat} {L : List Lk} (h : InL i j L) : InL i (j + 1) L := ⟨h.ok, fun y hy => (h.lt y hy).imp id fun z => by omega, h.pw⟩
theorem ups_cons (j : Int) (n : Nat) : ups j (n + 1) = .int j :: ups (j + 1) n := rfl
theorem links_gen (i : Nat) (hi : i ≤ 4) (v1 v2 v3 v5 v7 : Sl) : ∀ (n j : Nat) (x : D) (L : List Lk) (s8 s9 : Sl), Src x → j + n = i → InL i j L → L.length + n ≤ 30 →
    ∃ (x' : D) (L' : List Lk) (s8' s9' : Sl), Src x' ∧ InL i i L' ∧ L'.length ≤ L.length + n ∧
      forGo (mgName 8) (mIfS (mB fGt (mUserB run__law_draw 0 (maCons (mC (.int 3)) maNil)) lId (mC (.int 0)) lId) (mSeq (mSet 9 (mUserB run__law_of 0 (maCons (mLst (maCons (mC (.int 1)) (maCons (mC (.int 2)) (maCons (mB fAdd (mC (.int 1)) lId (mUserB run__law_draw 0 (maCons (mC (.int 99)) maNil)) lId) maNil)))) maNil))) (mSet 4 (mB fAdd (mPk 4) (lPk 4) (mTup (maCons (mTup (maCons (mVar 8) (maCons (mVar 6) (maCons (mVar 9) (maCons (mUserB run__law_draw 0 (maCons (mC (.int 3)) maNil)) maNil))))) maNil)) lId))) mSkip) (ups j n) [.bo x, v1, v2, v3, .va (.tup (L.map l4D)), v5, .va (.int (i : Int)), v7, s8, s9] = .nx [.bo x', v1, v2, v3, .va (.tup (L'.map l4D)), v5, .va (.int (i : Int)), v7, s8', s9'] := by
  intro n
  induction n with
  | zero =>
    intro j x L s8 s9 hx hj h hl
    have : j = i := by omega
    subst this
    exact ⟨x, L, s8, s9, hx, h, by omega, rfl⟩
  | succ n ih =>
    intro j x L s8 s9 hx hj h hl
    obtain ⟨r, x1, d1, hs1, r0, r1⟩ := draw_ok hx 3 (by decide) (by decide)
    have gt : fGt (.int r) (.int 0) = some (.bl (decide (0 < r))) := rfl
    have tg : (mgName 8) (.int (j : Int)) [.bo x, v1, v2, v3, .va (.tup (L.map l4D)), v5, .va (.int (i : Int)), v7, s8, s9] = some [.bo x, v1, v2, v3, .va (.tup (L.map l4D)), v5, .va (.int (i : Int)), v7, .va (.int (j : Int)), s9] := rfl
    have cj : ((j : Int) + 1) = ((j + 1 : Nat) : Int) := by omega
    rw [ups_cons, cj]
    by_cases hr : 0 < r
    · rw [decide_eq_true hr] at gt
      obtain ⟨p, x2, d2, hs2, p0, p1⟩ := draw_ok hs1 99 (by decide) (by decide)
      obtain ⟨y, x3, d3, hs3, hm⟩ := of_ok hs2 [.int 1, .int 2, .int (1 + p)] (by simp) (by simp)
      obtain ⟨w, x4, d4, hs4, w0, w1⟩ := draw_ok hs3 3 (by decide) (by decide)
      obtain ⟨c, rfl, c0, c1⟩ : ∃ c : Int, y = .int c ∧ 1 ≤ c ∧ c ≤ 99 := by
        simp only [List.mem_cons, List.not_mem_nil, or_false] at hm
        rcases hm with e | e | e <;> subst e
        · exact ⟨1, rfl, by omega, by omega⟩
        · exact ⟨2, rfl, by omega, by omega⟩
        · exact ⟨1 + p, rfl, by omega, by omega⟩
      have hx' : LkOk ((i : Int) + 1) ((j : Int), (i : Int), c, w) := ⟨by show (0 : Int) ≤ j; omega, by show (j : Int) < i; omega, by show (i : Int) ≤ i + 1 - 1; omega, c0, c1, w0, by show w ≤ 2; omega⟩
      have h' := inL_snoc h hx' rfl rfl
      obtain ⟨x', L', s8', s9', q1, q2, q3, q4⟩ := ih (j + 1) x4 (L ++ [((j : Int), (i : Int), c, w)]) (.va (.int (j : Int))) (.va (.int c)) hs4 (by omega) h' (by rw [List.length_append, List.length_singleton]; omega)
      rw [List.length_append, List.length_singleton] at q3
      have ad : fAdd (.tup (L.map l4D)) (.tup [.tup [.int (j : Int), .int (i : Int), .int c, .int w]]) = some (.tup ((L ++ [((j : Int), (i : Int), c, w)]).map l4D)) := by
        simp only [fAdd, List.length_map, ble_dec, List.length_singleton]
        rw [decide_eq_true (by show _ ≤ 16777216; omega), List.map_append]
        rfl
      refine ⟨x', L', s8', s9', q1, q2, by omega, go_cons tg ?_ q4⟩
      generalize (L ++ [((j : Int), (i : Int), c, w)]).map l4D = LL at *
      generalize L.map l4D = L0 at *
      have a1 : fAdd (.int 1) (.int p) = some (.int (1 + p)) := rfl
      simp [mUserB, d1, d2, d3, d4, gt, ad, a1, slotD, line]
    · rw [decide_eq_false hr] at gt
      obtain ⟨x', L', s8', s9', q1, q2, q3, q4⟩ := ih (j + 1) x1 L (.va (.int (j : Int))) s9 hs1 (by omega) (inL_mono h) (by omega)
      refine ⟨x', L', s8', s9', q1, q2, by omega, go_cons tg ?_ q4⟩
      generalize L.map l4D = L0 at *
      simp [mUserB, d1, gt, slotD]
abbrev Tb : Type := Int × Int
def t2D (p : Tb) : D := .tup [.int p.1, .int p.2]
structure TbOk (p : Tb) : Prop where
  a0 : 1 ≤ p.1
  a1 : p.1 ≤ 99
  b0 : 0 ≤ p.2
  b1 : p.2 ≤ 2
structure QI (i : Nat) (T : List Tb) (L : List Lk) (I : List Int) : Prop where
  tl : T.length = i
  t : ∀ p ∈ T, TbOk p
  l : ∀ x ∈ L, LkOk (i : Int) x
  pw : L.Pairwise lkLt
  ll : L.length ≤ 4 * i
  ib : ∀ k ∈ I, 0 ≤ k ∧ k ≤ (i : Int) - 1
  ip : I.Pairwise (· < ·)
  il : I.length ≤ i
theorem quest_gen (m : Nat) (hm : m ≤ 4) (v1 : Sl) : ∀ (n i : Nat) (x : D) (T : List Tb) (L : List Lk) (I : List Int) (s6 s7 s8 s9 : Sl), Src x → i + n = m → QI i T L I →
    ∃ (x' : D) (T' : List Tb) (L' : List Lk) (I' : List Int) (s6' s7' s8' s9' : Sl), Src x' ∧ QI m T' L' I' ∧
      forGo (mgName 6) (mSeq (mSet 7 (mUserB run__law_of 0 (maCons (mLst (maCons (mC (.int 1)) (maCons (mC (.int 2)) (maCons (mC (.int 5)) (maCons (mB fAdd (mC (.int 1)) lId (mUserB run__law_draw 0 (maCons (mC (.int 99)) maNil)) lId) maNil))))) maNil))) (mSeq (mSet 3 (mB fAdd (mPk 3) (lPk 3) (mTup (maCons (mTup (maCons (mVar 7) (maCons (mUserB run__law_of 0 (maCons (mLst (maCons (mC (.int 0)) (maCons (mC (.int 1)) (maCons (mC (.int 1)) (maCons (mC (.int 2)) maNil))))) maNil)) maNil))) maNil)) lId)) (mSeq (mFor (mRange1 (maCons (mVar 6) maNil)) (mgName 8) (mIfS (mB fGt (mUserB run__law_draw 0 (maCons (mC (.int 3)) maNil)) lId (mC (.int 0)) lId) (mSeq (mSet 9 (mUserB run__law_of 0 (maCons (mLst (maCons (mC (.int 1)) (maCons (mC (.int 2)) (maCons (mB fAdd (mC (.int 1)) lId (mUserB run__law_draw 0 (maCons (mC (.int 99)) maNil)) lId) maNil)))) maNil))) (mSet 4 (mB fAdd (mPk 4) (lPk 4) (mTup (maCons (mTup (maCons (mVar 8) (maCons (mVar 6) (maCons (mVar 9) (maCons (mUserB run__law_draw 0 (maCons (mC (.int 3)) maNil)) maNil))))) maNil)) lId))) mSkip)) (mIfS (mB fEq (mUserB run__law_draw 0 (maCons (mC (.int 2)) maNil)) lId (mC (.int 0)) lId) (mSet 5 (mB fAdd (mPk 5) (lPk 5) (mTup (maCons (mVar 6) maNil)) lId)) mSkip)))) (ups i n) [.bo x, v1, .va (.int (m : Int)), .va (.tup (T.map t2D)), .va (.tup (L.map l4D)), .va (.tup (I.map D.int)), s6, s7, s8, s9] = .nx [.bo x', v1, .va (.int (m : Int)), .va (.tup (T'.map t2D)), .va (.tup (L'.map l4D)), .va (.tup (I'.map D.int)), s6', s7', s8', s9'] := by
  intro n
  induction n with
  | zero =>
    intro i x T L I s6 s7 s8 s9 hx hi h
    have : i = m := by omega
    subst this
    exact ⟨x, T, L, I, s6, s7, s8, s9, hx, h, rfl⟩
  | succ n ih =>
    intro i x T L I s6 s7 s8 s9 hx hi h
    obtain ⟨p, x1, d1, hs1, p0, p1⟩ := draw_ok hx 99 (by decide) (by decide)
    obtain ⟨y, x2, d2, hs2, hm2⟩ := of_ok hs1 [.int 1, .int 2, .int 5, .int (1 + p)] (by simp) (by simp)
    obtain ⟨c, rfl, c0, c1⟩ : ∃ c : Int, y = .int c ∧ 1 ≤ c ∧ c ≤ 99 := by
      simp only [List.mem_cons, List.not_mem_nil, or_false] at hm2
      rcases hm2 with e | e | e | e <;> subst e
      · exact ⟨1, rfl, by omega, by omega⟩
      · exact ⟨2, rfl, by omega, by omega⟩
      · exact ⟨5, rfl, by omega, by omega⟩
      · exact ⟨1 + p, rfl, by omega, by omega⟩
    obtain ⟨z, x3, d3, hs3, hm3⟩ := of_ok hs2 [.int 0, .int 1, .int 1, .int 2] (by simp) (by simp)
    obtain ⟨b, rfl, b0, b1⟩ : ∃ b : Int, z = .int b ∧ 0 ≤ b ∧ b ≤ 2 := by
      simp only [List.mem_cons, List.not_mem_nil, or_false] at hm3
      rcases hm3 with e | e | e | e <;> subst e
      · exact ⟨0, rfl, by omega, by omega⟩
      · exact ⟨1, rfl, by omega, by omega⟩
      · exact ⟨1, rfl, by omega, by omega⟩
      · exact ⟨2, rfl, by omega, by omega⟩
    have tl := h.tl
    have ll := h.ll
    have il := h.il
    have h0 : InL i 0 L := ⟨fun q hq => by
      obtain ⟨o1, o2, o3, o4, o5, o6, o7⟩ := h.l q hq
      exact ⟨o1, o2, by omega, o4, o5, o6, o7⟩, fun q hq => by
      obtain ⟨o1, o2, o3, _⟩ := h.l q hq
      exact .inl (by omega), h.pw⟩
    obtain ⟨x4, L', s8', s9', hs4, k2, k3, k4⟩ := links_gen i (by omega) v1 (.va (.int (m : Int))) (.va (.tup ((T ++ [(c, b)]).map t2D))) (.va (.tup (I.map D.int))) (.va (.int c)) i 0 x3 L s8 s9 hs3 (by omega) h0 (by omega)
    rw [show ((0 : Nat) : Int) = 0 from rfl] at k4
    obtain ⟨r, x5, d5, hs5, r0, r1⟩ := draw_ok hs4 2 (by decide) (by decide)
    have eqr := eq_int r 0
    have adT : fAdd (.tup (T.map t2D)) (.tup [.tup [.int c, .int b]]) = some (.tup ((T ++ [(c, b)]).map t2D)) := by
      simp only [fAdd, List.length_map, ble_dec, List.length_singleton]
      rw [decide_eq_true (by show _ ≤ 16777216; omega), List.map_append]
      rfl
    have adI : fAdd (.tup (I.map D.int)) (.tup [.int (i : Int)]) = some (.tup ((I ++ [(i : Int)]).map D.int)) := add_tup I [(i : Int)] (by rw [List.length_singleton]; omega)
    have tg : (mgName 6) (.int (i : Int)) [.bo x, v1, .va (.int (m : Int)), .va (.tup (T.map t2D)), .va (.tup (L.map l4D)), .va (.tup (I.map D.int)), s6, s7, s8, s9] = some [.bo x, v1, .va (.int (m : Int)), .va (.tup (T.map t2D)), .va (.tup (L.map l4D)), .va (.tup (I.map D.int)), .va (.int (i : Int)), s7, s8, s9] := rfl
    have ci : ((i : Int) + 1) = ((i + 1 : Nat) : Int) := by omega
    have nb := h.ib
    have mk : ∀ I' : List Int, (∀ k ∈ I', 0 ≤ k ∧ k ≤ (i : Int)) → I'.Pairwise (· < ·) → I'.length ≤ i + 1 → QI (i + 1) (T ++ [(c, b)]) L' I' := fun I' g1 g2 g3 => ⟨by rw [List.length_append, List.length_singleton]; omega, fun q hq => by
      rcases List.mem_append.mp hq with w | w
      · exact h.t q w
      · rw [List.mem_singleton.mp w]; exact ⟨c0, c1, b0, b1⟩, fun q hq => by
      have := k2.ok q hq
      rwa [ci] at this, k2.pw, by omega, fun k hk => by have := g1 k hk; omega, g2, g3⟩
    have s0 : (mSet 7 (mUserB run__law_of 0 (maCons (mLst (maCons (mC (.int 1)) (maCons (mC (.int 2)) (maCons (mC (.int 5)) (maCons (mB fAdd (mC (.int 1)) lId (mUserB run__law_draw 0 (maCons (mC (.int 99)) maNil)) lId) maNil))))) maNil))) [.bo x, v1, .va (.int (m : Int)), .va (.tup (T.map t2D)), .va (.tup (L.map l4D)), .va (.tup (I.map D.int)), .va (.int (i : Int)), s7, s8, s9] = .nx [.bo x2, v1, .va (.int (m : Int)), .va (.tup (T.map t2D)), .va (.tup (L.map l4D)), .va (.tup (I.map D.int)), .va (.int (i : Int)), .va (.int c), s8, s9] := by
      generalize T.map t2D = T0 at *
      generalize L.map l4D = L0 at *
      generalize I.map D.int = I0 at *
      have a1 : fAdd (.int 1) (.int p) = some (.int (1 + p)) := rfl
      simp [mUserB, d1, d2, a1, slotD, line]
    have range : ∀ T0 : Sl, mRange1 (maCons (mVar 6) maNil) [.bo x3, v1, .va (.int (m : Int)), T0, .va (.tup (L.map l4D)), .va (.tup (I.map D.int)), .va (.int (i : Int)), .va (.int c), s8, s9] = .ok (ups 0 i) [.bo x3, v1, .va (.int (m : Int)), T0, .va (.tup (L.map l4D)), .va (.tup (I.map D.int)), .va (.int (i : Int)), .va (.int c), s8, s9] := fun T0 => by
      have := range1_ok (ma := maCons (mVar 6) maNil) (e := [.bo x3, v1, .va (.int (m : Int)), T0, .va (.tup (L.map l4D)), .va (.tup (I.map D.int)), .va (.int (i : Int)), .va (.int c), s8, s9]) (e1 := [.bo x3, v1, .va (.int (m : Int)), T0, .va (.tup (L.map l4D)), .va (.tup (I.map D.int)), .va (.int (i : Int)), .va (.int c), s8, s9]) (j := (i : Int)) (by simp [slotD]) (big_nat (by omega))
      rwa [Int.toNat_natCast] at this
    have rest : ∀ e', (mIfS (mB fEq (mUserB run__law_draw 0 (maCons (mC (.int 2)) maNil)) lId (mC (.int 0)) lId) (mSet 5 (mB fAdd (mPk 5) (lPk 5) (mTup (maCons (mVar 6) maNil)) lId)) mSkip) [.bo x4, v1, .va (.int (m : Int)), .va (.tup ((T ++ [(c, b)]).map t2D)), .va (.tup (L'.map l4D)), .va (.tup (I.map D.int)), .va (.int (i : Int)), .va (.int c), s8', s9'] = .nx e' →
        (mSeq (mSet 7 (mUserB run__law_of 0 (maCons (mLst (maCons (mC (.int 1)) (maCons (mC (.int 2)) (maCons (mC (.int 5)) (maCons (mB fAdd (mC (.int 1)) lId (mUserB run__law_draw 0 (maCons (mC (.int 99)) maNil)) lId) maNil))))) maNil))) (mSeq (mSet 3 (mB fAdd (mPk 3) (lPk 3) (mTup (maCons (mTup (maCons (mVar 7) (maCons (mUserB run__law_of 0 (maCons (mLst (maCons (mC (.int 0)) (maCons (mC (.int 1)) (maCons (mC (.int 1)) (maCons (mC (.int 2)) maNil))))) maNil)) maNil))) maNil)) lId)) (mSeq (mFor (mRange1 (maCons (mVar 6) maNil)) (mgName 8) (mIfS (mB fGt (mUserB run__law_draw 0 (maCons (mC (.int 3)) maNil)) lId (mC (.int 0)) lId) (mSeq (mSet 9 (mUserB run__law_of 0 (maCons (mLst (maCons (mC (.int 1)) (maCons (mC (.int 2)) (maCons (mB fAdd (mC (.int 1)) lId (mUserB run__law_draw 0 (maCons (mC (.int 99)) maNil)) lId) maNil)))) maNil))) (mSet 4 (mB fAdd (mPk 4) (lPk 4) (mTup (maCons (mTup (maCons (mVar 8) (maCons (mVar 6) (maCons (mVar 9) (maCons (mUserB run__law_draw 0 (maCons (mC (.int 3)) maNil)) maNil))))) maNil)) lId))) mSkip)) (mIfS (mB fEq (mUserB run__law_draw 0 (maCons (mC (.int 2)) maNil)) lId (mC (.int 0)) lId) (mSet 5 (mB fAdd (mPk 5) (lPk 5) (mTup (maCons (mVar 6) maNil)) lId)) mSkip)))) [.bo x, v1, .va (.int (m : Int)), .va (.tup (T.map t2D)), .va (.tup (L.map l4D)), .va (.tup (I.map D.int)), .va (.int (i : Int)), s7, s8, s9] = .nx e' := fun e' he => by
      refine seq_nx s0 (seq_nx (e1 := [.bo x3, v1, .va (.int (m : Int)), .va (.tup ((T ++ [(c, b)]).map t2D)), .va (.tup (L.map l4D)), .va (.tup (I.map D.int)), .va (.int (i : Int)), .va (.int c), s8, s9]) ?_ (seq_nx (for_ok (range _) k4) he))
      generalize (T ++ [(c, b)]).map t2D = T1 at *
      generalize T.map t2D = T0 at *
      generalize L.map l4D = L0 at *
      generalize I.map D.int = I0 at *
      simp [mUserB, d3, adT, slotD, line]
    rw [ups_cons, ci]
    by_cases hr : r = 0
    · rw [decide_eq_true hr] at eqr
      have hQ := mk (I ++ [(i : Int)]) (fun k hk => by
        rcases List.mem_append.mp hk with w | w
        · have := nb k w; omega
        · rw [List.mem_singleton.mp w]; omega) (List.pairwise_append.mpr ⟨h.ip, by simp, fun a ha b hb => by
          rw [List.mem_singleton.mp hb]
          have := nb a ha
          omega⟩) (by rw [List.length_append, List.length_singleton]; omega)
      obtain ⟨x', T', L'', I', s6', s7', t8, t9, g1, g2, g3⟩ := ih (i + 1) x5 _ _ _ (.va (.int (i : Int))) (.va (.int c)) s8' s9' hs5 (by omega) hQ
      refine ⟨x', T', L'', I', s6', s7', t8, t9, g1, g2, go_cons tg (rest _ ?_) g3⟩
      generalize (I ++ [(i : Int)]).map D.int = I1 at *
      generalize (T ++ [(c, b)]).map t2D = T1 at *
      generalize L'.map l4D = L0 at *
      generalize I.map D.int = I0 at *
      simp [mUserB, d5, eqr, adI, slotD, line]
    · rw [decide_eq_false hr] at eqr
      have hQ := mk I (fun k hk => by have := nb k hk; omega) h.ip (by omega)
      obtain ⟨x', T', L'', I', s6', s7', t8, t9, g1, g2, g3⟩ := ih (i + 1) x5 _ _ _ (.va (.int (i : Int))) (.va (.int c)) s8' s9' hs5 (by omega) hQ
      refine ⟨x', T', L'', I', s6', s7', t8, t9, g1, g2, go_cons tg (rest _ ?_) g3⟩
      generalize (T ++ [(c, b)]).map t2D = T1 at *
      generalize L'.map l4D = L0 at *
      generalize I.map D.int = I0 at *
      simp [mUserB, d5, eqr, slotD]
end GJ

set_option Elab.async false
set_option linter.all false
set_option maxRecDepth 100000
set_option maxHeartbeats 2000000
namespace GJ
open PySem L2 MP

def l4I (x : Lk) : List Int := [x.1, x.2.1, x.2.2.1, x.2.2.2]
theorem tI_l4 (x : Lk) : tI (l4I x) = l4D x := rfl
theorem tups_l4 : ∀ L : List Lk, tupsOf (L.map l4D) = some (L.map l4I)
  | [] => rfl
  | x :: L => by
    have ih := tups_l4 L
    have i4 : intsOf [.int x.1, .int x.2.1, .int x.2.2.1, .int x.2.2.2] = some (l4I x) := intsOf_map [x.1, x.2.1, x.2.2.1, x.2.2.2]
    simp only [List.map_cons, tupsOf, l4D, i4]
    have : tupsOf (List.map l4D L) = some (L.map l4I) := ih
    rw [this]
theorem bd_l4 {m : Int} {x : Lk} (hm : m ≤ 100) (h : LkOk m x) : TS.Bd BB (l4I x) := by
  intro k hk
  obtain ⟨h1, h2, h3, h4, h5, h6, h7⟩ := h
  simp only [l4I, List.mem_cons, List.not_mem_nil, or_false] at hk
  show 0 ≤ k ∧ k < 1000000
  rcases hk with e | e | e | e <;> omega
theorem okT_l4 {m : Int} (hm : m ≤ 100) (L : List Lk) (h : ∀ x ∈ L, LkOk m x) : okT 4 (L.map l4I) = true := by
  unfold okT
  rw [List.all_map, List.all_eq_true]
  intro x hx
  have b := bd_l4 hm (h x hx)
  simp only [Function.comp, Bool.and_eq_true, List.all_eq_true, decide_eq_true_eq]
  exact ⟨rfl, fun k hk => b k hk⟩
theorem lt_of_code {m : Int} (hm : m ≤ 100) {x y : Lk} (hx : LkOk m x) (hy : LkOk m y) (h : leT (l4I x) (l4I y)) (ne : lkLt x y ∨ lkLt y x) : x.1 < y.1 ∨ (x.1 = y.1 ∧ x.2.1 < y.2.1) := by
  have bx := bd_l4 hm hx
  have by_ := bd_l4 hm hy
  unfold leT l4I at h
  rcases Int.lt_trichotomy x.1 y.1 with q | q | q
  · exact .inl q
  · refine .inr ⟨q, ?_⟩
    rcases Int.lt_trichotomy x.2.1 y.2.1 with w | w | w
    · exact w
    · unfold lkLt at ne
      omega
    · exfalso
      have c1 : TS.code BB [y.2.1, y.2.2.1, y.2.2.2] < TS.code BB [x.2.1, x.2.2.1, x.2.2.2] := TS.code_lt rfl by_.tail.tail bx.tail.tail w
      have c2 := (TS.code_same (B := BB) (d := x.1) (r := [y.2.1, y.2.2.1, y.2.2.2]) (q := [x.2.1, x.2.2.1, x.2.2.2]) rfl).mpr c1
      rw [← q] at h
      omega
  · exfalso
    have c1 : TS.code BB [y.1, y.2.1, y.2.2.1, y.2.2.2] < TS.code BB [x.1, x.2.1, x.2.2.1, x.2.2.2] := TS.code_lt rfl by_.tail bx.tail q
    omega
theorem asc_of : ∀ {L : List Lk}, L.Pairwise (fun x y => x.1 < y.1 ∨ (x.1 = y.1 ∧ x.2.1 < y.2.1)) → ascL (L.map l4D) = true
  | [], _ => rfl
  | [_], _ => rfl
  | x :: y :: r, h => by
    obtain ⟨h1, h2⟩ := List.pairwise_cons.mp h
    have ih := asc_of h2
    simp only [List.map_cons, ascL, Bool.and_eq_true] at ih ⊢
    exact ⟨(seqLt2 x.1 x.2.1 y.1 y.2.1).mpr (by have := h1 y (by simp); omega), ih⟩
theorem pw_sym {L : List Lk} (h : L.Pairwise lkLt) : L.Pairwise (fun x y => lkLt x y ∨ lkLt y x) := h.imp fun {a b} q => .inl q
theorem sort_links {m : Int} (hm : m ≤ 4) (L : List Lk) (h : ∀ x ∈ L, LkOk m x) (pw : L.Pairwise lkLt) (hl : L.length ≤ 40) :
    ∃ L' : List Lk, bSortedX [.tup (L.map l4D)] = some (.lst (L'.map l4D)) ∧ (∀ x ∈ L', LkOk m x) ∧ ascL (L'.map l4D) = true := by
  by_cases hn : L = []
  · subst hn
    exact ⟨[], rfl, h, rfl⟩
  · have i0 : intsOf (L.map l4D) = none := by
      cases L with
      | nil => exact absurd rfl hn
      | cons x L => simp [l4D, intsOf]
    have i1 := tups_l4 L
    have hd : ((L.map l4I).headD []).length = 4 := by
      cases L with
      | nil => exact absurd rfl hn
      | cons x L => rfl
    have ok := okT_l4 (show m ≤ 100 by omega) L h
    obtain ⟨L', p, e⟩ := MP.perm_lift (f := l4I) (sortT_perm (L.map l4I))
    have h' : ∀ x ∈ L', LkOk m x := fun x hx => h x (p.mem_iff.mp hx)
    have sp : L'.Pairwise (fun x y => leT (l4I x) (l4I y)) := by
      have := sortT_sorted (L.map l4I)
      rw [← e, List.pairwise_map] at this
      exact this
    have ne : L'.Pairwise (fun x y => lkLt x y ∨ lkLt y x) := (p.pairwise_iff (fun {a b} q => q.symm)).mpr (pw_sym pw)
    refine ⟨L', ?_, h', asc_of ?_⟩
    · simp only [bSortedX, i0, i1, hd, ok, blt_dec, List.length_map]
      rw [decide_eq_true (show L.length < 64 by omega), ← e, List.map_map]
      rfl
    · have a := List.Pairwise.and sp ne
      have b := List.Pairwise.and_mem.mp a
      exact b.imp fun {x y} q => lt_of_code (show m ≤ 100 by omega) (h' x q.1) (h' y q.2.1) q.2.2.1 q.2.2.2
theorem ok_tup (n d : Nat) (xs : List D) : Ok n (d + 1) (.tup xs) = (decide (xs.length ≤ n) && OkL n d xs) := by simp only [Ok]
structure GQ (Q : D) (m : Nat) (T : List Tb) (L : List Lk) (I : List Int) : Prop where
  qf : QF Q m (T.map t2D) L I
  good : goodQ Q = true
  ok : Ok 6 3 Q = true
  t : ∀ p ∈ T, TbOk p
  asc : ascL (L.map l4D) = true
theorem tabs_all : ∀ T : List Tb, (∀ p ∈ T, TbOk p) → (T.map t2D).all tabB = true
  | [], _ => rfl
  | p :: T, h => by
    obtain ⟨h1, h2, h3, h4⟩ := h p List.mem_cons_self
    simp only [List.map_cons, List.all_cons, Bool.and_eq_true]
    refine ⟨?_, tabs_all T fun q hq => h q (List.mem_cons_of_mem _ hq)⟩
    simp only [t2D, tabB, numB, Bool.and_eq_true, decide_eq_true_eq]
    exact ⟨⟨h1, h2⟩, h3, h4⟩
theorem links_all {m : Int} (L : List Lk) (h : ∀ x ∈ L, LkOk m x) : (L.map l4D).all (linkB m) = true := by
  rw [List.all_map, List.all_eq_true]
  exact fun x hx => linkB_of (h x hx)
theorem gq_of {m : Nat} (m2 : 2 ≤ m) (m4 : m ≤ 4) {T : List Tb} {L : List Lk} {I : List Int} (tl : T.length = m) (ht : ∀ p ∈ T, TbOk p) (hL : ∀ x ∈ L, LkOk (m : Int) x) (ha : ascL (L.map l4D) = true)
    (hI : ∀ k ∈ I, 0 ≤ k ∧ k ≤ (m : Int) - 1) (hp : I.Pairwise (· < ·)) : GQ (.tup [.tup (T.map t2D), .tup (L.map l4D), .tup (I.map D.int)]) m T L I := by
  have l6 := six (show (m : Int) ≤ 4 by omega) L hL ha
  have i4 := strict_len I 0 ((m : Int) - 1) hI hp
  refine ⟨⟨by simp [fIx, ixD], by simp [fIx, ixD], by simp [fIx, ixD], by rw [List.length_map, tl], m2, m4, hL, l6, by omega⟩, ?_, ?_, ht, ha⟩
  · simp only [goodQ, qB, numsB, tupB, List.length_map, Bool.and_eq_true, decide_eq_true_eq]
    rw [tl]
    exact ⟨by omega, tabs_all T ht, by omega, links_all L hL, ha, ⟨by omega, by omega⟩, num_all I hI, (ascI_strict I).mpr hp⟩
  · have o1 : Ok 6 2 (.tup (T.map t2D)) = true := by
      simp only [Ok, Bool.and_eq_true, decide_eq_true_eq, List.length_map]
      refine ⟨by omega, (okL_iff _ _ _).mpr fun d hd => ?_⟩
      obtain ⟨p, _, rfl⟩ := List.mem_map.mp hd
      rfl
    have o2 : Ok 6 2 (.tup (L.map l4D)) = true := by
      simp only [Ok, Bool.and_eq_true, decide_eq_true_eq, List.length_map]
      refine ⟨by omega, (okL_iff _ _ _).mpr fun d hd => ?_⟩
      obtain ⟨p, _, rfl⟩ := List.mem_map.mp hd
      rfl
    have o3 : Ok 6 2 (.tup (I.map D.int)) = true := by
      simp only [Ok, Bool.and_eq_true, decide_eq_true_eq, List.length_map]
      refine ⟨by omega, (okL_iff _ _ _).mpr fun d hd => ?_⟩
      obtain ⟨p, _, rfl⟩ := List.mem_map.mp hd
      rfl
    generalize T.map t2D = T0 at *
    generalize L.map l4D = L0 at *
    generalize I.map D.int = I0 at *
    rw [ok_tup]
    simp only [OkL, o1, o2, o3]
    rfl
theorem question_gen {x : D} (hx : Src x) : ∃ (Q x' : D) (m : Nat) (T : List Tb) (L : List Lk) (I : List Int), run__law_question [.bo x, .va (.int 4)] = .ok Q (some x') ∧ Src x' ∧ GQ Q m T L I := by
  obtain ⟨r, x1, d1, hs1, r0, r1⟩ := draw_ok hx 3 (by decide) (by decide)
  obtain ⟨m, hm⟩ : ∃ m : Nat, 2 + r = (m : Int) := ⟨(2 + r).toNat, by omega⟩
  obtain ⟨x2, T, L, I, s6, s7, s8, s9, hs2, qi, g⟩ := quest_gen m (by omega) (.va (.int 4)) m 0 x1 [] [] [] .no .no .no .no hs1 (by omega) ⟨rfl, fun p hp => by simp at hp, fun p hp => by simp at hp, .nil, by simp, fun p hp => by simp at hp, .nil, by simp⟩
  rw [show ((0 : Nat) : Int) = 0 from rfl] at g
  have m4 : m ≤ 4 := by omega
  have ll := qi.ll
  obtain ⟨L', b1, b2, b3⟩ := sort_links (show (m : Int) ≤ 4 by omega) L qi.l qi.pw (by omega)
  refine ⟨.tup [.tup (T.map t2D), .tup (L'.map l4D), .tup (I.map D.int)], x2, m, T, L', I, ?_, hs2, gq_of (by omega) m4 qi.tl qi.t b2 b3 qi.ib qi.ip⟩
  have fin : ∀ d x' e, m__law_question [.bo x, .va (.int 4), .no, .no, .no, .no, .no, .no, .no, .no] = .rt d (.bo x' :: e) → run__law_question [.bo x, .va (.int 4)] = .ok d (some x') := fun d x' e q => run_rt (n := 2) (tot := 10) (m := m__law_question) (args := [.bo x, .va (.int 4)]) q
  have s0 : (mSet 2 (mB fAdd (mC (.int 2)) lId (mUserB run__law_draw 0 (maCons (mB fSub (mPk 1) (lPk 1) (mC (.int 1)) lId) maNil)) lId)) [.bo x, .va (.int 4), .no, .no, .no, .no, .no, .no, .no, .no] = .nx [.bo x1, .va (.int 4), .va (.int (m : Int)), .no, .no, .no, .no, .no, .no, .no] := by
    have a1 : fAdd (.int 2) (.int r) = some (.int (m : Int)) := by rw [← hm]; rfl
    have a2 : fSub (.int 4) (.int 1) = some (.int 3) := rfl
    simp [mUserB, d1, a1, a2, slotD]
  have s1 : (mAsg (mgTup 3 (mgsCons (mgName 3) (mgsCons (mgName 4) (mgsCons (mgName 5) mgsNil)))) (mTup (maCons (mTup maNil) (maCons (mTup maNil) (maCons (mTup maNil) maNil))))) [.bo x1, .va (.int 4), .va (.int (m : Int)), .no, .no, .no, .no, .no, .no, .no] = .nx [.bo x1, .va (.int 4), .va (.int (m : Int)), .va (.tup []), .va (.tup []), .va (.tup []), .no, .no, .no, .no] := by
    simp [slotD, line]
  have range : (mRange1 (maCons (mVar 2) maNil)) [.bo x1, .va (.int 4), .va (.int (m : Int)), .va (.tup []), .va (.tup []), .va (.tup []), .no, .no, .no, .no] = .ok (ups 0 m) [.bo x1, .va (.int 4), .va (.int (m : Int)), .va (.tup []), .va (.tup []), .va (.tup []), .no, .no, .no, .no] := by
    have := range1_ok (ma := maCons (mVar 2) maNil) (e := [.bo x1, .va (.int 4), .va (.int (m : Int)), .va (.tup []), .va (.tup []), .va (.tup []), .no, .no, .no, .no]) (e1 := [.bo x1, .va (.int 4), .va (.int (m : Int)), .va (.tup []), .va (.tup []), .va (.tup []), .no, .no, .no, .no]) (j := (m : Int)) (by simp [slotD]) (big_nat (by omega))
    rwa [Int.toNat_natCast] at this
  refine fin _ x2 [.va (.int 4), .va (.int (m : Int)), .va (.tup (T.map t2D)), .va (.tup (L.map l4D)), .va (.tup (I.map D.int)), s6, s7, s8, s9] (seq_nx s0 (seq_nx s1 (seq_nx (for_ok range g) ?_)))
  generalize T.map t2D = T0 at *
  generalize L'.map l4D = L1 at *
  generalize L.map l4D = L0 at *
  generalize I.map D.int = I0 at *
  simp [b1, bTuple, slotD, line]
end GJ

set_option Elab.async false
set_option linter.all false
set_option maxRecDepth 100000
set_option maxHeartbeats 2000000
namespace GJ
open PySem L2 MP

/-! ### the drawn plans -/
def bits : Int → List Int → List Int
  | _, [] => []
  | k, a :: r => (match decide (k % 2 = 1) with
    | true => a :: bits (k / 2) r
    | false => bits (k / 2) r)
theorem bits_sub : ∀ (ns : List Int) (k : Int), (bits k ns).Sublist ns
  | [], k => List.Sublist.slnil
  | a :: r, k => by
    unfold bits
    split
    · exact (bits_sub r _).cons₂ a
    · exact (bits_sub r _).cons a
theorem bits_ne : ∀ (ns : List Int) (k : Int), 1 ≤ k → k < 2 ^ ns.length → bits k ns ≠ []
  | [], k, h1, h2 => by simp at h2; omega
  | a :: r, k, h1, h2 => by
    unfold bits
    split
    · simp
    · rename_i h
      simp only [decide_eq_false_iff_not] at h
      refine bits_ne r (k / 2) (by omega) ?_
      rw [List.length_cons, Int.pow_succ] at h2
      omega
theorem bits_lack : ∀ (ns : List Int) (k : Int), ns.Nodup → 0 ≤ k → k < 2 ^ ns.length - 1 → ∃ x ∈ ns, x ∉ bits k ns
  | [], k, _, h1, h2 => by simp at h2; omega
  | a :: r, k, hn, h1, h2 => by
    obtain ⟨n1, n2⟩ := List.nodup_cons.mp hn
    unfold bits
    split
    · rename_i h
      simp only [decide_eq_true_eq] at h
      rw [List.length_cons, Int.pow_succ] at h2
      obtain ⟨x, x1, x2⟩ := bits_lack r (k / 2) n2 (by omega) (by omega)
      refine ⟨x, List.mem_cons_of_mem _ x1, fun q => ?_⟩
      rcases List.mem_cons.mp q with e | e
      · subst e; exact n1 x1
      · exact x2 e
    · exact ⟨a, List.mem_cons_self, fun q => n1 ((bits_sub r _).subset q)⟩
def rest (A ns : List Int) : List Int := ns.filter fun i => !decide (i ∈ A)
theorem split_len {A ns : List Int} (hs : A.Sublist ns) (hn : ns.Nodup) : A.length + (rest A ns).length = ns.length := by
  have p : A.Perm (ns.filter fun i => decide (i ∈ A)) := (List.perm_ext_iff_of_nodup (hs.nodup hn) (hn.filter _)).mpr fun k => by
    rw [List.mem_filter, decide_eq_true_eq]
    exact ⟨fun h => ⟨hs.subset h, h⟩, fun h => h.2⟩
  have q := (List.filter_append_perm (fun i => decide (i ∈ A)) ns).length_eq
  rw [List.length_append] at q
  rw [p.length_eq]
  exact q
theorem shape_num {m : Int} {k : Nat} {v : D} (h : numB v 0 (m - 1) = true) : shapeB m k v = true := by
  cases k <;> simp only [shapeB, h] <;> rfl
theorem shape_up {m : Int} : ∀ (k : Nat) (v : D), shapeB m k v = true → shapeB m (k + 1) v = true := by
  intro k
  induction k with
  | zero => intro v h; exact shape_num h
  | succ k ih =>
    intro v h
    rcases shape_cases h with ⟨i, rfl, h1, h2⟩ | ⟨a, b, cs, rfl, hc, ha, hb⟩
    · exact shape_num (by simp only [numB, Bool.and_eq_true, decide_eq_true_eq]; exact ⟨h1, h2⟩)
    · have e1 := ih a ha
      have e2 := ih b hb
      show (numB _ 0 (m - 1) || (methB (.str cs) && (shapeB m (k + 1) a && shapeB m (k + 1) b))) = true
      rw [hc, e1, e2]
      simp
theorem shape_mono {m : Int} {k j : Nat} {v : D} (h : shapeB m k v = true) (l : k ≤ j) : shapeB m j v = true := by
  induction l with
  | refl => exact h
  | step _ ih => exact shape_up _ v ih
theorem split_perm {A ns : List Int} (hs : A.Sublist ns) (hn : ns.Nodup) : (A ++ rest A ns).Perm ns := by
  have p : A.Perm (ns.filter fun i => decide (i ∈ A)) := (List.perm_ext_iff_of_nodup (hs.nodup hn) (hn.filter _)).mpr fun k => by
    rw [List.mem_filter, decide_eq_true_eq]
    exact ⟨fun h => ⟨hs.subset h, h⟩, fun h => h.2⟩
  exact (p.append_right _).trans (List.filter_append_perm (fun i => decide (i ∈ A)) ns)
theorem tabsI_up {m : Int} : ∀ (k : Nat) (v : D), shapeB m k v = true → tabsI (k + 1) v = tabsI k v := by
  intro k
  induction k with
  | zero => intro v h; obtain ⟨i, rfl, _⟩ := numB_int h; rfl
  | succ k ih =>
    intro v h
    rcases shape_cases h with ⟨i, rfl, h1, h2⟩ | ⟨a, b, cs, rfl, hc, ha, hb⟩
    · rfl
    · show sortI (tabsI (k + 1) a ++ tabsI (k + 1) b) = sortI (tabsI k a ++ tabsI k b)
      rw [ih a ha, ih b hb]
theorem ledB_up {m : Int} {L : List Lk} {I : List Int} : ∀ (k : Nat) (v : D), shapeB m k v = true → ledB L I (k + 1) v = ledB L I k v := by
  intro k
  induction k with
  | zero => intro v h; obtain ⟨i, rfl, _⟩ := numB_int h; rfl
  | succ k ih =>
    intro v h
    rcases shape_cases h with ⟨i, rfl, h1, h2⟩ | ⟨a, b, cs, rfl, hc, ha, hb⟩
    · rfl
    · show (ledB L I (k + 1) a && (ledB L I (k + 1) b && canB L I (tabsI (k + 1) a) (tabsI (k + 1) b) b (.str cs))) = (ledB L I k a && (ledB L I k b && canB L I (tabsI k a) (tabsI k b) b (.str cs)))
      rw [ih a ha, ih b hb, tabsI_up k a ha, tabsI_up k b hb]
structure GP (m : Nat) (L : List Lk) (I : List Int) (k : Nat) (A : List Int) (v : D) : Prop where
  sh : shapeB m k v = true
  ok : Ok 6 k v = true
  led : ledB L I k v = true
  tb : (tabsI k v).Perm A
theorem GP.up {m : Nat} {L : List Lk} {I : List Int} {k : Nat} {A : List Int} {v : D} (h : GP m L I k A v) : GP m L I (k + 1) A v :=
  ⟨shape_up _ v h.sh, Ok.mono (by omega) v k (k + 1) (by omega) h.ok, by rw [ledB_up k v h.sh]; exact h.led, by rw [tabsI_up k v h.sh]; exact h.tb⟩
theorem GP.mono {m : Nat} {L : List Lk} {I : List Int} {k j : Nat} {A : List Int} {v : D} (h : GP m L I k A v) (l : k ≤ j) : GP m L I j A v := by
  induction l with
  | refl => exact h
  | step _ ih => exact ih.up
theorem GP.perm {m : Nat} {L : List Lk} {I : List Int} {k : Nat} {A B : List Int} {v : D} (h : GP m L I k A v) (p : A.Perm B) : GP m L I k B v := ⟨h.sh, h.ok, h.led, h.tb.trans p⟩
theorem GP.mk' {m : Nat} {L : List Lk} {I : List Int} {k : Nat} {A B : List Int} {a b : D} {cs : List Nat} (ha : GP m L I k A a) (hb : GP m L I k B b) (hc : methB (.str cs) = true) (can : canB L I (tabsI k a) (tabsI k b) b (.str cs) = true) : GP m L I (k + 1) (A ++ B) (.tup [a, b, .str cs]) := by
  refine ⟨?_, ?_, ?_, ?_⟩
  · simp only [shapeB, hc, ha.sh, hb.sh]
    simp
  · rw [ok_tup]
    simp only [OkL, ha.ok, hb.ok, Ok, meth_ok hc]
    rfl
  · show (ledB L I k a && (ledB L I k b && canB L I (tabsI k a) (tabsI k b) b (.str cs))) = true
    rw [ha.led, hb.led, can]
    rfl
  · exact (sortI_perm _).trans (ha.tb.append hb.tb)
def F2 (Q : D) (ns : List Int) (F : List D) (s3 s4 s5 s6 s7 s8 s9 s10 : Sl) : Ev := [.va Q, .va (.lst (ns.map D.int)), .ow (.lst F), s3, s4, s5, s6, s7, s8, s9, s10]
theorem meth_step {Q : D} {m : Nat} {ts : List D} {L : List Lk} {I : List Int} (q : QF Q m ts L I) {k : Nat} (hk : k + 1 ≤ 3) {A B : List Int} {a b : D} {cs : List Nat} (ha : GP m L I k A a) (hb : GP m L I k B b) (hc : methB (.str cs) = true)
    (ns : List Int) (F : List D) (s3 s4 s5 s6 s7 : Sl) (hl : F.length ≤ 100000) :
    ∃ G : List D, (mIfS (mUser run__law_can (maCons (mVar 0) (maCons (mVar 8) (maCons (mVar 9) (maCons (mVar 10) maNil))))) (mApp 2 (mTup (maCons (mVar 8) (maCons (mVar 9) (maCons (mVar 10) maNil))))) mSkip) (F2 Q ns F s3 s4 s5 s6 s7 (.va a) (.va b) (.va (.str cs))) = .nx (F2 Q ns (F ++ G) s3 s4 s5 s6 s7 (.va a) (.va b) (.va (.str cs))) ∧ (∀ v ∈ G, GP m L I (k + 1) (A ++ B) v) ∧ G.length ≤ 1 ∧ (cs = LOOP → G ≠ []) := by
  have lc := lcan_ok q (show k ≤ 3 by omega) (show k ≤ 3 by omega) ha.sh hb.sh hc
  unfold F2
  cases e : canB L I (tabsI k a) (tabsI k b) b (.str cs) with
  | true =>
    rw [e] at lc
    refine ⟨[.tup [a, b, .str cs]], ?_, fun v hv => ?_, by simp, fun _ => by simp⟩
    · generalize D.lst (ns.map D.int) = N
      have : F.length < 16777216 := by omega
      simp [lc, atC, kput, this, slotD, line]
    · rw [List.mem_singleton.mp hv]; exact GP.mk' ha hb hc e
  | false =>
    rw [e] at lc
    refine ⟨[], ?_, fun v hv => by simp at hv, by simp, fun h => ?_⟩
    · generalize D.lst (ns.map D.int) = N
      simp [lc, slotD]
    · subst h
      simp [canB] at e
theorem meth_loop {Q : D} {m : Nat} {ts : List D} {L : List Lk} {I : List Int} (q : QF Q m ts L I) {k : Nat} (hk : k + 1 ≤ 3) {A B : List Int} {a b : D} (ha : GP m L I k A a) (hb : GP m L I k B b)
    (ns : List Int) (F : List D) (s3 s4 s5 s6 s7 s10 : Sl) (hl : F.length + 3 ≤ 100000) :
    ∃ (G : List D) (s10' : Sl), (mFor (mIt (mLst (maCons (mC (.str [104, 97, 115, 104])) (maCons (mC (.str [105, 110, 100, 101, 120])) (maCons (mC (.str [108, 111, 111, 112])) maNil))))) (mgName 10) (mIfS (mUser run__law_can (maCons (mVar 0) (maCons (mVar 8) (maCons (mVar 9) (maCons (mVar 10) maNil))))) (mApp 2 (mTup (maCons (mVar 8) (maCons (mVar 9) (maCons (mVar 10) maNil))))) mSkip)) (F2 Q ns F s3 s4 s5 s6 s7 (.va a) (.va b) s10) = .nx (F2 Q ns (F ++ G) s3 s4 s5 s6 s7 (.va a) (.va b) s10') ∧ (∀ v ∈ G, GP m L I (k + 1) (A ++ B) v) ∧ G.length ≤ 3 ∧ G ≠ [] := by
  obtain ⟨G1, e1, g1, l1, _⟩ := meth_step q hk ha hb (cs := HASH) rfl ns F s3 s4 s5 s6 s7 (by omega)
  obtain ⟨G2, e2, g2, l2, _⟩ := meth_step q hk ha hb (cs := INDEX) rfl ns (F ++ G1) s3 s4 s5 s6 s7 (by rw [List.length_append]; omega)
  obtain ⟨G3, e3, g3, l3, n3⟩ := meth_step q hk ha hb (cs := LOOP) rfl ns (F ++ G1 ++ G2) s3 s4 s5 s6 s7 (by rw [List.length_append, List.length_append]; omega)
  have mi : (mIt (mLst (maCons (mC (.str [104, 97, 115, 104])) (maCons (mC (.str [105, 110, 100, 101, 120])) (maCons (mC (.str [108, 111, 111, 112])) maNil))))) (F2 Q ns F s3 s4 s5 s6 s7 (.va a) (.va b) s10) = .ok [.str HASH, .str INDEX, .str LOOP] (F2 Q ns F s3 s4 s5 s6 s7 (.va a) (.va b) s10) := by simp [line, slotD]
  have tg : ∀ d F s, (mgName 10) d (F2 Q ns F s3 s4 s5 s6 s7 (.va a) (.va b) s) = some (F2 Q ns F s3 s4 s5 s6 s7 (.va a) (.va b) (.va d)) := fun d F s => rfl
  refine ⟨G1 ++ G2 ++ G3, .va (.str LOOP), ?_, fun v hv => ?_, by simp only [List.length_append]; omega, fun h => ?_⟩
  · rw [show F ++ (G1 ++ G2 ++ G3) = F ++ G1 ++ G2 ++ G3 by simp]
    exact for_ok mi (go_cons (tg _ _ _) e1 (go_cons (tg _ _ _) e2 (go_cons (tg _ _ _) e3 rfl)))
  · rcases List.mem_append.mp hv with w | w
    · rcases List.mem_append.mp w with w | w
      · exact g1 v w
      · exact g2 v w
    · exact g3 v w
  · simp only [List.append_eq_nil_iff] at h
    exact n3 rfl h.2
theorem other_loop {Q : D} {m : Nat} {ts : List D} {L : List Lk} {I : List Int} (q : QF Q m ts L I) {k : Nat} (hk : k + 1 ≤ 3) {A B : List Int} {a : D} (ha : GP m L I k A a)
    (ns : List Int) (s3 s4 s5 s6 s7 : Sl) : ∀ (rs : List D) (F : List D) (s9 s10 : Sl), (∀ b ∈ rs, GP m L I k B b) → F.length + 3 * rs.length ≤ 100000 →
    ∃ (G : List D) (s9' s10' : Sl), forGo (mgName 9) (mFor (mIt (mLst (maCons (mC (.str [104, 97, 115, 104])) (maCons (mC (.str [105, 110, 100, 101, 120])) (maCons (mC (.str [108, 111, 111, 112])) maNil))))) (mgName 10) (mIfS (mUser run__law_can (maCons (mVar 0) (maCons (mVar 8) (maCons (mVar 9) (maCons (mVar 10) maNil))))) (mApp 2 (mTup (maCons (mVar 8) (maCons (mVar 9) (maCons (mVar 10) maNil))))) mSkip)) rs (F2 Q ns F s3 s4 s5 s6 s7 (.va a) s9 s10) = .nx (F2 Q ns (F ++ G) s3 s4 s5 s6 s7 (.va a) s9' s10') ∧ (∀ v ∈ G, GP m L I (k + 1) (A ++ B) v) ∧ G.length ≤ 3 * rs.length ∧ (rs ≠ [] → G ≠ [])
  | [], F, s9, s10, h, hl => ⟨[], s9, s10, by rw [List.append_nil]; rfl, fun v hv => by simp at hv, by simp, fun h => absurd rfl h⟩
  | b :: rs, F, s9, s10, h, hl => by
    rw [List.length_cons] at hl
    obtain ⟨G1, t, e1, g1, l1, n1⟩ := meth_loop q hk ha (h b List.mem_cons_self) ns F s3 s4 s5 s6 s7 s10 (by omega)
    obtain ⟨G2, t9, t10, e2, g2, l2, _⟩ := other_loop q hk ha ns s3 s4 s5 s6 s7 rs (F ++ G1) (.va b) t (fun x hx => h x (List.mem_cons_of_mem _ hx)) (by rw [List.length_append]; omega)
    refine ⟨G1 ++ G2, t9, t10, ?_, fun v hv => (List.mem_append.mp hv).elim (g1 v) (g2 v), by rw [List.length_append, List.length_cons]; omega, fun _ z => n1 (List.append_eq_nil_iff.mp z).1⟩
    rw [← List.append_assoc]
    exact go_cons (e1 := F2 Q ns F s3 s4 s5 s6 s7 (.va a) (.va b) s10) rfl e1 e2
theorem one_loop {Q : D} {m : Nat} {ts : List D} {L : List Lk} {I : List Int} (q : QF Q m ts L I) {k : Nat} (hk : k + 1 ≤ 3) (self : UF) (N : D) (rs : List D) (hr : self [.va Q, .va N] = .ok (.lst rs) none) {A B : List Int} (hg : ∀ b ∈ rs, GP m L I k B b)
    (ns : List Int) (s3 s4 s5 s6 : Sl) : ∀ (os : List D) (F : List D) (s8 s9 s10 : Sl), (∀ a ∈ os, GP m L I k A a) → F.length + 3 * (os.length * rs.length) ≤ 100000 →
    ∃ (G : List D) (s8' s9' s10' : Sl), forGo (mgName 8) (mFor (mIt (mUser self (maCons (mVar 0) (maCons (mVar 7) maNil)))) (mgName 9) (mFor (mIt (mLst (maCons (mC (.str [104, 97, 115, 104])) (maCons (mC (.str [105, 110, 100, 101, 120])) (maCons (mC (.str [108, 111, 111, 112])) maNil))))) (mgName 10) (mIfS (mUser run__law_can (maCons (mVar 0) (maCons (mVar 8) (maCons (mVar 9) (maCons (mVar 10) maNil))))) (mApp 2 (mTup (maCons (mVar 8) (maCons (mVar 9) (maCons (mVar 10) maNil))))) mSkip))) os (F2 Q ns F s3 s4 s5 s6 (.va N) s8 s9 s10) = .nx (F2 Q ns (F ++ G) s3 s4 s5 s6 (.va N) s8' s9' s10') ∧ (∀ v ∈ G, GP m L I (k + 1) (A ++ B) v) ∧ G.length ≤ 3 * (os.length * rs.length) ∧ (os ≠ [] → rs ≠ [] → G ≠ [])
  | [], F, s8, s9, s10, h, hl => ⟨[], s8, s9, s10, by rw [List.append_nil]; rfl, fun v hv => by simp at hv, by simp, fun h => absurd rfl h⟩
  | a :: os, F, s8, s9, s10, h, hl => by
    rw [List.length_cons, Nat.add_mul, Nat.one_mul] at hl
    obtain ⟨G1, t9, t10, e1, g1, l1, n1⟩ := other_loop q hk (h a List.mem_cons_self) ns s3 s4 s5 s6 (.va N) rs F s9 s10 hg (by omega)
    obtain ⟨G2, u8, u9, u10, e2, g2, l2, _⟩ := one_loop q hk self N rs hr hg ns s3 s4 s5 s6 os (F ++ G1) (.va a) t9 t10 (fun x hx => h x (List.mem_cons_of_mem _ hx)) (by rw [List.length_append]; omega)
    refine ⟨G1 ++ G2, u8, u9, u10, ?_, fun v hv => (List.mem_append.mp hv).elim (g1 v) (g2 v), by rw [List.length_append, List.length_cons, Nat.add_mul, Nat.one_mul]; omega, fun _ nr z => n1 nr (List.append_eq_nil_iff.mp z).1⟩
    rw [← List.append_assoc]
    have mi : (mIt (mUser self (maCons (mVar 0) (maCons (mVar 7) maNil)))) (F2 Q ns F s3 s4 s5 s6 (.va N) (.va a) s9 s10) = .ok rs (F2 Q ns F s3 s4 s5 s6 (.va N) (.va a) s9 s10) := by
      unfold F2
      generalize D.lst (ns.map D.int) = N0
      simp [hr, slotD]
    exact go_cons (e1 := F2 Q ns F s3 s4 s5 s6 (.va N) (.va a) s9 s10) rfl (for_ok mi e1) e2
theorem bits_loop {Q : D} (ns : List Int) (F : List D) (s3 s7 s8 s9 s10 : Sl) : ∀ (rs : List Int) (A : List Int) (k : Int) (s6 : Sl), A.length + rs.length ≤ 50 →
    ∃ (s5' s6' : Sl), forGo (mgName 6) (mSeq (mSet 4 (mB fAdd (mPk 4) (lPk 4) (mIf (mB fEq (mB fMod (mPk 5) (lPk 5) (mC (.int 2)) lId) lId (mC (.int 1)) lId) (mLst (maCons (mVar 6) maNil)) (mLst maNil)) lId)) (mSet 5 (mB fDiv (mPk 5) (lPk 5) (mC (.int 2)) lId))) (rs.map D.int) (F2 Q ns F s3 (.va (.lst (A.map D.int))) (.va (.int k)) s6 s7 s8 s9 s10) = .nx (F2 Q ns F s3 (.va (.lst ((A ++ bits k rs).map D.int))) s5' s6' s7 s8 s9 s10)
  | [], A, k, s6, _ => ⟨.va (.int k), s6, by simp only [bits, List.append_nil]; rfl⟩
  | a :: rs, A, k, s6, hl => by
    rw [List.length_cons] at hl
    have dv := fDiv_ok (x := k) (y := 2) (b := 2) (by decide) (by unfold Bd; decide) (by decide)
    have md : fMod (.int k) (.int 2) = some (.int (k % 2)) := rfl
    have eq := eq_int (k % 2) 1
    have a0 : fAdd (.lst (A.map D.int)) (.lst []) = some (.lst (A.map D.int)) := by
      have := add_lst A [] (by simp; omega)
      rwa [List.append_nil] at this
    have a1 : fAdd (.lst (A.map D.int)) (.lst [.int a]) = some (.lst ((A ++ [a]).map D.int)) := add_lst A [a] (by simp; omega)
    have ub : bits k (a :: rs) = (match decide (k % 2 = 1) with
      | true => a :: bits (k / 2) rs
      | false => bits (k / 2) rs) := by rw [bits]
    rw [ub]
    cases e : decide (k % 2 = 1) with
    | true =>
      rw [e] at eq
      obtain ⟨t5, t6, r⟩ := bits_loop ns F s3 s7 s8 s9 s10 rs (A ++ [a]) (k / 2) (.va (.int a)) (by simp; omega)
      refine ⟨t5, t6, ?_⟩
      rw [show A ++ a :: bits (k / 2) rs = A ++ [a] ++ bits (k / 2) rs by simp]
      refine go_cons (e1 := F2 Q ns F s3 (.va (.lst (A.map D.int))) (.va (.int k)) (.va (.int a)) s7 s8 s9 s10) rfl ?_ r
      unfold F2
      generalize (A ++ [a]).map D.int = A1 at *
      generalize A.map D.int = A0 at *
      generalize D.lst (ns.map D.int) = N0
      simp [md, eq, a1, dv, slotD, line]
    | false =>
      rw [e] at eq
      obtain ⟨t5, t6, r⟩ := bits_loop ns F s3 s7 s8 s9 s10 rs A (k / 2) (.va (.int a)) (by omega)
      refine ⟨t5, t6, ?_⟩
      refine go_cons (e1 := F2 Q ns F s3 (.va (.lst (A.map D.int))) (.va (.int k)) (.va (.int a)) s7 s8 s9 s10) rfl ?_ r
      unfold F2
      generalize A.map D.int = A0 at *
      generalize D.lst (ns.map D.int) = N0
      simp [md, eq, a0, dv, slotD, line]
theorem right_ok {Q : D} (ns A : List Int) (F : List D) (s3 s5 s6 s7 s8 s9 s10 : Sl) (hl : ns.length ≤ 50) :
    (mSet 7 (mAsV (mLc (mIt (mVar 1)) [6] (mgName 6) (mB fNotIn (mPk 6) (lPk 6) (mPk 4) (lPk 4)) (mVar 6)))) (F2 Q ns F s3 (.va (.lst (A.map D.int))) s5 s6 s7 s8 s9 s10) = .nx (F2 Q ns F s3 (.va (.lst (A.map D.int))) s5 s6 (.va (.lst ((rest A ns).map D.int))) s8 s9 s10) := by
  have l1 : lcGo (mgName 6) (mB fNotIn (mPk 6) (lPk 6) (mPk 4) (lPk 4)) (mVar 6) (wipeE ((F2 Q ns F s3 (.va (.lst (A.map D.int))) s5 s6 s7 s8 s9 s10).map roE) [6]) (ns.map D.int) [] = some ((rest A ns).map D.int) := by
    have := lc_gen (mg := (mgName 6)) (mt := (mB fNotIn (mPk 6) (lPk 6) (mPk 4) (lPk 4))) (me := (mVar 6)) (benv := wipeE ((F2 Q ns F s3 (.va (.lst (A.map D.int))) s5 s6 s7 s8 s9 s10).map roE) [6]) (g := fun d => match d with | .int i => !decide (i ∈ A) | _ => false) (h := id) (ds := ns.map D.int) (acc := []) (fun d hd => by
      obtain ⟨i, _, rfl⟩ := List.mem_map.mp hd
      have ni := nin_lst i A
      generalize A.map D.int = A0 at *
      refine ⟨(wipeE ((F2 Q ns F s3 (.va (.lst A0)) s5 s6 s7 s8 s9 s10).map roE) [6]).set 6 (.va (.int i)), (wipeE ((F2 Q ns F s3 (.va (.lst A0)) s5 s6 s7 s8 s9 s10).map roE) [6]).set 6 (.va (.int i)), (wipeE ((F2 Q ns F s3 (.va (.lst A0)) s5 s6 s7 s8 s9 s10).map roE) [6]).set 6 (.va (.int i)), rfl, ?_, fun _ => rfl⟩
      simp [F2, wipeE, roE, ni, slotD])
    rw [this, List.nil_append, List.map_id, List.filter_map]
    rfl
  exact set_run (lc_run (e1 := F2 Q ns F s3 (.va (.lst (A.map D.int))) s5 s6 s7 s8 s9 s10) (by unfold F2; simp [slotD]) (by rw [List.length_map]; omega) rfl l1) rfl rfl
end GJ

set_option Elab.async false
set_option linter.all false
set_option maxRecDepth 100000
set_option maxHeartbeats 2000000
namespace GJ
open PySem L2 MP

def CP : Nat → Nat
  | 1 => 1
  | 2 => 6
  | 3 => 108
  | 4 => 4536
  | _ => 0
def KP : Nat → Nat
  | 2 => 1
  | 3 => 6
  | 4 => 108
  | _ => 0
theorem ck {a b n : Nat} (ha : 1 ≤ a) (hb : 1 ≤ b) (h : a + b = n) (hn : n ≤ 4) : CP a * CP b ≤ KP n := by
  have a3 : a ≤ 3 := by omega
  have b3 : b ≤ 3 := by omega
  subst h
  rcases (show a = 1 ∨ a = 2 ∨ a = 3 by omega) with e | e | e <;> rcases (show b = 1 ∨ b = 2 ∨ b = 3 by omega) with e2 | e2 | e2 <;> subst e <;> subst e2 <;> first | decide | omega
structure PlanF (sf : UF) (Q : D) (m : Nat) (L : List Lk) (I : List Int) (A : List Int) (Fa : List D) : Prop where
  run : sf [.va Q, .va (.lst (A.map D.int))] = .ok (.lst Fa) none
  ne : Fa ≠ []
  le : Fa.length ≤ CP A.length
  gp : ∀ v ∈ Fa, GP m L I (A.length - 1) A v
theorem num_loop {Q : D} {m : Nat} {ts : List D} {L : List Lk} {I : List Int} (q : QF Q m ts L I) (self : UF) (ns : List Int) (h2 : 2 ≤ ns.length) (h4 : ns.length ≤ 4) (nd : ns.Nodup)
    (ih : ∀ A : List Int, A.Sublist ns → A ≠ [] → A.length < ns.length → ∃ Fa, PlanF self Q m L I A Fa) :
    ∀ (c j : Nat) (F : List D) (s3 s4 s5 s6 s7 s8 s9 s10 : Sl), 1 ≤ j → j + c ≤ 2 ^ ns.length - 1 → F.length + c * (3 * KP ns.length) ≤ 100000 →
    ∃ (G : List D) (t3 t4 t5 t6 t7 t8 t9 t10 : Sl), forGo (mgName 3) (mSeq (mAsg (mgTup 2 (mgsCons (mgName 4) (mgsCons (mgName 5) mgsNil))) (mTup (maCons (mLst maNil) (maCons (mVar 3) maNil)))) (mSeq (mFor (mIt (mVar 1)) (mgName 6) (mSeq (mSet 4 (mB fAdd (mPk 4) (lPk 4) (mIf (mB fEq (mB fMod (mPk 5) (lPk 5) (mC (.int 2)) lId) lId (mC (.int 1)) lId) (mLst (maCons (mVar 6) maNil)) (mLst maNil)) lId)) (mSet 5 (mB fDiv (mPk 5) (lPk 5) (mC (.int 2)) lId)))) (mSeq (mSet 7 (mAsV (mLc (mIt (mVar 1)) [6] (mgName 6) (mB fNotIn (mPk 6) (lPk 6) (mPk 4) (lPk 4)) (mVar 6)))) (mFor (mIt (mUser self (maCons (mVar 0) (maCons (mVar 4) maNil)))) (mgName 8) (mFor (mIt (mUser self (maCons (mVar 0) (maCons (mVar 7) maNil)))) (mgName 9) (mFor (mIt (mLst (maCons (mC (.str [104, 97, 115, 104])) (maCons (mC (.str [105, 110, 100, 101, 120])) (maCons (mC (.str [108, 111, 111, 112])) maNil))))) (mgName 10) (mIfS (mUser run__law_can (maCons (mVar 0) (maCons (mVar 8) (maCons (mVar 9) (maCons (mVar 10) maNil))))) (mApp 2 (mTup (maCons (mVar 8) (maCons (mVar 9) (maCons (mVar 10) maNil))))) mSkip))))))) (ups j c) (F2 Q ns F s3 s4 s5 s6 s7 s8 s9 s10) = .nx (F2 Q ns (F ++ G) t3 t4 t5 t6 t7 t8 t9 t10) ∧ (∀ v ∈ G, GP m L I (ns.length - 1) ns v) ∧ G.length ≤ c * (3 * KP ns.length) ∧ (0 < c → G ≠ [])
  | 0, j, F, s3, s4, s5, s6, s7, s8, s9, s10, _, _, _ => ⟨[], s3, s4, s5, s6, s7, s8, s9, s10, by rw [List.append_nil]; rfl, fun v hv => by simp at hv, by simp, fun h => absurd h (by omega)⟩
  | c + 1, j, F, s3, s4, s5, s6, s7, s8, s9, s10, hj, hc, hl => by
    rw [Nat.add_mul, Nat.one_mul] at hl
    have pw : ((2 : Int) ^ ns.length) = ((2 ^ ns.length : Nat) : Int) := by rw [Int.natCast_pow]; rfl
    have p1 : 1 ≤ 2 ^ ns.length := Nat.one_le_two_pow
    have bs := bits_sub ns (j : Int)
    have bn := bits_ne ns (j : Int) (by omega) (by rw [pw]; omega)
    obtain ⟨x, x1, x2⟩ := bits_lack ns (j : Int) nd (by omega) (by rw [pw]; omega)
    obtain ⟨t5, t6, e1⟩ := bits_loop (Q := Q) ns F (.va (.int (j : Int))) s7 s8 s9 s10 ns [] (j : Int) s6 (by simp; omega)
    rw [List.nil_append, show ([] : List Int).map D.int = [] from rfl] at e1
    have e2 := right_ok (Q := Q) ns (bits j ns) F (.va (.int (j : Int))) t5 t6 s7 s8 s9 s10 (by omega)
    have sl := split_len bs nd
    have rn : rest (bits j ns) ns ≠ [] := by
      intro h
      have : x ∈ rest (bits j ns) ns := by
        unfold rest
        rw [List.mem_filter]
        exact ⟨x1, by simpa using x2⟩
      rw [h] at this
      simp at this
    have l1 := List.length_pos_iff.mpr bn
    have l2 := List.length_pos_iff.mpr rn
    obtain ⟨Fa, fa⟩ := ih (bits j ns) bs bn (by omega)
    obtain ⟨Fb, fb⟩ := ih (rest (bits j ns) ns) List.filter_sublist rn (by omega)
    have mul : Fa.length * Fb.length ≤ KP ns.length := Nat.le_trans (Nat.mul_le_mul fa.le fb.le) (ck l1 l2 sl h4)
    obtain ⟨G1, t8, t9, t10, e3, g1, m1, n1⟩ := one_loop q (k := ns.length - 2) (by omega) self (.lst ((rest (bits j ns) ns).map D.int)) Fb fb.run (fun v hv => (fb.gp v hv).mono (by omega)) ns (.va (.int (j : Int))) (.va (.lst ((bits j ns).map D.int))) t5 t6 Fa F s8 s9 s10 (fun v hv => (fa.gp v hv).mono (by omega)) (by omega)
    obtain ⟨G2, u3, u4, u5, u6, u7, u8, u9, u10, e4, g2, m2, _⟩ := num_loop q self ns h2 h4 nd ih c (j + 1) (F ++ G1) (.va (.int (j : Int))) (.va (.lst ((bits j ns).map D.int))) t5 t6 (.va (.lst ((rest (bits j ns) ns).map D.int))) t8 t9 t10 (by omega) (by omega) (by rw [List.length_append]; omega)
    refine ⟨G1 ++ G2, u3, u4, u5, u6, u7, u8, u9, u10, ?_, fun v hv => ?_, by rw [List.length_append, Nat.add_mul, Nat.one_mul]; omega, fun _ z => n1 fa.ne fb.ne (List.append_eq_nil_iff.mp z).1⟩
    · rw [← List.append_assoc, ups_cons, show ((j : Int) + 1) = ((j + 1 : Nat) : Int) by omega]
      refine go_cons (e1 := F2 Q ns F (.va (.int (j : Int))) s4 s5 s6 s7 s8 s9 s10) rfl ?_ e4
      have mi1 : (mIt (mVar 1)) (F2 Q ns F (.va (.int (j : Int))) (.va (.lst [])) (.va (.int (j : Int))) s6 s7 s8 s9 s10) = .ok (ns.map D.int) (F2 Q ns F (.va (.int (j : Int))) (.va (.lst [])) (.va (.int (j : Int))) s6 s7 s8 s9 s10) := by
        unfold F2
        simp [slotD]
      have mi2 : (mIt (mUser self (maCons (mVar 0) (maCons (mVar 4) maNil)))) (F2 Q ns F (.va (.int (j : Int))) (.va (.lst ((bits j ns).map D.int))) t5 t6 (.va (.lst ((rest (bits j ns) ns).map D.int))) s8 s9 s10) = .ok Fa (F2 Q ns F (.va (.int (j : Int))) (.va (.lst ((bits j ns).map D.int))) t5 t6 (.va (.lst ((rest (bits j ns) ns).map D.int))) s8 s9 s10) := by
        have r := fa.run
        unfold F2
        generalize D.lst ((bits j ns).map D.int) = A0 at *
        generalize D.lst (ns.map D.int) = N0 at *
        simp [r, slotD]
      refine seq_nx (e1 := F2 Q ns F (.va (.int (j : Int))) (.va (.lst [])) (.va (.int (j : Int))) s6 s7 s8 s9 s10) ?_ (seq_nx (for_ok mi1 e1) (seq_nx e2 (for_ok mi2 e3)))
      unfold F2
      generalize D.lst (ns.map D.int) = N0 at *
      simp [line, slotD]
    · rcases List.mem_append.mp hv with w | w
      · have := (g1 v w).perm (split_perm bs nd)
        rwa [show ns.length - 2 + 1 = ns.length - 1 by omega] at this
      · exact g2 v w
theorem lpow2 (n : Nat) (h : n ≤ 4) : run__law_power [.va (.int 2), .va (.int (n : Int))] = .ok (.int ((2 ^ n : Nat) : Int)) none := by
  rcases (show n = 0 ∨ n = 1 ∨ n = 2 ∨ n = 3 ∨ n = 4 by omega) with e | e | e | e | e <;> subst e <;> rfl
theorem kp_ok {n : Nat} (h2 : 2 ≤ n) (h4 : n ≤ 4) : (2 ^ n - 2) * (3 * KP n) ≤ CP n ∧ CP n ≤ 4536 := by
  rcases (show n = 2 ∨ n = 3 ∨ n = 4 by omega) with e | e | e <;> subst e <;> simp [KP, CP]
theorem p4_ok {n : Nat} (h2 : 2 ≤ n) (h4 : n ≤ 4) : 4 ≤ 2 ^ n ∧ 2 ^ n ≤ 16 := by
  rcases (show n = 2 ∨ n = 3 ∨ n = 4 by omega) with e | e | e <;> subst e <;> decide
theorem aCons {m : ME} {ma : MA} {e e1 e2 : Ev} {x : D} {xs : List D} (h : m e = .ok x e1) (h2 : ma e1 = .ok xs e2) : maCons m ma e = .ok (x :: xs) e2 := by
  unfold maCons
  rw [h]
  dsimp only
  rw [h2]
theorem uRun {f : UF} {ma : MA} {e e1 : Ev} {ds : List D} {d : D} {o : Option D} (h : ma e = .ok ds e1) (h2 : f (ds.map Sl.va) = .ok d o) : mUser f ma e = .ok d e1 := by
  unfold mUser
  rw [h]
  dsimp only
  rw [h2]
theorem bRun {f : D → D → Option D} {m1 m2 : ME} {e e1 e2 : Ev} {x y d : D} (h : m1 e = .ok x e1) (h2 : m2 e1 = .ok y e2) (h3 : f x y = some d) : mB f m1 lId m2 lId e = .ok d e2 := by
  unfold mB
  rw [h]
  dsimp only
  rw [h2]
  dsimp only [lId]
  rw [h3]
theorem mi_ok (Q : D) (ns : List Int) (W : Nat) (lp : run__law_power [.va (.int 2), .va (.int (ns.length : Int))] = .ok (.int (W : Int)) none) (h4 : 4 ≤ W) (h16 : W ≤ 16) :
    (mRange2 (maCons (mC (.int 1)) (maCons (mB fSub (mUser run__law_power (maCons (mC (.int 2)) (maCons (mCall bLen (maCons (mPk 1) maNil) (laCons (lPk 1) laNil)) maNil))) lId (mC (.int 1)) lId) maNil))) (F2 Q ns [] .no .no .no .no .no .no .no .no) = .ok (ups 1 (W - 2)) (F2 Q ns [] .no .no .no .no .no .no .no .no) := by
  have le := len_lst ns
  have h1 : (maCons (mC (.int 2)) (maCons (mCall bLen (maCons (mPk 1) maNil) (laCons (lPk 1) laNil)) maNil)) (F2 Q ns [] .no .no .no .no .no .no .no .no) = .ok [.int 2, .int (ns.length : Int)] (F2 Q ns [] .no .no .no .no .no .no .no .no) := by
    unfold F2
    generalize ns.map D.int = N at *
    simp [le, slotD]
  have sb : fSub (.int (W : Int)) (.int 1) = some (.int ((W : Int) - 1)) := rfl
  have h2 := bRun (f := fSub) (uRun h1 lp) (m2 := mC (.int 1)) (y := .int 1) rfl sb
  have ha := aCons (m := mC (.int 1)) (e := F2 Q ns [] .no .no .no .no .no .no .no .no) rfl (aCons h2 (ma := maNil) rfl)
  have hb := big_nat (p := W - 1) (by omega)
  rw [show ((W - 1 : Nat) : Int) = (W : Int) - 1 by omega] at hb
  have r := range2_ok ha (big_nat (p := 1) (by decide)) hb
  rw [show (((W : Int) - 1) - 1).toNat = W - 2 by omega] at r
  exact r
theorem plans_ok {Q : D} {m : Nat} {ts : List D} {L : List Lk} {I : List Int} (q : QF Q m ts L I) : ∀ (f : Nat) (ns : List Int), 1 ≤ ns.length → ns.length ≤ 4 → ns.length ≤ f → ns.Nodup → (∀ k ∈ ns, 0 ≤ k ∧ k ≤ (m : Int) - 1) →
    ∃ F : List D, PlanF (run__law_plans f) Q m L I ns F := by
  intro f
  induction f with
  | zero => intro ns h1 _ hf; omega
  | succ f IH =>
    intro ns h1 h4 hf nd hb
    have le := len_lst ns
    have eq := eq_int (ns.length : Int) 1
    by_cases h : ns.length = 1
    · rw [decide_eq_true (by omega)] at eq
      refine ⟨ns.map D.int, ?_, ?_, ?_, ?_⟩
      · generalize ns.map D.int = N at *
        simp [run__law_plans, runF, m__law_plans, le, eq, bList, slotD, outOf]
      · intro z
        rw [List.map_eq_nil_iff] at z
        rw [z] at h
        simp at h
      · rw [List.length_map, h]; exact Nat.le_refl 1
      · intro v hv
        obtain ⟨i, hi, rfl⟩ := List.mem_map.mp hv
        have := hb i hi
        have hA : ns = [i] := by
          match ns, h, hi with
          | [x], _, hi => rw [List.mem_singleton.mp hi]
        rw [h]
        exact ⟨shape_num (by simp only [numB, Bool.and_eq_true, decide_eq_true_eq]; exact this), by simp [Ok], rfl, by rw [hA]; exact List.Perm.refl _⟩
    · rw [decide_eq_false (by omega)] at eq
      have ih : ∀ A : List Int, A.Sublist ns → A ≠ [] → A.length < ns.length → ∃ Fa, PlanF (run__law_plans f) Q m L I A Fa := fun A hs hn hl =>
        IH A (List.length_pos_iff.mpr hn) (by omega) (by omega) (hs.nodup nd) (fun k hk => hb k (hs.subset hk))
      have kp := kp_ok (n := ns.length) (by omega) h4
      have p4 := p4_ok (n := ns.length) (by omega) h4
      obtain ⟨G, t3, t4, t5, t6, t7, t8, t9, t10, e1, g1, m1, n1⟩ := num_loop q (run__law_plans f) ns (by omega) h4 nd ih (2 ^ ns.length - 2) 1 [] .no .no .no .no .no .no .no .no (by omega) (by omega) (by simp; omega)
      refine ⟨G, ?_, n1 (by omega), by omega, g1⟩
      have un : run__law_plans (f + 1) = runF 2 11 (m__law_plans (run__law_plans f)) := rfl
      rw [un]
      have fin : ∀ d e, m__law_plans (run__law_plans f) [.va Q, .va (.lst (ns.map D.int)), .no, .no, .no, .no, .no, .no, .no, .no, .no] = .rt d (.va Q :: e) → runF 2 11 (m__law_plans (run__law_plans f)) [.va Q, .va (.lst (ns.map D.int))] = .ok d none := fun d e q => run_rt (n := 2) (tot := 11) (args := [.va Q, .va (.lst (ns.map D.int))]) q
      generalize run__law_plans f = self at *
      have lp := lpow2 ns.length h4
      have s0 : (mIfS (mB fEq (mCall bLen (maCons (mPk 1) maNil) (laCons (lPk 1) laNil)) lId (mC (.int 1)) lId) (mRet (mCall bList (maCons (mPk 1) maNil) (laCons (lPk 1) laNil))) mSkip) [.va Q, .va (.lst (ns.map D.int)), .no, .no, .no, .no, .no, .no, .no, .no, .no] = .nx [.va Q, .va (.lst (ns.map D.int)), .no, .no, .no, .no, .no, .no, .no, .no, .no] := by
        generalize ns.map D.int = N at *
        simp [le, eq, slotD]
      have s1 : (mOwn 2 (mLst maNil)) [.va Q, .va (.lst (ns.map D.int)), .no, .no, .no, .no, .no, .no, .no, .no, .no] = .nx (F2 Q ns [] .no .no .no .no .no .no .no .no) := by
        unfold F2
        generalize ns.map D.int = N at *
        simp [slotD, line]
      have mi := mi_ok Q ns (2 ^ ns.length) lp p4.1 p4.2
      exact fin _ _ (seq_nx s0 (seq_nx s1 (seq_nx (for_ok mi e1) rfl)))
end GJ

set_option Elab.async false
set_option linter.all false
set_option maxRecDepth 100000
set_option maxHeartbeats 2000000
namespace GJ
open PySem L2 MP

/-! ### texts cut and joined -/
abbrev Tx : Type := List Nat
abbrev spl1 (c : Nat) (t : Tx) : List Tx := TL.spl [c] 0 [] t
abbrev jn1 (c : Nat) (L : List Tx) : Tx := TL.joinL [c] L
theorem spl_cons (c : Nat) (acc : Tx) (x : Nat) (r : Tx) : TL.spl [c] 0 acc (x :: r) = if x = c then acc :: TL.spl [c] 0 [] r else TL.spl [c] 0 (acc ++ [x]) r := by
  by_cases h : x = c
  · rw [if_pos h, TL.spl_hit (by simp [TL.pre, h])]
    rfl
  · rw [if_neg h, TL.spl_miss (by simp [TL.pre, h])]
theorem spl_ne (c : Nat) : ∀ (t acc : Tx), TL.spl [c] 0 acc t ≠ []
  | [], acc => by rw [TL.spl_nil]; simp
  | x :: r, acc => by
    rw [spl_cons]
    split
    · simp
    · exact spl_ne c r _
theorem jn_cons (c : Nat) (p : Tx) {L : List Tx} (h : L ≠ []) : jn1 c (p :: L) = p ++ (c :: jn1 c L) := by
  cases L with
  | nil => exact absurd rfl h
  | cons q r => rfl
theorem jn_spl' (c : Nat) : ∀ (t acc : Tx), jn1 c (TL.spl [c] 0 acc t) = acc ++ t
  | [], acc => by rw [TL.spl_nil]; simp [jn1, TL.joinL]
  | x :: r, acc => by
    rw [spl_cons]
    split
    · rename_i h
      rw [jn_cons c acc (spl_ne c r []), jn_spl' c r [], h]
      rfl
    · rw [jn_spl' c r]
      simp
theorem jn_spl (c : Nat) (t : Tx) : jn1 c (spl1 c t) = t := jn_spl' c t []
theorem spl_all {P : Nat → Prop} (c : Nat) : ∀ (t acc : Tx), (∀ x ∈ t, P x) → (∀ x ∈ acc, P x) → ∀ p ∈ TL.spl [c] 0 acc t, ∀ x ∈ p, P x
  | [], acc, _, ha, p, hp => by
    rw [TL.spl_nil] at hp
    rw [List.mem_singleton.mp hp]
    exact ha
  | y :: r, acc, ht, ha, p, hp => by
    rw [spl_cons] at hp
    have hr : ∀ x ∈ r, P x := fun x hx => ht x (List.mem_cons_of_mem _ hx)
    split at hp
    · rcases List.mem_cons.mp hp with e | hp
      · rw [e]; exact ha
      · exact spl_all c r [] hr (fun x hx => by simp at hx) p hp
    · refine spl_all c r _ hr (fun x hx => ?_) p hp
      rcases List.mem_append.mp hx with h | h
      · exact ha x h
      · rw [List.mem_singleton.mp h]; exact ht y List.mem_cons_self
theorem spl_free' (c : Nat) : ∀ (t acc : Tx), c ∉ acc → ∀ p ∈ TL.spl [c] 0 acc t, c ∉ p
  | [], acc, ha, p, hp => by
    rw [TL.spl_nil] at hp
    rw [List.mem_singleton.mp hp]
    exact ha
  | y :: r, acc, ha, p, hp => by
    rw [spl_cons] at hp
    split at hp
    · rcases List.mem_cons.mp hp with e | hp
      · rw [e]; exact ha
      · exact spl_free' c r [] (by simp) p hp
    · rename_i hy
      refine spl_free' c r _ (fun h => ?_) p hp
      rcases List.mem_append.mp h with h | h
      · exact ha h
      · exact hy (List.mem_singleton.mp h).symm
theorem spl_free1 (c : Nat) (t : Tx) : ∀ p ∈ spl1 c t, c ∉ p := spl_free' c t [] (by simp)
theorem spl_count (c : Nat) : ∀ (t acc : Tx), (TL.spl [c] 0 acc t).length ≤ t.length + 1
  | [], acc => by rw [TL.spl_nil]; simp
  | x :: r, acc => by
    rw [spl_cons]
    split
    · have := spl_count c r []
      simp only [List.length_cons]; omega
    · have := spl_count c r (acc ++ [x])
      simp only [List.length_cons]; omega
theorem spl_short (c : Nat) : ∀ (t acc : Tx), ∀ p ∈ TL.spl [c] 0 acc t, p.length ≤ acc.length + t.length
  | [], acc, p, hp => by
    rw [TL.spl_nil] at hp
    rw [List.mem_singleton.mp hp]
    simp
  | y :: r, acc, p, hp => by
    rw [spl_cons] at hp
    split at hp
    · rcases List.mem_cons.mp hp with e | hp
      · rw [e]; simp
      · have := spl_short c r [] p hp
        simp only [List.length_cons, List.length_nil] at *; omega
    · have := spl_short c r _ p hp
      simp only [List.length_cons, List.length_append, List.length_nil] at *; omega
theorem jn_iff (c : Nat) {L : List Tx} (h0 : L ≠ []) (hf : ∀ p ∈ L, c ∉ p) (t : Tx) : jn1 c L = t ↔ L = spl1 c t := by
  constructor
  · intro h
    rw [← h]
    exact (TL.spl_join (s := c) (S := []) h0 hf).symm
  · intro h
    rw [h, jn_spl]
theorem jn_len (c : Nat) : ∀ L : List Tx, (jn1 c L).length ≤ (L.map (·.length)).sum + L.length
  | [] => by simp [jn1, TL.joinL]
  | [p] => by simp [jn1, TL.joinL]
  | p :: q :: r => by
    have := jn_len c (q :: r)
    rw [jn_cons c p (by simp)]
    simp only [List.length_append, List.length_cons, List.map_cons, List.sum_cons] at *
    omega
/-! ### the texts of 0 .. 99 -/
def Asc (t : Tx) : Prop := ∀ c ∈ t, c < 128
def NUMS : List Tx := (List.range 100).map fun i : Nat => sI (i : Int)
def numT (w : Tx) : Option Int := match (List.range 100).find? (fun i : Nat => natsEq (sI (i : Int)) w) with
  | some i => some (i : Int)
  | none => none
def optI : Option Int → D
  | some i => .int i
  | none => .non
theorem any_strs (w : Tx) : ∀ L : List Tx, anyEq (.str w) (L.map D.str) = decide (w ∈ L)
  | [] => rfl
  | p :: L => by
    have ih := any_strs w L
    simp only [List.map_cons, anyEq, eqD, ih, natsEq_eq]
    by_cases h : p = w
    · subst h; simp
    · have h2 : w ≠ p := fun e => h e.symm
      simp [h, h2]
theorem flat_strs : ∀ L : List Tx, allFlat (L.map D.str) = true
  | [] => rfl
  | p :: L => by simp only [List.map_cons, allFlat, flatD, flat_strs L]
theorem in_strs (w : Tx) (L : List Tx) : fIn (.str w) (.lst (L.map D.str)) = some (.bl (decide (w ∈ L))) := by
  simp only [fIn, inOf, flatD, flat_strs, any_strs]
theorem nin_strs (w : Tx) (L : List Tx) : fNotIn (.str w) (.lst (L.map D.str)) = some (.bl (!decide (w ∈ L))) := by
  simp only [fNotIn, inOf, flatD, flat_strs, any_strs]
theorem numT_some {w : Tx} {i : Int} (h : numT w = some i) : ∃ k : Nat, i = (k : Int) ∧ k < 100 ∧ w = sI (k : Int) := by
  unfold numT at h
  split at h
  · rename_i k hk
    cases h
    have h1 := List.find?_some hk
    have h2 := List.mem_of_find?_eq_some hk
    exact ⟨k, rfl, by simpa using h2, (natsEq_iff.mp h1).symm⟩
  · cases h
theorem numT_mem (w : Tx) : (numT w).isSome = decide (w ∈ NUMS) := by
  cases h : numT w with
  | some i =>
    obtain ⟨k, _, k2, rfl⟩ := numT_some h
    have : sI (k : Int) ∈ NUMS := List.mem_map.mpr ⟨k, by simpa using k2, rfl⟩
    simp [this]
  | none =>
    have : w ∉ NUMS := fun hm => by
      obtain ⟨k, hk, rfl⟩ := List.mem_map.mp hm
      unfold numT at h
      split at h
      · cases h
      · rename_i hn
        have := List.find?_eq_none.mp hn k hk
        exact this (natsEq_iff.mpr rfl)
    simp [this]
def chkI : Bool := (List.range 100).all fun i : Nat => (match bIntX [.str (sI (i : Int))] with
  | some (.int j) => decide (j = (i : Int))
  | _ => false) && ((sI (i : Int)).all (fun c => Nat.blt c 58 && Nat.blt 47 c) && Nat.blt (sI (i : Int)).length 3)
theorem chkI_ok : chkI = true := by decide +kernel
theorem int_num {k : Nat} (h : k < 100) : bIntX [.str (sI (k : Int))] = some (.int (k : Int)) := by
  have := List.all_eq_true.mp chkI_ok k (by simpa using h)
  simp only [Bool.and_eq_true] at this
  have t := this.1
  split at t
  · rename_i j e
    rw [e, of_decide_eq_true t]
  · cases t
theorem sI_digits {k : Nat} (h : k < 100) : ∀ c ∈ sI (k : Int), 48 ≤ c ∧ c < 58 := fun c hc => by
  have := List.all_eq_true.mp chkI_ok k (by simpa using h)
  simp only [Bool.and_eq_true] at this
  have t := List.all_eq_true.mp this.2.1 c hc
  simp only [Bool.and_eq_true] at t
  exact ⟨Nat.le_of_ble_eq_true t.2, Nat.le_of_ble_eq_true t.1⟩
theorem sI_len {k : Nat} (h : k < 100) : (sI (k : Int)).length < 3 := by
  have := List.all_eq_true.mp chkI_ok k (by simpa using h)
  simp only [Bool.and_eq_true] at this
  exact Nat.le_of_ble_eq_true this.2.2
theorem strI {k : Int} (h0 : 0 ≤ k) (h : k < 100) : bStrI [.int k] = some (.str (sI k)) := by
  have : Nat.blt k.natAbs.log2 1920 = true := by
    have h1 : k.natAbs < 2 ^ 100 := by
      have : k.natAbs < 100 := by omega
      omega
    by_cases hz : k.natAbs = 0
    · rw [hz]; decide
    · have := (Nat.log2_lt hz).mpr h1
      rw [blt_dec]; exact decide_eq_true (by omega)
  show (match Nat.blt k.natAbs.log2 1920 with | true => some (D.str (sI k)) | false => none) = _
  rw [this]
theorem number_in_ok (w : Tx) : run_number_in [.va (.str w)] = .ok (optI (numT w)) none := by
  have l1 : mAsV (mLc (mRange1 (maCons (mC (.int 100)) maNil)) [1] (mgName 1) mYes (mCall bStrI (maCons (mPk 1) maNil) (laCons (lPk 1) laNil))) [.va (.str w), .no] = .ok (.lst (NUMS.map D.str)) [.va (.str w), .no] := by
    kernel_rfl
  have l2 := in_strs w NUMS
  have l3 := numT_mem w
  cases h : numT w with
  | some i =>
    obtain ⟨k, rfl, k2, rfl⟩ := numT_some h
    rw [h] at l3
    rw [← l3] at l2
    rw [Option.isSome_some] at l2
    have l4 := int_num k2
    generalize NUMS.map D.str = NN at *
    simp only [run_number_in, runF, m_number_in]
    generalize mAsV (mLc (mRange1 (maCons (mC (.int 100)) maNil)) [1] (mgName 1) mYes (mCall bStrI (maCons (mPk 1) maNil) (laCons (lPk 1) laNil))) = M at *
    simp [l1, l2, l4, optI, slotD, outOf]
  | none =>
    rw [h] at l3
    rw [← l3] at l2
    rw [Option.isSome_none] at l2
    generalize NUMS.map D.str = NN at *
    simp only [run_number_in, runF, m_number_in]
    generalize mAsV (mLc (mRange1 (maCons (mC (.int 100)) maNil)) [1] (mgName 1) mYes (mCall bStrI (maCons (mPk 1) maNil) (laCons (lPk 1) laNil))) = M at *
    simp [l1, l2, optI, slotD, outOf]
end GJ

set_option Elab.async false
set_option linter.all false
set_option maxRecDepth 100000
set_option maxHeartbeats 2000000
namespace GJ
open PySem L2 MP

/-! ### a line -/
theorem split_ok (c : Nat) (hc : c < 256) {t : Tx} (h : t.length ≤ 1000000) : fSplit (.str t) (.str [c]) = some (.lst ((spl1 c t).map D.str)) := by
  simp only [fSplit, List.length_cons, List.length_nil, List.all_cons, List.all_nil, Bool.and_true, blt_dec, ble_dec, line]
  have : t.length + 2 ≤ 16777216 := by omega
  simp [hc, this]
abbrev LEN : KvL := [([116, 97, 98, 108, 101], 2), ([108, 105, 110, 107], 4), ([105, 110, 100, 101, 120], 1)]
def rowW : List Tx → Option (Tx × List Int)
  | [] => none
  | h :: r => (match kvGet LEN h with
    | some k => (match decide ((r.length : Int) = k) && !(r.any fun w => (numT w).isNone) with
      | true => some (h, r.filterMap numT)
      | false => none)
    | none => none)
def rowOf (l : Tx) : Option (Tx × List Int) := rowW (spl1 32 l)
def rowD : Option (Tx × List Int) → D
  | none => .non
  | some p => .tup [.str p.1, .tup (p.2.map D.int)]
theorem none_in (r : List Tx) : fIn .non (.tup (r.map fun w => optI (numT w))) = some (.bl (r.any fun w => (numT w).isNone)) := by
  have f : ∀ r : List Tx, allFlat (r.map fun w => optI (numT w)) = true := fun r => by
    induction r with
    | nil => rfl
    | cons w r ih =>
      simp only [List.map_cons, allFlat, ih]
      cases numT w <;> rfl
  have a : ∀ r : List Tx, anyEq .non (r.map fun w => optI (numT w)) = r.any fun w => (numT w).isNone := fun r => by
    induction r with
    | nil => rfl
    | cons w r ih =>
      simp only [List.map_cons, anyEq, List.any_cons, ih]
      cases numT w <;> rfl
  simp only [fIn, inOf, flatD, f, a]
theorem opt_map : ∀ r : List Tx, (r.any fun w => (numT w).isNone) = false → r.map (fun w => optI (numT w)) = (r.filterMap numT).map D.int
  | [], _ => rfl
  | w :: r, h => by
    simp only [List.any_cons, Bool.or_eq_false_iff] at h
    have ih := opt_map r h.2
    cases e : numT w with
    | none => rw [e] at h; simp at h
    | some i =>
      rw [List.map_cons, List.filterMap_cons, ih]
      simp only [e, List.map_cons]
      rfl
theorem row_in_ok {l : Tx} (hl : l.length ≤ 1000000) : run_row_in [.va (.str l)] = .ok (rowD (rowOf l)) none := by
  have sp := split_ok 32 (by decide) hl
  have hc := spl_count 32 l []
  unfold rowOf
  cases hw : spl1 32 l with
  | nil => exact absurd hw (spl_ne 32 l [])
  | cons h r =>
    rw [hw] at sp
    have hr : r.length ≤ 1000001 := by
      have : (spl1 32 l).length = r.length + 1 := by rw [hw]; rfl
      have h2 : (spl1 32 l).length ≤ l.length + 1 := hc
      omega
    have lc : lcGo (mgName 3) mYes (mUser run_number_in (maCons (mVar 3) maNil)) [.va (.str l), .va (.lst ((h :: r).map D.str)), .no, .no] (r.map D.str) [] = some ((r.map D.str).map fun d => match d with | .str w => optI (numT w) | _ => .non) :=
      lc_all fun d hd => by
        obtain ⟨w, _, rfl⟩ := List.mem_map.mp hd
        exact ⟨[.va (.str l), .va (.lst ((h :: r).map D.str)), .no, .va (.str w)], _, by simp, by simp [number_in_ok, slotD]; rfl⟩
    rw [List.map_map] at lc
    have lc : lcGo (mgName 3) mYes (mUser run_number_in (maCons (mVar 3) maNil)) [.va (.str l), .va (.lst ((h :: r).map D.str)), .no, .no] (r.map D.str) [] = some (r.map fun w => optI (numT w)) := lc
    have it : ((mIt (mSl (mPk 1) (lPk 1) (mPrt (mC (.int 1))) (mC .non)))) [.va (.str l), .va (.lst ((h :: r).map D.str)), .no, .no] = .ok (r.map D.str) [.va (.str l), .va (.lst ((h :: r).map D.str)), .no, .no] := by
      have : cutD ((h :: r).map D.str) (some 1) none = r.map D.str := by
        have := cutD_from ((h :: r).map D.str) 1
        rw [show ((1 : Nat) : Int) = 1 from rfl] at this
        rw [this]
        rfl
      rw [List.map_cons] at *
      simp [fSl, prt, this, slotD]
    have lr := lc_run (vs := [3]) it (by rw [List.length_map]; omega) rfl lc
    have s0 : (mSet 1 (mM1 fSplit (mVar 0) (mC (.str [32])) lId)) [.va (.str l), .no, .no, .no] = .nx [.va (.str l), .va (.lst ((h :: r).map D.str)), .no, .no] := by
      rw [List.map_cons] at *
      simp [sp]
    have ni := none_in r
    have i0 : fIx (.lst ((h :: r).map D.str)) (.int 0) = some (.str h) := by simp [fIx, ixD]
    have s1 : (mSet 2 (mCall bTuple (maCons (mAsV (mLc (mIt (mSl (mPk 1) (lPk 1) (mPrt (mC (.int 1))) (mC .non))) [3] (mgName 3) mYes (mUser run_number_in (maCons (mVar 3) maNil)))) maNil) (laCons lId laNil))) [.va (.str l), .va (.lst ((h :: r).map D.str)), .no, .no] = .nx [.va (.str l), .va (.lst ((h :: r).map D.str)), .va (.tup (r.map fun w => optI (numT w))), .no] := by
      refine set_run (e1 := [.va (.str l), .va (.lst ((h :: r).map D.str)), .no, .no]) (d := .tup (r.map fun w => optI (numT w))) ?_ rfl rfl
      rw [mCall_ap, maCons_ap, lr]
      simp [bTuple]
    have ln : bLen [.tup (r.map fun w => optI (numT w))] = some (.int (r.length : Int)) := by simp [bLen]
    have ne := ne_int (r.length : Int)
    have om := opt_map r
    generalize hW : (h :: r).map D.str = W at *
    generalize hN : (r.map fun w => optI (numT w)) = NN at *
    have fin : ∀ {d : D} {e : Ev}, (mSeq (mIfS (mOr (mKIn [([116, 97, 98, 108, 101], 2), ([108, 105, 110, 107], 4), ([105, 110, 100, 101, 120], 1)] (mB fIx (mPk 1) (lPk 1) (mC (.int 0)) lId)) (mOr (mB fNe (mCall bLen (maCons (mPk 2) maNil) (laCons (lPk 2) laNil)) lId (mKGet [([116, 97, 98, 108, 101], 2), ([108, 105, 110, 107], 4), ([105, 110, 100, 101, 120], 1)] (mB fIx (mPk 1) (lPk 1) (mC (.int 0)) lId)) lId) (mB fIn (mC .non) lId (mPk 2) (lPk 2)))) (mRet (mC .non)) mSkip) (mRet (mTup (maCons (mB fIx (mPk 1) (lPk 1) (mC (.int 0)) lId) (maCons (mVar 2) maNil))))) [.va (.str l), .va (.lst W), .va (.tup NN), .no] = .rt d (.va (.str l) :: e) → run_row_in [.va (.str l)] = .ok d none := fun {d e} q => by
      have := run_rt (n := 1) (tot := 4) (m := m_row_in) (args := [.va (.str l)]) (seq_nx s0 (seq_nx s1 q))
      exact this
    simp only [rowW]
    cases hk : kvGet LEN h with
    | none =>
      refine fin (e := [.va (.lst W), .va (.tup NN), .no]) (seq_rt (if_tt (e1 := [.va (.str l), .va (.lst W), .va (.tup NN), .no]) ?_ rfl))
      simp [i0, hk, slotD]
    | some k =>
      dsimp only
      by_cases hn : (r.length : Int) = k
      · subst hn
        rw [decide_eq_true rfl, Bool.true_and]
        cases ha : r.any fun w => (numT w).isNone with
        | true =>
          rw [ha] at ni
          refine fin (e := [.va (.lst W), .va (.tup NN), .no]) (seq_rt (if_tt (e1 := [.va (.str l), .va (.lst W), .va (.tup NN), .no]) ?_ rfl))
          simp [i0, hk, ln, ne, ni, slotD]
        | false =>
          rw [ha] at ni
          refine fin (e := [.va (.lst W), .va (.tup NN), .no]) (seq_nx (if_ff (e1 := [.va (.str l), .va (.lst W), .va (.tup NN), .no]) ?_ rfl) ?_)
          · simp [i0, hk, ln, ne, ni, slotD]
          · rw [om ha]
            simp [i0, rowD, slotD, line]
      · rw [decide_eq_false hn, Bool.false_and]
        refine fin (e := [.va (.lst W), .va (.tup NN), .no]) (seq_rt (if_tt (e1 := [.va (.str l), .va (.lst W), .va (.tup NN), .no]) ?_ rfl))
        simp [i0, hk, ln, ne, hn, slotD]
end GJ

set_option Elab.async false
set_option linter.all false
set_option maxRecDepth 100000
set_option maxHeartbeats 2000000
namespace GJ
open PySem L2 MP

/-! ### the law's reading of a line -/
abbrev KS3 : List Ky := [.inr [116, 97, 98, 108, 101], .inr [108, 105, 110, 107], .inr [105, 110, 100, 101, 120]]
theorem nlEq_dec (a b : Tx) : nlEq a b = decide (a = b) := by
  rw [Bool.eq_iff_iff, nlEq_iff, decide_eq_true_iff]
theorem dget_len (h : Tx) : dget KS3 [.int 3, .int 5, .int 2] (.inr h) = (kvGet LEN h).map fun k => D.int (k + 1) := by
  have e : ∀ a : Tx, decide ((Sum.inr a : Ky) = .inr h) = decide (a = h) := fun a => by
    rw [Bool.eq_iff_iff, decide_eq_true_iff, decide_eq_true_iff]
    exact ⟨fun q => Sum.inr.inj q, fun q => by rw [q]⟩
  simp only [dget, kvGet, nlEq_dec, e]
  by_cases h1 : ([116, 97, 98, 108, 101] : Tx) = h
  · simp [h1]
  · by_cases h2 : ([108, 105, 110, 107] : Tx) = h
    · simp [h1, h2]
    · by_cases h3 : ([105, 110, 100, 101, 120] : Tx) = h
      · simp [h1, h2, h3]
      · simp [h1, h2, h3]
theorem ok_str {w : Tx} (n : Nat) (h : Asc w) : okD n (.str w) = true := by
  simp only [okD, List.all_eq_true]
  exact fun c hc => by rw [blt_dec]; exact decide_eq_true (by have := h c hc; omega)
theorem ok_strs (n : Nat) : ∀ L : List Tx, (∀ w ∈ L, Asc w) → okL n (L.map D.str) = true
  | [], _ => rfl
  | w :: L, h => by
    simp only [List.map_cons, okL, ok_str n (h w List.mem_cons_self), ok_strs n L fun x hx => h x (List.mem_cons_of_mem _ hx)]
theorem ne_nil (L : List Tx) (h : ∀ w ∈ L, Asc w) : fNe (.lst (L.map D.str)) (.lst []) = some (.bl (!L.isEmpty)) := by
  have o := ok_strs 63 L h
  cases L with
  | nil => rfl
  | cons w L =>
    simp only [fNe]
    rw [show okD 64 (.lst ((w :: L).map D.str)) = okL 63 ((w :: L).map D.str) from rfl, o]
    rfl
theorem filter_mt (r : List Tx) : (r.filter fun w => !decide (w ∈ NUMS)).isEmpty = !(r.any fun w => (numT w).isNone) := by
  induction r with
  | nil => rfl
  | cons w r ih =>
    have hm := numT_mem w
    rw [List.any_cons, List.filter_cons]
    cases e : numT w with
    | some i =>
      rw [e] at hm
      rw [← hm]
      simpa using ih
    | none =>
      rw [e] at hm
      rw [← hm]
      simp
theorem spl_asc {c : Nat} {t : Tx} (h : Asc t) : ∀ p ∈ spl1 c t, Asc p := spl_all (P := fun x => x < 128) c t [] h (fun x hx => by simp at hx)
theorem law_row_ok {l : Tx} (hl : l.length ≤ 1000000) (ha0 : Asc l) : run__law_row [.va (.str l)] = .ok (rowD (rowOf l)) none := by
  have sp := split_ok 32 (by decide) hl
  have hc := spl_count 32 l []
  have hasc := spl_asc (c := 32) ha0
  unfold rowOf
  cases hw : spl1 32 l with
  | nil => exact absurd hw (spl_ne 32 l [])
  | cons h r =>
    rw [hw] at sp hasc
    have hr : r.length ≤ 1000001 := by
      have : (spl1 32 l).length = r.length + 1 := by rw [hw]; rfl
      have h2 : (spl1 32 l).length ≤ l.length + 1 := hc
      omega
    have i0 : fIx (.lst ((h :: r).map D.str)) (.int 0) = some (.str h) := by simp [fIx, ixD]
    have ln : bLen [.lst ((h :: r).map D.str)] = some (.int ((r.length : Int) + 1)) := by simp [bLen]
    have dg := dget_len h
    have cut : fSl (.lst ((h :: r).map D.str)) (some 1) none = some (.lst (r.map D.str)) := by
      have := cutD_from ((h :: r).map D.str) 1
      rw [show ((1 : Nat) : Int) = 1 from rfl] at this
      simp only [fSl, this]
      rfl
    generalize hW : (h :: r).map D.str = W at *
    have s0 : (mSet 1 (mM1 fSplit (mVar 0) (mC (.str [32])) lId)) [.va (.str l), .no, .no, .no, .no, .no] = .nx [.va (.str l), .va (.lst W), .no, .no, .no, .no] := by
      simp [sp]
    have s1 : (mOwn 2 (mDispC [.inr [116, 97, 98, 108, 101], .inr [108, 105, 110, 107], .inr [105, 110, 100, 101, 120]] [3, 5, 2])) [.va (.str l), .va (.lst W), .no, .no, .no, .no] = .nx [.va (.str l), .va (.lst W), .ow (.dct KS3 [.int 3, .int 5, .int 2]), .no, .no, .no] := by
      simp
    have fin : ∀ {d : D} {e : Ev}, (mSeq (mIfS (mOr (mDIn true 2 (mB fIx (mPk 1) (lPk 1) (mC (.int 0)) lId)) (mB fNe (mCall bLen (maCons (mPk 1) maNil) (laCons (lPk 1) laNil)) lId (mDGet 2 (mB fIx (mPk 1) (lPk 1) (mC (.int 0)) lId)) lId)) (mRet (mC .non)) mSkip) (mSeq (mSet 3 (mAsV (mLc (mRange1 (maCons (mC (.int 100)) maNil)) [4] (mgName 4) mYes (mCall bStrI (maCons (mPk 4) maNil) (laCons (lPk 4) laNil))))) (mSeq (mIfS (mB fNe (mAsV (mLc (mIt (mSl (mPk 1) (lPk 1) (mPrt (mC (.int 1))) (mC .non))) [5] (mgName 5) (mB fNotIn (mPk 5) (lPk 5) (mPk 3) (lPk 3)) (mVar 5))) lId (mLst maNil) lId) (mRet (mC .non)) mSkip) (mRet (mTup (maCons (mB fIx (mPk 1) (lPk 1) (mC (.int 0)) lId) (maCons (mCall bTuple (maCons (mAsV (mLc (mIt (mSl (mPk 1) (lPk 1) (mPrt (mC (.int 1))) (mC .non))) [5] (mgName 5) mYes (mCall bIntX (maCons (mPk 5) maNil) (laCons (lPk 5) laNil)))) maNil) (laCons lId laNil)) maNil))))))) [.va (.str l), .va (.lst W), .ow (.dct KS3 [.int 3, .int 5, .int 2]), .no, .no, .no] = .rt d (.va (.str l) :: e) → run__law_row [.va (.str l)] = .ok d none := fun {d e} q => by
      have := run_rt (n := 1) (tot := 6) (m := m__law_row) (args := [.va (.str l)]) (seq_nx s0 (seq_nx s1 q))
      exact this
    generalize hDV : ([.int 3, .int 5, .int 2] : List D) = DV at *
    generalize hKS : KS3 = KS at *
    simp only [rowW]
    cases hk : kvGet LEN h with
    | none =>
      rw [hk] at dg
      refine fin (e := [.va (.lst W), .ow (.dct KS DV), .no, .no, .no]) (seq_rt (if_tt (e1 := [.va (.str l), .va (.lst W), .ow (.dct KS DV), .no, .no, .no]) ?_ rfl))
      simp [i0, dg, slotD, kyD, dctAt]
    | some k =>
      rw [hk] at dg
      dsimp only
      have ne := ne_int ((r.length : Int) + 1) (k + 1)
      by_cases hn : (r.length : Int) = k
      · subst hn
        rw [decide_eq_true rfl, Bool.true_and]
        rw [decide_eq_true rfl] at ne
        have s2 : (mIfS (mOr (mDIn true 2 (mB fIx (mPk 1) (lPk 1) (mC (.int 0)) lId)) (mB fNe (mCall bLen (maCons (mPk 1) maNil) (laCons (lPk 1) laNil)) lId (mDGet 2 (mB fIx (mPk 1) (lPk 1) (mC (.int 0)) lId)) lId)) (mRet (mC .non)) mSkip) [.va (.str l), .va (.lst W), .ow (.dct KS DV), .no, .no, .no] = .nx [.va (.str l), .va (.lst W), .ow (.dct KS DV), .no, .no, .no] := by
          refine if_ff (e1 := [.va (.str l), .va (.lst W), .ow (.dct KS DV), .no, .no, .no]) ?_ rfl
          simp [i0, dg, ln, ne, slotD, kyD, dctAt]
        have s3 : (mSet 3 (mAsV (mLc (mRange1 (maCons (mC (.int 100)) maNil)) [4] (mgName 4) mYes (mCall bStrI (maCons (mPk 4) maNil) (laCons (lPk 4) laNil))))) [.va (.str l), .va (.lst W), .ow (.dct KS DV), .no, .no, .no] = .nx [.va (.str l), .va (.lst W), .ow (.dct KS DV), .va (.lst (NUMS.map D.str)), .no, .no] := by
          refine set_run (e1 := [.va (.str l), .va (.lst W), .ow (.dct KS DV), .no, .no, .no]) (d := .lst (NUMS.map D.str)) ?_ rfl rfl
          kernel_rfl
        have nin := fun w => nin_strs w NUMS
        have itn := @int_num
        generalize hNN : NUMS.map D.str = NN at *
        have it : (mIt (mSl (mPk 1) (lPk 1) (mPrt (mC (.int 1))) (mC .non))) [.va (.str l), .va (.lst W), .ow (.dct KS DV), .va (.lst NN), .no, .no] = .ok (r.map D.str) [.va (.str l), .va (.lst W), .ow (.dct KS DV), .va (.lst NN), .no, .no] := by
          simp [cut, prt, slotD]
        have lc := lc_gen (mg := mgName 5) (mt := mB fNotIn (mPk 5) (lPk 5) (mPk 3) (lPk 3)) (me := mVar 5) (benv := [.va (.str l), .va (.lst W), .ro (.dct KS DV), .va (.lst NN), .no, .no]) (g := fun d => match d with | .str w => !decide (w ∈ NUMS) | _ => false) (h := id) (ds := r.map D.str) (acc := []) (fun d hd => by
          obtain ⟨w, _, rfl⟩ := List.mem_map.mp hd
          exact ⟨[.va (.str l), .va (.lst W), .ro (.dct KS DV), .va (.lst NN), .no, .va (.str w)], [.va (.str l), .va (.lst W), .ro (.dct KS DV), .va (.lst NN), .no, .va (.str w)], [.va (.str l), .va (.lst W), .ro (.dct KS DV), .va (.lst NN), .no, .va (.str w)], by simp, by simp [nin, slotD], fun _ => by simp⟩)
        have ef : ((r.map D.str).filter fun d => match d with | .str w => !decide (w ∈ NUMS) | _ => false) = (r.filter fun w => !decide (w ∈ NUMS)).map D.str := by
          rw [List.filter_map]
          rfl
        rw [ef, List.map_id, List.nil_append] at lc
        have lr := lc_run (vs := [5]) it (by rw [List.length_map]; omega) rfl lc
        have nn := ne_nil (r.filter fun w => !decide (w ∈ NUMS)) (fun w hm => hasc w (List.mem_cons_of_mem _ (List.mem_filter.mp hm).1))
        rw [filter_mt, Bool.not_not] at nn
        generalize hFF : (r.filter fun w => !decide (w ∈ NUMS)).map D.str = FF at *
        have c4 : ∀ b, fNe (.lst FF) (.lst []) = some (.bl b) → (mB fNe (mAsV (mLc (mIt (mSl (mPk 1) (lPk 1) (mPrt (mC (.int 1))) (mC .non))) [5] (mgName 5) (mB fNotIn (mPk 5) (lPk 5) (mPk 3) (lPk 3)) (mVar 5))) lId (mLst maNil) lId) [.va (.str l), .va (.lst W), .ow (.dct KS DV), .va (.lst NN), .no, .no] = .ok (.bl b) [.va (.str l), .va (.lst W), .ow (.dct KS DV), .va (.lst NN), .no, .no] := fun b hb => bRun lr (by simp [line]) hb
        cases ha : r.any fun w => (numT w).isNone with
        | true =>
          rw [ha] at nn
          exact fin (e := [.va (.lst W), .ow (.dct KS DV), .va (.lst NN), .no, .no]) (seq_nx s2 (seq_nx s3 (seq_rt (if_tt (c4 _ nn) rfl))))
        | false =>
          rw [ha] at nn
          refine fin (e := [.va (.lst W), .ow (.dct KS DV), .va (.lst NN), .no, .no]) (seq_nx s2 (seq_nx s3 (seq_nx (if_ff (c4 _ nn) rfl) ?_)))
          have lc2 := lc_all (mg := mgName 5) (me := mCall bIntX (maCons (mPk 5) maNil) (laCons (lPk 5) laNil)) (benv := [.va (.str l), .va (.lst W), .ro (.dct KS DV), .va (.lst NN), .no, .no]) (h := fun d => match d with | .str w => optI (numT w) | _ => .non) (ds := r.map D.str) (fun d hd => by
            obtain ⟨w, hw2, rfl⟩ := List.mem_map.mp hd
            have hs : (numT w).isNone = false := Bool.eq_false_iff.mpr (List.any_eq_false.mp ha w hw2)
            cases e : numT w with
            | none => rw [e] at hs; cases hs
            | some i =>
              obtain ⟨k, rfl, k2, rfl⟩ := numT_some e
              have b := itn k2
              exact ⟨[.va (.str l), .va (.lst W), .ro (.dct KS DV), .va (.lst NN), .no, .va (.str (sI (k : Int)))], [.va (.str l), .va (.lst W), .ro (.dct KS DV), .va (.lst NN), .no, .va (.str (sI (k : Int)))], by simp, by simp [b, e, optI, slotD]⟩)
          rw [List.map_map] at lc2
          have lc2 : lcGo (mgName 5) mYes (mCall bIntX (maCons (mPk 5) maNil) (laCons (lPk 5) laNil)) [.va (.str l), .va (.lst W), .ro (.dct KS DV), .va (.lst NN), .no, .no] (r.map D.str) [] = some (r.map fun w => optI (numT w)) := lc2
          rw [opt_map r ha] at lc2
          have lr2 := lc_run (vs := [5]) it (by rw [List.length_map]; omega) rfl lc2
          generalize hRR : (r.filterMap numT).map D.int = RR at *
          generalize mAsV (mLc (mIt (mSl (mPk 1) (lPk 1) (mPrt (mC (.int 1))) (mC .non))) [5] (mgName 5) mYes (mCall bIntX (maCons (mPk 5) maNil) (laCons (lPk 5) laNil))) = M2 at *
          simp [i0, lr2, bTuple, rowD, slotD, line, hRR]
      · rw [decide_eq_false hn, Bool.false_and]
        have hn2 : ¬ (r.length : Int) + 1 = k + 1 := by omega
        rw [decide_eq_false hn2] at ne
        refine fin (e := [.va (.lst W), .ow (.dct KS DV), .no, .no, .no]) (seq_rt (if_tt (e1 := [.va (.str l), .va (.lst W), .ow (.dct KS DV), .no, .no, .no]) ?_ rfl))
        simp [i0, dg, ln, ne, slotD, kyD, dctAt]
end GJ

set_option Elab.async false
set_option linter.all false
set_option maxRecDepth 100000
set_option maxHeartbeats 2000000
namespace GJ
open PySem L2 MP

/-! ### lines written -/
def lineT (w : Tx) (ns : List Int) : Tx := jn1 32 (w :: ns.map sI)
theorem txts_map : ∀ L : List Tx, txtsOf (L.map D.str) = some L
  | [] => rfl
  | t :: L => by simp only [List.map_cons, txtsOf, txts_map L]
theorem join_ok (c : Nat) (L : List Tx) (h : (L.map (·.length)).sum + L.length ≤ 16777216) : fJoin (.str [c]) (.lst (L.map D.str)) = some (.str (jn1 c L)) := by
  simp only [fJoin, txts_map, List.length_cons, List.length_nil, ble_dec]
  have h' : (List.map (fun x : List Nat => x.length) L).sum + L.length ≤ 16777216 := h
  rw [decide_eq_true (by omega)]
structure In99 (ns : List Int) : Prop where
  h : ∀ n ∈ ns, 0 ≤ n ∧ n < 100
theorem In99.nat {ns : List Int} (q : In99 ns) {n : Int} (h : n ∈ ns) : ∃ k : Nat, n = (k : Int) ∧ k < 100 := by
  have := q.h n h
  exact ⟨n.toNat, by omega, by omega⟩
theorem len_sum (B : Nat) : ∀ L : List Tx, (∀ t ∈ L, t.length ≤ B) → (L.map (·.length)).sum ≤ L.length * B
  | [], _ => by simp
  | t :: L, h => by
    have h1 := h t List.mem_cons_self
    have h2 := len_sum B L fun x hx => h x (List.mem_cons_of_mem _ hx)
    simp only [List.map_cons, List.sum_cons, List.length_cons, Nat.succ_mul]
    omega
theorem line_of_ok (w : Tx) (ns : List Int) (hw : w.length ≤ 10) (hn : In99 ns) (hl : ns.length ≤ 10) : run_line_of [.va (.str w), .va (.tup (ns.map D.int))] = .ok (.str (lineT w ns)) none := by
  have lc : lcGo (mgName 2) mYes (mCall bStrI (maCons (mPk 2) maNil) (laCons (lPk 2) laNil)) [.va (.str w), .va (.tup (ns.map D.int)), .no] (ns.map D.int) [] = some ((ns.map D.int).map fun d => match d with | .int i => .str (sI i) | _ => .non) :=
    lc_all fun d hd => by
      obtain ⟨n, hm, rfl⟩ := List.mem_map.mp hd
      have b := strI (hn.h n hm).1 (hn.h n hm).2
      exact ⟨[.va (.str w), .va (.tup (ns.map D.int)), .va (.int n)], [.va (.str w), .va (.tup (ns.map D.int)), .va (.int n)], by simp, by simp [b, slotD]⟩
  rw [List.map_map] at lc
  have lc : lcGo (mgName 2) mYes (mCall bStrI (maCons (mPk 2) maNil) (laCons (lPk 2) laNil)) [.va (.str w), .va (.tup (ns.map D.int)), .no] (ns.map D.int) [] = some ((ns.map sI).map D.str) := by
    rw [lc, List.map_map]
    rfl
  have lr := lc_run (mi := mIt (mVar 1)) (vs := [2]) (e := [.va (.str w), .va (.tup (ns.map D.int)), .no]) (e1 := [.va (.str w), .va (.tup (ns.map D.int)), .no]) (by simp) (by rw [List.length_map]; omega) rfl lc
  have sm : (((w :: ns.map sI)).map (·.length)).sum + (w :: ns.map sI).length ≤ 16777216 := by
    have := len_sum 10 (w :: ns.map sI) (fun t ht => by
      rcases List.mem_cons.mp ht with e | ht
      · rw [e]; exact hw
      · obtain ⟨n, hm, rfl⟩ := List.mem_map.mp ht
        obtain ⟨k, rfl, hk⟩ := hn.nat hm
        have := sI_len hk
        omega)
    simp only [List.length_cons, List.length_map] at *
    omega
  have jn := join_ok 32 (w :: ns.map sI) sm
  have ad : fAdd (.lst [.str w]) (.lst ((ns.map sI).map D.str)) = some (.lst ((w :: ns.map sI).map D.str)) := by
    simp only [fAdd, List.length_cons, List.length_nil, List.length_map, ble_dec, line]
    rw [decide_eq_true (by omega)]
    rfl
  have hM := bRun (m1 := mLst (maCons (mVar 0) maNil)) (e := [.va (.str w), .va (.tup (ns.map D.int)), .no]) (e1 := [.va (.str w), .va (.tup (ns.map D.int)), .no]) (x := .lst [.str w]) (by simp [line]) lr ad
  have fin : m_line_of [.va (.str w), .va (.tup (ns.map D.int)), .no] = .rt (.str (lineT w ns)) [.va (.str w), .va (.tup (ns.map D.int)), .no] := by
    unfold m_line_of
    generalize mB fAdd (mLst (maCons (mVar 0) maNil)) lId (mAsV (mLc (mIt (mVar 1)) [2] (mgName 2) mYes (mCall bStrI (maCons (mPk 2) maNil) (laCons (lPk 2) laNil)))) lId = M at *
    generalize (w :: ns.map sI).map D.str = A1 at *
    generalize ns.map D.int = NI at *
    simp [hM, jn, lineT]
  exact run_rt (n := 2) (tot := 3) (m := m_line_of) (args := [.va (.str w), .va (.tup (ns.map D.int))]) fin
end GJ

set_option Elab.async false
set_option linter.all false
set_option maxRecDepth 100000
set_option maxHeartbeats 2000000
namespace GJ
open PySem L2 MP

/-! ### questions written -/
abbrev wT : Tx := [116, 97, 98, 108, 101]
abbrev wL : Tx := [108, 105, 110, 107]
abbrev wX : Tx := [105, 110, 100, 101, 120]
def tNs (p : Tb) : List Int := [p.1, p.2]
def lNs (x : Lk) : List Int := [x.1, x.2.1, x.2.2.1, x.2.2.2]
def linesQ (T : List Tb) (L : List Lk) (I : List Int) : List Tx := (T.map fun p => lineT wT (tNs p)) ++ (L.map fun x => lineT wL (lNs x)) ++ I.map fun i => lineT wX [i]
structure Sm (m : Nat) (T : List Tb) (L : List Lk) (I : List Int) : Prop where
  t : ∀ p ∈ T, TbOk p
  tl : T.length = m
  m2 : 2 ≤ m
  m4 : m ≤ 4
  l : ∀ x ∈ L, LkOk m x
  l6 : L.length ≤ 6
  i : ∀ k ∈ I, 0 ≤ k ∧ k ≤ (m : Int) - 1
  i4 : I.length ≤ 4
def QD (T : List Tb) (L : List Lk) (I : List Int) : D := .tup [.tup (T.map t2D), .tup (L.map l4D), .tup (I.map D.int)]
theorem in_t {p : Tb} (h : TbOk p) : In99 (tNs p) := ⟨fun n hn => by
  have := h.a0; have := h.a1; have := h.b0; have := h.b1
  simp only [tNs, List.mem_cons, List.not_mem_nil, or_false] at hn
  omega⟩
theorem in_l {m : Nat} (hm : m ≤ 4) {x : Lk} (h : LkOk m x) : In99 (lNs x) := ⟨fun n hn => by
  have := h.a0; have := h.ab; have := h.b1; have := h.c0; have := h.c1; have := h.d0; have := h.d1
  simp only [lNs, List.mem_cons, List.not_mem_nil, or_false] at hn
  omega⟩
theorem in_x {m : Nat} (hm : m ≤ 4) {k : Int} (h : 0 ≤ k ∧ k ≤ (m : Int) - 1) : In99 [k] := ⟨fun n hn => by
  simp only [List.mem_cons, List.not_mem_nil, or_false] at hn
  omega⟩
theorem lines_of_ok {m : Nat} {T : List Tb} {L : List Lk} {I : List Int} (s : Sm m T L I) : run_lines_of [.va (QD T L I)] = .ok (.lst ((linesQ T L I).map D.str)) none := by
  have q0 : fIx (QD T L I) (.int 0) = some (.tup (T.map t2D)) := by simp [QD, fIx, ixD]
  have q1 : fIx (QD T L I) (.int 1) = some (.tup (L.map l4D)) := by simp [QD, fIx, ixD]
  have q2 : fIx (QD T L I) (.int 2) = some (.tup (I.map D.int)) := by simp [QD, fIx, ixD]
  have m4 := s.m4; have tl := s.tl; have l6 := s.l6; have i4 := s.i4
  have lt : ∀ p ∈ T, run_line_of [.va (.str wT), .va (t2D p)] = .ok (.str (lineT wT (tNs p))) none := fun p hp => line_of_ok wT (tNs p) (by decide) (in_t (s.t p hp)) (by simp [tNs])
  have ll : ∀ x ∈ L, run_line_of [.va (.str wL), .va (l4D x)] = .ok (.str (lineT wL (lNs x))) none := fun x hx => line_of_ok wL (lNs x) (by decide) (in_l m4 (s.l x hx)) (by simp [lNs])
  have lx : ∀ k ∈ I, run_line_of [.va (.str wX), .va (.tup [.int k])] = .ok (.str (lineT wX [k])) none := fun k hk => line_of_ok wX [k] (by decide) (in_x m4 (s.i k hk)) (by simp)
  generalize hQ : QD T L I = Q at *
  have r0 : ∀ s1 : Sl, (mAsV (mLc (mIt (mB fIx (mPk 0) (lPk 0) (mC (.int 0)) lId)) [2] (mgName 2) mYes (mUser run_line_of (maCons (mC (.str [116, 97, 98, 108, 101])) (maCons (mVar 2) maNil))))) [.va Q, .no, .no, .no, .no] = .ok (.lst ((T.map fun p => lineT wT (tNs p)).map D.str)) [.va Q, .no, .no, .no, .no] := fun _ => by
    have lc := lc_all (mg := mgName 2) (me := mUser run_line_of (maCons (mC (.str [116, 97, 98, 108, 101])) (maCons (mVar 2) maNil))) (benv := [.va Q, .no, .no, .no, .no]) (h := fun d => match d with | .tup [.int a, .int b] => .str (lineT wT [a, b]) | _ => .non) (ds := T.map t2D) (fun d hd => by
      obtain ⟨p, hp, rfl⟩ := List.mem_map.mp hd
      have h := lt p hp
      exact ⟨[.va Q, .no, .va (t2D p), .no, .no], [.va Q, .no, .va (t2D p), .no, .no], by simp, by simp [h, slotD]; rfl⟩)
    rw [List.map_map] at lc
    rw [List.map_map]
    exact lc_run (by simp [q0, slotD]) (by rw [List.length_map]; omega) rfl lc
  have r1 : (mAsV (mLc (mIt (mB fIx (mPk 0) (lPk 0) (mC (.int 1)) lId)) [3] (mgName 3) mYes (mUser run_line_of (maCons (mC (.str [108, 105, 110, 107])) (maCons (mVar 3) maNil))))) [.va Q, .va (.lst ((T.map fun p => lineT wT (tNs p)).map D.str)), .no, .no, .no] = .ok (.lst ((L.map fun x => lineT wL (lNs x)).map D.str)) [.va Q, .va (.lst ((T.map fun p => lineT wT (tNs p)).map D.str)), .no, .no, .no] := by
    generalize (T.map fun p => lineT wT (tNs p)).map D.str = TT
    have lc := lc_all (mg := mgName 3) (me := mUser run_line_of (maCons (mC (.str [108, 105, 110, 107])) (maCons (mVar 3) maNil))) (benv := [.va Q, .va (.lst TT), .no, .no, .no]) (h := fun d => match d with | .tup [.int a, .int b, .int c, .int d] => .str (lineT wL [a, b, c, d]) | _ => .non) (ds := L.map l4D) (fun d hd => by
      obtain ⟨p, hp, rfl⟩ := List.mem_map.mp hd
      have h := ll p hp
      exact ⟨[.va Q, .va (.lst TT), .no, .va (l4D p), .no], [.va Q, .va (.lst TT), .no, .va (l4D p), .no], by simp, by simp [h, slotD]; rfl⟩)
    rw [List.map_map] at lc
    rw [List.map_map]
    exact lc_run (by simp [q1, slotD]) (by rw [List.length_map]; omega) rfl lc
  have r2 : (mAsV (mLc (mIt (mB fIx (mPk 0) (lPk 0) (mC (.int 2)) lId)) [4] (mgName 4) mYes (mUser run_line_of (maCons (mC (.str [105, 110, 100, 101, 120])) (maCons (mTup (maCons (mVar 4) maNil)) maNil))))) [.va Q, .va (.lst ((T.map fun p => lineT wT (tNs p)).map D.str)), .no, .no, .no] = .ok (.lst ((I.map fun i => lineT wX [i]).map D.str)) [.va Q, .va (.lst ((T.map fun p => lineT wT (tNs p)).map D.str)), .no, .no, .no] := by
    generalize (T.map fun p => lineT wT (tNs p)).map D.str = TT
    have lc := lc_all (mg := mgName 4) (me := mUser run_line_of (maCons (mC (.str [105, 110, 100, 101, 120])) (maCons (mTup (maCons (mVar 4) maNil)) maNil))) (benv := [.va Q, .va (.lst TT), .no, .no, .no]) (h := fun d => match d with | .int a => .str (lineT wX [a]) | _ => .non) (ds := I.map D.int) (fun d hd => by
      obtain ⟨k, hk, rfl⟩ := List.mem_map.mp hd
      have h := lx k hk
      exact ⟨[.va Q, .va (.lst TT), .no, .no, .va (.int k)], [.va Q, .va (.lst TT), .no, .no, .va (.int k)], by simp, by simp [h, slotD, line]⟩)
    rw [List.map_map] at lc
    rw [List.map_map]
    exact lc_run (by simp [q2, slotD]) (by rw [List.length_map]; omega) rfl lc
  have a1 : fAdd (.lst ((T.map fun p => lineT wT (tNs p)).map D.str)) (.lst ((L.map fun x => lineT wL (lNs x)).map D.str)) = some (.lst (((T.map fun p => lineT wT (tNs p)) ++ (L.map fun x => lineT wL (lNs x))).map D.str)) := by
    simp only [fAdd, List.length_map, ble_dec, line]
    rw [decide_eq_true (by omega), ← List.map_append]
  have a2 : fAdd (.lst (((T.map fun p => lineT wT (tNs p)) ++ (L.map fun x => lineT wL (lNs x))).map D.str)) (.lst ((I.map fun i => lineT wX [i]).map D.str)) = some (.lst ((linesQ T L I).map D.str)) := by
    simp only [fAdd, List.length_map, List.length_append, ble_dec, line]
    rw [decide_eq_true (by omega), ← List.map_append]
    rfl
  have s0 := set_run (i := 1) (r0 .no) rfl rfl
  have fin : m_lines_of [.va Q, .no, .no, .no, .no] = .rt (.lst ((linesQ T L I).map D.str)) [.va Q, .va (.lst ((T.map fun p => lineT wT (tNs p)).map D.str)), .no, .no, .no] := by
    refine seq_nx s0 ?_
    generalize (linesQ T L I).map D.str = A0 at *
    generalize ((T.map fun p => lineT wT (tNs p)) ++ (L.map fun x => lineT wL (lNs x))).map D.str = A1 at *
    generalize (T.map fun p => lineT wT (tNs p)).map D.str = A2 at *
    generalize (L.map fun x => lineT wL (lNs x)).map D.str = A3 at *
    generalize (I.map fun i => lineT wX [i]).map D.str = A4 at *
    generalize mAsV (mLc (mIt (mB fIx (mPk 0) (lPk 0) (mC (.int 1)) lId)) [3] (mgName 3) mYes (mUser run_line_of (maCons (mC (.str [108, 105, 110, 107])) (maCons (mVar 3) maNil)))) = M1 at *
    generalize mAsV (mLc (mIt (mB fIx (mPk 0) (lPk 0) (mC (.int 2)) lId)) [4] (mgName 4) mYes (mUser run_line_of (maCons (mC (.str [105, 110, 100, 101, 120])) (maCons (mTup (maCons (mVar 4) maNil)) maNil)))) = M2 at *
    simp [r1, r2, a1, a2, slotD]
  exact run_rt (n := 1) (tot := 5) (m := m_lines_of) (args := [.va Q]) fin
end GJ

set_option Elab.async false
set_option linter.all false
set_option maxRecDepth 100000
set_option maxHeartbeats 2000000
namespace GJ
open PySem L2 MP

/-! ### the law's own text of a question -/
structure RowD (d : D) (ns : List Int) : Prop where
  i : (∃ k : Int, d = .int k ∧ ns = [k]) ∨ d = .tup (ns.map D.int)
  n : In99 ns
  l : ns.length ≤ 10
theorem line_sum (w : Tx) (ns : List Int) (hw : w.length ≤ 10) (hn : In99 ns) (hl : ns.length ≤ 10) : (((w :: ns.map sI)).map (·.length)).sum + (w :: ns.map sI).length ≤ 200 := by
  have := len_sum 10 (w :: ns.map sI) (fun t ht => by
    rcases List.mem_cons.mp ht with e | ht
    · rw [e]; exact hw
    · obtain ⟨n, hm, rfl⟩ := List.mem_map.mp ht
      obtain ⟨k, rfl, hk⟩ := hn.nat hm
      have := sI_len hk
      omega)
  simp only [List.length_cons, List.length_map] at *
  omega
theorem wr_step {Q R s5 s6 : Sl} {w : Tx} {acc : List D} {d : D} {ns : List Int} (hQ : roE Q = Q) (hR : roE R = R) (hw : w.length ≤ 10) (r : RowD d ns) (ha : acc.length < 100) :
    (mSeq (mSet 5 (mIf (mU isInt (mPk 4) (lPk 4)) (mLst (maCons (mVar 4) maNil)) (mCall bList (maCons (mPk 4) maNil) (laCons (lPk 4) laNil)))) (mApp 1 (mM1 fJoin (mC (.str [32])) (mB fAdd (mLst (maCons (mVar 2) maNil)) lId (mAsV (mLc (mIt (mVar 5)) [6] (mgName 6) mYes (mCall bStrI (maCons (mPk 6) maNil) (laCons (lPk 6) laNil)))) lId) lId))) [Q, .ow (.lst acc), .va (.str w), R, .va d, s5, s6] = .nx [Q, .ow (.lst (acc ++ [.str (lineT w ns)])), .va (.str w), R, .va d, .va (.lst (ns.map D.int)), s6] := by
  have hns : (mSet 5 (mIf (mU isInt (mPk 4) (lPk 4)) (mLst (maCons (mVar 4) maNil)) (mCall bList (maCons (mPk 4) maNil) (laCons (lPk 4) laNil)))) [Q, .ow (.lst acc), .va (.str w), R, .va d, s5, s6] = .nx [Q, .ow (.lst acc), .va (.str w), R, .va d, .va (.lst (ns.map D.int)), s6] := by
    rcases r.i with ⟨k, rfl, rfl⟩ | rfl
    · simp [slotD, outOf, fAdd, fSub, fMod, fLt, fLe, fGt, fGe, fNeg, fIsN, fNotN, MP.isNon, bAbs, bInt, isInt, isBool, isTup, isStr, bLen, line]
    · simp [slotD, outOf, fAdd, fSub, fMod, fLt, fLe, fGt, fGe, fNeg, fIsN, fNotN, MP.isNon, bAbs, bInt, isInt, isBool, isTup, isStr, bLen, line, bList]
  refine seq_nx hns ?_
  have hn := r.n
  have hl := r.l
  have lc : lcGo (mgName 6) mYes (mCall bStrI (maCons (mPk 6) maNil) (laCons (lPk 6) laNil)) [Q, .ro (.lst acc), .va (.str w), R, .va d, .va (.lst (ns.map D.int)), .no] (ns.map D.int) [] = some ((ns.map D.int).map fun d => match d with | .int i => .str (sI i) | _ => .non) :=
    lc_all fun x hd => by
      obtain ⟨n, hm, rfl⟩ := List.mem_map.mp hd
      have b := strI (hn.h n hm).1 (hn.h n hm).2
      exact ⟨[Q, .ro (.lst acc), .va (.str w), R, .va d, .va (.lst (ns.map D.int)), .va (.int n)], [Q, .ro (.lst acc), .va (.str w), R, .va d, .va (.lst (ns.map D.int)), .va (.int n)], by simp, by simp [b, slotD]⟩
  rw [List.map_map] at lc
  have lc : lcGo (mgName 6) mYes (mCall bStrI (maCons (mPk 6) maNil) (laCons (lPk 6) laNil)) [Q, .ro (.lst acc), .va (.str w), R, .va d, .va (.lst (ns.map D.int)), .no] (ns.map D.int) [] = some ((ns.map sI).map D.str) := by
    rw [lc, List.map_map]
    rfl
  have lr := lc_run (mi := mIt (mVar 5)) (vs := [6]) (e := [Q, .ow (.lst acc), .va (.str w), R, .va d, .va (.lst (ns.map D.int)), s6]) (e1 := [Q, .ow (.lst acc), .va (.str w), R, .va d, .va (.lst (ns.map D.int)), s6]) (by simp) (by rw [List.length_map]; omega) (by simp only [List.map_cons, List.map_nil, hQ, hR]; rfl) lc
  have sm := line_sum w ns hw hn hl
  have jn := join_ok 32 (w :: ns.map sI) (by omega)
  have ad : fAdd (.lst [.str w]) (.lst ((ns.map sI).map D.str)) = some (.lst ((w :: ns.map sI).map D.str)) := by
    simp only [fAdd, List.length_cons, List.length_nil, List.length_map, ble_dec, line]
    rw [decide_eq_true (by omega)]
    rfl
  have hM := bRun (m1 := mLst (maCons (mVar 2) maNil)) (e := [Q, .ow (.lst acc), .va (.str w), R, .va d, .va (.lst (ns.map D.int)), s6]) (e1 := [Q, .ow (.lst acc), .va (.str w), R, .va d, .va (.lst (ns.map D.int)), s6]) (x := .lst [.str w]) (by simp [line]) lr ad
  have b1 : Nat.blt acc.length line = true := by
    simp only [Nat.blt, ble_dec, line]
    exact decide_eq_true (by omega)
  generalize mB fAdd (mLst (maCons (mVar 2) maNil)) lId (mAsV (mLc (mIt (mVar 5)) [6] (mgName 6) mYes (mCall bStrI (maCons (mPk 6) maNil) (laCons (lPk 6) laNil)))) lId = M at *
  generalize (w :: ns.map sI).map D.str = A1 at *
  generalize ns.map D.int = NI at *
  simp only [line] at b1
  have hlt : acc.length < 16777216 := by omega
  simp [hM, jn, lineT, hlt, atC, kput, slotD, outOf, fAdd, fSub, fMod, fLt, fLe, fGt, fGe, fNeg, fIsN, fNotN, MP.isNon, bAbs, bInt, isInt, isBool, isTup, isStr, bLen, line]
theorem wr_loop {Q R : Sl} {w : Tx} (hQ : roE Q = Q) (hR : roE R = R) (hw : w.length ≤ 10) {f : D → List Int} : ∀ (rows acc : List D) (s4 s5 s6 : Sl), (∀ d ∈ rows, RowD d (f d)) → acc.length + rows.length < 100 →
    ∃ t4 t5, forGo (mgName 4) (mSeq (mSet 5 (mIf (mU isInt (mPk 4) (lPk 4)) (mLst (maCons (mVar 4) maNil)) (mCall bList (maCons (mPk 4) maNil) (laCons (lPk 4) laNil)))) (mApp 1 (mM1 fJoin (mC (.str [32])) (mB fAdd (mLst (maCons (mVar 2) maNil)) lId (mAsV (mLc (mIt (mVar 5)) [6] (mgName 6) mYes (mCall bStrI (maCons (mPk 6) maNil) (laCons (lPk 6) laNil)))) lId) lId))) rows [Q, .ow (.lst acc), .va (.str w), R, s4, s5, s6] = .nx [Q, .ow (.lst (acc ++ rows.map fun d => D.str (lineT w (f d)))), .va (.str w), R, t4, t5, s6]
  | [], acc, s4, s5, s6, _, _ => ⟨s4, s5, by simp [forGo]⟩
  | d :: rows, acc, s4, s5, s6, h, hl => by
    simp only [List.length_cons] at hl
    obtain ⟨t4, t5, e⟩ := wr_loop hQ hR hw rows (acc ++ [.str (lineT w (f d))]) (.va d) (.va (.lst ((f d).map D.int))) s6 (fun x hx => h x (List.mem_cons_of_mem _ hx)) (by simp only [List.length_append, List.length_cons, List.length_nil]; omega)
    refine ⟨t4, t5, go_cons (e1 := [Q, .ow (.lst acc), .va (.str w), R, .va d, s5, s6]) (by simp) (wr_step hQ hR hw (h d List.mem_cons_self) (by omega)) (e.trans ?_)⟩
    simp only [List.map_cons, List.append_assoc, List.singleton_append, List.cons_append, List.nil_append]
theorem line_len (w : Tx) (ns : List Int) (hw : w.length ≤ 10) (hn : In99 ns) (hl : ns.length ≤ 10) : (lineT w ns).length ≤ 200 :=
  Nat.le_trans (jn_len 32 _) (line_sum w ns hw hn hl)
theorem linesQ_len {m : Nat} {T : List Tb} {L : List Lk} {I : List Int} (s : Sm m T L I) : (linesQ T L I).length ≤ 14 := by
  have m4 := s.m4; have tl := s.tl; have l6 := s.l6; have i4 := s.i4
  simp only [linesQ, List.length_append, List.length_map]
  omega
theorem linesQ_each {m : Nat} {T : List Tb} {L : List Lk} {I : List Int} (s : Sm m T L I) : ∀ t ∈ linesQ T L I, t.length ≤ 200 := fun t ht => by
  simp only [linesQ, List.mem_append, List.mem_map] at ht
  rcases ht with (⟨p, hp, rfl⟩ | ⟨p, hp, rfl⟩) | ⟨k, hk, rfl⟩
  · exact line_len wT _ (by decide) (in_t (s.t p hp)) (by simp [tNs])
  · exact line_len wL _ (by decide) (in_l s.m4 (s.l p hp)) (by simp [lNs])
  · exact line_len wX _ (by decide) (in_x s.m4 (s.i k hk)) (by simp)
theorem linesQ_sum {m : Nat} {T : List Tb} {L : List Lk} {I : List Int} (s : Sm m T L I) : ((linesQ T L I).map (·.length)).sum + (linesQ T L I).length ≤ 5000 := by
  have h1 := len_sum 200 _ (linesQ_each s)
  have h2 := linesQ_len s
  have h3 : (linesQ T L I).length * 200 ≤ 14 * 200 := Nat.mul_le_mul_right _ h2
  omega
theorem written_ok {m : Nat} {T : List Tb} {L : List Lk} {I : List Int} (s : Sm m T L I) : run__law_written [.va (QD T L I)] = .ok (.str (jn1 10 (linesQ T L I))) none := by
  have m4 := s.m4; have tl := s.tl; have l6 := s.l6; have i4 := s.i4
  have jn := join_ok 10 (linesQ T L I) (Nat.le_trans (linesQ_sum s) (by decide))
  have e1 : ∀ s4 s5 s6 : Sl, _ := fun s4 s5 s6 => wr_loop (Q := .va (QD T L I)) (R := .va (.tup (T.map t2D))) (w := wT) rfl rfl (by decide) (f := fun d => match d with | .tup [.int a, .int b] => [a, b] | _ => []) (T.map t2D) [] s4 s5 s6 (fun d hd => by
    obtain ⟨p, hp, rfl⟩ := List.mem_map.mp hd
    exact ⟨.inr rfl, in_t (s.t p hp), by show (2 : Nat) ≤ 10; decide⟩) (by simp only [List.length_map, List.length_nil]; omega)
  have e2 : ∀ s4 s5 s6 : Sl, _ := fun s4 s5 s6 => wr_loop (Q := .va (QD T L I)) (R := .va (.tup (L.map l4D))) (w := wL) rfl rfl (by decide) (f := fun d => match d with | .tup [.int a, .int b, .int c, .int d] => [a, b, c, d] | _ => []) (L.map l4D) (T.map fun p => D.str (lineT wT (tNs p))) s4 s5 s6 (fun d hd => by
    obtain ⟨p, hp, rfl⟩ := List.mem_map.mp hd
    exact ⟨.inr rfl, in_l m4 (s.l p hp), by show (4 : Nat) ≤ 10; decide⟩) (by simp only [List.length_map]; omega)
  have e3 : ∀ s4 s5 s6 : Sl, _ := fun s4 s5 s6 => wr_loop (Q := .va (QD T L I)) (R := .va (.tup (I.map D.int))) (w := wX) rfl rfl (by decide) (f := fun d => match d with | .int k => [k] | _ => []) (I.map D.int) ((T.map fun p => D.str (lineT wT (tNs p))) ++ L.map fun x => D.str (lineT wL (lNs x))) s4 s5 s6 (fun d hd => by
    obtain ⟨k, hk, rfl⟩ := List.mem_map.mp hd
    exact ⟨.inl ⟨k, rfl, rfl⟩, in_x m4 (s.i k hk), by simp⟩) (by simp only [List.length_map, List.length_append]; omega)
  obtain ⟨a4, a5, e1⟩ := e1 .no .no .no
  obtain ⟨b4, b5, e2⟩ := e2 a4 a5 .no
  obtain ⟨c4, c5, e3⟩ := e3 b4 b5 .no
  have eT : ((T.map t2D).map fun d => D.str (lineT wT (match d with | .tup [.int a, .int b] => [a, b] | _ => []))) = T.map fun p => D.str (lineT wT (tNs p)) := by
    rw [List.map_map]; rfl
  have eL : ((L.map l4D).map fun d => D.str (lineT wL (match d with | .tup [.int a, .int b, .int c, .int d] => [a, b, c, d] | _ => []))) = L.map fun x => D.str (lineT wL (lNs x)) := by
    rw [List.map_map]; rfl
  have eI : ((I.map D.int).map fun d => D.str (lineT wX (match d with | .int k => [k] | _ => []))) = I.map fun k => D.str (lineT wX [k]) := by
    rw [List.map_map]; rfl
  have eA : ((T.map fun p => D.str (lineT wT (tNs p))) ++ L.map fun x => D.str (lineT wL (lNs x))) ++ (I.map fun k => D.str (lineT wX [k])) = (linesQ T L I).map D.str := by
    simp only [linesQ, List.map_append, List.map_map]; rfl
  rw [eT] at e1
  rw [eL] at e2
  rw [eI, eA] at e3
  have m0 : (mZipM (maCons (mLst (maCons (mC (.str [116, 97, 98, 108, 101])) (maCons (mC (.str [108, 105, 110, 107])) (maCons (mC (.str [105, 110, 100, 101, 120])) maNil)))) (maCons (mVar 0) maNil))) [.va (QD T L I), .ow (.lst []), .no, .no, .no, .no, .no] = .ok [.tup [.str wT, .tup (T.map t2D)], .tup [.str wL, .tup (L.map l4D)], .tup [.str wX, .tup (I.map D.int)]] [.va (QD T L I), .ow (.lst []), .no, .no, .no, .no, .no] := by
    simp [QD, pairs, slotD, line]
  have fin : m__law_written [.va (QD T L I), .no, .no, .no, .no, .no, .no] = .rt (.str (jn1 10 (linesQ T L I))) [.va (QD T L I), .ow (.lst ((linesQ T L I).map D.str)), .va (.str wX), .va (.tup (I.map D.int)), c4, c5, .no] := by
    generalize QD T L I = Q at *
    generalize (linesQ T L I).map D.str = A3 at *
    generalize (T.map fun p => D.str (lineT wT (tNs p))) ++ (L.map fun x => D.str (lineT wL (lNs x))) = A2 at *
    generalize (T.map fun p => D.str (lineT wT (tNs p))) = A1 at *
    generalize T.map t2D = TD at *
    generalize L.map l4D = LD at *
    generalize I.map D.int = ID at *
    generalize jn1 10 (linesQ T L I) = TX at *
    have tg : ∀ (w : Tx) (R : D) (o s2 s3 s4 s5 s6 : Sl), (mgTup 2 (mgsCons (mgName 2) (mgsCons (mgName 3) mgsNil))) (.tup [.str w, R]) [.va Q, o, s2, s3, s4, s5, s6] = some [.va Q, o, .va (.str w), .va R, s4, s5, s6] := fun _ _ _ _ _ _ _ _ => by simp
    have it : ∀ (w : Tx) (R : List D) (o s4 s5 s6 : Sl), (mIt (mVar 3)) [.va Q, o, .va (.str w), .va (.tup R), s4, s5, s6] = .ok R [.va Q, o, .va (.str w), .va (.tup R), s4, s5, s6] := fun _ _ _ _ _ _ => by simp
    refine seq_nx (e1 := [.va Q, .ow (.lst []), .no, .no, .no, .no, .no]) (by simp) (seq_nx (for_ok m0 (go_cons (tg _ _ _ _ _ _ _ _) (for_ok (it _ _ _ _ _ _) e1) (go_cons (tg _ _ _ _ _ _ _ _) (for_ok (it _ _ _ _ _ _) e2) (go_cons (tg _ _ _ _ _ _ _ _) (for_ok (it _ _ _ _ _ _) e3) rfl)))) ?_)
    simp [jn, atC, kput, slotD, outOf, fAdd, fSub, fMod, fLt, fLe, fGt, fGe, fNeg, fIsN, fNotN, MP.isNon, bAbs, bInt, isInt, isBool, isTup, isStr, bLen, line]
  exact run_rt (n := 1) (tot := 7) (m := m__law_written) (args := [.va (QD T L I)]) fin
theorem question_text_ok {m : Nat} {T : List Tb} {L : List Lk} {I : List Int} (s : Sm m T L I) (hg : run_is_good_question [.va (QD T L I)] = .ok (.bl true) none) : run_question_text [.va (QD T L I)] = .ok (.str (jn1 10 (linesQ T L I))) none := by
  have jn := join_ok 10 (linesQ T L I) (Nat.le_trans (linesQ_sum s) (by decide))
  have lo := lines_of_ok s
  have nq : run_need_question [.va (QD T L I)] = .ok .non none := by
    generalize QD T L I = Q at *
    simp [run_need_question, m_need_question, runF, hg, slotD, outOf, fAdd, fSub, fMod, fLt, fLe, fGt, fGe, fNeg, fIsN, fNotN, MP.isNon, bAbs, bInt, isInt, isBool, isTup, isStr, bLen, line]
  generalize QD T L I = Q at *
  generalize (linesQ T L I).map D.str = A3 at *
  simp [run_question_text, m_question_text, runF, nq, lo, jn, slotD, outOf, fAdd, fSub, fMod, fLt, fLe, fGt, fGe, fNeg, fIsN, fNotN, MP.isNon, bAbs, bInt, isInt, isBool, isTup, isStr, bLen, line]
end GJ

set_option Elab.async false
set_option linter.all false
set_option maxRecDepth 100000
set_option maxHeartbeats 2000000
namespace GJ
open PySem L2 MP

/-! ### what a good question looks like -/
theorem tabs_form : ∀ {ts : List D}, ts.all tabB = true → ∃ T : List Tb, ts = T.map t2D ∧ ∀ p ∈ T, TbOk p
  | [], _ => ⟨[], rfl, fun x hx => by simp at hx⟩
  | v :: ts, h => by
    simp only [List.all_cons, Bool.and_eq_true] at h
    obtain ⟨T, rfl, hT⟩ := tabs_form h.2
    have h1 := h.1
    unfold tabB at h1
    split at h1
    · rename_i a b
      simp only [Bool.and_eq_true] at h1
      obtain ⟨i, rfl, i1, i2⟩ := numB_int h1.1
      obtain ⟨j, rfl, j1, j2⟩ := numB_int h1.2
      refine ⟨(i, j) :: T, rfl, fun y hy => ?_⟩
      rcases List.mem_cons.mp hy with e | e
      · rw [e]; exact ⟨i1, i2, j1, j2⟩
      · exact hT y e
    · cases h1
theorem good_form {v : D} (h : goodQ v = true) : ∃ m T L I, v = QD T L I ∧ Sm m T L I := by
  unfold goodQ at h
  split at h
  · rename_i a b c
    simp only [qB, Bool.and_eq_true] at h
    obtain ⟨ha, h⟩ := h
    obtain ⟨ts, rfl, l1, l2⟩ := tup_of ha
    simp only [Bool.and_eq_true] at h
    obtain ⟨ht, hb, h⟩ := h
    obtain ⟨ls, rfl, k1, k2⟩ := tup_of hb
    simp only [Bool.and_eq_true, numsB] at h
    obtain ⟨hl, ha, hc, h⟩ := h
    obtain ⟨cs, rfl, n1, n2⟩ := tup_of hc
    simp only [Bool.and_eq_true] at h
    obtain ⟨T, rfl, hT⟩ := tabs_form ht
    obtain ⟨L, rfl, hL⟩ := links_form hl
    obtain ⟨I, rfl, hI⟩ := all_num h.1
    simp only [List.length_map] at *
    exact ⟨T.length, T, L, I, rfl, hT, rfl, by omega, by omega, hL, by omega, hI, by omega⟩
  · cases h
/-! ### lines and their rows -/
def chkN : Bool := (List.range 100).all fun i : Nat => (match numT (sI (i : Int)) with
  | some j => decide (j = (i : Int))
  | none => false)
theorem chkN_ok : chkN = true := by decide +kernel
theorem numT_sI {k : Nat} (h : k < 100) : numT (sI (k : Int)) = some (k : Int) := by
  have := List.all_eq_true.mp chkN_ok k (List.mem_range.mpr h)
  split at this
  · rename_i j e
    rw [e, of_decide_eq_true this]
  · cases this
theorem sI_no {k : Nat} (h : k < 100) (c : Nat) (hc : c < 48) : c ∉ sI (k : Int) := fun hm => by
  have := sI_digits h c hm
  omega
theorem spl_line {w : Tx} {ns : List Int} (hw : 32 ∉ w) (hn : In99 ns) : spl1 32 (lineT w ns) = w :: ns.map sI := by
  refine ((jn_iff 32 (L := w :: ns.map sI) (by simp) (fun p hp => ?_) (lineT w ns)).mp rfl).symm
  rcases List.mem_cons.mp hp with e | hp
  · rw [e]; exact hw
  · obtain ⟨n, hm, rfl⟩ := List.mem_map.mp hp
    obtain ⟨k, rfl, hk⟩ := hn.nat hm
    exact sI_no hk 32 (by decide)
theorem row_line {w : Tx} {ns : List Int} {k : Int} (hw : 32 ∉ w) (hk : kvGet LEN w = some k) (hl : (ns.length : Int) = k) (hn : In99 ns) : rowOf (lineT w ns) = some (w, ns) := by
  have a : ∀ ms : List Int, (∀ n ∈ ms, n ∈ ns) → ((ms.map sI).any fun w => (numT w).isNone) = false ∧ (ms.map sI).filterMap numT = ms := fun ms => by
    induction ms with
    | nil => intro _; exact ⟨rfl, rfl⟩
    | cons n ms ih =>
      intro h
      obtain ⟨j, rfl, hj⟩ := hn.nat (h n List.mem_cons_self)
      obtain ⟨i1, i2⟩ := ih fun x hx => h x (List.mem_cons_of_mem _ hx)
      refine ⟨?_, ?_⟩
      · rw [List.map_cons, List.any_cons, numT_sI hj, i1]; rfl
      · rw [List.map_cons, List.filterMap_cons, numT_sI hj, i2]
  obtain ⟨a1, a2⟩ := a ns fun _ h => h
  unfold rowOf
  rw [spl_line hw hn]
  simp only [rowW, hk, List.length_map, a1, a2, hl]
  simp
abbrev Rw : Type := Tx × List Int
def partW (w : Tx) (rows : List Rw) : List (List Int) := (rows.filter fun p => decide (p.1 = w)).map (·.2)
def itD (ns : List Int) : D := .tup (ns.map D.int)
def hdD : List Int → D
  | n :: _ => .int n
  | [] => .non
def foundD (rows : List Rw) : D := .tup [.tup ((partW wT rows).map itD), .tup ((partW wL rows).map itD), .tup ((partW wX rows).map hdD)]
def rowsQ (T : List Tb) (L : List Lk) (I : List Int) : List Rw := (T.map fun p => (wT, tNs p)) ++ (L.map fun x => (wL, lNs x)) ++ I.map fun i => (wX, [i])
theorem part_same (w : Tx) {α : Type} (f : α → List Int) (xs : List α) : partW w (xs.map fun x => (w, f x)) = xs.map f := by
  unfold partW
  rw [List.filter_map, List.map_map, List.filter_eq_self.mpr (fun _ _ => by simp)]
  rfl
theorem part_other {w u : Tx} (h : u ≠ w) {α : Type} (f : α → List Int) (xs : List α) : partW w (xs.map fun x => (u, f x)) = [] := by
  unfold partW
  rw [List.map_eq_nil_iff, List.filter_eq_nil_iff]
  intro p hp
  obtain ⟨x, _, rfl⟩ := List.mem_map.mp hp
  simp [h]
theorem part_app (w : Tx) (a b : List Rw) : partW w (a ++ b) = partW w a ++ partW w b := by
  simp only [partW, List.filter_append, List.map_append]
theorem found_rows (T : List Tb) (L : List Lk) (I : List Int) : foundD (rowsQ T L I) = QD T L I := by
  unfold foundD rowsQ QD
  simp only [part_app, part_same, part_other (show wT ≠ wL by decide), part_other (show wT ≠ wX by decide), part_other (show wL ≠ wT by decide), part_other (show wL ≠ wX by decide), part_other (show wX ≠ wT by decide), part_other (show wX ≠ wL by decide), List.append_nil, List.nil_append, List.map_map]
  rfl
theorem rows_lines {m : Nat} {T : List Tb} {L : List Lk} {I : List Int} (s : Sm m T L I) : (linesQ T L I).map rowOf = (rowsQ T L I).map some := by
  simp only [linesQ, rowsQ, List.map_append, List.map_map]
  congr 1
  · congr 1
    · exact List.map_congr_left fun p hp => row_line (k := 2) (by decide) (by decide) rfl (in_t (s.t p hp))
    · exact List.map_congr_left fun p hp => row_line (k := 4) (by decide) (by decide) rfl (in_l s.m4 (s.l p hp))
  · exact List.map_congr_left fun p hp => row_line (k := 1) (by decide) (by decide) rfl (in_x s.m4 (s.i p hp))
theorem line_free {w : Tx} {ns : List Int} (hw : 10 ∉ w) (hn : In99 ns) : 10 ∉ lineT w ns := fun hm => by
  have q : ∀ (c : Nat) (L : List Tx), (∀ p ∈ L, 10 ∉ p) → c ≠ 10 → 10 ∉ jn1 c L := fun c L => by
    induction L with
    | nil => intro _ _; simp [jn1, TL.joinL]
    | cons p L ih =>
      intro h hc
      by_cases e : L = []
      · subst e
        simpa [jn1, TL.joinL] using h p List.mem_cons_self
      · rw [jn_cons c p e]
        intro hm
        rcases List.mem_append.mp hm with hm | hm
        · exact h p List.mem_cons_self hm
        · rcases List.mem_cons.mp hm with e | hm
          · exact hc e.symm
          · exact ih (fun x hx => h x (List.mem_cons_of_mem _ hx)) hc hm
  refine q 32 (w :: ns.map sI) (fun p hp => ?_) (by decide) hm
  rcases List.mem_cons.mp hp with e | hp
  · rw [e]; exact hw
  · obtain ⟨n, hm, rfl⟩ := List.mem_map.mp hp
    obtain ⟨k, rfl, hk⟩ := hn.nat hm
    exact sI_no hk 10 (by decide)
theorem linesQ_free {m : Nat} {T : List Tb} {L : List Lk} {I : List Int} (s : Sm m T L I) : ∀ p ∈ linesQ T L I, 10 ∉ p := fun t ht => by
  simp only [linesQ, List.mem_append, List.mem_map] at ht
  rcases ht with (⟨p, hp, rfl⟩ | ⟨p, hp, rfl⟩) | ⟨k, hk, rfl⟩
  · exact line_free (by decide) (in_t (s.t p hp))
  · exact line_free (by decide) (in_l s.m4 (s.l p hp))
  · exact line_free (by decide) (in_x s.m4 (s.i k hk))
theorem linesQ_ne {m : Nat} {T : List Tb} {L : List Lk} {I : List Int} (s : Sm m T L I) : linesQ T L I ≠ [] := fun e => by
  have h := congrArg List.length e
  have := s.tl
  have := s.m2
  simp only [linesQ, List.length_append, List.length_map, List.length_nil] at h
  omega
theorem lines_iff {m : Nat} {T : List Tb} {L : List Lk} {I : List Int} (s : Sm m T L I) (t : Tx) : jn1 10 (linesQ T L I) = t ↔ linesQ T L I = spl1 10 t := jn_iff 10 (linesQ_ne s) (linesQ_free s) t
end GJ

set_option Elab.async false
set_option linter.all false
set_option maxRecDepth 100000
set_option maxHeartbeats 2000000
namespace GJ
open PySem L2 MP

/-! ### equality of texts; parts of rows -/
theorem eq_strs : ∀ A B : List Tx, eqL (A.map D.str) (B.map D.str) = decide (A = B)
  | [], [] => rfl
  | [], _ :: _ => by simp [eqL]
  | _ :: _, [] => by simp [eqL]
  | a :: A, b :: B => by
    simp only [List.map_cons, eqL, eqD, natsEq_eq, eq_strs A B]
    by_cases h : a = b
    · subst h; simp
    · simp [h]
theorem ne_strs {A B : List Tx} (hA : ∀ w ∈ A, Asc w) (hB : ∀ w ∈ B, Asc w) : fNe (.lst (A.map D.str)) (.lst (B.map D.str)) = some (.bl (!decide (A = B))) := by
  unfold fNe
  rw [show okD 64 (.lst (A.map D.str)) = okL 63 (A.map D.str) from rfl, show okD 64 (.lst (B.map D.str)) = okL 63 (B.map D.str) from rfl, ok_strs 63 A hA, ok_strs 63 B hB]
  show some (D.bl (!eqL _ _)) = _
  rw [eq_strs]
theorem eq_str1 {a b : Tx} (ha : Asc a) (hb : Asc b) : fEq (.str a) (.str b) = some (.bl (decide (a = b))) := by
  unfold fEq
  rw [ok_str 64 ha, ok_str 64 hb]
  show some (D.bl (natsEq a b)) = _
  rw [natsEq_eq]
theorem ne_str1 {a b : Tx} (ha : Asc a) (hb : Asc b) : fNe (.str a) (.str b) = some (.bl (!decide (a = b))) := by
  unfold fNe
  rw [ok_str 64 ha, ok_str 64 hb]
  show some (D.bl (!natsEq a b)) = _
  rw [natsEq_eq]
theorem asc_T : Asc wT := by unfold Asc; decide
theorem asc_L : Asc wL := by unfold Asc; decide
theorem asc_X : Asc wX := by unfold Asc; decide
structure GoodR (p : Rw) : Prop where
  w : p.1 = wT ∨ p.1 = wL ∨ p.1 = wX
  x : p.1 = wX → ∃ n, p.2 = [n]
  t : p.1 = wT → p.2.length = 2
  l : p.1 = wL → p.2.length = 4
theorem GoodR.asc {p : Rw} (h : GoodR p) : Asc p.1 := by
  rcases h.w with e | e | e <;> rw [e]
  · exact asc_T
  · exact asc_L
  · exact asc_X
theorem fm_len : ∀ r : List Tx, (r.any fun w => (numT w).isNone) = false → (r.filterMap numT).length = r.length
  | [], _ => rfl
  | w :: r, h => by
    simp only [List.any_cons, Bool.or_eq_false_iff] at h
    have ih := fm_len r h.2
    cases e : numT w with
    | none => rw [e] at h; simp at h
    | some i => rw [List.filterMap_cons, e]; simp only [List.length_cons, ih]
theorem row_good {l : Tx} {p : Rw} (h : rowOf l = some p) : GoodR p := by
  unfold rowOf rowW at h
  split at h
  · cases h
  · rename_i w r _
    split at h
    · rename_i k hk
      split at h
      · rename_i hc
        cases h
        simp only [Bool.and_eq_true, decide_eq_true_eq, Bool.not_eq_true'] at hc
        have hl := fm_len r hc.2
        have hc1 := hc.1
        simp only [kvGet, nlEq_dec] at hk
        by_cases h1 : ([116, 97, 98, 108, 101] : Tx) = w
        · subst h1
          rw [decide_eq_true rfl] at hk
          cases hk
          exact ⟨.inl rfl, fun e => absurd e (show wT ≠ wX by decide), fun _ => by show (r.filterMap numT).length = 2; omega, fun e => absurd e (show wT ≠ wL by decide)⟩
        · by_cases h2 : ([108, 105, 110, 107] : Tx) = w
          · subst h2
            simp [h1] at hk
            subst hk
            exact ⟨.inr (.inl rfl), fun e => absurd e (show wL ≠ wX by decide), fun e => absurd e (show wL ≠ wT by decide), fun _ => by show (r.filterMap numT).length = 4; omega⟩
          · by_cases h3 : ([105, 110, 100, 101, 120] : Tx) = w
            · subst h3
              simp [h1, h2] at hk
              subst hk
              refine ⟨.inr (.inr rfl), fun _ => ?_, fun e => absurd e (show wX ≠ wT by decide), fun e => absurd e (show wX ≠ wL by decide)⟩
              have hl1 : (r.filterMap numT).length = 1 := by omega
              exact List.length_eq_one_iff.mp hl1
            · simp [h1, h2, h3] at hk
      · cases h
    · cases h
def rwD (p : Rw) : D := .tup [.str p.1, itD p.2]
theorem rowD_some (p : Rw) : rowD (some p) = rwD p := rfl
def gW (w : Tx) : D → Bool
  | .tup [.str u, _] => decide (u = w)
  | _ => false
def hN : D → D
  | .tup [_, x] => x
  | _ => .non
def hX : D → D
  | .tup [_, .tup (x :: _)] => x
  | _ => .non
theorem part_D (w : Tx) (R : List Rw) : ((R.map rwD).filter (gW w)).map hN = (partW w R).map itD := by
  unfold partW
  rw [List.filter_map, List.map_map, List.map_map]
  rfl
theorem part_X (R : List Rw) (h : ∀ p ∈ R, GoodR p) : ((R.map rwD).filter (gW wX)).map hX = (partW wX R).map hdD := by
  unfold partW
  rw [List.filter_map, List.map_map, List.map_map]
  refine List.map_congr_left fun p hp => ?_
  have h1 := List.mem_filter.mp hp
  obtain ⟨n, e⟩ := (h p h1.1).x (by simpa [gW, rwD] using h1.2)
  simp only [Function.comp, rwD, hX, itD, e, List.map_cons, hdD]
def fstN : List (Option Rw) → Option Nat
  | [] => none
  | none :: _ => some 0
  | some _ :: r => (fstN r).map (· + 1)
theorem fst_has : ∀ r : List (Option Rw), hasD .non (r.map rowD) = (fstN r).isSome
  | [] => rfl
  | none :: r => rfl
  | some p :: r => by
    simp only [List.map_cons, hasD, fstN, Option.isSome_map, ← fst_has r]
    rfl
theorem fst_idx : ∀ r : List (Option Rw), idxD .non (r.map rowD) = fstN r
  | [] => rfl
  | none :: r => rfl
  | some p :: r => by
    simp only [List.map_cons, idxD, fstN, fst_idx r]
    cases fstN r <;> rfl
theorem fst_none : ∀ {r : List (Option Rw)}, fstN r = none → ∃ R : List Rw, r = R.map some
  | [], _ => ⟨[], rfl⟩
  | none :: r, h => by simp [fstN] at h
  | some p :: r, h => by
    simp only [fstN, Option.map_eq_none_iff] at h
    obtain ⟨R, rfl⟩ := fst_none h
    exact ⟨p :: R, rfl⟩
theorem fst_all : ∀ R : List Rw, fstN (R.map some) = none
  | [] => rfl
  | p :: R => by simp only [List.map_cons, fstN, fst_all R]; rfl
theorem ok_ints (n : Nat) : ∀ ns : List Int, okL n (ns.map D.int) = true
  | [] => rfl
  | k :: ns => by simp only [List.map_cons, okL, okD, ok_ints n ns]
theorem ok_rows : ∀ r : List (Option Rw), (∀ p, some p ∈ r → GoodR p) → okL 63 (r.map rowD) = true
  | [], _ => rfl
  | none :: r, h => by
    simp only [List.map_cons, okL, rowD, okD]
    exact ok_rows r fun p hp => h p (List.mem_cons_of_mem _ hp)
  | some p :: r, h => by
    have h1 := ok_str 62 (h p List.mem_cons_self).asc
    have h2 := ok_ints 61 p.2
    simp only [List.map_cons, okL, rowD]
    rw [show okD 63 (.tup [.str p.1, .tup (p.2.map D.int)]) = okL 62 [.str p.1, .tup (p.2.map D.int)] from rfl]
    simp only [okL, h1, show okD 62 (.tup (p.2.map D.int)) = okL 61 (p.2.map D.int) from rfl, h2]
    exact ok_rows r fun p hp => h p (List.mem_cons_of_mem _ hp)
def rowsOf (t : Tx) : List (Option Rw) := (spl1 10 t).map rowOf
theorem rows_good (t : Tx) (p : Rw) (h : some p ∈ rowsOf t) : GoodR p := by
  obtain ⟨l, _, e⟩ := List.mem_map.mp h
  exact row_good e
theorem Pl_its : ∀ xs : List (List Int), PlL (xs.map itD) = true
  | [] => rfl
  | x :: xs => by
    have h : ∀ ns : List Int, PlL (ns.map D.int) = true := fun ns => by
      induction ns with
      | nil => rfl
      | cons n ns ih => simp only [List.map_cons, PlL, Pl, ih]; rfl
    simp only [List.map_cons, PlL, itD, Pl, h x, Pl_its xs]
    rfl
theorem Pl_hds : ∀ xs : List (List Int), PlL (xs.map hdD) = true
  | [] => rfl
  | x :: xs => by
    simp only [List.map_cons, PlL, Pl_hds xs]
    cases x <;> rfl
theorem Pl_found (R : List Rw) : Pl (foundD R) = true := by
  simp only [foundD, Pl, PlL, Pl_its, Pl_hds]
  rfl
theorem line_asc {w : Tx} {ns : List Int} (hw : Asc w) (hn : In99 ns) : Asc (lineT w ns) := by
  have q : ∀ (c : Nat) (L : List Tx), c < 128 → (∀ p ∈ L, Asc p) → Asc (jn1 c L) := fun c L hc => by
    induction L with
    | nil => intro _ x hx; simp [jn1, TL.joinL] at hx
    | cons p L ih =>
      intro h
      by_cases e : L = []
      · subst e
        have := h p List.mem_cons_self
        simpa [jn1, TL.joinL] using this
      · rw [jn_cons c p e]
        intro x hx
        rcases List.mem_append.mp hx with hx | hx
        · exact h p List.mem_cons_self x hx
        · rcases List.mem_cons.mp hx with e | hx
          · rw [e]; exact hc
          · exact ih (fun y hy => h y (List.mem_cons_of_mem _ hy)) x hx
  refine q 32 _ (by decide) fun p hp => ?_
  rcases List.mem_cons.mp hp with e | hp
  · rw [e]; exact hw
  · obtain ⟨n, hm, rfl⟩ := List.mem_map.mp hp
    obtain ⟨k, rfl, hk⟩ := hn.nat hm
    exact fun c hc => by have := sI_digits hk c hc; omega
theorem linesQ_asc {m : Nat} {T : List Tb} {L : List Lk} {I : List Int} (s : Sm m T L I) : ∀ p ∈ linesQ T L I, Asc p := fun t ht => by
  simp only [linesQ, List.mem_append, List.mem_map] at ht
  rcases ht with (⟨p, hp, rfl⟩ | ⟨p, hp, rfl⟩) | ⟨k, hk, rfl⟩
  · exact line_asc asc_T (in_t (s.t p hp))
  · exact line_asc asc_L (in_l s.m4 (s.l p hp))
  · exact line_asc asc_X (in_x s.m4 (s.i k hk))
theorem jn_asc {c : Nat} (hc : c < 128) : ∀ L : List Tx, (∀ p ∈ L, Asc p) → Asc (jn1 c L)
  | [], _ => fun x hx => by simp [jn1, TL.joinL] at hx
  | p :: L, h => by
    by_cases e : L = []
    · subst e
      have := h p List.mem_cons_self
      simpa [jn1, TL.joinL] using this
    · rw [jn_cons c p e]
      intro x hx
      rcases List.mem_append.mp hx with hx | hx
      · exact h p List.mem_cons_self x hx
      · rcases List.mem_cons.mp hx with e | hx
        · rw [e]; exact hc
        · exact jn_asc hc L (fun y hy => h y (List.mem_cons_of_mem _ hy)) x hx
end GJ

set_option Elab.async false
set_option linter.all false
set_option maxRecDepth 100000
set_option maxHeartbeats 2000000
namespace GJ
open PySem L2 MP

/-! ### reading -/
theorem part_lc {mg : MT} {mt me : ME} {benv : Ev} {w : Tx} {hh : D → D} {R : List Rw} (hR : ∀ p ∈ R, GoodR p) (q : ∀ p : Rw, GoodR p → ∃ e1 e2 e3, mg (rwD p) benv = some e1 ∧ mt e1 = .ok (.bl (decide (p.1 = w))) e2 ∧ (p.1 = w → me e2 = .ok (hh (rwD p)) e3)) :
    lcGo mg mt me benv (R.map rwD) [] = some (((R.map rwD).filter (gW w)).map hh) := by
  have := lc_gen (mg := mg) (mt := mt) (me := me) (benv := benv) (g := gW w) (h := hh) (ds := R.map rwD) (acc := []) (fun d hd => by
    obtain ⟨p, hp, rfl⟩ := List.mem_map.mp hd
    obtain ⟨e1, e2, e3, a, b, c⟩ := q p (hR p hp)
    exact ⟨e1, e2, e3, a, b, fun h => c (of_decide_eq_true h)⟩)
  rw [List.nil_append] at this
  exact this
theorem tup_run {m : ME} {e e1 : Ev} {xs : List D} (h : m e = .ok (.lst xs) e1) : mCall bTuple (maCons m maNil) (laCons lId laNil) e = .ok (.tup xs) e1 := by
  simp [h, bTuple]
theorem eqW {p : Rw} (h : GoodR p) {w : Tx} (hw : Asc w) : fEq (.str p.1) (.str w) = some (.bl (decide (p.1 = w))) := eq_str1 h.asc hw
theorem rows_len (t : Tx) : (rowsOf t).length ≤ t.length + 1 := by
  have := spl_count 10 t []
  simp only [rowsOf, List.length_map]
  exact this
theorem q_head {t : Tx} (h : t.length ≤ 5000) : (mIfS (mNot (mU isStr (mPk 0) (lPk 0))) (mRaiseF 3 (mC (.int 0))) mSkip) [.va (.str t), .no, .no, .no, .no, .no, .no, .no, .no] = .nx [.va (.str t), .no, .no, .no, .no, .no, .no, .no, .no] ∧
    (mSet 1 (mM1 fSplit (mVar 0) (mC (.str [10])) lId)) [.va (.str t), .no, .no, .no, .no, .no, .no, .no, .no] = .nx [.va (.str t), .va (.lst ((spl1 10 t).map D.str)), .no, .no, .no, .no, .no, .no, .no] ∧
    (mSet 2 (mAsV (mLc (mIt (mVar 1)) [6] (mgName 6) mYes (mUser run_row_in (maCons (mVar 6) maNil))))) [.va (.str t), .va (.lst ((spl1 10 t).map D.str)), .no, .no, .no, .no, .no, .no, .no] = .nx [.va (.str t), .va (.lst ((spl1 10 t).map D.str)), .va (.lst ((rowsOf t).map rowD)), .no, .no, .no, .no, .no, .no] := by
  have sp := split_ok 10 (by decide) (t := t) (by omega)
  have hc := spl_count 10 t []
  refine ⟨by simp [slotD, outOf, fAdd, fSub, fMod, fLt, fLe, fGt, fGe, fNeg, fIsN, fNotN, MP.isNon, bAbs, bInt, isInt, isBool, isTup, isStr, bLen, line], set_run (by simp [sp]; exact ⟨rfl, rfl⟩) rfl rfl, ?_⟩
  have lc : lcGo (mgName 6) mYes (mUser run_row_in (maCons (mVar 6) maNil)) [.va (.str t), .va (.lst ((spl1 10 t).map D.str)), .no, .no, .no, .no, .no, .no, .no] ((spl1 10 t).map D.str) [] = some (((spl1 10 t).map D.str).map fun d => match d with | .str l => rowD (rowOf l) | _ => .non) :=
    lc_all fun d hd => by
      obtain ⟨l, hl, rfl⟩ := List.mem_map.mp hd
      have hs := spl_short 10 t [] l hl
      simp only [List.length_nil] at hs
      have r := row_in_ok (l := l) (by omega)
      generalize (spl1 10 t).map D.str = LD
      exact ⟨[.va (.str t), .va (.lst LD), .no, .no, .no, .no, .va (.str l), .no, .no], [.va (.str t), .va (.lst LD), .no, .no, .no, .no, .va (.str l), .no, .no], by simp, by simp [r, slotD]⟩
  rw [List.map_map] at lc
  have lc : lcGo (mgName 6) mYes (mUser run_row_in (maCons (mVar 6) maNil)) [.va (.str t), .va (.lst ((spl1 10 t).map D.str)), .no, .no, .no, .no, .no, .no, .no] ((spl1 10 t).map D.str) [] = some ((rowsOf t).map rowD) := by
    rw [lc, rowsOf, List.map_map]
    rfl
  exact set_run (lc_run (vs := [6]) (e1 := [.va (.str t), .va (.lst ((spl1 10 t).map D.str)), .no, .no, .no, .no, .no, .no, .no]) (by simp) (by rw [List.length_map]; show (TL.spl [10] 0 [] t).length < 16777216; omega) rfl lc) rfl rfl
theorem q_ex {c : Nat} {e e' : Ev} {m : MS} {n tot : Nat} {args : List Sl} (h : m (args ++ List.replicate (tot - n) .no) = .ex c e) : runF n tot m args = .ex c (outOf e) := by
  unfold runF
  rw [h]
theorem q_none {t : Tx} (h : t.length ≤ 5000) {i : Nat} (hi : fstN (rowsOf t) = some i) : run_question_in [.va (.str t)] = .ex (1000 * (i + 2) + 3) none := by
  obtain ⟨s0, s1, s2⟩ := q_head h
  have ok := ok_rows (rowsOf t) (rows_good t)
  have hh := fst_has (rowsOf t)
  have hx := fst_idx (rowsOf t)
  rw [hi] at hh hx
  have s3 : (mIfS (mB fInD (mC .non) lId (mPk 2) (lPk 2)) (mRaiseF 3 (mB fAdd (mIdxN 2) lId (mC (.int 1)) lId)) mSkip) [.va (.str t), .va (.lst ((spl1 10 t).map D.str)), .va (.lst ((rowsOf t).map rowD)), .no, .no, .no, .no, .no, .no] = .ex (1000 * (i + 2) + 3) [.va (.str t), .va (.lst ((spl1 10 t).map D.str)), .va (.lst ((rowsOf t).map rowD)), .no, .no, .no, .no, .no, .no] := by
    generalize (spl1 10 t).map D.str = LD at *
    generalize (rowsOf t).map rowD = RD at *
    have f1 : fInD .non (.lst RD) = some (.bl true) := by
      unfold fInD
      rw [show okD 64 .non = true from rfl]
      dsimp only
      rw [ok]
      dsimp only
      rw [hh]
      rfl
    refine if_tt (e1 := [.va (.str t), .va (.lst LD), .va (.lst RD), .no, .no, .no, .no, .no, .no]) (by simp [f1, slotD]) ?_
    have : (0 : Int) ≤ (i : Int) + 1 := by omega
    simp [ok, hx, this, slotD, outOf, fAdd, fSub, fMod, fLt, fLe, fGt, fGe, fNeg, fIsN, fNotN, MP.isNon, bAbs, bInt, isInt, isBool, isTup, isStr, bLen, line]
  have fin : m_question_in [.va (.str t), .no, .no, .no, .no, .no, .no, .no, .no] = .ex (1000 * (i + 2) + 3) [.va (.str t), .va (.lst ((spl1 10 t).map D.str)), .va (.lst ((rowsOf t).map rowD)), .no, .no, .no, .no, .no, .no] :=
    seq_nx s0 (seq_nx s1 (seq_nx s2 (by rw [mSeq_ap, s3])))
  exact q_ex (e' := []) (n := 1) (tot := 9) (m := m_question_in) (args := [.va (.str t)]) fin
theorem q_mid {t : Tx} (h : t.length ≤ 5000) {R : List Rw} (hR : rowsOf t = R.map some) : ∃ e3 : Ev, e3 = [.va (.str t), .va (.lst ((spl1 10 t).map D.str)), .va (.lst ((rowsOf t).map rowD)), .va (.tup ((partW wT R).map itD)), .va (.tup ((partW wL R).map itD)), .va (foundD R), .no, .no, .no] ∧
    ∀ r, (mSeq (mIfS (mOr (mNot (mUser run_is_good_question (maCons (mVar 5) maNil))) (mB fNe (mUser run_lines_of (maCons (mVar 5) maNil)) lId (mPk 1) (lPk 1))) (mRaiseF 3 (mB fAdd (mCall bLen (maCons (mPk 1) maNil) (laCons (lPk 1) laNil)) lId (mC (.int 1)) lId)) mSkip) (mRet (mVar 5))) e3 = r → m_question_in [.va (.str t), .no, .no, .no, .no, .no, .no, .no, .no] = r := by
  refine ⟨_, rfl, fun r hr => ?_⟩
  obtain ⟨s0, s1, s2⟩ := q_head h
  have ok := ok_rows (rowsOf t) (rows_good t)
  have hh := fst_has (rowsOf t)
  have gr : ∀ p ∈ R, GoodR p := fun p hp => rows_good t p (by rw [hR]; exact List.mem_map.mpr ⟨p, hp, rfl⟩)
  have hl := rows_len t
  have eR : (rowsOf t).map rowD = R.map rwD := by rw [hR, List.map_map]; rfl
  have hlR : R.length ≤ 5001 := by rw [hR, List.length_map] at hl; omega
  rw [hR, fst_all R, ← hR] at hh
  rw [eR] at ok hh s2 hr
  refine seq_nx s0 (seq_nx s1 (seq_nx s2 ?_))
  generalize (spl1 10 t).map D.str = LD at *
  have s3 : (mIfS (mB fInD (mC .non) lId (mPk 2) (lPk 2)) (mRaiseF 3 (mB fAdd (mIdxN 2) lId (mC (.int 1)) lId)) mSkip) [.va (.str t), .va (.lst LD), .va (.lst (R.map rwD)), .no, .no, .no, .no, .no, .no] = .nx [.va (.str t), .va (.lst LD), .va (.lst (R.map rwD)), .no, .no, .no, .no, .no, .no] := by
    generalize R.map rwD = RD at *
    have f1 : fInD .non (.lst RD) = some (.bl false) := by
      unfold fInD
      rw [show okD 64 .non = true from rfl]
      dsimp only
      rw [ok]
      dsimp only
      rw [hh]
      rfl
    refine if_ff (e1 := [.va (.str t), .va (.lst LD), .va (.lst RD), .no, .no, .no, .no, .no, .no]) (by simp [f1, slotD]) rfl
  have s4 : (mSet 3 (mCall bTuple (maCons (mAsV (mLc (mIt (mVar 2)) [7, 8] (mgTup 2 (mgsCons (mgName 7) (mgsCons (mgName 8) mgsNil))) (mB fEq (mPk 7) (lPk 7) (mC (.str [116, 97, 98, 108, 101])) lId) (mVar 8))) maNil) (laCons lId laNil))) [.va (.str t), .va (.lst LD), .va (.lst (R.map rwD)), .no, .no, .no, .no, .no, .no] = .nx [.va (.str t), .va (.lst LD), .va (.lst (R.map rwD)), .va (.tup ((partW wT R).map itD)), .no, .no, .no, .no, .no] := by
    have lc := part_lc (mg := (mgTup 2 (mgsCons (mgName 7) (mgsCons (mgName 8) mgsNil)))) (mt := (mB fEq (mPk 7) (lPk 7) (mC (.str [116, 97, 98, 108, 101])) lId)) (me := (mVar 8)) (w := wT) (hh := hN) (benv := [.va (.str t), .va (.lst LD), .va (.lst (R.map rwD)), .no, .no, .no, .no, .no, .no]) gr (fun p hp => by
      have := eqW hp asc_T
      exact ⟨[.va (.str t), .va (.lst LD), .va (.lst (R.map rwD)), .no, .no, .no, .no, .va (.str p.1), .va (itD p.2)], [.va (.str t), .va (.lst LD), .va (.lst (R.map rwD)), .no, .no, .no, .no, .va (.str p.1), .va (itD p.2)], [.va (.str t), .va (.lst LD), .va (.lst (R.map rwD)), .no, .no, .no, .no, .va (.str p.1), .va (itD p.2)], by simp [rwD], by simp [this, slotD], fun _ => by simp [hN, rwD]⟩)
    rw [part_D] at lc
    have lr := lc_run (mi := (mIt (mVar 2))) (vs := [7, 8]) (e := [.va (.str t), .va (.lst LD), .va (.lst (R.map rwD)), .no, .no, .no, .no, .no, .no]) (e1 := [.va (.str t), .va (.lst LD), .va (.lst (R.map rwD)), .no, .no, .no, .no, .no, .no]) (by simp) (by rw [List.length_map]; omega) rfl lc
    generalize R.map rwD = RD at *
    exact set_run (e1 := [.va (.str t), .va (.lst LD), .va (.lst RD), .no, .no, .no, .no, .no, .no]) (tup_run lr) rfl rfl
  have s5 : (mSet 4 (mCall bTuple (maCons (mAsV (mLc (mIt (mVar 2)) [7, 8] (mgTup 2 (mgsCons (mgName 7) (mgsCons (mgName 8) mgsNil))) (mB fEq (mPk 7) (lPk 7) (mC (.str [108, 105, 110, 107])) lId) (mVar 8))) maNil) (laCons lId laNil))) [.va (.str t), .va (.lst LD), .va (.lst (R.map rwD)), .va (.tup ((partW wT R).map itD)), .no, .no, .no, .no, .no] = .nx [.va (.str t), .va (.lst LD), .va (.lst (R.map rwD)), .va (.tup ((partW wT R).map itD)), .va (.tup ((partW wL R).map itD)), .no, .no, .no, .no] := by
    have lc := part_lc (mg := (mgTup 2 (mgsCons (mgName 7) (mgsCons (mgName 8) mgsNil)))) (mt := (mB fEq (mPk 7) (lPk 7) (mC (.str [108, 105, 110, 107])) lId)) (me := (mVar 8)) (w := wL) (hh := hN) (benv := [.va (.str t), .va (.lst LD), .va (.lst (R.map rwD)), .va (.tup ((partW wT R).map itD)), .no, .no, .no, .no, .no]) gr (fun p hp => by
      have := eqW hp asc_L
      exact ⟨[.va (.str t), .va (.lst LD), .va (.lst (R.map rwD)), .va (.tup ((partW wT R).map itD)), .no, .no, .no, .va (.str p.1), .va (itD p.2)], [.va (.str t), .va (.lst LD), .va (.lst (R.map rwD)), .va (.tup ((partW wT R).map itD)), .no, .no, .no, .va (.str p.1), .va (itD p.2)], [.va (.str t), .va (.lst LD), .va (.lst (R.map rwD)), .va (.tup ((partW wT R).map itD)), .no, .no, .no, .va (.str p.1), .va (itD p.2)], by simp [rwD], by simp [this, slotD], fun _ => by simp [hN, rwD]⟩)
    rw [part_D] at lc
    have lr := lc_run (mi := (mIt (mVar 2))) (vs := [7, 8]) (e := [.va (.str t), .va (.lst LD), .va (.lst (R.map rwD)), .va (.tup ((partW wT R).map itD)), .no, .no, .no, .no, .no]) (e1 := [.va (.str t), .va (.lst LD), .va (.lst (R.map rwD)), .va (.tup ((partW wT R).map itD)), .no, .no, .no, .no, .no]) (by simp) (by rw [List.length_map]; omega) rfl lc
    generalize R.map rwD = RD at *
    exact set_run (e1 := [.va (.str t), .va (.lst LD), .va (.lst RD), .va (.tup ((partW wT R).map itD)), .no, .no, .no, .no, .no]) (tup_run lr) rfl rfl
  have s6 : (mSet 5 (mTup (maCons (mVar 3) (maCons (mVar 4) (maCons (mCall bTuple (maCons (mAsV (mLc (mIt (mVar 2)) [7, 8] (mgTup 2 (mgsCons (mgName 7) (mgsCons (mgName 8) mgsNil))) (mB fEq (mPk 7) (lPk 7) (mC (.str [105, 110, 100, 101, 120])) lId) (mB fIx (mPk 8) (lPk 8) (mC (.int 0)) lId))) maNil) (laCons lId laNil)) maNil))))) [.va (.str t), .va (.lst LD), .va (.lst (R.map rwD)), .va (.tup ((partW wT R).map itD)), .va (.tup ((partW wL R).map itD)), .no, .no, .no, .no] = .nx [.va (.str t), .va (.lst LD), .va (.lst (R.map rwD)), .va (.tup ((partW wT R).map itD)), .va (.tup ((partW wL R).map itD)), .va (foundD R), .no, .no, .no] := by
    have lc := part_lc (mg := (mgTup 2 (mgsCons (mgName 7) (mgsCons (mgName 8) mgsNil)))) (mt := (mB fEq (mPk 7) (lPk 7) (mC (.str [105, 110, 100, 101, 120])) lId)) (me := (mB fIx (mPk 8) (lPk 8) (mC (.int 0)) lId)) (w := wX) (hh := hX) (benv := [.va (.str t), .va (.lst LD), .va (.lst (R.map rwD)), .va (.tup ((partW wT R).map itD)), .va (.tup ((partW wL R).map itD)), .no, .no, .no, .no]) gr (fun p hp => by
      have := eqW hp asc_X
      exact ⟨[.va (.str t), .va (.lst LD), .va (.lst (R.map rwD)), .va (.tup ((partW wT R).map itD)), .va (.tup ((partW wL R).map itD)), .no, .no, .va (.str p.1), .va (itD p.2)], [.va (.str t), .va (.lst LD), .va (.lst (R.map rwD)), .va (.tup ((partW wT R).map itD)), .va (.tup ((partW wL R).map itD)), .no, .no, .va (.str p.1), .va (itD p.2)], [.va (.str t), .va (.lst LD), .va (.lst (R.map rwD)), .va (.tup ((partW wT R).map itD)), .va (.tup ((partW wL R).map itD)), .no, .no, .va (.str p.1), .va (itD p.2)], by simp [rwD], by simp [this, slotD], fun hw => by
        obtain ⟨n, e⟩ := hp.x hw
        simp [hX, rwD, itD, e, fIx, ixD, slotD]⟩)
    rw [part_X R gr] at lc
    have lr := lc_run (mi := (mIt (mVar 2))) (vs := [7, 8]) (e := [.va (.str t), .va (.lst LD), .va (.lst (R.map rwD)), .va (.tup ((partW wT R).map itD)), .va (.tup ((partW wL R).map itD)), .no, .no, .no, .no]) (e1 := [.va (.str t), .va (.lst LD), .va (.lst (R.map rwD)), .va (.tup ((partW wT R).map itD)), .va (.tup ((partW wL R).map itD)), .no, .no, .no, .no]) (by simp) (by rw [List.length_map]; omega) rfl lc
    generalize R.map rwD = RD at *
    have hM := tup_run lr
    generalize mCall bTuple (maCons (mAsV (mLc (mIt (mVar 2)) [7, 8] (mgTup 2 (mgsCons (mgName 7) (mgsCons (mgName 8) mgsNil))) (mB fEq (mPk 7) (lPk 7) (mC (.str [105, 110, 100, 101, 120])) lId) (mB fIx (mPk 8) (lPk 8) (mC (.int 0)) lId))) maNil) (laCons lId laNil) = M at *
    exact set_run (e1 := [.va (.str t), .va (.lst LD), .va (.lst RD), .va (.tup ((partW wT R).map itD)), .va (.tup ((partW wL R).map itD)), .no, .no, .no, .no]) (by simp [hM, line, foundD]) rfl rfl
  exact seq_nx s3 (seq_nx s4 (seq_nx s5 (seq_nx s6 hr)))
end GJ

set_option Elab.async false
set_option linter.all false
set_option maxRecDepth 100000
set_option maxHeartbeats 2000000
namespace GJ
open PySem L2 MP

/-! ### what read_question answers -/
theorem q_bad {t : Tx} (h : t.length ≤ 5000) {R : List Rw} (hR : rowsOf t = R.map some) (hb : goodQ (foundD R) = false ∨ ∃ m T L I, foundD R = QD T L I ∧ Sm m T L I ∧ goodQ (foundD R) = true ∧ linesQ T L I ≠ spl1 10 t) (ha : Asc t) : run_question_in [.va (.str t)] = .ex (1000 * ((spl1 10 t).length + 2) + 3) none := by
  obtain ⟨e3, he, k⟩ := q_mid h hR
  have g := good_question_ok (foundD R) (Pl_found R)
  have hl : bLen [.lst ((spl1 10 t).map D.str)] = some (.int ((spl1 10 t).length : Int)) := by simp [bLen]
  have h0 : (0 : Int) ≤ ((spl1 10 t).length : Int) + 1 := by omega
  have hsa := spl_asc (c := 10) ha
  have fin : m_question_in [.va (.str t), .no, .no, .no, .no, .no, .no, .no, .no] = .ex (1000 * ((spl1 10 t).length + 2) + 3) e3 := by
    refine k _ ?_
    rw [he]
    rcases hb with hb | ⟨m, T, L, I, eQ, s, hb, hne⟩
    · rw [hb] at g
      generalize foundD R = Q at *
      generalize (spl1 10 t).length = N at *
      generalize (spl1 10 t).map D.str = LD at *
      generalize (rowsOf t).map rowD = RD at *
      generalize D.tup ((partW wT R).map itD) = A1 at *
      generalize D.tup ((partW wL R).map itD) = A2 at *
      simp [g, hl, h0, slotD, fAdd]
    · rw [hb] at g
      have lo := lines_of_ok s
      rw [← eQ] at lo
      have ne := ne_strs (linesQ_asc s) hsa
      rw [decide_eq_false hne] at ne
      generalize foundD R = Q at *
      generalize (linesQ T L I).map D.str = LQ at *
      generalize (spl1 10 t).length = N at *
      generalize (spl1 10 t).map D.str = LD at *
      generalize (rowsOf t).map rowD = RD at *
      generalize D.tup ((partW wT R).map itD) = A1 at *
      generalize D.tup ((partW wL R).map itD) = A2 at *
      simp [g, lo, ne, hl, h0, slotD, fAdd]
  have := q_ex (e' := []) (n := 1) (tot := 9) (m := m_question_in) (args := [.va (.str t)]) fin
  rw [he] at this
  exact this
theorem q_good {t : Tx} (h : t.length ≤ 5000) {R : List Rw} (hR : rowsOf t = R.map some) {m : Nat} {T : List Tb} {L : List Lk} {I : List Int} (eQ : foundD R = QD T L I) (s : Sm m T L I) (hb : goodQ (foundD R) = true) (hne : linesQ T L I = spl1 10 t) (ha : Asc t) : run_question_in [.va (.str t)] = .ok (QD T L I) none := by
  obtain ⟨e3, he, k⟩ := q_mid h hR
  have g := good_question_ok (foundD R) (Pl_found R)
  have hsa := spl_asc (c := 10) ha
  have fin : m_question_in [.va (.str t), .no, .no, .no, .no, .no, .no, .no, .no] = .rt (QD T L I) e3 := by
    refine k _ ?_
    rw [he, ← eQ]
    rw [hb] at g
    have lo := lines_of_ok s
    rw [← eQ] at lo
    have ne := ne_strs (linesQ_asc s) hsa
    rw [decide_eq_true hne] at ne
    generalize foundD R = Q at *
    generalize (linesQ T L I).map D.str = LQ at *
    generalize (spl1 10 t).map D.str = LD at *
    generalize (rowsOf t).map rowD = RD at *
    generalize D.tup ((partW wT R).map itD) = A1 at *
    generalize D.tup ((partW wL R).map itD) = A2 at *
    simp [g, lo, ne, slotD]
  have := run_rt (n := 1) (tot := 9) (m := m_question_in) (args := [.va (.str t)]) fin
  rw [he] at this
  exact this
theorem read_ex {d : D} {n : Nat} (h : run_question_in [.va d] = .ex (1000 * (n + 1) + 3) none) : run__law_read [.va d] = .ok (.tup [.non, .int (n : Int)]) none := by
  have r : run_read_question [.va d] = .ex (1000 * (n + 1) + 3) none := by simp [run_read_question, runF, m_read_question, h, slotD, outOf, fAdd, fSub, fMod, fLt, fLe, fGt, fGe, fNeg, fIsN, fNotN, MP.isNon, bAbs, bInt, isInt, isBool, isTup, isStr, bLen, line]
  have q1 : (1000 * (n + 1) + 3) % 1000 = 3 := by omega
  have q2 : (1000 * (n + 1) + 3) / 1000 - 1 = n := by omega
  have x : ex_InvalidText (1000 * (n + 1) + 3) = some true := by
    unfold ex_InvalidText
    rw [q1, show Nat.ble 1000 (1000 * (n + 1) + 3) = true from Nat.ble_eq.mpr (by omega)]
    rfl
  generalize 1000 * (n + 1) + 3 = K at *
  simp [run__law_read, runF, m__law_read, r, x, q2, slotD, outOf, fAdd, fSub, fMod, fLt, fLe, fGt, fGe, fNeg, fIsN, fNotN, MP.isNon, bAbs, bInt, isInt, isBool, isTup, isStr, bLen, line]
theorem read_ok {d q : D} (h : run_question_in [.va d] = .ok q none) : run__law_read [.va d] = .ok (.tup [q, .non]) none := by
  have r : run_read_question [.va d] = .ok q none := by simp [run_read_question, runF, m_read_question, h, slotD, outOf, fAdd, fSub, fMod, fLt, fLe, fGt, fGe, fNeg, fIsN, fNotN, MP.isNon, bAbs, bInt, isInt, isBool, isTup, isStr, bLen, line]
  simp [run__law_read, runF, m__law_read, r, slotD, outOf, fAdd, fSub, fMod, fLt, fLe, fGt, fGe, fNeg, fIsN, fNotN, MP.isNon, bAbs, bInt, isInt, isBool, isTup, isStr, bLen, line]
end GJ

set_option Elab.async false
set_option linter.all false
set_option maxRecDepth 100000
set_option maxHeartbeats 2000000
namespace GJ
open PySem L2 MP

/-! ### the law's own reading -/
def enF : Nat → List D → List D
  | _, [] => []
  | i, x :: xs => .tup [.int ((i : Nat) : Int), x] :: enF (i + 1) xs
theorem en_pairs : ∀ (xs : List D) (i : Nat), pairs ((List.range' i xs.length).map fun i => D.int ((i : Nat) : Int)) xs = enF i xs
  | [], _ => rfl
  | x :: xs, i => by
    rw [List.length_cons, List.range'_succ]
    simp only [List.map_cons, pairs, enF]
    rw [en_pairs xs (i + 1)]
theorem en_ok (xs : List D) : enumD xs = enF 0 xs := by
  unfold enumD
  rw [List.range_eq_range', en_pairs]
theorem ix_last (acc : List D) (d : D) : fIx (.lst (acc ++ [d])) (.int (-1)) = some d := by
  simp only [fIx, ixD]
  rw [decide_eq_false (by decide)]
  dsimp only
  rw [decide_eq_true (by simp only [List.length_append, List.length_cons, List.length_nil]; omega)]
  dsimp only
  have : ((-1 : Int) + ((acc ++ [d]).length : Nat)).toNat = acc.length := by simp only [List.length_append, List.length_cons, List.length_nil]; omega
  rw [this]
  simp
theorem bad_loop {V1 V2 : D} : ∀ (ls : List Tx) (i : Nat) (acc : List D) (s3 s4 : Sl), roE s3 = s3 → roE s4 = s4 → (∀ l ∈ ls, l.length ≤ 5000 ∧ Asc l) → acc.length + ls.length < 10000 →
    (∀ j, fstN (ls.map rowOf) = some j → ∃ e, forGo (mgTup 2 (mgsCons (mgName 3) (mgsCons (mgName 4) mgsNil))) (mSeq (mApp 2 (mUser run__law_row (maCons (mVar 4) maNil))) (mIfS (mB fIsN (mB fIx (mPk 2) (lPk 2) (mU fNeg (mC (.int 1)) lId) lId) lId (mC .non) lId) (mRet (mB fAdd (mPk 3) (lPk 3) (mC (.int 1)) lId)) mSkip)) (enF i (ls.map D.str)) [.va V1, .va V2, .ow (.lst acc), s3, s4, .no, .no, .no, .no, .no, .no] = .rt (.int ((i : Int) + (j : Int) + 1)) (.va V1 :: e)) ∧
    (fstN (ls.map rowOf) = none → ∃ t3 t4, roE t3 = t3 ∧ roE t4 = t4 ∧ forGo (mgTup 2 (mgsCons (mgName 3) (mgsCons (mgName 4) mgsNil))) (mSeq (mApp 2 (mUser run__law_row (maCons (mVar 4) maNil))) (mIfS (mB fIsN (mB fIx (mPk 2) (lPk 2) (mU fNeg (mC (.int 1)) lId) lId) lId (mC .non) lId) (mRet (mB fAdd (mPk 3) (lPk 3) (mC (.int 1)) lId)) mSkip)) (enF i (ls.map D.str)) [.va V1, .va V2, .ow (.lst acc), s3, s4, .no, .no, .no, .no, .no, .no] = .nx [.va V1, .va V2, .ow (.lst (acc ++ (ls.map rowOf).map rowD)), t3, t4, .no, .no, .no, .no, .no, .no])
  | [], i, acc, s3, s4, z3, z4, _, _ => ⟨fun j h => by simp [fstN] at h, fun _ => ⟨s3, s4, z3, z4, by simp [forGo, enF]⟩⟩
  | l :: ls, i, acc, s3, s4, _, _, h, hl => by
    have hl0 := h l List.mem_cons_self
    have r := law_row_ok (l := l) (by omega) hl0.2
    simp only [List.length_cons] at hl
    have hlt : acc.length < 16777216 := by omega
    have lst := ix_last acc (rowD (rowOf l))
    have tg : (mgTup 2 (mgsCons (mgName 3) (mgsCons (mgName 4) mgsNil))) (.tup [.int (i : Int), .str l]) [.va V1, .va V2, .ow (.lst acc), s3, s4, .no, .no, .no, .no, .no, .no] = some [.va V1, .va V2, .ow (.lst acc), .va (.int (i : Int)), .va (.str l), .no, .no, .no, .no, .no, .no] := by simp
    have b1 : (mApp 2 (mUser run__law_row (maCons (mVar 4) maNil))) [.va V1, .va V2, .ow (.lst acc), .va (.int (i : Int)), .va (.str l), .no, .no, .no, .no, .no, .no] = .nx [.va V1, .va V2, .ow (.lst (acc ++ [rowD (rowOf l)])), .va (.int (i : Int)), .va (.str l), .no, .no, .no, .no, .no, .no] := by
      simp [r, atC, kput, hlt, slotD, outOf, fAdd, fSub, fMod, fLt, fLe, fGt, fGe, fNeg, fIsN, fNotN, MP.isNon, bAbs, bInt, isInt, isBool, isTup, isStr, bLen, line]
    cases e : rowOf l with
    | none =>
      rw [e] at b1 lst
      refine ⟨fun j hj => ?_, fun hj => ?_⟩
      · simp only [List.map_cons, e, fstN, Option.some.injEq] at hj
        subst hj
        have b2 : (mIfS (mB fIsN (mB fIx (mPk 2) (lPk 2) (mU fNeg (mC (.int 1)) lId) lId) lId (mC .non) lId) (mRet (mB fAdd (mPk 3) (lPk 3) (mC (.int 1)) lId)) mSkip) [.va V1, .va V2, .ow (.lst (acc ++ [rowD none])), .va (.int (i : Int)), .va (.str l), .no, .no, .no, .no, .no, .no] = .rt (.int ((i : Int) + ((0 : Nat) : Int) + 1)) [.va V1, .va V2, .ow (.lst (acc ++ [rowD none])), .va (.int (i : Int)), .va (.str l), .no, .no, .no, .no, .no, .no] := by
          have hi : (i : Int) + ((0 : Nat) : Int) + 1 = (i : Int) + 1 := by omega
          generalize acc ++ [rowD none] = A at *
          rw [hi]
          simp [lst, rowD, slotD, outOf, fAdd, fSub, fMod, fLt, fLe, fGt, fGe, fNeg, fIsN, fNotN, MP.isNon, bAbs, bInt, isInt, isBool, isTup, isStr, bLen, line]
        refine ⟨[.va V2, .ow (.lst (acc ++ [rowD none])), .va (.int (i : Int)), .va (.str l), .no, .no, .no, .no, .no, .no], ?_⟩
        simp only [List.map_cons, enF, forGo, tg]
        rw [mSeq_ap, b1]
        dsimp only
        rw [b2]
      · simp only [List.map_cons, e, fstN] at hj
        cases hj
    | some p =>
      rw [e] at b1 lst
      obtain ⟨k1, k2⟩ := bad_loop ls (i + 1) (acc ++ [rowD (some p)]) (.va (.int (i : Int))) (.va (.str l)) rfl rfl (fun x hx => h x (List.mem_cons_of_mem _ hx)) (by simp only [List.length_append, List.length_cons, List.length_nil]; omega)
      have b2 : (mIfS (mB fIsN (mB fIx (mPk 2) (lPk 2) (mU fNeg (mC (.int 1)) lId) lId) lId (mC .non) lId) (mRet (mB fAdd (mPk 3) (lPk 3) (mC (.int 1)) lId)) mSkip) [.va V1, .va V2, .ow (.lst (acc ++ [rowD (some p)])), .va (.int (i : Int)), .va (.str l), .no, .no, .no, .no, .no, .no] = .nx [.va V1, .va V2, .ow (.lst (acc ++ [rowD (some p)])), .va (.int (i : Int)), .va (.str l), .no, .no, .no, .no, .no, .no] := by
        clear k1 k2
        generalize acc ++ [rowD (some p)] = A at *
        simp [lst, rowD, slotD, outOf, fAdd, fSub, fMod, fLt, fLe, fGt, fGe, fNeg, fIsN, fNotN, MP.isNon, bAbs, bInt, isInt, isBool, isTup, isStr, bLen, line]
      refine ⟨fun j hj => ?_, fun hj => ?_⟩
      · simp only [List.map_cons, e, fstN, Option.map_eq_some_iff] at hj
        obtain ⟨j', hj', rfl⟩ := hj
        obtain ⟨e', q⟩ := k1 j' hj'
        refine ⟨e', ?_⟩
        simp only [List.map_cons, enF]
        refine go_cons tg (seq_nx b1 b2) (q.trans ?_)
        congr 2
        push_cast
        omega
      · simp only [List.map_cons, e, fstN, Option.map_eq_none_iff] at hj
        obtain ⟨t3, t4, z3, z4, q⟩ := k2 hj
        refine ⟨t3, t4, z3, z4, ?_⟩
        simp only [List.map_cons, enF]
        refine go_cons tg (seq_nx b1 b2) (q.trans ?_)
        simp only [List.append_assoc, List.cons_append, List.nil_append, e]
theorem is_q (R : List Rw) : run_is_question [.va (foundD R)] = .ok (.bl (goodQ (foundD R))) none := by
  have g := good_question_ok (foundD R) (Pl_found R)
  generalize foundD R = Q at *
  simp [run_is_question, runF, m_is_question, g, slotD, outOf, fAdd, fSub, fMod, fLt, fLe, fGt, fGe, fNeg, fIsN, fNotN, MP.isNon, bAbs, bInt, isInt, isBool, isTup, isStr, bLen, line]
end GJ

set_option Elab.async false
set_option linter.all false
set_option maxRecDepth 100000
set_option maxHeartbeats 2000000
namespace GJ
open PySem L2 MP

/-! ### _law_bad -/
theorem b_head {t : Tx} (h : t.length ≤ 5000) : (mParO 1 2 (mM1 fSplit (mVar 0) (mC (.str [10])) lId) (mLst maNil)) [.va (.str t), .no, .no, .no, .no, .no, .no, .no, .no, .no, .no] = .nx [.va (.str t), .va (.lst ((spl1 10 t).map D.str)), .ow (.lst []), .no, .no, .no, .no, .no, .no, .no, .no] := by
  have sp := split_ok 10 (by decide) (t := t) (by omega)
  generalize (spl1 10 t).map D.str = LD at *
  simp [sp]
theorem b_it (t : Tx) (LD : List D) (o s3 s4 : Sl) : (mEnum (maCons (mVar 1) maNil)) [.va (.str t), .va (.lst LD), o, s3, s4, .no, .no, .no, .no, .no, .no] = .ok (enF 0 LD) [.va (.str t), .va (.lst LD), o, s3, s4, .no, .no, .no, .no, .no, .no] := by
  rw [← en_ok]
  simp
theorem b_lines {t : Tx} (h : t.length ≤ 5000) (ha : Asc t) : (∀ l ∈ spl1 10 t, l.length ≤ 5000 ∧ Asc l) ∧ (spl1 10 t).length ≤ 5001 := by
  refine ⟨fun l hl => ⟨?_, spl_asc ha l hl⟩, ?_⟩
  · have := spl_short 10 t [] l hl
    simp only [List.length_nil] at this
    omega
  · have : (spl1 10 t).length ≤ t.length + 1 := spl_count 10 t []
    omega
theorem b_none {t : Tx} (h : t.length ≤ 5000) (ha : Asc t) {i : Nat} (hi : fstN (rowsOf t) = some i) : run__law_bad [.va (.str t)] = .ok (.int ((i + 1 : Nat) : Int)) none := by
  have hl := b_lines h ha
  obtain ⟨e, q⟩ := (bad_loop (V1 := .str t) (V2 := .lst ((spl1 10 t).map D.str)) (spl1 10 t) 0 [] .no .no rfl rfl hl.1 (by simp only [List.length_nil]; omega)).1 i hi
  have fin : m__law_bad [.va (.str t), .no, .no, .no, .no, .no, .no, .no, .no, .no, .no] = .rt (.int ((i + 1 : Nat) : Int)) (.va (.str t) :: e) := by
    refine seq_nx (b_head h) ?_
    have := for_ok (b_it t ((spl1 10 t).map D.str) (.ow (.lst [])) .no .no) q
    rw [mSeq_ap, this]
    have : ((0 : Nat) : Int) + (i : Int) + 1 = ((i + 1 : Nat) : Int) := by omega
    dsimp only
    rw [this]
  exact run_rt (n := 1) (tot := 11) (m := m__law_bad) (args := [.va (.str t)]) fin
theorem b_mid {t : Tx} (h : t.length ≤ 5000) (ha : Asc t) {R : List Rw} (hR : rowsOf t = R.map some) : ∃ (RD : List D) (t3 t4 A5 A6 A7 : Sl),
    ∀ r, (mSeq (mIfS (mAnd (mUser run_is_question (maCons (mVar 8) maNil)) (mB fEq (mUser run__law_written (maCons (mVar 8) maNil)) lId (mPk 0) (lPk 0))) (mRet (mC .non)) mSkip) (mRet (mB fAdd (mCall bLen (maCons (mPk 1) maNil) (laCons (lPk 1) laNil)) lId (mC (.int 1)) lId))) [.va (.str t), .va (.lst ((spl1 10 t).map D.str)), .va (.lst RD), t3, t4, A5, A6, A7, .va (foundD R), .no, .no] = r → m__law_bad [.va (.str t), .no, .no, .no, .no, .no, .no, .no, .no, .no, .no] = r := by
  have hl := b_lines h ha
  obtain ⟨t3, t4, z3, z4, q⟩ := (bad_loop (V1 := .str t) (V2 := .lst ((spl1 10 t).map D.str)) (spl1 10 t) 0 [] .no .no rfl rfl hl.1 (by simp only [List.length_nil]; omega)).2 (by show fstN (rowsOf t) = none; rw [hR, fst_all])
  have gr : ∀ p ∈ R, GoodR p := fun p hp => rows_good t p (by rw [hR]; exact List.mem_map.mpr ⟨p, hp, rfl⟩)
  have eR : (rowsOf t).map rowD = R.map rwD := by rw [hR, List.map_map]; rfl
  have hlR : R.length ≤ 5001 := by
    have h1 := rows_len t
    rw [hR, List.length_map] at h1
    omega
  rw [List.nil_append, show (spl1 10 t).map rowOf = rowsOf t from rfl, eR] at q
  refine ⟨R.map rwD, t3, t4, .va (.tup ((partW wT R).map itD)), .va (.tup ((partW wL R).map itD)), .va (.tup ((partW wX R).map hdD)), fun r hr => ?_⟩
  refine seq_nx (b_head h) (seq_nx (for_ok (b_it t ((spl1 10 t).map D.str) (.ow (.lst [])) .no .no) q) ?_)
  clear q
  generalize (spl1 10 t).map D.str = LD at *
  have s5 : (mSet 5 (mCall bTuple (maCons (mAsV (mLc (mIt (mVar 2)) [9, 10] (mgTup 2 (mgsCons (mgName 9) (mgsCons (mgName 10) mgsNil))) (mB fEq (mPk 9) (lPk 9) (mC (.str [116, 97, 98, 108, 101])) lId) (mVar 10))) maNil) (laCons lId laNil))) [.va (.str t), .va (.lst LD), .ow (.lst (R.map rwD)), t3, t4, .no, .no, .no, .no, .no, .no] = .nx [.va (.str t), .va (.lst LD), .va (.lst (R.map rwD)), t3, t4, .va (.tup ((partW wT R).map itD)), .no, .no, .no, .no, .no] := by
    have lc := part_lc (mg := (mgTup 2 (mgsCons (mgName 9) (mgsCons (mgName 10) mgsNil)))) (mt := (mB fEq (mPk 9) (lPk 9) (mC (.str [116, 97, 98, 108, 101])) lId)) (me := (mVar 10)) (w := wT) (hh := hN) (benv := [.va (.str t), .va (.lst LD), .va (.lst (R.map rwD)), t3, t4, .no, .no, .no, .no, .no, .no]) gr (fun p hp => by
      have := eqW hp asc_T
      exact ⟨[.va (.str t), .va (.lst LD), .va (.lst (R.map rwD)), t3, t4, .no, .no, .no, .no, .va (.str p.1), .va (itD p.2)], [.va (.str t), .va (.lst LD), .va (.lst (R.map rwD)), t3, t4, .no, .no, .no, .no, .va (.str p.1), .va (itD p.2)], [.va (.str t), .va (.lst LD), .va (.lst (R.map rwD)), t3, t4, .no, .no, .no, .no, .va (.str p.1), .va (itD p.2)], by simp [rwD], by simp [this, slotD], fun _ => by simp [hN, rwD]⟩)
    rw [part_D] at lc
    have lr := lc_run (mi := (mIt (mVar 2))) (vs := [9, 10]) (e := [.va (.str t), .va (.lst LD), .ow (.lst (R.map rwD)), t3, t4, .no, .no, .no, .no, .no, .no]) (e1 := [.va (.str t), .va (.lst LD), .va (.lst (R.map rwD)), t3, t4, .no, .no, .no, .no, .no, .no]) (by simp) (by rw [List.length_map]; omega) (by simp only [List.map_cons, List.map_nil, z3, z4]; rfl) lc
    exact set_run (tup_run lr) rfl rfl
  have s6 : (mSet 6 (mCall bTuple (maCons (mAsV (mLc (mIt (mVar 2)) [9, 10] (mgTup 2 (mgsCons (mgName 9) (mgsCons (mgName 10) mgsNil))) (mB fEq (mPk 9) (lPk 9) (mC (.str [108, 105, 110, 107])) lId) (mVar 10))) maNil) (laCons lId laNil))) [.va (.str t), .va (.lst LD), .va (.lst (R.map rwD)), t3, t4, .va (.tup ((partW wT R).map itD)), .no, .no, .no, .no, .no] = .nx [.va (.str t), .va (.lst LD), .va (.lst (R.map rwD)), t3, t4, .va (.tup ((partW wT R).map itD)), .va (.tup ((partW wL R).map itD)), .no, .no, .no, .no] := by
    have lc := part_lc (mg := (mgTup 2 (mgsCons (mgName 9) (mgsCons (mgName 10) mgsNil)))) (mt := (mB fEq (mPk 9) (lPk 9) (mC (.str [108, 105, 110, 107])) lId)) (me := (mVar 10)) (w := wL) (hh := hN) (benv := [.va (.str t), .va (.lst LD), .va (.lst (R.map rwD)), t3, t4, .va (.tup ((partW wT R).map itD)), .no, .no, .no, .no, .no]) gr (fun p hp => by
      have := eqW hp asc_L
      exact ⟨[.va (.str t), .va (.lst LD), .va (.lst (R.map rwD)), t3, t4, .va (.tup ((partW wT R).map itD)), .no, .no, .no, .va (.str p.1), .va (itD p.2)], [.va (.str t), .va (.lst LD), .va (.lst (R.map rwD)), t3, t4, .va (.tup ((partW wT R).map itD)), .no, .no, .no, .va (.str p.1), .va (itD p.2)], [.va (.str t), .va (.lst LD), .va (.lst (R.map rwD)), t3, t4, .va (.tup ((partW wT R).map itD)), .no, .no, .no, .va (.str p.1), .va (itD p.2)], by simp [rwD], by simp [this, slotD], fun _ => by simp [hN, rwD]⟩)
    rw [part_D] at lc
    have lr := lc_run (mi := (mIt (mVar 2))) (vs := [9, 10]) (e := [.va (.str t), .va (.lst LD), .va (.lst (R.map rwD)), t3, t4, .va (.tup ((partW wT R).map itD)), .no, .no, .no, .no, .no]) (e1 := [.va (.str t), .va (.lst LD), .va (.lst (R.map rwD)), t3, t4, .va (.tup ((partW wT R).map itD)), .no, .no, .no, .no, .no]) (by simp) (by rw [List.length_map]; omega) (by simp only [List.map_cons, List.map_nil, z3, z4]; rfl) lc
    exact set_run (tup_run lr) rfl rfl
  have s7 : (mSet 7 (mCall bTuple (maCons (mAsV (mLc (mIt (mVar 2)) [9, 10] (mgTup 2 (mgsCons (mgName 9) (mgsCons (mgName 10) mgsNil))) (mB fEq (mPk 9) (lPk 9) (mC (.str [105, 110, 100, 101, 120])) lId) (mB fIx (mPk 10) (lPk 10) (mC (.int 0)) lId))) maNil) (laCons lId laNil))) [.va (.str t), .va (.lst LD), .va (.lst (R.map rwD)), t3, t4, .va (.tup ((partW wT R).map itD)), .va (.tup ((partW wL R).map itD)), .no, .no, .no, .no] = .nx [.va (.str t), .va (.lst LD), .va (.lst (R.map rwD)), t3, t4, .va (.tup ((partW wT R).map itD)), .va (.tup ((partW wL R).map itD)), .va (.tup ((partW wX R).map hdD)), .no, .no, .no] := by
    have lc := part_lc (mg := (mgTup 2 (mgsCons (mgName 9) (mgsCons (mgName 10) mgsNil)))) (mt := (mB fEq (mPk 9) (lPk 9) (mC (.str [105, 110, 100, 101, 120])) lId)) (me := (mB fIx (mPk 10) (lPk 10) (mC (.int 0)) lId)) (w := wX) (hh := hX) (benv := [.va (.str t), .va (.lst LD), .va (.lst (R.map rwD)), t3, t4, .va (.tup ((partW wT R).map itD)), .va (.tup ((partW wL R).map itD)), .no, .no, .no, .no]) gr (fun p hp => by
      have := eqW hp asc_X
      exact ⟨[.va (.str t), .va (.lst LD), .va (.lst (R.map rwD)), t3, t4, .va (.tup ((partW wT R).map itD)), .va (.tup ((partW wL R).map itD)), .no, .no, .va (.str p.1), .va (itD p.2)], [.va (.str t), .va (.lst LD), .va (.lst (R.map rwD)), t3, t4, .va (.tup ((partW wT R).map itD)), .va (.tup ((partW wL R).map itD)), .no, .no, .va (.str p.1), .va (itD p.2)], [.va (.str t), .va (.lst LD), .va (.lst (R.map rwD)), t3, t4, .va (.tup ((partW wT R).map itD)), .va (.tup ((partW wL R).map itD)), .no, .no, .va (.str p.1), .va (itD p.2)], by simp [rwD], by simp [this, slotD], fun hw => by
        obtain ⟨n, e⟩ := hp.x hw
        simp [hX, rwD, itD, e, fIx, ixD, slotD]⟩)
    rw [part_X R gr] at lc
    have lr := lc_run (mi := (mIt (mVar 2))) (vs := [9, 10]) (e := [.va (.str t), .va (.lst LD), .va (.lst (R.map rwD)), t3, t4, .va (.tup ((partW wT R).map itD)), .va (.tup ((partW wL R).map itD)), .no, .no, .no, .no]) (e1 := [.va (.str t), .va (.lst LD), .va (.lst (R.map rwD)), t3, t4, .va (.tup ((partW wT R).map itD)), .va (.tup ((partW wL R).map itD)), .no, .no, .no, .no]) (by simp) (by rw [List.length_map]; omega) (by simp only [List.map_cons, List.map_nil, z3, z4]; rfl) lc
    exact set_run (tup_run lr) rfl rfl
  have s8 : (mSet 8 (mTup (maCons (mVar 5) (maCons (mVar 6) (maCons (mVar 7) maNil))))) [.va (.str t), .va (.lst LD), .va (.lst (R.map rwD)), t3, t4, .va (.tup ((partW wT R).map itD)), .va (.tup ((partW wL R).map itD)), .va (.tup ((partW wX R).map hdD)), .no, .no, .no] = .nx [.va (.str t), .va (.lst LD), .va (.lst (R.map rwD)), t3, t4, .va (.tup ((partW wT R).map itD)), .va (.tup ((partW wL R).map itD)), .va (.tup ((partW wX R).map hdD)), .va (foundD R), .no, .no] := by
    generalize R.map rwD = RD at *
    exact set_run (by simp [line]; exact ⟨rfl, rfl⟩) rfl rfl
  exact seq_nx s5 (seq_nx s6 (seq_nx s7 (seq_nx s8 hr)))
end GJ

set_option Elab.async false
set_option linter.all false
set_option maxRecDepth 100000
set_option maxHeartbeats 2000000
namespace GJ
open PySem L2 MP

/-! ### read_question and _law_bad agree -/
theorem b_bad {t : Tx} (h : t.length ≤ 5000) (ha : Asc t) {R : List Rw} (hR : rowsOf t = R.map some) (hb : goodQ (foundD R) = false ∨ ∃ m T L I, foundD R = QD T L I ∧ Sm m T L I ∧ goodQ (foundD R) = true ∧ linesQ T L I ≠ spl1 10 t) : run__law_bad [.va (.str t)] = .ok (.int (((spl1 10 t).length + 1 : Nat) : Int)) none := by
  obtain ⟨RD, t3, t4, A5, A6, A7, k⟩ := b_mid h ha hR
  have g := is_q R
  have hl : bLen [.lst ((spl1 10 t).map D.str)] = some (.int ((spl1 10 t).length : Int)) := by simp [bLen]
  have cs : (((spl1 10 t).length + 1 : Nat) : Int) = ((spl1 10 t).length : Int) + 1 := by omega
  have fin : m__law_bad [.va (.str t), .no, .no, .no, .no, .no, .no, .no, .no, .no, .no] = .rt (.int (((spl1 10 t).length + 1 : Nat) : Int)) [.va (.str t), .va (.lst ((spl1 10 t).map D.str)), .va (.lst RD), t3, t4, A5, A6, A7, .va (foundD R), .no, .no] := by
    refine k _ ?_
    rw [cs]
    clear k
    rcases hb with hb | ⟨m, T, L, I, eQ, s, hb, hne⟩
    · rw [hb] at g
      generalize foundD R = Q at *
      generalize (spl1 10 t).length = N at *
      generalize (spl1 10 t).map D.str = LD at *
      simp [g, hl, slotD, fAdd]
    · rw [hb] at g
      have lo := written_ok s
      rw [← eQ] at lo
      have ne := eq_str1 (jn_asc (c := 10) (by decide) _ (linesQ_asc s)) ha
      rw [decide_eq_false (fun e => hne ((lines_iff s t).mp e))] at ne
      generalize foundD R = Q at *
      generalize jn1 10 (linesQ T L I) = LQ at *
      generalize (spl1 10 t).length = N at *
      generalize (spl1 10 t).map D.str = LD at *
      simp [g, lo, ne, hl, slotD, fAdd]
  exact run_rt (n := 1) (tot := 11) (m := m__law_bad) (args := [.va (.str t)]) fin
theorem b_good {t : Tx} (h : t.length ≤ 5000) (ha : Asc t) {R : List Rw} (hR : rowsOf t = R.map some) {m : Nat} {T : List Tb} {L : List Lk} {I : List Int} (eQ : foundD R = QD T L I) (s : Sm m T L I) (hb : goodQ (foundD R) = true) (hne : linesQ T L I = spl1 10 t) : run__law_bad [.va (.str t)] = .ok .non none := by
  obtain ⟨RD, t3, t4, A5, A6, A7, k⟩ := b_mid h ha hR
  have g := is_q R
  have fin : m__law_bad [.va (.str t), .no, .no, .no, .no, .no, .no, .no, .no, .no, .no] = .rt .non [.va (.str t), .va (.lst ((spl1 10 t).map D.str)), .va (.lst RD), t3, t4, A5, A6, A7, .va (foundD R), .no, .no] := by
    refine k _ ?_
    clear k
    rw [hb] at g
    have lo := written_ok s
    rw [← eQ] at lo
    have ne := eq_str1 (jn_asc (c := 10) (by decide) _ (linesQ_asc s)) ha
    rw [decide_eq_true ((lines_iff s t).mpr hne)] at ne
    generalize foundD R = Q at *
    generalize jn1 10 (linesQ T L I) = LQ at *
    generalize (spl1 10 t).map D.str = LD at *
    simp [g, lo, ne, slotD]
  exact run_rt (n := 1) (tot := 11) (m := m__law_bad) (args := [.va (.str t)]) fin
theorem read_bad {t : Tx} (h : t.length ≤ 5000) (ha : Asc t) :
    (∃ n : Nat, run__law_read [.va (.str t)] = .ok (.tup [.non, .int (n : Int)]) none ∧ run__law_bad [.va (.str t)] = .ok (.int (n : Int)) none) ∨
    ∃ m T L I, Sm m T L I ∧ jn1 10 (linesQ T L I) = t ∧ run__law_read [.va (.str t)] = .ok (.tup [QD T L I, .non]) none ∧ run__law_bad [.va (.str t)] = .ok .non none := by
  cases e : fstN (rowsOf t) with
  | some i => exact .inl ⟨i + 1, read_ex (q_none h e), b_none h ha e⟩
  | none =>
    obtain ⟨R, hR⟩ := fst_none e
    cases g : goodQ (foundD R) with
    | false => exact .inl ⟨_, read_ex (q_bad h hR (.inl g) ha), b_bad h ha hR (.inl g)⟩
    | true =>
      obtain ⟨m, T, L, I, eQ, s⟩ := good_form g
      by_cases hl : linesQ T L I = spl1 10 t
      · exact .inr ⟨m, T, L, I, s, (lines_iff s t).mpr hl, read_ok (q_good h hR eQ s g hl ha), b_good h ha hR eQ s g hl⟩
      · exact .inl ⟨_, read_ex (q_bad h hR (.inr ⟨m, T, L, I, eQ, s, g, hl⟩) ha), b_bad h ha hR (.inr ⟨m, T, L, I, eQ, s, g, hl⟩)⟩
theorem read_written {m : Nat} {T : List Tb} {L : List Lk} {I : List Int} (s : Sm m T L I) (g : goodQ (QD T L I) = true) (h : (jn1 10 (linesQ T L I)).length ≤ 5000) :
    run__law_read [.va (.str (jn1 10 (linesQ T L I)))] = .ok (.tup [QD T L I, .non]) none ∧ run__law_bad [.va (.str (jn1 10 (linesQ T L I)))] = .ok .non none := by
  have ha := jn_asc (c := 10) (by decide) _ (linesQ_asc s)
  have hl := (lines_iff s _).mp rfl
  have hR : rowsOf (jn1 10 (linesQ T L I)) = (rowsQ T L I).map some := by
    unfold rowsOf
    rw [← hl, rows_lines s]
  have eQ := found_rows T L I
  have g' : goodQ (foundD (rowsQ T L I)) = true := by rw [eQ]; exact g
  exact ⟨read_ok (q_good h hR eQ s g' hl ha), b_good h ha hR eQ s g' hl⟩
end GJ

set_option Elab.async false
set_option linter.all false
set_option maxRecDepth 100000
set_option maxHeartbeats 2000000
namespace GJ
open PySem L2 MP

/-! ### the text of a plan -/
def txtD : Nat → D → Tx
  | _, .int i => sI i
  | k + 1, .tup [a, b, .str cs] => [] ++ [40] ++ txtD k a ++ [32] ++ cs ++ [32] ++ txtD k b ++ [41]
  | _, _ => []
theorem mj_ok {m : ME} {r : Tx → ME} {acc cs : Tx} {e e1 : Ev} {z : RE} (h : m e = .ok (.str cs) e1) (hl : acc.length + cs.length ≤ 16777216) (h2 : r (acc ++ cs) e1 = z) : mjCons m r acc e = z := by
  rw [mjCons_ap, h]
  dsimp only
  rw [ble_dec, decide_eq_true (by show _ ≤ 16777216; omega)]
  exact h2
theorem fmt_ok {m : ME} {cs : Tx} {e e1 : Ev} (h : m e = .ok (.str cs) e1) (hl : cs.length ≤ 16777216) : mFmt m e = .ok (.str cs) e1 := by
  rw [mFmt_ap, h]
  dsimp only
  rw [ble_dec, decide_eq_true (by show _ ≤ 16777216; omega)]
theorem ret_ok {m : ME} {d : D} {e e1 : Ev} (h : m e = .ok d e1) : mRet m e = .rt d e1 := by
  rw [mRet_ap, h]
theorem add_str {a b : Tx} (h : a.length + b.length ≤ 16777216) : fAdd (.str a) (.str b) = some (.str (a ++ b)) := by
  simp only [fAdd, ble_dec]
  rw [decide_eq_true (by show _ ≤ 16777216; omega)]
theorem meth_len {cs : Tx} (h : methB (.str cs) = true) : cs.length ≤ 5 := by
  simp only [methB, Bool.or_eq_true, decide_eq_true_eq] at h
  rcases h with rfl | rfl | rfl <;> decide
theorem meth_asc {cs : Tx} (h : methB (.str cs) = true) : Asc cs := by
  simp only [methB, Bool.or_eq_true, decide_eq_true_eq] at h
  unfold Asc
  rcases h with rfl | rfl | rfl <;> decide
theorem asc_app {a b : Tx} (ha : Asc a) (hb : Asc b) : Asc (a ++ b) := fun c hc => (List.mem_append.mp hc).elim (ha c) (hb c)
theorem asc_one {c : Nat} (h : c < 128) : Asc [c] := fun x hx => by rw [List.mem_singleton.mp hx]; exact h
theorem asc_sI {k : Int} (h0 : 0 ≤ k) (h : k < 100) : Asc (sI k) := by
  obtain ⟨n, rfl⟩ : ∃ n : Nat, k = (n : Int) := ⟨k.toNat, by omega⟩
  exact fun c hc => by have := sI_digits (k := n) (by omega) c hc; omega
theorem text_ok {m : Nat} (m4 : m ≤ 4) : ∀ (k f : Nat) (v : D), k < f → k ≤ 3 → shapeB m k v = true →
    run_text_of f [.va v] = .ok (.str (txtD k v)) none ∧ run__law_text f [.va v] = .ok (.str (txtD k v)) none ∧ (txtD k v).length + 9 ≤ 11 * 2 ^ k ∧ Asc (txtD k v) := by
  have int : ∀ (k f : Nat) (i : Int), k < f → 0 ≤ i → i ≤ (m : Int) - 1 → run_text_of f [.va (.int i)] = .ok (.str (sI i)) none ∧ run__law_text f [.va (.int i)] = .ok (.str (sI i)) none ∧ (sI i).length + 9 ≤ 11 * 2 ^ k ∧ Asc (sI i) := by
    intro k f i hf h1 h2
    obtain ⟨g, rfl⟩ : ∃ g, f = g + 1 := ⟨f - 1, by omega⟩
    have s := strI (k := i) h1 (by omega)
    have it : isInt (.int i) = some (.bl true) := rfl
    have p1 : 1 ≤ 2 ^ k := Nat.one_le_two_pow
    have l := sI_len (k := i.toNat) (by omega)
    rw [show ((i.toNat : Nat) : Int) = i by omega] at l
    refine ⟨?_, ?_, by omega, asc_sI h1 (by omega)⟩
    · rw [show run_text_of (g + 1) = runF 1 1 (m_text_of (run_text_of g)) from rfl]
      generalize run_text_of g = self
      simp [runF, m_text_of, it, s, slotD, outOf]
    · rw [show run__law_text (g + 1) = runF 1 1 (m__law_text (run__law_text g)) from rfl]
      generalize run__law_text g = self
      simp [runF, m__law_text, it, s, slotD, outOf]
  intro k
  induction k with
  | zero =>
    intro f v hf _ h
    obtain ⟨i, rfl, h1, h2⟩ := numB_int h
    exact int 0 f i hf h1 h2
  | succ k ih =>
    intro f v hf hk h
    rcases shape_cases h with ⟨i, rfl, h1, h2⟩ | ⟨a, b, cs, rfl, hc, ha, hb⟩
    · exact int (k + 1) f i hf h1 h2
    · obtain ⟨g, rfl⟩ : ∃ g, f = g + 1 := ⟨f - 1, by omega⟩
      obtain ⟨a1, a2, a3, a4⟩ := ih g a (by omega) (by omega) ha
      obtain ⟨b1, b2, b3, b4⟩ := ih g b (by omega) (by omega) hb
      have i0 : fIx (.tup [a, b, .str cs]) (.int 0) = some a := by simp [fIx, ixD]
      have i1 : fIx (.tup [a, b, .str cs]) (.int 1) = some b := by simp [fIx, ixD]
      have i2 : fIx (.tup [a, b, .str cs]) (.int 2) = some (.str cs) := by simp [fIx, ixD]
      have it : isInt (.tup [a, b, .str cs]) = some (.bl false) := rfl
      have cl := meth_len hc
      have ca := meth_asc hc
      have p8 : 2 ^ k ≤ 2 ^ 2 := Nat.pow_le_pow_right (by decide) (by omega)
      have el : txtD (k + 1) (.tup [a, b, .str cs]) = [] ++ [40] ++ txtD k a ++ [32] ++ cs ++ [32] ++ txtD k b ++ [41] := rfl
      rw [el]
      generalize txtD k a = A at *
      generalize txtD k b = B at *
      have nw : ∀ x : Nat, ([x] : Tx).length = 1 := fun _ => rfl
      refine ⟨?_, ?_, ?_, ?_⟩
      · rw [show run_text_of (g + 1) = runF 1 1 (m_text_of (run_text_of g)) from rfl]
        generalize run_text_of g = self at *
        generalize D.tup [a, b, D.str cs] = V at *
        have s0 : (mIfS (mU isInt (mPk 0) (lPk 0)) (mRet (mCall bStrI (maCons (mPk 0) maNil) (laCons (lPk 0) laNil))) mSkip) [.va V] = .nx [.va V] := by simp [it, slotD]
        have c0 : (mUser self (maCons (mB fIx (mPk 0) (lPk 0) (mC (.int 0)) lId) maNil)) [.va V] = .ok (.str A) [.va V] := by simp [i0, a1, slotD]
        have c1 : (mUser self (maCons (mB fIx (mPk 0) (lPk 0) (mC (.int 1)) lId) maNil)) [.va V] = .ok (.str B) [.va V] := by simp [i1, b1, slotD]
        have c2 : (mB fIx (mPk 0) (lPk 0) (mC (.int 2)) lId) [.va V] = .ok (.str cs) [.va V] := by simp [i2, slotD]
        refine run_rt (n := 1) (tot := 1) (m := m_text_of self) (args := [.va V]) (e := [.va V]) (seq_nx s0 (ret_ok ?_))
        refine mj_ok (e1 := [.va V]) (cs := [40]) rfl (by decide) (mj_ok (fmt_ok c0 (by omega)) ?_ (mj_ok (e1 := [.va V]) (cs := [32]) rfl ?_ (mj_ok (fmt_ok c2 (by omega)) ?_ (mj_ok (e1 := [.va V]) (cs := [32]) rfl ?_ (mj_ok (fmt_ok c1 (by omega)) ?_ (mj_ok (e1 := [.va V]) (cs := [41]) rfl ?_ rfl))))))
        all_goals (simp only [List.length_append, List.length_nil, nw]; omega)
      · rw [show run__law_text (g + 1) = runF 1 1 (m__law_text (run__law_text g)) from rfl]
        generalize run__law_text g = self at *
        generalize D.tup [a, b, D.str cs] = V at *
        have s0 : (mIfS (mU isInt (mPk 0) (lPk 0)) (mRet (mCall bStrI (maCons (mPk 0) maNil) (laCons (lPk 0) laNil))) mSkip) [.va V] = .nx [.va V] := by simp [it, slotD]
        have c0 : (mUser self (maCons (mB fIx (mPk 0) (lPk 0) (mC (.int 0)) lId) maNil)) [.va V] = .ok (.str A) [.va V] := by simp [i0, a2, slotD]
        have c1 : (mUser self (maCons (mB fIx (mPk 0) (lPk 0) (mC (.int 1)) lId) maNil)) [.va V] = .ok (.str B) [.va V] := by simp [i1, b2, slotD]
        have c2 : (mB fIx (mPk 0) (lPk 0) (mC (.int 2)) lId) [.va V] = .ok (.str cs) [.va V] := by simp [i2, slotD]
        refine run_rt (n := 1) (tot := 1) (m := m__law_text self) (args := [.va V]) (e := [.va V]) (seq_nx s0 (ret_ok ?_))
        refine bRun (bRun (bRun (bRun (bRun (bRun (x := .str ([] ++ [40])) (e1 := [.va V]) rfl c0 (add_str ?_)) (y := .str [32]) (e2 := [.va V]) rfl (add_str ?_)) c2 (add_str ?_)) (y := .str [32]) (e2 := [.va V]) rfl (add_str ?_)) c1 (add_str ?_)) (y := .str [41]) (e2 := [.va V]) rfl (add_str ?_)
        all_goals (simp only [List.length_append, List.length_nil, nw]; omega)
      · simp only [List.length_append, List.length_nil, nw]
        rw [Nat.pow_succ]
        omega
      · exact asc_app (asc_app (asc_app (asc_app (asc_app (asc_app (asc_app (fun c hc => by simp at hc) (asc_one (by decide))) a4) (asc_one (by decide))) ca) (asc_one (by decide))) b4) (asc_one (by decide))
theorem plan_good {Q : D} {m : Nat} {ts : List D} {L : List Lk} {I : List Int} (q : QF Q m ts L I) {A : List Int} (nd : A.Nodup) (al : A.length = m) {v : D} (g : GP m L I 3 A v) :
    run_is_good_plan [.va Q, .va v] = .ok (.bl true) none := by
  have p := part_ok q v (Ok.pl v 3 g.ok)
  have e : partB m L I v = true := by
    unfold partB
    rw [g.sh, g.led, (nodB_iff _).mpr (g.tb.nodup_iff.mpr nd)]
    rfl
  rw [e] at p
  obtain ⟨t1, t2, t3, t4⟩ := tables_ok m 3 6 v (by omega) (by omega) g.sh
  have le := len_tup (tabsI 3 v)
  have ln : bLen [.tup ts] = some (.int (m : Int)) := by rw [← q.ln]; rfl
  have eq := eq_int ((tabsI 3 v).length : Int) (m : Int)
  rw [decide_eq_true (by rw [g.tb.length_eq, al])] at eq
  have q0 := q.q0
  generalize (tabsI 3 v).map D.int = A at *
  simp [run_is_good_plan, runF, m_is_good_plan, p, t1, le, q0, ln, eq, slotD, outOf]
theorem plan_text_ok {Q : D} {m : Nat} {ts : List D} {L : List Lk} {I : List Int} (q : QF Q m ts L I) (hq : Pl Q = true) (gq : goodQ Q = true) {A : List Int} (nd : A.Nodup) (al : A.length = m) {v : D} (g : GP m L I 3 A v) :
    ∃ t : Tx, run_plan_text [.va Q, .va v] = .ok (.str t) none ∧ run__law_text 6 [.va v] = .ok (.str t) none ∧ Asc t := by
  obtain ⟨t1, t2, t3, t4⟩ := text_ok q.m4 3 6 v (by omega) (by omega) g.sh
  have nq := need_question_ok Q hq gq
  have gp := plan_good q nd al g
  have np : run_need_plan [.va Q, .va v] = .ok .non none := by
    simp [run_need_plan, runF, m_need_plan, gp, slotD, outOf]
  have nb : run_need_both [.va Q, .va v] = .ok .non none := by
    simp [run_need_both, runF, m_need_both, nq, np, slotD, outOf]
  refine ⟨txtD 3 v, ?_, t2, t4⟩
  generalize txtD 3 v = t at *
  generalize hz : run_text_of 6 = z at *
  simp [run_plan_text, runF, m_plan_text, nb, t1, hz, slotD, outOf]
end GJ

set_option Elab.async false
set_option linter.all false
set_option maxRecDepth 100000
set_option maxHeartbeats 2000000
namespace GJ
open PySem L2 MP

/-! ### spoilt texts -/
abbrev SG0 : List Tx := [[], [32], [48], [49], [55], [45], [10], [10, 116, 97, 98, 108, 101, 32, 49, 32, 49], [10, 105, 110, 100, 101, 120, 32, 48], [10, 108, 105, 110, 107, 32, 48, 32, 49, 32, 53, 32, 49]]
abbrev SG4 : List Tx := [[49, 48, 48], [32, 51], [116, 97, 98, 108, 101], [120]]
theorem sg_ok : ∀ w ∈ SG0 ++ SG4, Asc w ∧ w.length ≤ 20 := by
  unfold Asc
  decide
theorem cutD_map {α β : Type} (f : α → β) (xs : List α) (lo hi : Option Int) : cutD (xs.map f) lo hi = (cutD xs lo hi).map f := by
  unfold cutD
  rw [List.length_map, List.map_take, List.map_drop]
theorem cutD_mem {α : Type} {xs : List α} {lo hi : Option Int} {x : α} (h : x ∈ cutD xs lo hi) : x ∈ xs := by
  unfold cutD at h
  exact List.mem_of_mem_drop (List.mem_of_mem_take h)
theorem cutD_two {α : Type} (xs : List α) (r u : Nat) (hu : u ≤ 2) : (cutD xs (some (r : Int)) (some ((r + u : Nat) : Int))).length ≤ 2 := by
  unfold cutD
  rw [HT.sIx_nat, HT.sIx_nat, List.length_take, List.length_drop]
  omega
theorem add_strs (A B : List Tx) (h : A.length + B.length ≤ 16777216) : fAdd (.lst (A.map D.str)) (.lst (B.map D.str)) = some (.lst ((A ++ B).map D.str)) := by
  simp only [fAdd, List.length_map, ble_dec]
  rw [decide_eq_true (by show _ ≤ 16777216; omega), List.map_append]
theorem sl_str {t : Tx} (h : t.length ≤ 16777216) (lo hi : Option Int) : fSl (.str t) lo hi = some (.str (cutD t lo hi)) := by
  simp only [fSl, ble_dec]
  rw [decide_eq_true (by show _ ≤ 16777216; omega)]
theorem spoilt_ok {x : D} {t : Tx} (hx : Src x) (ha : Asc t) (hl : t.length ≤ 3000) : ∃ (t' : Tx) (x' : D), run__law_spoilt [.bo x, .va (.str t)] = .ok (.str t') (some x') ∧ Src x' ∧ Asc t' ∧ t'.length ≤ 16000000 := by
  obtain ⟨p, x1, d1, hs1, p0, p1⟩ := draw_ok hx ((t.length : Int) + 1) (by omega) (by omega)
  obtain ⟨l, x2, d2, hs2, l0, l1⟩ := draw_ok hs1 3 (by decide) (by decide)
  obtain ⟨P, rfl⟩ : ∃ P : Nat, p = (P : Int) := ⟨p.toNat, by omega⟩
  obtain ⟨N, rfl⟩ : ∃ N : Nat, l = (N : Int) := ⟨l.toNat, by omega⟩
  have ln : bLen [.str t] = some (.int (t.length : Int)) := by
    simp only [bLen, ble_dec]
    rw [decide_eq_true (by show _ ≤ 16777216; omega)]
  have a1 : fAdd (.int (t.length : Int)) (.int 1) = some (.int ((t.length : Int) + 1)) := rfl
  have s0 : (mPar 2 3 (maCons (mUserB run__law_draw 0 (maCons (mB fAdd (mCall bLen (maCons (mPk 1) maNil) (laCons (lPk 1) laNil)) lId (mC (.int 1)) lId) maNil)) (maCons (mUserB run__law_draw 0 (maCons (mC (.int 3)) maNil)) maNil))) [.bo x, .va (.str t), .no, .no, .no, .no, .no, .no] = .nx [.bo x2, .va (.str t), .va (.int (P : Int)), .va (.int (N : Int)), .no, .no, .no, .no] := by
    simp [mUserB, ln, a1, d1, d2, slotD]
  have s1 : (mSet 4 (mLst (maCons (mC (.str [])) (maCons (mC (.str [32])) (maCons (mC (.str [48])) (maCons (mC (.str [49])) (maCons (mC (.str [55])) (maCons (mC (.str [45])) (maCons (mC (.str [10])) (maCons (mC (.str [10, 116, 97, 98, 108, 101, 32, 49, 32, 49])) (maCons (mC (.str [10, 105, 110, 100, 101, 120, 32, 48])) (maCons (mC (.str [10, 108, 105, 110, 107, 32, 48, 32, 49, 32, 53, 32, 49])) maNil)))))))))))) [.bo x2, .va (.str t), .va (.int (P : Int)), .va (.int (N : Int)), .no, .no, .no, .no] = .nx [.bo x2, .va (.str t), .va (.int (P : Int)), .va (.int (N : Int)), .va (.lst (SG0.map D.str)), .no, .no, .no] := by
    simp [line]
  have eq := eq_int (N : Int) 2
  have fin : ∀ d x' e, m__law_spoilt [.bo x, .va (.str t), .no, .no, .no, .no, .no, .no] = .rt d (.bo x' :: e) → run__law_spoilt [.bo x, .va (.str t)] = .ok d (some x') := fun d x' e q => run_rt (n := 2) (tot := 8) (m := m__law_spoilt) (args := [.bo x, .va (.str t)]) q
  by_cases hN : (N : Int) = 2
  · rw [decide_eq_true hN] at eq
    have sp := split_ok 10 (by decide) (t := t) (by omega)
    have hc := spl_count 10 t []
    have hn := spl_ne 10 t []
    have hs : ∀ w ∈ spl1 10 t, w.length ≤ 3000 := fun w hw => by
      have := spl_short 10 t [] w hw
      simp only [List.length_nil] at this
      omega
    have hasc := spl_asc (c := 10) ha
    have hc : (spl1 10 t).length ≤ t.length + 1 := hc
    have hn : spl1 10 t ≠ [] := hn
    generalize hLL : spl1 10 t = LL at *
    have lp := List.length_pos_iff.mpr hn
    obtain ⟨r, x3, d3, hs3, r0, r1⟩ := draw_ok hs2 (LL.length : Int) (by omega) (by omega)
    obtain ⟨u, x4, d4, hs4, u0, u1⟩ := draw_ok hs3 3 (by decide) (by decide)
    obtain ⟨R, rfl⟩ : ∃ R : Nat, r = (R : Int) := ⟨r.toNat, by omega⟩
    obtain ⟨U, rfl⟩ : ∃ U : Nat, u = (U : Int) := ⟨u.toNat, by omega⟩
    have c2 := cutD_two LL R U (by omega)
    have cm := fun w (h : w ∈ cutD LL (some (R : Int)) (some ((R + U : Nat) : Int))) => cutD_mem h
    have k1 : fSl (.lst (LL.map D.str)) (some (R : Int)) (some ((R + U : Nat) : Int)) = some (.lst ((cutD LL (some (R : Int)) (some ((R + U : Nat) : Int))).map D.str)) := by
      show some (D.lst (cutD (LL.map D.str) _ _)) = _
      rw [cutD_map]
    have k2 : fSl (.lst (LL.map D.str)) none (some (R : Int)) = some (.lst ((LL.take R).map D.str)) := by
      show some (D.lst (cutD (LL.map D.str) _ _)) = _
      rw [cutD_map, cutD_to]
    have k3 : fSl (.lst (LL.map D.str)) (some ((R + 1 : Nat) : Int)) none = some (.lst ((LL.drop (R + 1)).map D.str)) := by
      show some (D.lst (cutD (LL.map D.str) _ _)) = _
      rw [cutD_map, cutD_from]
    generalize cutD LL (some (R : Int)) (some ((R + U : Nat) : Int)) = SS0 at *
    have tl : (LL.take R ++ LL.drop (R + 1)).length ≤ 3001 := by
      rw [List.length_append, List.length_take, List.length_drop]; omega
    have j1 := add_strs (LL.take R) (LL.drop (R + 1)) (by rw [List.length_append] at tl; omega)
    have j2 := add_strs (LL.take R ++ LL.drop (R + 1)) SS0 (by omega)
    have hm : ∀ w ∈ LL.take R ++ LL.drop (R + 1) ++ SS0, w ∈ LL := fun w hw => by
      rcases List.mem_append.mp hw with h | h
      · rcases List.mem_append.mp h with h | h
        · exact List.mem_of_mem_take h
        · exact List.mem_of_mem_drop h
      · exact cm w h
    have jl : (LL.take R ++ LL.drop (R + 1) ++ SS0).length ≤ 3003 := by rw [List.length_append]; omega
    generalize LL.take R ++ LL.drop (R + 1) ++ SS0 = J at *
    generalize LL.take R ++ LL.drop (R + 1) = J0 at *
    have sm : (J.map (·.length)).sum + J.length ≤ 10000000 := by
      have h1 := len_sum 3000 J (fun w hw => hs w (hm w hw))
      have h2 : J.length * 3000 ≤ 3003 * 3000 := Nat.mul_le_mul_right _ jl
      omega
    have jn := join_ok 10 J (by omega)
    refine ⟨jn1 10 J, x4, ?_, hs4, jn_asc (by decide) J (fun w hw => hasc w (hm w hw)), Nat.le_trans (jn_len 10 J) (by omega)⟩
    have la : bLen [.lst (LL.map D.str)] = some (.int (LL.length : Int)) := by simp [bLen]
    have a2 : fAdd (.int (R : Int)) (.int (U : Int)) = some (.int ((R + U : Nat) : Int)) := by
      show some (D.int _) = _
      rw [Int.natCast_add]
    have a3 : fAdd (.int (R : Int)) (.int 1) = some (.int ((R + 1 : Nat) : Int)) := by
      show some (D.int _) = _
      rw [Int.natCast_add]; rfl
    generalize hJJ : jn1 10 J = JJ at *
    generalize LL.map D.str = L0 at *
    generalize SG0.map D.str = G0 at *
    generalize (LL.take R).map D.str = L1 at *
    generalize (LL.drop (R + 1)).map D.str = L2 at *
    generalize SS0.map D.str = L3 at *
    generalize J0.map D.str = L4 at *
    generalize J.map D.str = L5 at *
    generalize ((R + U : Nat) : Int) = RU at *
    generalize ((R + 1 : Nat) : Int) = R1 at *
    clear p0 p1 l0 l1 hN u0 u1 r0 r1 hs hasc hc hn lp c2 cm tl hm jl sm
    refine fin _ _ _ (seq_nx s0 (seq_nx s1 (seq_rt (e1 := .bo x4 :: [.va (.str t), .va (.int (P : Int)), .va (.int (N : Int)), .va (.lst G0), .va (.lst L0), .va (.int (R : Int)), .va (.lst L3)]) (d := .str JJ) (if_tt (e1 := [.bo x2, .va (.str t), .va (.int (P : Int)), .va (.int (N : Int)), .va (.lst G0), .no, .no, .no]) (by simp [eq, slotD]) ?_))))
    simp [mUserB, sp, la, d3, d4, a2, a3, k1, k2, k3, j1, j2, jn, prt, slotD]
  · rw [decide_eq_false hN] at eq
    have ad := add_strs SG0 SG4 (by decide)
    obtain ⟨y, x3, d3, hs3, hy⟩ := of_ok hs2 ((SG0 ++ SG4).map D.str) (by decide) (by decide)
    obtain ⟨w, hw, rfl⟩ := List.mem_map.mp hy
    obtain ⟨w1, w2⟩ := sg_ok w hw
    have k1 : fSl (.str t) none (some (P : Int)) = some (.str (t.take P)) := by
      rw [sl_str (by omega), cutD_to]
    have k2 : fSl (.str t) (some ((P + N : Nat) : Int)) none = some (.str (t.drop (P + N))) := by
      rw [sl_str (by omega), cutD_from]
    have t1 : (t.take P).length ≤ 3000 := by rw [List.length_take]; omega
    have t2 : (t.drop (P + N)).length ≤ 3000 := by rw [List.length_drop]; omega
    have at1 : Asc (t.take P) := fun c hc => ha c (List.mem_of_mem_take hc)
    have at2 : Asc (t.drop (P + N)) := fun c hc => ha c (List.mem_of_mem_drop hc)
    have a2 : fAdd (.int (P : Int)) (.int (N : Int)) = some (.int ((P + N : Nat) : Int)) := by
      show some (D.int _) = _
      rw [Int.natCast_add]
    have j1 := add_str (a := t.take P) (b := w) (by omega)
    have j2 := add_str (a := t.take P ++ w) (b := t.drop (P + N)) (by rw [List.length_append]; omega)
    refine ⟨t.take P ++ w ++ t.drop (P + N), x3, ?_, hs3, asc_app (asc_app at1 w1) at2, by simp only [List.length_append]; omega⟩
    generalize t.take P ++ w ++ t.drop (P + N) = T3 at *
    generalize t.take P ++ w = T2 at *
    generalize t.take P = T1 at *
    generalize t.drop (P + N) = T0 at *
    generalize ((P + N : Nat) : Int) = PN at *
    have m4 : (mLst (maCons (mC (.str [49, 48, 48])) (maCons (mC (.str [32, 51])) (maCons (mC (.str [116, 97, 98, 108, 101])) (maCons (mC (.str [120])) maNil))))) [.bo x2, .va (.str t), .va (.int (P : Int)), .va (.int (N : Int)), .va (.lst (SG0.map D.str)), .no, .no, .no] = .ok (.lst (SG4.map D.str)) [.bo x2, .va (.str t), .va (.int (P : Int)), .va (.int (N : Int)), .va (.lst (SG0.map D.str)), .no, .no, .no] := by simp [line]
    have s3 : (mSet 4 (mB fAdd (mPk 4) (lPk 4) (mLst (maCons (mC (.str [49, 48, 48])) (maCons (mC (.str [32, 51])) (maCons (mC (.str [116, 97, 98, 108, 101])) (maCons (mC (.str [120])) maNil))))) lId)) [.bo x2, .va (.str t), .va (.int (P : Int)), .va (.int (N : Int)), .va (.lst (SG0.map D.str)), .no, .no, .no] = .nx [.bo x2, .va (.str t), .va (.int (P : Int)), .va (.int (N : Int)), .va (.lst ((SG0 ++ SG4).map D.str)), .no, .no, .no] := by
      generalize SG0.map D.str = G0 at *
      generalize SG4.map D.str = G4 at *
      generalize (SG0 ++ SG4).map D.str = G5 at *
      generalize mLst (maCons (mC (.str [49, 48, 48])) (maCons (mC (.str [32, 51])) (maCons (mC (.str [116, 97, 98, 108, 101])) (maCons (mC (.str [120])) maNil)))) = M4 at *
      simp [m4, ad, slotD]
    generalize SG0.map D.str = G0 at *
    generalize (SG0 ++ SG4).map D.str = G5 at *
    refine fin _ _ _ (seq_nx s0 (seq_nx s1 (seq_nx (if_ff (e1 := [.bo x2, .va (.str t), .va (.int (P : Int)), .va (.int (N : Int)), .va (.lst G0), .no, .no, .no]) (by simp [eq, slotD]) rfl) (seq_nx s3 (ret_ok (e1 := .bo x3 :: [.va (.str t), .va (.int (P : Int)), .va (.int (N : Int)), .va (.lst G5), .no, .no, .no]) ?_)))))
    simp [mUserB, d3, a2, k1, k2, j1, j2, prt, slotD]
end GJ

set_option Elab.async false
set_option linter.all false
set_option maxRecDepth 100000
set_option maxHeartbeats 2000000
namespace GJ
open PySem L2 MP

/-! ### other values; the law's lists -/
theorem seq_exU {a b : MS} {e e1 : Ev} {c : Nat} (h : a e = .ex c e1) : mSeq a b e = .ex c e1 := by
  unfold mSeq
  rw [h]
theorem read_odd {d : D} (h : isStr d = some (.bl false)) : run__law_read [.va d] = .ok (.tup [.non, .int 0]) none := by
  have s0 : (mIfS (mNot (mU isStr (mPk 0) (lPk 0))) (mRaiseF 3 (mC (.int 0))) mSkip) [.va d, .no, .no, .no, .no, .no, .no, .no, .no] = .ex 1003 [.va d, .no, .no, .no, .no, .no, .no, .no, .no] := by
    simp [h, slotD]
  exact read_ex (n := 0) (q_ex (e' := []) (n := 1) (tot := 9) (m := m_question_in) (args := [.va d]) (seq_exU s0))
theorem okL_map {α : Type} (n : Nat) {f : α → D} (h : ∀ x, okD n (f x) = true) : ∀ L : List α, okL n (L.map f) = true
  | [] => rfl
  | x :: L => by simp only [List.map_cons, okL, h x, okL_map n h L]
theorem eqL_map {α : Type} {f : α → D} (h : ∀ x, eqD (f x) (f x) = true) : ∀ L : List α, eqL (L.map f) (L.map f) = true
  | [] => rfl
  | x :: L => by simp only [List.map_cons, eqL, h x, eqL_map h L]
theorem int_self (i : Int) : eqD (.int i) (.int i) = true := by simp [eqD]
theorem ne_Q (T : List Tb) (L : List Lk) (I : List Int) : fNe (QD T L I) (QD T L I) = some (.bl false) := by
  have oT : okL 62 (T.map t2D) = true := okL_map 62 (f := t2D) (fun x => rfl) T
  have oL : okL 62 (L.map l4D) = true := okL_map 62 (f := l4D) (fun x => rfl) L
  have oI : okL 62 (I.map D.int) = true := okL_map 62 (f := D.int) (fun x => rfl) I
  have eT : eqL (T.map t2D) (T.map t2D) = true := eqL_map (f := t2D) (fun x => by simp [t2D, eqD, eqL]) T
  have eL : eqL (L.map l4D) (L.map l4D) = true := eqL_map (f := l4D) (fun x => by simp [l4D, eqD, eqL]) L
  have eI : eqL (I.map D.int) (I.map D.int) = true := eqL_map (f := D.int) int_self I
  unfold QD
  generalize T.map t2D = T0 at *
  generalize L.map l4D = L0 at *
  generalize I.map D.int = I0 at *
  have o : okD 64 (.tup [.tup T0, .tup L0, .tup I0]) = true := by simp [okD, okL, oT, oL, oI]
  have e : eqD (.tup [.tup T0, .tup L0, .tup I0]) (.tup [.tup T0, .tup L0, .tup I0]) = true := by simp [eqD, eqL, eT, eL, eI]
  unfold fNe
  rw [o, e]
  rfl
theorem of_ok2 {x : D} (hx : Src x) (ys : List D) (h0 : ys ≠ []) (hl : ys.length ≤ 100000) : ∃ (y x' : D), run__law_of [.bo x, .va (.lst ys)] = .ok y (some x') ∧ Src x' ∧ y ∈ ys := by
  have hp : 0 < ys.length := List.length_pos_iff.mpr h0
  obtain ⟨r, x', e, hs, h1, h2⟩ := draw_ok hx (ys.length : Int) (by omega) (by omega)
  obtain ⟨q, rfl⟩ : ∃ q : Nat, r = (q : Int) := ⟨r.toNat, by omega⟩
  have hr : q < ys.length := by omega
  have ix : fIx (.lst ys) (.int (q : Int)) = some ys[q] := by
    show ixD ys (q : Int) = _
    rw [ixD_natU]
    exact List.getElem?_eq_getElem hr
  refine ⟨ys[q], x', ?_, hs, List.getElem_mem hr⟩
  simp [run__law_of, runF, m__law_of, e, ix, mUserB, slotD, outOf, fAdd, fSub, fMod, fLt, fLe, fGt, fGe, fNeg, fIsN, fNotN, MP.isNon, bAbs, bInt, isInt, isBool, isTup, isStr, bLen, line]
theorem upsD_R (m : Nat) : upsD 0 (m : Int) = (RnI m).map D.int := by
  unfold upsD RnI
  rw [List.map_map, Int.sub_zero, Int.toNat_natCast]
  refine List.map_congr_left fun i _ => ?_
  simp
end GJ

set_option Elab.async false
set_option linter.all false
set_option maxRecDepth 100000
set_option maxHeartbeats 2000000
namespace GJ
open PySem L2 MP

/-! ### a turn -/
abbrev LE1 (S0 S1 : Sl) (x Q t : D) (s5 s6 s7 s8 s9 s10 : Sl) : Ev := [S0, S1, .ow x, .va Q, .va t, s5, s6, s7, s8, s9, s10]
theorem cut_ok {x : D} {t : Tx} (hx : Src x) (ha : Asc t) (hl : t.length ≤ 3000) (S0 S1 : Sl) (Q : D) (s5 s6 s7 s8 s9 s10 : Sl) : ∃ (t' : Tx) (x' : D), (mSet 4 (mSl (mUserB run__law_spoilt 2 (maCons (mVar 4) maNil)) lId (mC .non) (mPrt (mC (.int 900))))) (LE1 S0 S1 x Q (.str t) s5 s6 s7 s8 s9 s10) = .nx (LE1 S0 S1 x' Q (.str t') s5 s6 s7 s8 s9 s10) ∧ Src x' ∧ Asc t' ∧ t'.length ≤ 3000 := by
  obtain ⟨t', x', e, hs, a, l⟩ := spoilt_ok hx ha hl
  have k := sl_str (t := t') (by omega) none (some 900)
  have c := cutD_to t' 900
  rw [show ((900 : Nat) : Int) = 900 from rfl] at c
  rw [c] at k
  refine ⟨t'.take 900, x', ?_, hs, fun c hc => a c (List.mem_of_mem_take hc), by rw [List.length_take]; omega⟩
  generalize t'.take 900 = T9 at *
  simp [mUserB, e, k, prt, slotD]
theorem turn_good {i : Nat} {x Q F : D} {t : Tx} (hx : Src x) (ha : Asc t) (hl : t.length ≤ 3000) (hr : run__law_read [.va (.str t)] = .ok (.tup [F, .non]) none) (hb : run__law_bad [.va (.str t)] = .ok .non none) (hw : run__law_written [.va F] = .ok (.str t) none) (hQ : i = 0 → fNe F Q = some (.bl false)) (S0 S1 s5 s7 s8 s9 s10 : Sl) :
    ∃ (t' : Tx) (x' : D), (mSeq (mAsg (mgTup 2 (mgsCons (mgName 7) (mgsCons (mgName 8) mgsNil))) (mUser run__law_read (maCons (mVar 4) maNil))) (mSeq (mIfS (mOr (mB fNe (mPk 8) (lPk 8) (mUser run__law_bad (maCons (mVar 4) maNil)) lId) (mAnd (mB fEq (mPk 6) (lPk 6) (mC (.int 0)) lId) (mB fNe (mPk 7) (lPk 7) (mPk 3) (lPk 3)))) (mRet (mC (.bl false))) mSkip) (mSeq (mIfS (mAnd (mB fIsN (mPk 8) (lPk 8) (mC .non) lId) (mB fNe (mUser run__law_written (maCons (mVar 7) maNil)) lId (mPk 4) (lPk 4))) (mRet (mC (.bl false))) mSkip) (mSet 4 (mSl (mUserB run__law_spoilt 2 (maCons (mVar 4) maNil)) lId (mC .non) (mPrt (mC (.int 900)))))))) (LE1 S0 S1 x Q (.str t) s5 (.va (.int (i : Int))) s7 s8 s9 s10) = .nx (LE1 S0 S1 x' Q (.str t') s5 (.va (.int (i : Int))) (.va F) (.va .non) s9 s10) ∧ Src x' ∧ Asc t' ∧ t'.length ≤ 3000 := by
  obtain ⟨t', x', e, hs, a, l⟩ := cut_ok hx ha hl S0 S1 Q s5 (.va (.int (i : Int))) (.va F) (.va .non) s9 s10
  refine ⟨t', x', ?_, hs, a, l⟩
  have n0 : fNe .non .non = some (.bl false) := rfl
  have is : fIsN .non .non = some (.bl true) := rfl
  have ns := ne_str1 ha ha
  rw [decide_eq_true rfl] at ns
  have eq := eq_int (i : Int) 0
  refine seq_nx (e1 := LE1 S0 S1 x Q (.str t) s5 (.va (.int (i : Int))) (.va F) (.va .non) s9 s10) (by simp [hr]) (seq_nx (if_ff (e1 := LE1 S0 S1 x Q (.str t) s5 (.va (.int (i : Int))) (.va F) (.va .non) s9 s10) ?_ rfl) (seq_nx (if_ff (e1 := LE1 S0 S1 x Q (.str t) s5 (.va (.int (i : Int))) (.va F) (.va .non) s9 s10) ?_ rfl) e))
  · by_cases h : i = 0
    · have q := hQ h
      rw [decide_eq_true (by omega)] at eq
      simp [hb, n0, eq, q, slotD]
    · rw [decide_eq_false (by omega)] at eq
      simp [hb, n0, eq, slotD]
  · simp [is, hw, ns, slotD]
theorem turn_bad {i n : Nat} (hi : i ≠ 0) {x Q : D} {t : Tx} (hx : Src x) (ha : Asc t) (hl : t.length ≤ 3000) (hr : run__law_read [.va (.str t)] = .ok (.tup [.non, .int (n : Int)]) none) (hb : run__law_bad [.va (.str t)] = .ok (.int (n : Int)) none) (S0 S1 s5 s7 s8 s9 s10 : Sl) :
    ∃ (t' : Tx) (x' : D), (mSeq (mAsg (mgTup 2 (mgsCons (mgName 7) (mgsCons (mgName 8) mgsNil))) (mUser run__law_read (maCons (mVar 4) maNil))) (mSeq (mIfS (mOr (mB fNe (mPk 8) (lPk 8) (mUser run__law_bad (maCons (mVar 4) maNil)) lId) (mAnd (mB fEq (mPk 6) (lPk 6) (mC (.int 0)) lId) (mB fNe (mPk 7) (lPk 7) (mPk 3) (lPk 3)))) (mRet (mC (.bl false))) mSkip) (mSeq (mIfS (mAnd (mB fIsN (mPk 8) (lPk 8) (mC .non) lId) (mB fNe (mUser run__law_written (maCons (mVar 7) maNil)) lId (mPk 4) (lPk 4))) (mRet (mC (.bl false))) mSkip) (mSet 4 (mSl (mUserB run__law_spoilt 2 (maCons (mVar 4) maNil)) lId (mC .non) (mPrt (mC (.int 900)))))))) (LE1 S0 S1 x Q (.str t) s5 (.va (.int (i : Int))) s7 s8 s9 s10) = .nx (LE1 S0 S1 x' Q (.str t') s5 (.va (.int (i : Int))) (.va .non) (.va (.int (n : Int))) s9 s10) ∧ Src x' ∧ Asc t' ∧ t'.length ≤ 3000 := by
  obtain ⟨t', x', e, hs, a, l⟩ := cut_ok hx ha hl S0 S1 Q s5 (.va (.int (i : Int))) (.va .non) (.va (.int (n : Int))) s9 s10
  refine ⟨t', x', ?_, hs, a, l⟩
  have n0 := ne_int (n : Int) (n : Int)
  rw [decide_eq_true rfl] at n0
  have is : fIsN (.int (n : Int)) .non = some (.bl false) := rfl
  have eq := eq_int (i : Int) 0
  rw [decide_eq_false (by omega)] at eq
  refine seq_nx (e1 := LE1 S0 S1 x Q (.str t) s5 (.va (.int (i : Int))) (.va .non) (.va (.int (n : Int))) s9 s10) (by simp [hr]) (seq_nx (if_ff (e1 := LE1 S0 S1 x Q (.str t) s5 (.va (.int (i : Int))) (.va .non) (.va (.int (n : Int))) s9 s10) ?_ rfl) (seq_nx (if_ff (e1 := LE1 S0 S1 x Q (.str t) s5 (.va (.int (i : Int))) (.va .non) (.va (.int (n : Int))) s9 s10) ?_ rfl) e))
  · simp [hb, n0, eq, slotD]
  · simp [is, slotD]
theorem turns {Q : D} (S0 S1 s5 s9 s10 : Sl) : ∀ (n i : Nat) (x : D) (t : Tx) (s6 s7 s8 : Sl), i ≠ 0 → Src x → Asc t → t.length ≤ 3000 →
    ∃ (x' : D) (t' : Tx) (t6 t7 t8 : Sl), forGo (mgName 6) (mSeq (mAsg (mgTup 2 (mgsCons (mgName 7) (mgsCons (mgName 8) mgsNil))) (mUser run__law_read (maCons (mVar 4) maNil))) (mSeq (mIfS (mOr (mB fNe (mPk 8) (lPk 8) (mUser run__law_bad (maCons (mVar 4) maNil)) lId) (mAnd (mB fEq (mPk 6) (lPk 6) (mC (.int 0)) lId) (mB fNe (mPk 7) (lPk 7) (mPk 3) (lPk 3)))) (mRet (mC (.bl false))) mSkip) (mSeq (mIfS (mAnd (mB fIsN (mPk 8) (lPk 8) (mC .non) lId) (mB fNe (mUser run__law_written (maCons (mVar 7) maNil)) lId (mPk 4) (lPk 4))) (mRet (mC (.bl false))) mSkip) (mSet 4 (mSl (mUserB run__law_spoilt 2 (maCons (mVar 4) maNil)) lId (mC .non) (mPrt (mC (.int 900)))))))) (ups i n) (LE1 S0 S1 x Q (.str t) s5 s6 s7 s8 s9 s10) = .nx (LE1 S0 S1 x' Q (.str t') s5 t6 t7 t8 s9 s10) ∧ Src x' := by
  intro n
  induction n with
  | zero => intro i x t s6 s7 s8 _ hx _ _; exact ⟨x, t, s6, s7, s8, rfl, hx⟩
  | succ n ih =>
    intro i x t s6 s7 s8 hi hx ha hl
    rw [ups_cons, show ((i : Int) + 1) = ((i + 1 : Nat) : Int) by omega]
    rcases read_bad (by omega) ha with ⟨k, r1, r2⟩ | ⟨m, T, L, I, s, et, r1, r2⟩
    · obtain ⟨t1, x1, e1, hs, a1, l1⟩ := turn_bad (Q := Q) hi hx ha hl r1 r2 S0 S1 s5 s7 s8 s9 s10
      obtain ⟨x', t', t6, t7, t8, e, h⟩ := ih (i + 1) x1 t1 (.va (.int (i : Int))) (.va .non) (.va (.int (k : Int))) (by omega) hs a1 l1
      exact ⟨x', t', t6, t7, t8, go_cons (e1 := LE1 S0 S1 x Q (.str t) s5 (.va (.int (i : Int))) s7 s8 s9 s10) rfl e1 e, h⟩
    · have w := written_ok s
      rw [et] at w
      obtain ⟨t1, x1, e1, hs, a1, l1⟩ := turn_good (i := i) (Q := Q) hx ha hl r1 r2 w (fun z => absurd z hi) S0 S1 s5 s7 s8 s9 s10
      obtain ⟨x', t', t6, t7, t8, e, h⟩ := ih (i + 1) x1 t1 (.va (.int (i : Int))) (.va (QD T L I)) (.va .non) (by omega) hs a1 l1
      exact ⟨x', t', t6, t7, t8, go_cons (e1 := LE1 S0 S1 x Q (.str t) s5 (.va (.int (i : Int))) s7 s8 s9 s10) rfl e1 e, h⟩
theorem turns7 {m : Nat} {T : List Tb} {L : List Lk} {I : List Int} (s : Sm m T L I) (g : goodQ (QD T L I) = true) {x : D} (hx : Src x) (S0 S1 s5 s6 s7 s8 s9 s10 : Sl) :
    ∃ (x' : D) (t' : Tx) (t6 t7 t8 : Sl), forGo (mgName 6) (mSeq (mAsg (mgTup 2 (mgsCons (mgName 7) (mgsCons (mgName 8) mgsNil))) (mUser run__law_read (maCons (mVar 4) maNil))) (mSeq (mIfS (mOr (mB fNe (mPk 8) (lPk 8) (mUser run__law_bad (maCons (mVar 4) maNil)) lId) (mAnd (mB fEq (mPk 6) (lPk 6) (mC (.int 0)) lId) (mB fNe (mPk 7) (lPk 7) (mPk 3) (lPk 3)))) (mRet (mC (.bl false))) mSkip) (mSeq (mIfS (mAnd (mB fIsN (mPk 8) (lPk 8) (mC .non) lId) (mB fNe (mUser run__law_written (maCons (mVar 7) maNil)) lId (mPk 4) (lPk 4))) (mRet (mC (.bl false))) mSkip) (mSet 4 (mSl (mUserB run__law_spoilt 2 (maCons (mVar 4) maNil)) lId (mC .non) (mPrt (mC (.int 900)))))))) (ups 0 7) (LE1 S0 S1 x (QD T L I) (.str (jn1 10 (linesQ T L I))) s5 s6 s7 s8 s9 s10) = .nx (LE1 S0 S1 x' (QD T L I) (.str t') s5 t6 t7 t8 s9 s10) ∧ Src x' := by
  have ha := jn_asc (c := 10) (by decide) _ (linesQ_asc s)
  have jl := jn_len 10 (linesQ T L I)
  have h1 := len_sum 200 _ (linesQ_each s)
  have h2 := linesQ_len s
  have h3 : (linesQ T L I).length * 200 ≤ 14 * 200 := Nat.mul_le_mul_right _ h2
  have hl : (jn1 10 (linesQ T L I)).length ≤ 3000 := by omega
  obtain ⟨r1, r2⟩ := read_written s g (by omega)
  have w := written_ok s
  have nQ := ne_Q T L I
  generalize jn1 10 (linesQ T L I) = t at *
  generalize QD T L I = Q at *
  obtain ⟨t1, x1, e1, hs, a1, l1⟩ := turn_good (i := 0) (Q := Q) hx ha hl r1 r2 w (fun _ => nQ) S0 S1 s5 s7 s8 s9 s10
  obtain ⟨x', t', t6, t7, t8, e, h⟩ := turns (Q := Q) S0 S1 s5 s9 s10 6 1 x1 t1 (.va (.int ((0 : Nat) : Int))) (.va Q) (.va .non) (by decide) hs a1 l1
  refine ⟨x', t', t6, t7, t8, ?_, h⟩
  rw [show (7 : Nat) = 6 + 1 from rfl, ups_cons]
  exact go_cons (e1 := LE1 S0 S1 x Q (.str t) s5 (.va (.int ((0 : Nat) : Int))) s7 s8 s9 s10) rfl e1 e
end GJ

set_option Elab.async false
set_option linter.all false
set_option maxRecDepth 100000
set_option maxHeartbeats 2000000
namespace GJ
open PySem L2 MP

/-! ### the law's loop -/
theorem cell_ok (ns : List Int) (i : Nat) (hi : i < 100) (s2 s3 s4 s5 s6 s7 s8 s9 s10 : Sl) :
    ∃ t2 t3 t4 t5 t6 t7 t8, (mSeq (mOwn 2 (mUserN run__law_source (maCons (mVar 0) (maCons (mVar 1) maNil)))) (mSeq (mSet 3 (mUserB run__law_question 2 (maCons (mC (.int 4)) maNil))) (mSeq (mSet 4 (mUser run__law_written (maCons (mVar 3) maNil))) (mSeq (mIfS (mB fNe (mUser run_question_text (maCons (mVar 3) maNil)) lId (mPk 4) (lPk 4)) (mRet (mC (.bl false))) mSkip) (mSeq (mFor (mIt (mLst (maCons (mUserB run__law_of 2 (maCons (mUser (run__law_plans 6) (maCons (mVar 3) (maCons (mListR1 (mCall bLen (maCons (mB fIx (mPk 3) (lPk 3) (mC (.int 0)) lId) maNil) (laCons lId laNil))) maNil))) maNil)) maNil))) (mgName 5) (mIfS (mB fNe (mUser run_plan_text (maCons (mVar 3) (maCons (mVar 5) maNil))) lId (mUser (run__law_text 6) (maCons (mVar 5) maNil)) lId) (mRet (mC (.bl false))) mSkip)) (mSeq (mFor (mRange1 (maCons (mC (.int 7)) maNil)) (mgName 6) (mSeq (mAsg (mgTup 2 (mgsCons (mgName 7) (mgsCons (mgName 8) mgsNil))) (mUser run__law_read (maCons (mVar 4) maNil))) (mSeq (mIfS (mOr (mB fNe (mPk 8) (lPk 8) (mUser run__law_bad (maCons (mVar 4) maNil)) lId) (mAnd (mB fEq (mPk 6) (lPk 6) (mC (.int 0)) lId) (mB fNe (mPk 7) (lPk 7) (mPk 3) (lPk 3)))) (mRet (mC (.bl false))) mSkip) (mSeq (mIfS (mAnd (mB fIsN (mPk 8) (lPk 8) (mC .non) lId) (mB fNe (mUser run__law_written (maCons (mVar 7) maNil)) lId (mPk 4) (lPk 4))) (mRet (mC (.bl false))) mSkip) (mSet 4 (mSl (mUserB run__law_spoilt 2 (maCons (mVar 4) maNil)) lId (mC .non) (mPrt (mC (.int 900))))))))) (mIfS (mB fNe (mUser run__law_read (maCons (mUserB run__law_of 2 (maCons (mLst (maCons (mC .non) (maCons (mC (.int 5)) (maCons (mC (.bl true)) (maCons (mLst maNil) (maCons (mTup (maCons (mC (.str [116, 97, 98, 108, 101])) maNil)) (maCons (mVar 3) maNil))))))) maNil)) maNil)) lId (mTup (maCons (mC .non) (maCons (mC (.int 0)) maNil))) lId) (mRet (mC (.bl false))) mSkip))))))) [.va (.scr ns), .va (.int (i : Int)), s2, s3, s4, s5, s6, s7, s8, s9, s10] = .nx [.va (.scr ns), .va (.int (i : Int)), t2, t3, t4, t5, t6, t7, t8, s9, s10] := by
  obtain ⟨x, e1, hx⟩ := source_ok ns i hi
  obtain ⟨Q, x1, m0, T0, L0, I0, e2, hs1, g⟩ := question_gen hx
  have m2 := g.qf.m2
  have m4 := g.qf.m4
  have q0 := g.qf.q0
  have ln : bLen [.tup (T0.map t2D)] = some (.int (m0 : Int)) := by rw [← g.qf.ln]; rfl
  have plq := Ok.pl Q 3 g.ok
  have gq := good_question_ok Q plq
  rw [g.good] at gq
  have rl : (RnI m0).length = m0 := by simp [RnI]
  obtain ⟨F, pf⟩ := plans_ok g.qf 6 (RnI m0) (by omega) (by omega) (by omega) (R_nodup m0) (fun k hk => by
    unfold RnI at hk
    obtain ⟨j, hj, rfl⟩ := List.mem_map.mp hk
    have := List.mem_range.mp hj
    omega)
  have fl : F.length ≤ 100000 := by
    have h1 := pf.le
    have h2 := (kp_ok (n := m0) m2 m4).2
    rw [rl] at h1
    omega
  have er := pf.run
  obtain ⟨v, x2, e3, hs2, hv⟩ := of_ok2 hs1 F pf.ne fl
  obtain ⟨pt, p1, p2, p3⟩ := plan_text_ok g.qf plq g.good (R_nodup m0) rl ((pf.gp v hv).mono (by omega))
  have nep := ne_str1 p3 p3
  rw [decide_eq_true rfl] at nep
  obtain ⟨m, T, L, I, eQ, s⟩ := good_form g.good
  have wr := written_ok s
  have qt := question_text_ok s (by rw [← eQ]; exact gq)
  have aw := jn_asc (c := 10) (by decide) _ (linesQ_asc s)
  have new := ne_str1 aw aw
  rw [decide_eq_true rfl] at new
  have t7 := fun (S0 S1 s5 s6 s7 s8 s9 s10 : Sl) => turns7 s (by rw [← eQ]; exact g.good) hs2 S0 S1 s5 s6 s7 s8 s9 s10
  have iq : isStr Q = some (.bl false) := by rw [eQ]; rfl
  rw [← eQ] at wr qt
  rw [← eQ] at t7
  generalize jn1 10 (linesQ T L I) = W at *
  obtain ⟨x3, t', u6, u7, u8, e4, hs3⟩ := t7 (.va (.scr ns)) (.va (.int (i : Int))) (.va v) s6 s7 s8 s9 s10
  obtain ⟨y, x4, e5, hs4, hy⟩ := of_ok hs3 [.non, .int 5, .bl true, .lst [], .tup [.str wT], Q] (by simp) (by simp)
  have iy : isStr y = some (.bl false) := by
    simp only [List.mem_cons, List.not_mem_nil, or_false] at hy
    rcases hy with h | h | h | h | h | h <;> rw [h] <;> first | rfl | exact iq
  have ro := read_odd iy
  have nn : fNe (.tup [.non, .int 0]) (.tup [.non, .int 0]) = some (.bl false) := rfl
  refine ⟨.ow x4, .va Q, .va (.str t'), .va v, u6, u7, u8, ?_⟩
  have r7 := range1_ok (ma := maCons (mC (.int 7)) maNil) (e := LE1 (.va (.scr ns)) (.va (.int (i : Int))) x2 Q (.str W) (.va v) s6 s7 s8 s9 s10) (e1 := LE1 (.va (.scr ns)) (.va (.int (i : Int))) x2 Q (.str W) (.va v) s6 s7 s8 s9 s10) (j := 7) rfl (by decide)
  have u := upsD_R m0
  have hm : (m0 : Int) ≤ 16777216 := by omega
  have mi : (mIt (mLst (maCons (mUserB run__law_of 2 (maCons (mUser (run__law_plans 6) (maCons (mVar 3) (maCons (mListR1 (mCall bLen (maCons (mB fIx (mPk 3) (lPk 3) (mC (.int 0)) lId) maNil) (laCons lId laNil))) maNil))) maNil)) maNil))) (LE1 (.va (.scr ns)) (.va (.int (i : Int))) x1 Q (.str W) s5 s6 s7 s8 s9 s10) = .ok [v] (LE1 (.va (.scr ns)) (.va (.int (i : Int))) x2 Q (.str W) s5 s6 s7 s8 s9 s10) := by
    generalize run__law_plans 6 = P6 at *
    generalize (RnI m0).map D.int = R0 at *
    generalize T0.map t2D = TD at *
    simp [mListR1, mUserB, q0, ln, u, hm, er, e3, slotD, line]
  have mb : (mIfS (mB fNe (mUser run_plan_text (maCons (mVar 3) (maCons (mVar 5) maNil))) lId (mUser (run__law_text 6) (maCons (mVar 5) maNil)) lId) (mRet (mC (.bl false))) mSkip) (LE1 (.va (.scr ns)) (.va (.int (i : Int))) x2 Q (.str W) (.va v) s6 s7 s8 s9 s10) = .nx (LE1 (.va (.scr ns)) (.va (.int (i : Int))) x2 Q (.str W) (.va v) s6 s7 s8 s9 s10) := by
    generalize run__law_text 6 = T6 at *
    simp [p1, p2, nep, slotD]
  have ml : (mLst (maCons (mC .non) (maCons (mC (.int 5)) (maCons (mC (.bl true)) (maCons (mLst maNil) (maCons (mTup (maCons (mC (.str [116, 97, 98, 108, 101])) maNil)) (maCons (mVar 3) maNil))))))) (LE1 (.va (.scr ns)) (.va (.int (i : Int))) x3 Q (.str t') (.va v) u6 u7 u8 s9 s10) = .ok (.lst [.non, .int 5, .bl true, .lst [], .tup [.str wT], Q]) (LE1 (.va (.scr ns)) (.va (.int (i : Int))) x3 Q (.str t') (.va v) u6 u7 u8 s9 s10) := by
    simp [line]
  refine seq_nx (e1 := [.va (.scr ns), .va (.int (i : Int)), .ow x, s3, s4, s5, s6, s7, s8, s9, s10]) (by simp [e1]) (seq_nx (e1 := LE1 (.va (.scr ns)) (.va (.int (i : Int))) x1 Q .non s5 s6 s7 s8 s9 s10 |>.set 4 s4) (by simp [mUserB, e2, slotD]) (seq_nx (e1 := LE1 (.va (.scr ns)) (.va (.int (i : Int))) x1 Q (.str W) s5 s6 s7 s8 s9 s10) (by simp [wr]) (seq_nx (if_ff (e1 := LE1 (.va (.scr ns)) (.va (.int (i : Int))) x1 Q (.str W) s5 s6 s7 s8 s9 s10) (by simp [qt, new, slotD]) rfl) (seq_nx (e1 := LE1 (.va (.scr ns)) (.va (.int (i : Int))) x2 Q (.str W) (.va v) s6 s7 s8 s9 s10) (for_ok mi (go_cons (e1 := LE1 (.va (.scr ns)) (.va (.int (i : Int))) x2 Q (.str W) (.va v) s6 s7 s8 s9 s10) rfl mb rfl)) (seq_nx (for_ok r7 e4) (if_ff (e1 := LE1 (.va (.scr ns)) (.va (.int (i : Int))) x4 Q (.str t') (.va v) u6 u7 u8 s9 s10) ?_ rfl))))))
  generalize mLst (maCons (mC .non) (maCons (mC (.int 5)) (maCons (mC (.bl true)) (maCons (mLst maNil) (maCons (mTup (maCons (mC (.str [116, 97, 98, 108, 101])) maNil)) (maCons (mVar 3) maNil)))))) = ML at *
  generalize [.non, .int 5, .bl true, .lst [], .tup [.str wT], Q] = LL at *
  simp [ml, mUserB, e5, ro, nn, slotD, line]
theorem cells (ns : List Int) (S9 S10 : Sl) : ∀ (k : Nat) (i : Nat) (s1 s2 s3 s4 s5 s6 s7 s8 : Sl), i + k ≤ 50 → ∃ t1 t2 t3 t4 t5 t6 t7 t8, forGo (mgName 1) (mSeq (mOwn 2 (mUserN run__law_source (maCons (mVar 0) (maCons (mVar 1) maNil)))) (mSeq (mSet 3 (mUserB run__law_question 2 (maCons (mC (.int 4)) maNil))) (mSeq (mSet 4 (mUser run__law_written (maCons (mVar 3) maNil))) (mSeq (mIfS (mB fNe (mUser run_question_text (maCons (mVar 3) maNil)) lId (mPk 4) (lPk 4)) (mRet (mC (.bl false))) mSkip) (mSeq (mFor (mIt (mLst (maCons (mUserB run__law_of 2 (maCons (mUser (run__law_plans 6) (maCons (mVar 3) (maCons (mListR1 (mCall bLen (maCons (mB fIx (mPk 3) (lPk 3) (mC (.int 0)) lId) maNil) (laCons lId laNil))) maNil))) maNil)) maNil))) (mgName 5) (mIfS (mB fNe (mUser run_plan_text (maCons (mVar 3) (maCons (mVar 5) maNil))) lId (mUser (run__law_text 6) (maCons (mVar 5) maNil)) lId) (mRet (mC (.bl false))) mSkip)) (mSeq (mFor (mRange1 (maCons (mC (.int 7)) maNil)) (mgName 6) (mSeq (mAsg (mgTup 2 (mgsCons (mgName 7) (mgsCons (mgName 8) mgsNil))) (mUser run__law_read (maCons (mVar 4) maNil))) (mSeq (mIfS (mOr (mB fNe (mPk 8) (lPk 8) (mUser run__law_bad (maCons (mVar 4) maNil)) lId) (mAnd (mB fEq (mPk 6) (lPk 6) (mC (.int 0)) lId) (mB fNe (mPk 7) (lPk 7) (mPk 3) (lPk 3)))) (mRet (mC (.bl false))) mSkip) (mSeq (mIfS (mAnd (mB fIsN (mPk 8) (lPk 8) (mC .non) lId) (mB fNe (mUser run__law_written (maCons (mVar 7) maNil)) lId (mPk 4) (lPk 4))) (mRet (mC (.bl false))) mSkip) (mSet 4 (mSl (mUserB run__law_spoilt 2 (maCons (mVar 4) maNil)) lId (mC .non) (mPrt (mC (.int 900))))))))) (mIfS (mB fNe (mUser run__law_read (maCons (mUserB run__law_of 2 (maCons (mLst (maCons (mC .non) (maCons (mC (.int 5)) (maCons (mC (.bl true)) (maCons (mLst maNil) (maCons (mTup (maCons (mC (.str [116, 97, 98, 108, 101])) maNil)) (maCons (mVar 3) maNil))))))) maNil)) maNil)) lId (mTup (maCons (mC .non) (maCons (mC (.int 0)) maNil))) lId) (mRet (mC (.bl false))) mSkip))))))) (ups (i : Int) k) [.va (.scr ns), s1, s2, s3, s4, s5, s6, s7, s8, S9, S10] = .nx [.va (.scr ns), t1, t2, t3, t4, t5, t6, t7, t8, S9, S10]
  | 0, i, s1, s2, s3, s4, s5, s6, s7, s8, h => ⟨s1, s2, s3, s4, s5, s6, s7, s8, rfl⟩
  | k + 1, i, s1, s2, s3, s4, s5, s6, s7, s8, h => by
    obtain ⟨t2, t3, t4, t5, t6, t7, t8, e1⟩ := cell_ok ns i (by omega) s2 s3 s4 s5 s6 s7 s8 S9 S10
    obtain ⟨u1, u2, u3, u4, u5, u6, u7, u8, e⟩ := cells ns S9 S10 k (i + 1) (.va (.int (i : Int))) t2 t3 t4 t5 t6 t7 t8 (by omega)
    refine ⟨u1, u2, u3, u4, u5, u6, u7, u8, ?_⟩
    rw [ups_cons, show ((i : Int) + 1) = ((i + 1 : Nat) : Int) by omega]
    exact go_cons (e1 := [.va (.scr ns), .va (.int (i : Int)), s2, s3, s4, s5, s6, s7, s8, S9, S10]) rfl e1 e
end GJ

set_option Elab.async false
set_option linter.all false
set_option maxRecDepth 100000
set_option maxHeartbeats 2000000
namespace GJ
open PySem L2 MP
/-! ### the law's last checks -/
def isTrue : RS → Bool
  | .rt (.bl true) _ => true
  | _ => false
theorem isTrue_ok {r : RS} (h : isTrue r = true) : ∃ e, r = .rt (.bl true) e := by
  unfold isTrue at h
  split at h
  · exact ⟨_, rfl⟩
  · cases h
theorem tail_ok (s0 s1 s2 s3 s4 s5 s6 s7 s8 : Sl) : ∃ e, (mSeq (mSet 9 (mC (.str [116, 97, 98, 108, 101, 32, 49, 32, 49, 10, 116, 97, 98, 108, 101, 32, 49, 32, 49]))) (mSeq (mSet 10 (mLst (maCons (mC (.str [])) (maCons (mVar 9) (maCons (mB fAdd (mPk 9) (lPk 9) (mC (.str [10])) lId) (maCons (mB fAdd (mPk 9) (lPk 9) (mC (.str [10, 105, 110, 100, 101, 120, 32, 50])) lId) maNil)))))) (mSeq (mSet 10 (mB fAdd (mPk 10) (lPk 10) (mLst (maCons (mB fAdd (mPk 9) (lPk 9) (mC (.str [10, 105, 110, 100, 101, 120, 32, 49, 10, 108, 105, 110, 107, 32, 48, 32, 49, 32, 49, 32, 49])) lId) (maCons (mC (.str [116, 97, 98, 108, 101, 32, 49, 32, 49])) (maCons (mC (.str [116, 97, 98, 108, 101, 32, 48, 49, 32, 49])) maNil)))) lId)) (mSeq (mSet 10 (mB fAdd (mPk 10) (lPk 10) (mLst (maCons (mB fAdd (mPk 9) (lPk 9) (mC (.str [10, 108, 105, 110, 107, 32, 48, 32, 49, 32, 49])) lId) (maCons (mB fAdd (mPk 9) (lPk 9) (mC (.str [10, 108, 105, 110, 107, 32, 48, 32, 49, 32, 49, 48, 48, 32, 49])) lId) maNil))) lId)) (mSeq (mSet 10 (mB fAdd (mPk 10) (lPk 10) (mLst (maCons (mB fAdd (mPk 9) (lPk 9) (mC (.str [10, 108, 105, 110, 107, 32, 48, 32, 49, 32, 48, 32, 49])) lId) (maCons (mB fAdd (mC (.str [105, 110, 100, 101, 120, 32, 49, 10])) lId (mPk 9) (lPk 9)) maNil))) lId)) (mSeq (mSet 7 (mAsV (mLc (mIt (mVar 10)) [4] (mgName 4) mYes (mB fIx (mUser run__law_read (maCons (mVar 4) maNil)) lId (mC (.int 1)) lId)))) (mSeq (mIfS (mB fNe (mPk 7) (lPk 7) (mLst (maCons (mC (.int 1)) (maCons (mC .non) (maCons (mC (.int 3)) (maCons (mC (.int 4)) (maCons (mC (.int 5)) (maCons (mC (.int 2)) (maCons (mC (.int 1)) (maCons (mC (.int 3)) (maCons (mC (.int 3)) (maCons (mC (.int 4)) (maCons (mC (.int 4)) maNil)))))))))))) lId) (mRet (mC (.bl false))) mSkip) (mRet (mB fEq (mUser run_plan_text (maCons (mB fIx (mUser0 run__law_known) lId (mC (.int 2)) lId) (maCons (mTup (maCons (mTup (maCons (mC (.int 0)) (maCons (mC (.int 1)) (maCons (mC (.str [104, 97, 115, 104])) maNil)))) (maCons (mC (.int 2)) (maCons (mC (.str [105, 110, 100, 101, 120])) maNil)))) maNil))) lId (mC (.str [40, 40, 48, 32, 104, 97, 115, 104, 32, 49, 41, 32, 105, 110, 100, 101, 120, 32, 50, 41])) lId))))))))) [s0, s1, s2, s3, s4, s5, s6, s7, s8, .no, .no] = .rt (.bl true) e := isTrue_ok (by kernel_rfl)
end GJ

set_option Elab.async false
set_option linter.all false
set_option maxRecDepth 100000
set_option maxHeartbeats 2000000
namespace GJ
open PySem L2 MP

theorem law_of : ∀ ns : List Int, ns.length ≤ 63 → (∀ z ∈ ns, PySem.Builtin.Int.intBits z ≤ 1048576) → ∃ out, run_law [.va (.scr ns)] = .ok (.bl true) out := by
  intro ns hl _
  obtain ⟨k, hk, hk2⟩ : ∃ k : Nat, (if (10 : Int) < (ns.length : Int) then 10 else (ns.length : Int)) = (k : Int) ∧ k ≤ 10 := by
    by_cases h : (10 : Int) < (ns.length : Int)
    · exact ⟨10, by rw [if_pos h]; rfl, by omega⟩
    · exact ⟨ns.length, by rw [if_neg h], by omega⟩
  obtain ⟨t1, t2, t3, t4, t5, t6, t7, t8, e⟩ := cells ns .no .no (1 + k) 0 .no .no .no .no .no .no .no .no (by omega)
  have ln : bLen [.scr ns] = some (.int (ns.length : Int)) := rfl
  have mn : bMin [.int (ns.length : Int), .int 10] = some (.int (k : Int)) := by rw [← hk]; rfl
  have ma : (maCons (mB fAdd (mC (.int 1)) lId (mCall bMin (maCons (mCall bLen (maCons (mPk 0) maNil) (laCons (lPk 0) laNil)) (maCons (mC (.int 10)) maNil)) (laCons lId (laCons lId laNil))) lId) maNil) [.va (.scr ns), .no, .no, .no, .no, .no, .no, .no, .no, .no, .no] = .ok [.int ((1 + k : Nat) : Int)] [.va (.scr ns), .no, .no, .no, .no, .no, .no, .no, .no, .no, .no] := by
    rw [show (((1 + k : Nat)) : Int) = 1 + (k : Int) by omega]
    simp [ln, mn, slotD, fAdd]
  have r := range1_ok ma (big_nat (p := 1 + k) (by omega))
  rw [Int.toNat_natCast] at r
  have s0 := for_ok r e
  obtain ⟨e', te⟩ := tail_ok (.va (.scr ns)) t1 t2 t3 t4 t5 t6 t7 t8
  have fin : m_law [.va (.scr ns), .no, .no, .no, .no, .no, .no, .no, .no, .no, .no] = .rt (.bl true) e' := seq_nx s0 te
  exact ⟨_, run_rt (n := 1) (tot := 11) (m := m_law) (args := [.va (.scr ns)]) fin⟩
end GJ

set_option Elab.async false
set_option linter.all false
set_option maxRecDepth 100000
set_option maxHeartbeats 0
open PySem PySem.W PySem.Calls PyProof.Rows
theorem GJ.fin (law_true : ∀ ns : List Int, ns.length ≤ 63 → (∀ z ∈ ns, PySem.Builtin.Int.intBits z ≤ 1048576) → ∃ out, GJ.run_law [.va (.scr ns)] = .ok (.bl true) out) : PySem.Challenge.rw_growjoins_k11_texts_of_questions_and_pla.Holds := by
  w_on; o_law
  refine HandSHeadRun.head_any (r := OpenLaw.row PySem.Challenge.rw_growjoins_k11_texts_of_questions_and_pla) (q := view (OpenLaw.row PySem.Challenge.rw_growjoins_k11_texts_of_questions_and_pla).prog [53]) (H := GJ.hk) (ob := GJ.ob) (M := 3000) (loose := GJ.loose) (d := HandSHeadRun.topDef (OpenLaw.row PySem.Challenge.rw_growjoins_k11_texts_of_questions_and_pla).prog 53) (kwd := []) GJ.ob_eq
    (by kernel_rfl) (fun s => by kernel_rfl) GJ.run (by kernel_rfl) (by kernel_rfl) (by kernel_rfl) (by rfl) (by first | assumption | decide +kernel) (by decide +kernel) ⟨rfl, rfl, rfl, rfl, rfl, by decide +kernel⟩ ?hw ?hc
  case hw => w_witness2
  case hc =>
    refine MP.walk_lawT (l := PySem.Challenge.rw_growjoins_k11_texts_of_questions_and_pla) (n := 63) (k := 21) (x := "_law_script") (f := GJ.run_law) rfl (by decide) (by kernel_rfl) ⟨rfl, by decide, by decide⟩ (by kernel_rfl) ?F law_true
    intro w mg fa h Y G hmg
    obtain ⟨K, KX, c⟩ := Y
    obtain ⟨fd, hb, hF⟩ := GJ.facts (w := w) KX G hmg c.x.t.d c.x.more c.x.t c.i
    refine ⟨K, GJ.CC K, fd, GJ.tfs.map (He.cT K), KX, fun p hp => ?_, fun p hp => ?_, fun p hp => ?_, fun p hp => ?_, hb, hF⟩
    · obtain ⟨q, hq, e⟩ := List.mem_map.mp hp
      rw [← e]; exact c.x.empty q hq
    · obtain ⟨q, hq, e⟩ := List.mem_map.mp hp
      rw [← e]; exact c.x.out q hq
    · obtain ⟨q, hq, e⟩ := List.mem_map.mp hp
      rw [← e]; exact PySem.W.codeHd_of_K KX (c.x.hd q hq)
    · obtain ⟨x, hx, e⟩ := List.mem_map.mp hp
      exact ⟨_, List.mem_map.mpr ⟨(x, none), List.mem_map.mpr ⟨x, hx, rfl⟩, rfl⟩, by rw [← e]⟩

set_option maxRecDepth 100000 in
set_option maxHeartbeats 2000000 in
theorem PySem.Challenge.cw_growjoins_k11_texts_of_questions_and_pla_holds : PySem.Challenge.rw_growjoins_k11_texts_of_questions_and_pla.Holds :=
  GJ.fin GJ.law_of

