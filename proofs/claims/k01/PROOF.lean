import PyProof.Rows.All
import Wide.All
import OpenK.AllK
import Wide.FinOn
import HandS.ForMost
import HandS.Exc
import HandS.ExcOwn
import HandS.TryOnly
import HandS.WordsExc
import HandS.Wide
import HandS.TupAny
import HandS.TupMul
import HandS.IsInst
import HandS.TupLe
import HandS.Dict
import HandS.Style
import HandS.Text
import HandS.Comp
import HandS.Zip
import HandS.Walk
import HandS.Defaults
import HandS.More
import HandS.ExcIs
import HandS.Conv
import HandS.Head0
import HandS.Head1
import HandS.Head2
import HandS.HeadEnd
import HandS.HeadHook1
import HandS.HeadHook2
import HandS.EndBits
import KE.KStateDown
import HandS.Ends
import HandS.Words
import PySem.Challenge.RW_growjoins_k01_forms_and_their_signs
set_option Elab.async false
set_option linter.all false
set_option maxRecDepth 100000
set_option maxHeartbeats 4000000
namespace MP
open PySem PySem.Spec L2
open PyProof.Rows hiding St

/-! ### values as trees -/
abbrev Ky := Sum Int (List Nat)
inductive D where
  | non | bl (b : Bool) | int (i : Int) | str (cs : List Nat)
  | tup (xs : List D) | lst (xs : List D)
  | dct (ks : List Ky) (vs : List D)
  | dtp (ks : List (List Int)) (vs : List D)
  | scr (ns : List Int)
  deriving Inhabited
/-- a slot: undefined, a value, an owned list or dict, a borrowed one, one to be read alone -/
inductive Sl where
  | no | va (d : D) | ow (d : D) | bo (d : D) | ro (d : D)
  deriving Inhabited
abbrev Ev := List Sl
inductive RE where
  | ok (d : D) (e : Ev) | ex (c : Nat) (e : Ev) | bad
inductive RS where
  | nx (e : Ev) | rt (d : D) (e : Ev) | bk (e : Ev) | ct (e : Ev) | ex (c : Nat) (e : Ev) | bad
inductive RA where
  | ok (ds : List D) (e : Ev) | ex (c : Nat) (e : Ev) | bad
abbrev ME := Ev → RE
abbrev MS := Ev → RS
abbrev MA := Ev → RA

def kyK : Ky → Key
  | .inl i => .inl i
  | .inr cs => .inr ⟨cs.toArray⟩

/-- a tuple, a list of the written part -/
def KT (K : PySem.W.Frag) (a : Addr) (xs : List V) : Prop :=
  ∃ (o : Obj) (its : Array Value) (n : Nat), K.lookup a = some o ∧ o.cls = .type "tuple" ∧ o.data = .seq its n ∧ its.size ≤ sizeLine ∧ Vals xs its.toList
def KL (K : PySem.W.Frag) (a : Addr) (xs : List V) : Prop :=
  ∃ (o : Obj) (its : Array Value) (n : Nat), K.lookup a = some o ∧ o.cls = .type "list" ∧ o.dict = none ∧ o.data = .seq its n ∧ its.size ≤ sizeLine ∧ Vals xs its.toList

mutual
def RelD (K : PySem.W.Frag) (H : Hp) (O : Addr → Prop) : D → V → Prop
  | .non, v => v = .non
  | .bl b, v => v = .bl b
  | .int i, v => v = .int i
  | .str cs, v => v = .str ⟨cs.toArray⟩
  | .tup xs, v => ∃ a vs, v = .ref a ∧ ((Rd H a (.tup vs) ∧ ¬ O a) ∨ KT K a vs) ∧ RelL K H O xs vs
  | .lst xs, v => ∃ a vs, v = .ref a ∧ H a = some (.lst vs) ∧ ¬ O a ∧ RelL K H O xs vs
  | .scr ns, v => ∃ a, v = .ref a ∧ ((Rd H a (.lst (ns.map V.int)) ∧ ¬ O a) ∨ KL K a (ns.map V.int))
  | .dct _ _, _ => False
  | .dtp _ _, _ => False
def RelL (K : PySem.W.Frag) (H : Hp) (O : Addr → Prop) : List D → List V → Prop
  | [], vs => vs = []
  | x :: xs, vs => ∃ v r, vs = v :: r ∧ RelD K H O x v ∧ RelL K H O xs r
end
/-- what lies at an owned address -/
def CRel (K : PySem.W.Frag) (H : Hp) (O : Addr → Prop) : D → Addr → Prop
  | .lst xs, a => ∃ vs, H a = some (.lst vs) ∧ RelL K H O xs vs
  | .dct ks xs, a => ∃ vs, H a = some (.dK ((ks.map kyK).zip vs)) ∧ ks.length = vs.length ∧ RelL K H O xs vs
  | .dtp ks xs, a => ∃ vs, H a = some (.dT ((ks.map (List.map Sum.inl)).zip vs)) ∧ ks.length = vs.length ∧ RelL K H O xs vs
  | _, _ => False
/-- what an operation that keeps nothing may read -/
def PRel (K : PySem.W.Frag) (H : Hp) (O : Addr → Prop) (d : D) (v : V) : Prop := RelD K H O d v ∨ ∃ a, v = .ref a ∧ CRel K H O d a
def PRelL (K : PySem.W.Frag) (H : Hp) (O : Addr → Prop) : List D → List V → Prop
  | [], vs => vs = []
  | x :: xs, vs => ∃ v r, vs = v :: r ∧ PRel K H O x v ∧ PRelL K H O xs r

/-- what a step may do: objects not owned stay; what is owned then was owned, or is new -/
def Ext (O : Addr → Prop) (H : Hp) (O' : Addr → Prop) (H' : Hp) : Prop :=
  (∀ b o, H b = some o → ¬ O b → H' b = some o) ∧ ∀ b, O' b → O b ∨ H b = none
theorem Ext.refl {O : Addr → Prop} {H : Hp} : Ext O H O H := ⟨fun _ _ h _ => h, fun _ h => .inl h⟩
theorem Ext.trans {O O1 O2 : Addr → Prop} {H H1 H2 : Hp} (a : Ext O H O1 H1) (b : Ext O1 H1 O2 H2) : Ext O H O2 H2 := by
  refine ⟨fun c o h n => b.1 c o (a.1 c o h n) fun q => ?_, fun c q => ?_⟩
  · rcases a.2 c q with q | q
    · exact n q
    · rw [h] at q; cases q
  · rcases b.2 c q with q | q
    · exact a.2 c q
    · cases e : H c with
      | none => exact .inr rfl
      | some o =>
        by_cases n : O c
        · exact .inl n
        · have z := a.1 c o e n
          rw [q] at z; cases z
theorem Ext.of {O : Addr → Prop} {H H' : Hp} (s : Same H H') : Ext O H O H' := ⟨fun b o h _ => s b o h, fun _ h => .inl h⟩
theorem Ext.sub {O O' : Addr → Prop} {H : Hp} (s : ∀ b, O' b → O b) : Ext O H O' H := ⟨fun b o h _ => h, fun b h => .inl (s b h)⟩

theorem Ext.not {O O' : Addr → Prop} {H H' : Hp} {a : Addr} {o : HO} (x : Ext O H O' H') (h : H a = some o) (n : ¬ O a) : ¬ O' a := fun q => by
  rcases x.2 a q with q | q
  · exact n q
  · rw [h] at q; cases q
theorem Ext.rd {O O' : Addr → Prop} {H H' : Hp} {a : Addr} {u : HO} (x : Ext O H O' H') (h : Rd H a u) (n : ¬ O a) : Rd H' a u ∧ ¬ O' a := by
  rcases h with h | ⟨o, h⟩
  · exact ⟨.inl (x.1 a _ h n), x.not h n⟩
  · exact ⟨.inr ⟨o, x.1 a _ h n⟩, x.not h n⟩
mutual
theorem RelD.ext {K : PySem.W.Frag} {O O' : Addr → Prop} {H H' : Hp} (x : Ext O H O' H') : ∀ (d : D) (v : V), RelD K H O d v → RelD K H' O' d v
  | .non, v, h => by simp only [RelD] at h ⊢; exact h
  | .bl b, v, h => by simp only [RelD] at h ⊢; exact h
  | .int i, v, h => by simp only [RelD] at h ⊢; exact h
  | .str cs, v, h => by simp only [RelD] at h ⊢; exact h
  | .tup xs, v, h => by
    simp only [RelD] at h ⊢
    obtain ⟨a, vs, e, q, r⟩ := h
    refine ⟨a, vs, e, ?_, RelL.ext x xs vs r⟩
    rcases q with ⟨q, n⟩ | q
    · exact .inl (x.rd q n)
    · exact .inr q
  | .lst xs, v, h => by
    simp only [RelD] at h ⊢
    obtain ⟨a, vs, e, q, n, r⟩ := h
    exact ⟨a, vs, e, x.1 a _ q n, x.not q n, RelL.ext x xs vs r⟩
  | .scr ns, v, h => by
    simp only [RelD] at h ⊢
    obtain ⟨a, e, q⟩ := h
    refine ⟨a, e, ?_⟩
    rcases q with ⟨q, n⟩ | q
    · exact .inl (x.rd q n)
    · exact .inr q
  | .dct _ _, v, h => by simp only [RelD] at h
  | .dtp _ _, v, h => by simp only [RelD] at h
theorem RelL.ext {K : PySem.W.Frag} {O O' : Addr → Prop} {H H' : Hp} (x : Ext O H O' H') : ∀ (ds : List D) (vs : List V), RelL K H O ds vs → RelL K H' O' ds vs
  | [], vs, h => by simp only [RelL] at h ⊢; exact h
  | d :: ds, vs, h => by
    simp only [RelL] at h ⊢
    obtain ⟨v, r, e, h1, h2⟩ := h
    exact ⟨v, r, e, RelD.ext x d v h1, RelL.ext x ds r h2⟩
end
theorem CRel.ext {K : PySem.W.Frag} {O O' : Addr → Prop} {H H' : Hp} (x : Ext O H O' H') {d : D} {a : Addr} (h : CRel K H O d a) (s : H' a = H a) : CRel K H' O' d a := by
  cases d <;> simp only [CRel] at h ⊢ <;> try exact h
  · obtain ⟨vs, e, r⟩ := h
    exact ⟨vs, s.trans e, RelL.ext x _ _ r⟩
  · obtain ⟨vs, e, l, r⟩ := h
    exact ⟨vs, s.trans e, l, RelL.ext x _ _ r⟩
  · obtain ⟨vs, e, l, r⟩ := h
    exact ⟨vs, s.trans e, l, RelL.ext x _ _ r⟩
theorem CRel.some {K : PySem.W.Frag} {O : Addr → Prop} {H : Hp} {d : D} {a : Addr} (h : CRel K H O d a) : H a ≠ none := by
  cases d <;> simp only [CRel] at h
  · obtain ⟨vs, e, r⟩ := h
    rw [e]; intro z; cases z
  · obtain ⟨vs, e, r⟩ := h
    rw [e]; intro z; cases z
  · obtain ⟨vs, e, r⟩ := h
    rw [e]; intro z; cases z

/-! ### the state of an activation -/
structure Fx where
  K : PySem.W.Frag
  O0 : Addr → Prop
  H0 : Hp
  B : Addr → Prop
def Ow (F : Fx) (env : Ev) (σ : St) (a : Addr) : Prop := F.O0 a ∨ ∃ (i : Nat) (d : D), env[i]? = some (Sl.ow d) ∧ σ[i]? = some (some (V.ref a))
structure SR (F : Fx) (env : Ev) (σ : St) (H : Hp) : Prop where
  fr : ∀ b o, F.H0 b = some o → ¬ F.B b → H b = some o
  od : ∀ a, F.O0 a → H a ≠ none
  bo0 : ∀ a, F.B a → F.O0 a
  len : env.length = σ.length
  va : ∀ (i : Nat) (d : D), env[i]? = some (Sl.va d) → ∃ v, σ[i]? = some (some v) ∧ RelD F.K H (Ow F env σ) d v
  ow : ∀ (i : Nat) (d : D), env[i]? = some (Sl.ow d) → ∃ a, σ[i]? = some (some (V.ref a)) ∧ F.H0 a = none ∧ ¬ F.O0 a ∧ CRel F.K H (Ow F env σ) d a
  bo : ∀ (i : Nat) (d : D), env[i]? = some (Sl.bo d) → ∃ a, σ[i]? = some (some (V.ref a)) ∧ F.B a ∧ CRel F.K H (Ow F env σ) d a
  ro : ∀ (i : Nat) (d : D), env[i]? = some (Sl.ro d) → ∃ a, σ[i]? = some (some (V.ref a)) ∧ F.O0 a ∧ ¬ F.B a ∧ CRel F.K H (Ow F env σ) d a
  dj : ∀ (i j : Nat) (a : Addr) (d d' : D), env[i]? = some (Sl.ow d) → env[j]? = some (Sl.ow d') → σ[i]? = some (some (V.ref a)) → σ[j]? = some (some (V.ref a)) → i = j
  djb : ∀ (i j : Nat) (a : Addr) (d d' : D), env[i]? = some (Sl.bo d) → env[j]? = some (Sl.bo d') → σ[i]? = some (some (V.ref a)) → σ[j]? = some (some (V.ref a)) → i = j

theorem SR.dom {F : Fx} {env : Ev} {σ : St} {H : Hp} (s : SR F env σ H) {a : Addr} (h : Ow F env σ a) : H a ≠ none := by
  rcases h with h | ⟨i, d, h1, h2⟩
  · exact s.od a h
  · obtain ⟨b, e, _, _, c⟩ := s.ow i d h1
    rw [h2] at e
    cases e
    exact c.some
theorem SR.new {F : Fx} {env : Ev} {σ : St} {H : Hp} (s : SR F env σ H) {p : Addr} (h : H p = none) : ¬ Ow F env σ p := fun q => s.dom q h
/-- what grows the heap alone -/
theorem SR.grow {F : Fx} {env : Ev} {σ : St} {H H' : Hp} (s : SR F env σ H) (g : Same H H') : SR F env σ H' := by
  have x : Ext (Ow F env σ) H (Ow F env σ) H' := Ext.of g
  have st : ∀ a, H a ≠ none → H' a = H a := fun a n => by
    cases e : H a with
    | none => exact absurd e n
    | some o => rw [g a o e]
  refine ⟨fun b o h n => g b o (s.fr b o h n), fun a h => ?_, s.bo0, s.len, fun i d h => ?_, fun i d h => ?_, fun i d h => ?_, fun i d h => ?_, s.dj, s.djb⟩
  · rw [st a (s.od a h)]; exact s.od a h
  · obtain ⟨v, e, r⟩ := s.va i d h
    exact ⟨v, e, r.ext x⟩
  · obtain ⟨a, e, n, m, c⟩ := s.ow i d h
    exact ⟨a, e, n, m, c.ext x (st a c.some)⟩
  · obtain ⟨a, e, n, c⟩ := s.bo i d h
    exact ⟨a, e, n, c.ext x (st a c.some)⟩
  · obtain ⟨a, e, n, m, c⟩ := s.ro i d h
    exact ⟨a, e, n, m, c.ext x (st a c.some)⟩
theorem same_upd {H : Hp} {p : Addr} {o : HO} (h : H p = none) : Same H (upd H p o) := fun b x e => by
  rw [upd_ne (ne_of_none e h)]
  exact e

/-! ### the judgements -/
def PostE (F : Fx) (C : Nat → Value) (W : WX) (env : Ev) (σ : St) (H : Hp) (Q : VK) : RE → Prop
  | .ok d env' => ∀ v H', SR F env' σ H' → Ext (Ow F env σ) H (Ow F env' σ) H' → RelD F.K H' (Ow F env' σ) d v → Q v H'
  | .ex c env' => ∀ H', SR F env' σ H' → Ext (Ow F env σ) H (Ow F env' σ) H' → W (C c) none σ H'
  | .bad => False
/-- an expression of the program and what it does to an environment -/
structure JE (X : Cx) (C : Nat → Value) (W : WX) (e : Expr) (m : ME) : Prop where
  run : ∃ t, PE X e t ∧ ∀ F env σ H Q, F.K = X.K → SR F env σ H → PostE F C W env σ H Q (m env) → t σ H Q
/-- what an operand is, behind all operands -/
def LT (F : Fx) (σ : St) (l : Ev → D → Option D) (d : D) (v : V) (env1 : Ev) (H1 : Hp) : Prop :=
  ∀ env2 H2, SR F env2 σ H2 → Ext (Ow F env1 σ) H1 (Ow F env2 σ) H2 → ∀ d2, l env2 d = some d2 → PRel F.K H2 (Ow F env2 σ) d2 v
theorem LT.later {F : Fx} {σ : St} {l : Ev → D → Option D} {d : D} {v : V} {env1 env2 : Ev} {H1 H2 : Hp} (h : LT F σ l d v env1 H1) (x : Ext (Ow F env1 σ) H1 (Ow F env2 σ) H2) : LT F σ l d v env2 H2 :=
  fun env3 H3 s y d2 e => h env3 H3 s (x.trans y) d2 e
def PostO (F : Fx) (C : Nat → Value) (W : WX) (env : Ev) (σ : St) (H : Hp) (l : Ev → D → Option D) (Q : VK) : RE → Prop
  | .ok d env' => ∀ v H', SR F env' σ H' → Ext (Ow F env σ) H (Ow F env' σ) H' → LT F σ l d v env' H' → Q v H'
  | .ex c env' => ∀ H', SR F env' σ H' → Ext (Ow F env σ) H (Ow F env' σ) H' → W (C c) none σ H'
  | .bad => False
structure JO (X : Cx) (C : Nat → Value) (W : WX) (e : Expr) (m : ME) (l : Ev → D → Option D) : Prop where
  run : ∃ t, PE X e t ∧ ∀ F env σ H Q, F.K = X.K → SR F env σ H → PostO F C W env σ H l Q (m env) → t σ H Q
/-- a list of operands -/
def LTA (F : Fx) (σ : St) (l : Ev → List D → Option (List D)) (ds : List D) (vs : List V) (env1 : Ev) (H1 : Hp) : Prop :=
  ∀ env2 H2, SR F env2 σ H2 → Ext (Ow F env1 σ) H1 (Ow F env2 σ) H2 → ∀ d2, l env2 ds = some d2 → PRelL F.K H2 (Ow F env2 σ) d2 vs
def PostA (F : Fx) (C : Nat → Value) (W : WX) (env : Ev) (σ : St) (H : Hp) (l : Ev → List D → Option (List D)) (Q : List V → Hp → Prop) : RA → Prop
  | .ok ds env' => ∀ vs H', SR F env' σ H' → Ext (Ow F env σ) H (Ow F env' σ) H' → LTA F σ l ds vs env' H' → Q vs H'
  | .ex c env' => ∀ H', SR F env' σ H' → Ext (Ow F env σ) H (Ow F env' σ) H' → W (C c) none σ H'
  | .bad => False
structure JA (X : Cx) (C : Nat → Value) (W : WX) (es : List Expr) (m : MA) (l : Ev → List D → Option (List D)) : Prop where
  run : ∃ t, PA X es t ∧ ∀ F env σ H Q, F.K = X.K → SR F env σ H → PostA F C W env σ H l Q (m env) → t σ H Q
/-- a test -/
def PostT (F : Fx) (C : Nat → Value) (W : WX) (env : Ev) (σ : St) (H : Hp) (Q : Bool → Hp → Prop) : RE → Prop
  | .ok d env' => ∃ b, d = .bl b ∧ ∀ H', SR F env' σ H' → Ext (Ow F env σ) H (Ow F env' σ) H' → Q b H'
  | .ex c env' => ∀ H', SR F env' σ H' → Ext (Ow F env σ) H (Ow F env' σ) H' → W (C c) none σ H'
  | .bad => False
structure JT (X : Cx) (C : Nat → Value) (W : WX) (e : Expr) (m : ME) : Prop where
  run : ∃ t, PT X e t ∧ ∀ F env σ H Q, F.K = X.K → SR F env σ H → PostT F C W env σ H Q (m env) → t σ H Q

/-! ### operations on values -/
/-- a two-place operation: what HandS asks, by what it does to trees -/
def OpS (K : PySem.W.Frag) (r : R2) (f : D → D → Option D) : Prop :=
  ∀ H (O : Addr → Prop) x y v u Q d, (∀ a, O a → H a ≠ none) → PRel K H O x v → PRel K H O y u → f x y = some d → (∀ v' H', Same H H' → RelD K H' O d v' → Q v' H') → r v u H Q
def UnS (K : PySem.W.Frag) (r : V → Hp → VK → Prop) (f : D → Option D) : Prop :=
  ∀ H (O : Addr → Prop) x v Q d, (∀ a, O a → H a ≠ none) → PRel K H O x v → f x = some d → (∀ v' H', Same H H' → RelD K H' O d v' → Q v' H') → r v H Q
def CaS (K : PySem.W.Frag) (r : List V → Hp → VK → Prop) (f : List D → Option D) : Prop :=
  ∀ H (O : Addr → Prop) xs vs Q d, (∀ a, O a → H a ≠ none) → PRelL K H O xs vs → f xs = some d → (∀ v' H', Same H H' → RelD K H' O d v' → Q v' H') → r vs H Q

def lId : Ev → D → Option D := fun _ d => some d
def slotD : Option Sl → Option D
  | some (Sl.va d) => some d
  | some (Sl.ow d) => some d
  | some (Sl.bo d) => some d
  | some (Sl.ro d) => some d
  | _ => none
def lPk (i : Nat) : Ev → D → Option D := fun e _ => slotD e[i]?
def mPk (i : Nat) : ME := fun e => match slotD e[i]? with
  | some _ => .ok .non e
  | none => .bad
/-- a name as a value: an owned list is no more owned -/
def mVar (i : Nat) : ME := fun e => match e[i]? with
  | some (Sl.va d) => .ok d e
  | some (Sl.ow (.lst xs)) => .ok (.lst xs) (e.set i (.va (.lst xs)))
  | _ => .bad
def mC (d : D) : ME := fun e => .ok d e
def mU (f : D → Option D) (m : ME) (l : Ev → D → Option D) : ME := fun e => match m e with
  | .ok x e1 => (match l e1 x with
    | some a => (match f a with
      | some d => .ok d e1
      | none => .bad)
    | none => .bad)
  | .ex c e1 => .ex c e1
  | .bad => .bad
def mB (f : D → D → Option D) (m1 : ME) (l1 : Ev → D → Option D) (m2 : ME) (l2 : Ev → D → Option D) : ME := fun e => match m1 e with
  | .ok x e1 => (match m2 e1 with
    | .ok y e2 => (match l1 e2 x with
      | some a => (match l2 e2 y with
        | some b => (match f a b with
          | some d => .ok d e2
          | none => .bad)
        | none => .bad)
      | none => .bad)
    | .ex c e2 => .ex c e2
    | .bad => .bad)
  | .ex c e1 => .ex c e1
  | .bad => .bad

section
variable {X : Cx} {C : Nat → Value} {W : WX}
theorem SR.slot {F : Fx} {env : Ev} {σ : St} {H : Hp} (s : SR F env σ H) {i : Nat} {d : D} (h : slotD env[i]? = some d) : ∃ v, σ[i]? = some (some v) ∧ PRel F.K H (Ow F env σ) d v := by
  cases e : env[i]? with
  | none => rw [e] at h; cases h
  | some z =>
    rw [e] at h
    cases z with
    | no => cases h
    | va d' =>
      cases h
      obtain ⟨v, e1, r⟩ := s.va i _ e
      exact ⟨v, e1, .inl r⟩
    | ow d' =>
      cases h
      obtain ⟨a, e1, _, _, r⟩ := s.ow i _ e
      exact ⟨_, e1, .inr ⟨a, rfl, r⟩⟩
    | bo d' =>
      cases h
      obtain ⟨a, e1, _, r⟩ := s.bo i _ e
      exact ⟨_, e1, .inr ⟨a, rfl, r⟩⟩
    | ro d' =>
      cases h
      obtain ⟨a, e1, _, _, r⟩ := s.ro i _ e
      exact ⟨_, e1, .inr ⟨a, rfl, r⟩⟩
theorem JE.o {e : Expr} {m : ME} (h : JE X C W e m) : JO X C W e m lId := by
  obtain ⟨t, p, q⟩ := h.run
  refine ⟨t, p, fun F env σ H Q k s z => q F env σ H Q k s ?_⟩
  cases r : m env with
  | ok d env' =>
    rw [r] at z
    exact fun v H' s' x rel => z v H' s' x fun env2 H2 s2 y d2 e2 => by
      cases e2
      exact .inl (rel.ext y)
  | ex c env' => rw [r] at z; exact z
  | bad => rw [r] at z; exact z
theorem j_pk {i : Nat} {x : Str} {pos : Pos} (hN : X.N[i]? = some x) (hv : Vis X.env.scope x) (hd : (x == ("__debug__" : Str)) = false) (hcd : (x == ("__classdict__" : Str)) = false) : JO X C W (.Name x pos) (mPk i) (lPk i) := by
  refine ⟨_, pe_var hN hv hd hcd, fun F env σ H Q k s z => ?_⟩
  unfold mPk at z
  cases e : slotD env[i]? with
  | none => rw [e] at z; exact z.elim
  | some d =>
    rw [e] at z
    obtain ⟨v, e1, r⟩ := s.slot e
    refine ⟨v, e1, z v H s .refl fun env2 H2 s2 y d2 e2 => ?_⟩
    obtain ⟨v', e3, r'⟩ := s2.slot e2
    rw [e1] at e3
    cases e3
    exact r'
/-- an owned slot is owned no more -/
theorem SR.freeze {F : Fx} {env : Ev} {σ : St} {H : Hp} (s : SR F env σ H) {i : Nat} {xs : List D} (h : env[i]? = some (Sl.ow (.lst xs))) :
    SR F (env.set i (.va (.lst xs))) σ H ∧ (∀ b, Ow F (env.set i (.va (.lst xs))) σ b → Ow F env σ b) ∧ ∃ v, σ[i]? = some (some v) ∧ RelD F.K H (Ow F (env.set i (.va (.lst xs))) σ) (.lst xs) v := by
  obtain ⟨a, e1, n0, nO, c⟩ := s.ow i _ h
  have hi : i < env.length := by
    rcases Nat.lt_or_ge i env.length with q | q
    · exact q
    · rw [List.getElem?_eq_none q] at h; cases h
  have sub : ∀ b, Ow F (env.set i (.va (.lst xs))) σ b → Ow F env σ b := fun b q => by
    rcases q with q | ⟨j, d, q1, q2⟩
    · exact .inl q
    · by_cases hj : i = j
      · subst hj
        rw [List.getElem?_set_self hi] at q1
        cases q1
      · rw [List.getElem?_set_ne hj] at q1
        exact .inr ⟨j, d, q1, q2⟩
  have na : ¬ Ow F (env.set i (.va (.lst xs))) σ a := fun q => by
    rcases q with q | ⟨j, d, q1, q2⟩
    · exact nO q
    · by_cases hj : i = j
      · subst hj
        rw [List.getElem?_set_self hi] at q1
        cases q1
      · rw [List.getElem?_set_ne hj] at q1
        exact hj (s.dj i j a _ _ h q1 e1 q2)
  have x : Ext (Ow F env σ) H (Ow F (env.set i (.va (.lst xs))) σ) H := Ext.sub sub
  simp only [CRel] at c
  obtain ⟨vs, c1, c2⟩ := c
  have rel : RelD F.K H (Ow F (env.set i (.va (.lst xs))) σ) (.lst xs) (.ref a) := by
    simp only [RelD]
    exact ⟨a, vs, rfl, c1, na, RelL.ext x _ _ c2⟩
  have at_ : ∀ {j : Nat} {z : Sl}, (env.set i (.va (.lst xs)))[j]? = some z → (i = j ∧ z = .va (.lst xs)) ∨ (i ≠ j ∧ env[j]? = some z) := fun {j z} q => by
    by_cases hj : i = j
    · subst hj
      rw [List.getElem?_set_self hi] at q
      exact .inl ⟨rfl, (Option.some.inj q).symm⟩
    · rw [List.getElem?_set_ne hj] at q
      exact .inr ⟨hj, q⟩
  refine ⟨⟨s.fr, s.od, s.bo0, by rw [List.length_set]; exact s.len, fun j d q => ?_, fun j d q => ?_, fun j d q => ?_, fun j d q => ?_, fun j k b d d' q1 q2 => ?_, fun j k b d d' q1 q2 => ?_⟩, sub, _, e1, rel⟩
  · rcases at_ q with ⟨e, z⟩ | ⟨_, q⟩
    · subst e; cases z
      exact ⟨_, e1, rel⟩
    · obtain ⟨v, w1, w2⟩ := s.va j d q
      exact ⟨v, w1, w2.ext x⟩
  · rcases at_ q with ⟨_, z⟩ | ⟨_, q⟩
    · cases z
    · obtain ⟨b, w1, w2, w3, w4⟩ := s.ow j d q
      exact ⟨b, w1, w2, w3, w4.ext x rfl⟩
  · rcases at_ q with ⟨_, z⟩ | ⟨_, q⟩
    · cases z
    · obtain ⟨b, w1, w2, w4⟩ := s.bo j d q
      exact ⟨b, w1, w2, w4.ext x rfl⟩
  · rcases at_ q with ⟨_, z⟩ | ⟨_, q⟩
    · cases z
    · obtain ⟨b, w1, w2, w3, w4⟩ := s.ro j d q
      exact ⟨b, w1, w2, w3, w4.ext x rfl⟩
  · rcases at_ q1 with ⟨_, z⟩ | ⟨_, q1⟩
    · cases z
    · rcases at_ q2 with ⟨_, z⟩ | ⟨_, q2⟩
      · cases z
      · exact s.dj j k b d d' q1 q2
  · rcases at_ q1 with ⟨_, z⟩ | ⟨_, q1⟩
    · cases z
    · rcases at_ q2 with ⟨_, z⟩ | ⟨_, q2⟩
      · cases z
      · exact s.djb j k b d d' q1 q2
theorem j_var {i : Nat} {x : Str} {pos : Pos} (hN : X.N[i]? = some x) (hv : Vis X.env.scope x) (hd : (x == ("__debug__" : Str)) = false) (hcd : (x == ("__classdict__" : Str)) = false) : JE X C W (.Name x pos) (mVar i) := by
  refine ⟨_, pe_var hN hv hd hcd, fun F env σ H Q k s z => ?_⟩
  unfold mVar at z
  cases e : env[i]? with
  | none => rw [e] at z; exact z.elim
  | some sl =>
    rw [e] at z
    cases sl with
    | no => exact z.elim
    | bo _ => exact z.elim
    | ro _ => exact z.elim
    | va d =>
      obtain ⟨v, e1, r⟩ := s.va i d e
      exact ⟨v, e1, z v H s .refl r⟩
    | ow d =>
      cases d with
      | lst xs =>
        obtain ⟨s', sub, v, e1, r⟩ := s.freeze e
        exact ⟨v, e1, z v H s' (Ext.sub sub) r⟩
      | _ => exact z.elim
/-- a constant -/
theorem j_c {e : Expr} {d : D} {v : V} (h : PE X e (tC v)) (r : ∀ K H O, RelD K H O d v) : JE X C W e (mC d) :=
  ⟨_, h, fun F env σ H Q k s z => z v H s .refl (r _ _ _)⟩
theorem j_int {i : Int} {j : Nat} {pos : Pos} : JE X C W (.Constant (.int i) j pos) (mC (.int i)) := j_c pe_int fun _ _ _ => by simp only [RelD]
theorem j_bl {b : Bool} {j : Nat} {pos : Pos} : JE X C W (.Constant (.bool b) j pos) (mC (.bl b)) := j_c pe_bl fun _ _ _ => by simp only [RelD]
theorem j_non {j : Nat} {pos : Pos} : JE X C W (.Constant .none j pos) (mC .non) := j_c pe_non fun _ _ _ => by simp only [RelD]
theorem j_str {x : Str} {cs : List Nat} {j : Nat} {pos : Pos} (h : x = ⟨cs.toArray⟩) : JE X C W (.Constant (.str x) j pos) (mC (.str cs)) := j_c pe_str fun _ _ _ => by simp only [RelD]; rw [h]
/-- an operation's end -/
theorem fin_op {F : Fx} {env env2 : Ev} {σ : St} {H H2 : Hp} {Q : VK} {d : D} {v' : V} {H' : Hp} (s2 : SR F env2 σ H2) (x : Ext (Ow F env σ) H (Ow F env2 σ) H2) (g : Same H2 H') (r : RelD F.K H' (Ow F env2 σ) d v')
    (z : PostE F C W env σ H Q (.ok d env2)) : Q v' H' := z v' H' (s2.grow g) (x.trans (Ext.of g)) r
theorem j_un {op : UnaryOp} {r : V → Hp → VK → Prop} {f : D → Option D} {a : Expr} {m : ME} {l : Ev → D → Option D} {pos : Pos} (hr : UnR X (unaryOp op) r) (hs : UnS X.K r f) (ha : JO X C W a m l) : JE X C W (.UnaryOp op a pos) (mU f m l) := by
  obtain ⟨t, p, q⟩ := ha.run
  refine ⟨_, pe_un hr p, fun F env σ H Q k s z => q F env σ H _ k s ?_⟩
  unfold mU at z
  cases e1 : m env with
  | ok x env1 =>
    rw [e1] at z
    refine fun v H1 s1 x1 lt => ?_
    dsimp only at z
    cases e2 : l env1 x with
    | none => rw [e2] at z; exact z.elim
    | some a1 =>
      rw [e2] at z
      dsimp only at z
      cases e3 : f a1 with
      | none => rw [e3] at z; exact z.elim
      | some d =>
        rw [e3] at z
        refine hs H1 (Ow F env1 σ) a1 v _ d (fun a => s1.dom) (by rw [← k]; exact lt env1 H1 s1 .refl a1 e2) e3 fun v' H' g rel => ?_
        exact fin_op s1 x1 g (by rw [k]; exact rel) z
  | ex c env1 => rw [e1] at z; exact z
  | bad => rw [e1] at z; exact z
/-- two operands in a row, then an operation -/
theorem two_ops {F : Fx} {env : Ev} {σ : St} {H : Hp} {Q : VK} {r : R2} {f : D → D → Option D} {ta tb : TE} {m1 m2 : ME} {l1 l2 : Ev → D → Option D} (k : F.K = X.K)
    (qa : ∀ F env σ H Q, F.K = X.K → SR F env σ H → PostO F C W env σ H l1 Q (m1 env) → ta σ H Q) (qb : ∀ F env σ H Q, F.K = X.K → SR F env σ H → PostO F C W env σ H l2 Q (m2 env) → tb σ H Q)
    (hs : OpS X.K r f) (s : SR F env σ H) (z : PostE F C W env σ H Q (mB f m1 l1 m2 l2 env)) : tOp r ta tb σ H Q := by
  refine qa F env σ H _ k s ?_
  unfold mB at z
  cases e1 : m1 env with
  | ok x env1 =>
    rw [e1] at z
    refine fun v H1 s1 x1 lt1 => qb F env1 σ H1 _ k s1 ?_
    dsimp only at z
    cases e2 : m2 env1 with
    | ok y env2 =>
      rw [e2] at z
      refine fun u H2 s2 x2 lt2 => ?_
      dsimp only at z
      cases e3 : l1 env2 x with
      | none => rw [e3] at z; exact z.elim
      | some a1 =>
        rw [e3] at z
        dsimp only at z
        cases e4 : l2 env2 y with
        | none => rw [e4] at z; exact z.elim
        | some b1 =>
          rw [e4] at z
          dsimp only at z
          cases e5 : f a1 b1 with
          | none => rw [e5] at z; exact z.elim
          | some d =>
            rw [e5] at z
            refine hs H2 (Ow F env2 σ) a1 b1 v u _ d (fun a => s2.dom) (by rw [← k]; exact lt1 env2 H2 s2 x2 a1 e3) (by rw [← k]; exact lt2 env2 H2 s2 .refl b1 e4) e5 fun v' H' g rel => ?_
            exact fin_op s2 (x1.trans x2) g (by rw [k]; exact rel) z
    | ex c env2 => rw [e2] at z; exact fun H' s' x' => z H' s' (x1.trans x')
    | bad => rw [e2] at z; exact z
  | ex c env1 => rw [e1] at z; exact z
  | bad => rw [e1] at z; exact z
theorem j_bin {op : Operator} {r : R2} {f : D → D → Option D} {a b : Expr} {m1 m2 : ME} {l1 l2 : Ev → D → Option D} {pos : Pos} (hr : OpR X (binaryOp op) r) (hs : OpS X.K r f) (ha : JO X C W a m1 l1) (hb : JO X C W b m2 l2) :
    JE X C W (.BinOp a op b pos) (mB f m1 l1 m2 l2) := by
  obtain ⟨ta, pa, qa⟩ := ha.run
  obtain ⟨tb, pb, qb⟩ := hb.run
  exact ⟨_, pe_op hr pa pb, fun F env σ H Q k s z => two_ops k qa qb hs s z⟩
theorem j_cmp {op : CmpOp} {r : R2} {f : D → D → Option D} {a b : Expr} {m1 m2 : ME} {l1 l2 : Ev → D → Option D} {pos : Pos} (hr : OpR X (compareOp op) r) (hs : OpS X.K r f) (ha : JO X C W a m1 l1) (hb : JO X C W b m2 l2) (hm : behindInMarks op b = false) :
    JE X C W (.Compare a [op] [b] pos) (mB f m1 l1 m2 l2) := by
  obtain ⟨ta, pa, qa⟩ := ha.run
  obtain ⟨tb, pb, qb⟩ := hb.run
  exact ⟨_, pe_cmpR hr pa pb hm, fun F env σ H Q k s z => two_ops k qa qb hs s z⟩
theorem j_ix {r : R2} {f : D → D → Option D} {a b : Expr} {m1 m2 : ME} {l1 l2 : Ev → D → Option D} {pos : Pos} (hr : IxR X r) (hs : OpS X.K r f) (ha : JO X C W a m1 l1) (hb : JO X C W b m2 l2) (hp : PlainIx b) :
    JE X C W (.Subscript a b pos) (mB f m1 l1 m2 l2) := by
  obtain ⟨ta, pa, qa⟩ := ha.run
  obtain ⟨tb, pb, qb⟩ := hb.run
  exact ⟨_, pe_ix hr pa pb hp, fun F env σ H Q k s z => two_ops k qa qb hs s z⟩
end
end MP

set_option Elab.async false
set_option linter.all false
set_option maxRecDepth 100000
set_option maxHeartbeats 4000000
namespace MP
open PySem PySem.Spec L2
open PyProof.Rows hiding St

section
variable {K : PySem.W.Frag} {H H' : Hp} {O : Addr → Prop}
theorem relL_len : ∀ {ds : List D} {vs : List V}, RelL K H O ds vs → ds.length = vs.length
  | [], vs, h => by simp only [RelL] at h; rw [h]; rfl
  | d :: ds, vs, h => by
    simp only [RelL] at h
    obtain ⟨v, r, rfl, _, h2⟩ := h
    simp only [List.length_cons]
    rw [relL_len h2]
theorem relL_get : ∀ {ds : List D} {vs : List V} {i : Nat} {d : D}, RelL K H O ds vs → ds[i]? = some d → ∃ v, vs[i]? = some v ∧ RelD K H O d v
  | [], vs, i, d, h, e => by simp at e
  | d :: ds, vs, i, d', h, e => by
    simp only [RelL] at h
    obtain ⟨v, r, rfl, h1, h2⟩ := h
    cases i with
    | zero => simp at e; subst e; exact ⟨v, rfl, h1⟩
    | succ j => simp at e; exact relL_get (i := j) h2 e
theorem relL_get' : ∀ {ds : List D} {vs : List V} {i : Nat} {v : V}, RelL K H O ds vs → vs[i]? = some v → ∃ d, ds[i]? = some d ∧ RelD K H O d v
  | [], vs, i, v, h, e => by simp only [RelL] at h; subst h; simp at e
  | d :: ds, vs, i, v', h, e => by
    simp only [RelL] at h
    obtain ⟨v, r, rfl, h1, h2⟩ := h
    cases i with
    | zero => simp at e; subst e; exact ⟨d, rfl, h1⟩
    | succ j => simp at e; exact relL_get' (i := j) h2 e
theorem relL_app : ∀ {ds es : List D} {vs us : List V}, RelL K H O ds vs → RelL K H O es us → RelL K H O (ds ++ es) (vs ++ us)
  | [], es, vs, us, h, k => by simp only [RelL] at h; subst h; exact k
  | d :: ds, es, vs, us, h, k => by
    simp only [RelL] at h
    obtain ⟨v, r, rfl, h1, h2⟩ := h
    show RelL K H O (d :: (ds ++ es)) (v :: (r ++ us))
    simp only [RelL]
    exact ⟨v, _, rfl, h1, relL_app h2 k⟩
theorem relL_take : ∀ (n : Nat) {ds : List D} {vs : List V}, RelL K H O ds vs → RelL K H O (ds.take n) (vs.take n)
  | 0, ds, vs, h => by simp only [List.take_zero, RelL]
  | n + 1, [], vs, h => by simp only [RelL] at h; subst h; simp only [List.take_nil, RelL]
  | n + 1, d :: ds, vs, h => by
    simp only [RelL] at h
    obtain ⟨v, r, rfl, h1, h2⟩ := h
    simp only [List.take_succ_cons, RelL]
    exact ⟨v, _, rfl, h1, relL_take n h2⟩
theorem relL_drop : ∀ (n : Nat) {ds : List D} {vs : List V}, RelL K H O ds vs → RelL K H O (ds.drop n) (vs.drop n)
  | 0, ds, vs, h => by simpa only [List.drop_zero] using h
  | n + 1, [], vs, h => by simp only [RelL] at h; subst h; simp only [List.drop_nil, RelL]
  | n + 1, d :: ds, vs, h => by
    simp only [RelL] at h
    obtain ⟨v, r, rfl, h1, h2⟩ := h
    simp only [List.drop_succ_cons]
    exact relL_drop n h2
theorem relL_set : ∀ (j : Nat) {ds : List D} {vs : List V} {d : D} {v : V}, RelL K H O ds vs → RelD K H O d v → RelL K H O (ds.set j d) (vs.set j v)
  | j, [], vs, d, v, h, k => by simp only [RelL] at h; subst h; simp only [List.set_nil, RelL]
  | 0, x :: ds, vs, d, v, h, k => by
    simp only [RelL] at h
    obtain ⟨u, r, rfl, h1, h2⟩ := h
    simp only [List.set_cons_zero, RelL]
    exact ⟨v, _, rfl, k, h2⟩
  | j + 1, x :: ds, vs, d, v, h, k => by
    simp only [RelL] at h
    obtain ⟨u, r, rfl, h1, h2⟩ := h
    simp only [List.set_cons_succ, RelL]
    exact ⟨u, _, rfl, h1, relL_set j h2 k⟩
theorem relL_rev : ∀ {ds : List D} {vs : List V}, RelL K H O ds vs → RelL K H O ds.reverse vs.reverse
  | [], vs, h => by simp only [RelL] at h; subst h; simp only [List.reverse_nil, RelL]
  | d :: ds, vs, h => by
    simp only [RelL] at h
    obtain ⟨v, r, rfl, h1, h2⟩ := h
    simp only [List.reverse_cons]
    exact relL_app (relL_rev h2) (by simp only [RelL]; exact ⟨v, [], rfl, h1, rfl⟩)
theorem relL_rep (d : D) (v : V) (h : RelD K H O d v) : ∀ n, RelL K H O (List.replicate n d) (List.replicate n v)
  | 0 => by simp only [List.replicate_zero, RelL]
  | n + 1 => by
    simp only [List.replicate_succ, RelL]
    exact ⟨v, _, rfl, h, relL_rep d v h n⟩
theorem relL_repL {ds : List D} {vs : List V} (h : RelL K H O ds vs) : ∀ n, RelL K H O (List.replicate n ds).flatten (List.replicate n vs).flatten
  | 0 => by simp only [List.replicate_zero, List.flatten_nil, RelL]
  | n + 1 => by
    simp only [List.replicate_succ, List.flatten_cons]
    exact relL_app h (relL_repL h n)
/-- a new list, a new tuple -/
theorem rel_newL {p : Addr} {ds : List D} {vs : List V} (n : H p = none) (dom : ∀ a, O a → H a ≠ none) (h : RelL K H O ds vs) : RelD K (upd H p (.lst vs)) O (.lst ds) (.ref p) := by
  simp only [RelD]
  exact ⟨p, vs, rfl, upd_same, fun q => dom p q n, RelL.ext (Ext.of (same_upd n)) _ _ h⟩
theorem rel_newT {p : Addr} {ds : List D} {vs : List V} (n : H p = none) (dom : ∀ a, O a → H a ≠ none) (h : RelL K H O ds vs) : RelD K (upd H p (.tup vs)) O (.tup ds) (.ref p) := by
  simp only [RelD]
  exact ⟨p, vs, rfl, .inl ⟨.inl upd_same, fun q => dom p q n⟩, RelL.ext (Ext.of (same_upd n)) _ _ h⟩
/-! ### what a tree's value is -/
theorem p_int {i : Int} {v : V} (h : PRel K H O (.int i) v) : v = .int i := by
  rcases h with h | ⟨a, _, h⟩
  · simpa only [RelD] using h
  · simp only [CRel] at h
theorem p_bl {b : Bool} {v : V} (h : PRel K H O (.bl b) v) : v = .bl b := by
  rcases h with h | ⟨a, _, h⟩
  · simpa only [RelD] using h
  · simp only [CRel] at h
theorem p_non {v : V} (h : PRel K H O .non v) : v = .non := by
  rcases h with h | ⟨a, _, h⟩
  · simpa only [RelD] using h
  · simp only [CRel] at h
theorem p_str {cs : List Nat} {v : V} (h : PRel K H O (.str cs) v) : v = .str ⟨cs.toArray⟩ := by
  rcases h with h | ⟨a, _, h⟩
  · simpa only [RelD] using h
  · simp only [CRel] at h
theorem p_lst {xs : List D} {v : V} (h : PRel K H O (.lst xs) v) : ∃ a vs, v = .ref a ∧ H a = some (.lst vs) ∧ RelL K H O xs vs := by
  rcases h with h | ⟨a, e, h⟩
  · simp only [RelD] at h
    obtain ⟨a, vs, e, q, _, r⟩ := h
    exact ⟨a, vs, e, q, r⟩
  · simp only [CRel] at h
    obtain ⟨vs, q, r⟩ := h
    exact ⟨a, vs, e, q, r⟩
theorem p_tup {xs : List D} {v : V} (h : PRel K H O (.tup xs) v) : RelD K H O (.tup xs) v ∧ ∃ a vs, v = .ref a ∧ SqT K H a vs ∧ RelL K H O xs vs := by
  rcases h with h | ⟨a, e, h⟩
  · refine ⟨h, ?_⟩
    simp only [RelD] at h
    obtain ⟨a, vs, e, q, r⟩ := h
    exact ⟨a, vs, e, q.elim (fun q => .inl q.1) .inr, r⟩
  · simp only [CRel] at h
theorem p_scr {ns : List Int} {v : V} (h : PRel K H O (.scr ns) v) : ∃ a, v = .ref a ∧ SqL K H a (ns.map V.int) := by
  rcases h with h | ⟨a, e, h⟩
  · simp only [RelD] at h
    obtain ⟨a, e, q⟩ := h
    exact ⟨a, e, q.elim (fun q => .inl q.1) .inr⟩
  · simp only [CRel] at h
theorem p_dct {ks : List Ky} {xs : List D} {v : V} (h : PRel K H O (.dct ks xs) v) : ∃ a vs, v = .ref a ∧ H a = some (.dK ((ks.map kyK).zip vs)) ∧ ks.length = vs.length ∧ RelL K H O xs vs := by
  rcases h with h | ⟨a, e, h⟩
  · simp only [RelD] at h
  · simp only [CRel] at h
    obtain ⟨vs, q, l, r⟩ := h
    exact ⟨a, vs, e, q, l, r⟩
theorem p_ints : ∀ {ns : List Int} {vs : List V}, RelL K H O (ns.map D.int) vs → vs = ns.map V.int
  | [], vs, h => by simpa only [List.map_nil, RelL] using h
  | n :: ns, vs, h => by
    simp only [List.map_cons, RelL] at h
    obtain ⟨v, r, rfl, h1, h2⟩ := h
    simp only [RelD] at h1
    rw [h1, p_ints h2, List.map_cons]
theorem r_ints : ∀ (ns : List Int), RelL K H O (ns.map D.int) (ns.map V.int)
  | [] => by simp only [List.map_nil, RelL]
  | n :: ns => by
    simp only [List.map_cons, RelL]
    exact ⟨_, _, rfl, by simp only [RelD], r_ints ns⟩
theorem p_bls : ∀ {bs : List Bool} {vs : List V}, RelL K H O (bs.map D.bl) vs → vs = bs.map V.bl
  | [], vs, h => by simpa only [List.map_nil, RelL] using h
  | n :: ns, vs, h => by
    simp only [List.map_cons, RelL] at h
    obtain ⟨v, r, rfl, h1, h2⟩ := h
    simp only [RelD] at h1
    rw [h1, p_bls h2, List.map_cons]
end
def intsOf : List D → Option (List Int)
  | [] => some []
  | .int i :: r => (match intsOf r with
    | some q => some (i :: q)
    | none => none)
  | _ => none
theorem intsOf_ok : ∀ {ds : List D} {ns : List Int}, intsOf ds = some ns → ds = ns.map D.int
  | [], ns, h => by simp only [intsOf, Option.some.injEq] at h; subst h; rfl
  | .int i :: r, ns, h => by
    simp only [intsOf] at h
    cases e : intsOf r with
    | none => rw [e] at h; cases h
    | some q => rw [e] at h; cases h; rw [intsOf_ok e]; rfl
  | .non :: r, ns, h => by simp [intsOf] at h
  | .bl _ :: r, ns, h => by simp [intsOf] at h
  | .str _ :: r, ns, h => by simp [intsOf] at h
  | .tup _ :: r, ns, h => by simp [intsOf] at h
  | .lst _ :: r, ns, h => by simp [intsOf] at h
  | .dct _ _ :: r, ns, h => by simp [intsOf] at h
  | .dtp _ _ :: r, ns, h => by simp [intsOf] at h
  | .scr _ :: r, ns, h => by simp [intsOf] at h
def blsOf : List D → Option (List Bool)
  | [] => some []
  | .bl i :: r => (match blsOf r with
    | some q => some (i :: q)
    | none => none)
  | _ => none
theorem blsOf_ok : ∀ {ds : List D} {ns : List Bool}, blsOf ds = some ns → ds = ns.map D.bl
  | [], ns, h => by simp only [blsOf, Option.some.injEq] at h; subst h; rfl
  | .bl i :: r, ns, h => by
    simp only [blsOf] at h
    cases e : blsOf r with
    | none => rw [e] at h; cases h
    | some q => rw [e] at h; cases h; rw [blsOf_ok e]; rfl
  | .non :: r, ns, h => by simp [blsOf] at h
  | .int _ :: r, ns, h => by simp [blsOf] at h
  | .str _ :: r, ns, h => by simp [blsOf] at h
  | .tup _ :: r, ns, h => by simp [blsOf] at h
  | .lst _ :: r, ns, h => by simp [blsOf] at h
  | .dct _ _ :: r, ns, h => by simp [blsOf] at h
  | .dtp _ _ :: r, ns, h => by simp [blsOf] at h
  | .scr _ :: r, ns, h => by simp [blsOf] at h

/-! ### operators -/
theorem OpR.or {X : Cx} {f : Value → Value → Sem Value} {r r' : R2} (h : OpR X f r) (h' : OpR X f r') : OpR X f (fun x y H Q => r x y H Q ∨ r' x y H Q) := by
  intro pins s σ H x y v u Q I rx ry q
  rcases q with q | q
  · exact h pins s σ H x y v u Q I rx ry q
  · exact h' pins s σ H x y v u Q I rx ry q
abbrev line : Nat := 16777216
theorem line_le {n : Nat} (h : Nat.ble n line = true) : n ≤ sizeLine := by
  have := Nat.le_of_ble_eq_true h
  rw [sizeLine_eq]; exact this
theorem line_lt {n : Nat} (h : Nat.blt n line = true) : n < sizeLine := by
  have := Nat.le_of_ble_eq_true h
  rw [sizeLine_eq]; exact this

def fAdd : D → D → Option D
  | .int i, .int j => some (.int (i + j))
  | .str a, .str b => (match Nat.ble (a.length + b.length) line with
    | true => some (.str (a ++ b))
    | false => none)
  | .lst a, .lst b => (match Nat.ble (a.length + b.length) line with
    | true => some (.lst (a ++ b))
    | false => none)
  | .tup a, .tup b => (match Nat.ble (a.length + b.length) line with
    | true => some (.tup (a ++ b))
    | false => none)
  | _, _ => none
def rStrAdd : R2 := fun x y H Q => ∃ i j, x = .str i ∧ y = .str j ∧ i.length + j.length ≤ sizeLine ∧ Q (.str (i ++ j)) H
def rAdd (K : PySem.W.Frag) : R2 := fun x y H Q => ((rI0 fun i j => .int (i + j)) x y H Q ∨ rStrAdd x y H Q) ∨ (rCat x y H Q ∨ rCatA K x y H Q)
theorem o_add {X : Cx} : OpR X (binaryOp .Add) (rAdd X.K) := (op_add.or op_add_str).or (op_cat.or op_catA)
theorem s_add {K : PySem.W.Frag} : OpS K (rAdd K) fAdd := by
  intro H O x y v u Q d dom px py e q
  cases x <;> cases y <;> simp only [fAdd] at e <;> try (cases e)
  · exact .inl (.inl ⟨_, _, p_int px, p_int py, q _ H (Same.refl H) (by simp only [RelD])⟩)
  · split at e <;> cases e
    rename_i a b _ hl
    refine .inl (.inr ⟨_, _, p_str px, p_str py, ?_, q _ H (Same.refl H) ?_⟩)
    · have := line_le hl
      simpa [Str.length] using this
    · simp only [RelD]
      congr 1
      show (⟨_⟩ : Str) = ⟨_⟩
      simp
  · split at e <;> cases e
    rename_i a b _ hl
    obtain ⟨w, ws, rfl, e1, r1⟩ := p_tup px |>.2
    obtain ⟨z, zs, rfl, e2, r2⟩ := p_tup py |>.2
    have l1 := relL_len r1
    have l2 := relL_len r2
    refine .inr (.inr ⟨w, z, ws, zs, rfl, rfl, e1, e2, by rw [← l1, ← l2]; exact line_le hl, fun h0 => ?_, fun h1 h0 => ?_, fun h1 h2 p np => ?_⟩)
    · subst h0
      have : a = [] := List.eq_nil_of_length_eq_zero (by rw [l1]; rfl)
      subst this
      exact q _ H (Same.refl H) (p_tup py).1
    · subst h0
      have : b = [] := List.eq_nil_of_length_eq_zero (by rw [l2]; rfl)
      subst this
      rw [List.append_nil] at q
      exact q _ H (Same.refl H) (p_tup px).1
    · exact q _ _ (same_upd np) (rel_newT np dom (relL_app r1 r2))
  · split at e <;> cases e
    rename_i a b _ hl
    obtain ⟨w, ws, rfl, e1, r1⟩ := p_lst px
    obtain ⟨z, zs, rfl, e2, r2⟩ := p_lst py
    have l1 := relL_len r1
    have l2 := relL_len r2
    exact .inr (.inl ⟨w, z, ws, zs, rfl, rfl, e1, e2, by rw [← l1, ← l2]; exact line_le hl, fun p np => q _ _ (same_upd np) (rel_newL np dom (relL_app r1 r2))⟩)
def b2iD : Bool → Int
  | true => 1
  | false => 0
def fSub : D → D → Option D
  | .int i, .int j => some (.int (i - j))
  | .bl a, .bl b => some (.int (b2iD a - b2iD b))
  | _, _ => none
def rSubB : R2 := fun x y H Q => ∃ a b, x = .bl a ∧ y = .bl b ∧ Q (.int (b2iD a - b2iD b)) H
theorem op_subB {X : Cx} : OpR X (binaryOp .Sub) rSubB := by
  intro pins s σ H x y v u Q I rx ry h
  obtain ⟨a, b, rfl, rfl, q⟩ := h
  cases rx
  cases ry
  exact PyProof.Rows.sub_bool ⟨.int (b2iD a - b2iD b), H, I.tok _, ⟨_, by cases a <;> cases b <;> rfl⟩, q⟩
def rSub : R2 := fun x y H Q => (rI0 fun i j => .int (i - j)) x y H Q ∨ rSubB x y H Q
theorem o_sub {X : Cx} : OpR X (binaryOp .Sub) rSub := op_sub.or op_subB
theorem s_sub {K : PySem.W.Frag} : OpS K rSub fSub := by
  intro H O x y v u Q d dom px py e q
  cases x <;> cases y <;> simp only [fSub] at e <;> try (cases e)
  · exact .inr ⟨_, _, p_bl px, p_bl py, q _ H (Same.refl H) (by simp only [RelD])⟩
  · exact .inl ⟨_, _, p_int px, p_int py, q _ H (Same.refl H) (by simp only [RelD])⟩
def fMul : D → D → Option D
  | .int i, .int j => (match Nat.blt (i.natAbs.log2 + j.natAbs.log2) 1000000 with
    | true => some (.int (i * j))
    | false => none)
  | .lst a, .int k => (match Nat.ble (a.length * k.toNat) line && (decide (-(2 ^ 63) ≤ k) && decide (k < 2 ^ 63)) with
    | true => some (.lst (List.replicate k.toNat a).flatten)
    | false => none)
  | .tup a, .int k => (match (!a.isEmpty) && (Nat.ble a.length 1000 && (decide (2 ≤ k) && decide (k ≤ 1000))) with
    | true => some (.tup (List.replicate k.toNat a).flatten)
    | false => none)
  | _, _ => none
def rMul (K : PySem.W.Frag) : R2 := fun x y H Q => (rI CMulW fun i j => .int (i * j)) x y H Q ∨ (rRep x y H Q ∨ rRepT K x y H Q)
theorem o_mul {X : Cx} : OpR X (binaryOp .Mult) (rMul X.K) := op_mulW.or (op_rep.or op_repT)
theorem s_mul {K : PySem.W.Frag} : OpS K (rMul K) fMul := by
  intro H O x y v u Q d dom px py e q
  cases x <;> cases y <;> simp only [fMul] at e <;> try (cases e)
  · split at e <;> cases e
    rename_i hl
    exact .inl ⟨_, _, p_int px, p_int py, Nat.le_of_ble_eq_true hl, q _ H (Same.refl H) (by simp only [RelD])⟩
  · split at e <;> cases e
    rename_i a k _ hl
    simp only [Bool.and_eq_true, decide_eq_true_eq, Bool.not_eq_true'] at hl
    obtain ⟨h0, h1, h2, h3⟩ := hl
    obtain ⟨w, ws, rfl, e1, r1⟩ := p_tup px |>.2
    have l1 := relL_len r1
    refine .inr (.inr ⟨w, k, ws, rfl, p_int py, e1, fun z => ?_, h2, h3, by rw [← l1]; exact Nat.le_of_ble_eq_true h1, fun p np => q _ _ (same_upd np) (rel_newT np dom (relL_repL r1 _))⟩)
    subst z
    cases a with
    | nil => simp at h0
    | cons _ _ => simp at l1
  · split at e <;> cases e
    rename_i a k _ hl
    simp only [Bool.and_eq_true, decide_eq_true_eq] at hl
    obtain ⟨h1, h2, h3⟩ := hl
    obtain ⟨w, ws, rfl, e1, r1⟩ := p_lst px
    have l1 := relL_len r1
    exact .inr (.inl ⟨w, k, ws, rfl, p_int py, e1, h2, h3, by rw [← l1]; exact line_le h1, fun p np => q _ _ (same_upd np) (rel_newL np dom (relL_repL r1 _))⟩)
def fDiv : D → D → Option D
  | .int i, .int j => (match decide (0 < j) && Nat.blt j.natAbs.log2 9000 with
    | true => some (.int (i / j))
    | false => none)
  | _, _ => none
theorem s_div {K : PySem.W.Frag} : OpS K (rI CDivW fun i j => .int (i / j)) fDiv := by
  intro H O x y v u Q d dom px py e q
  cases x <;> cases y <;> simp only [fDiv] at e <;> try (cases e)
  split at e <;> cases e
  rename_i hl
  simp only [Bool.and_eq_true, decide_eq_true_eq] at hl
  exact ⟨_, _, p_int px, p_int py, ⟨hl.1, Nat.le_of_ble_eq_true hl.2⟩, q _ H (Same.refl H) (by simp only [RelD])⟩
def fMod : D → D → Option D
  | .int i, .int j => (match decide (0 < j) with
    | true => some (.int (i % j))
    | false => (match decide (j < 0) with
      | true => some (.int (i.fmod j))
      | false => none))
  | _, _ => none
def rMod : R2 := fun x y H Q => (rI (fun _ j => 0 < j) fun i j => .int (i % j)) x y H Q ∨ (rI (fun _ j => j ≠ 0) fun i j => .int (i.fmod j)) x y H Q
theorem o_mod {X : Cx} : OpR X (binaryOp .Mod) rMod := op_mod.or op_modN
theorem s_mod {K : PySem.W.Frag} : OpS K rMod fMod := by
  intro H O x y v u Q d dom px py e q
  cases x <;> cases y <;> simp only [fMod] at e <;> try (cases e)
  split at e
  · cases e
    rename_i hl
    exact .inl ⟨_, _, p_int px, p_int py, of_decide_eq_true hl, q _ H (Same.refl H) (by simp only [RelD])⟩
  · split at e <;> cases e
    rename_i hl
    have := of_decide_eq_true hl
    exact .inr ⟨_, _, p_int px, p_int py, by omega, q _ H (Same.refl H) (by simp only [RelD])⟩
def fPow : D → D → Option D
  | .int i, .int j => (match decide (0 ≤ j) && (decide (j ≤ 1000000) && decide (i.natAbs < 2 ^ 64)) with
    | true => some (.int (i ^ j.toNat))
    | false => none)
  | _, _ => none
theorem s_pow {K : PySem.W.Frag} : OpS K (rI CPow fun i j => .int (i ^ j.toNat)) fPow := by
  intro H O x y v u Q d dom px py e q
  cases x <;> cases y <;> simp only [fPow] at e <;> try (cases e)
  split at e <;> cases e
  rename_i hl
  simp only [Bool.and_eq_true, decide_eq_true_eq] at hl
  exact ⟨_, _, p_int px, p_int py, hl, q _ H (Same.refl H) (by simp only [RelD])⟩
def fNeg : D → Option D
  | .int i => some (.int (-i))
  | _ => none
theorem s_neg {K : PySem.W.Frag} : UnS K (rU fun i => .int (-i)) fNeg := by
  intro H O x v Q d dom px e q
  cases x <;> simp only [fNeg] at e <;> cases e
  exact ⟨_, p_int px, q _ H (Same.refl H) (by simp only [RelD])⟩
/-! ### comparisons -/
def seqLt : List Int → List Int → Bool
  | [], [] => false
  | [], _ :: _ => true
  | _ :: _, [] => false
  | x :: xs, y :: ys => if x = y then seqLt xs ys else decide (x < y)
theorem seqLt_eq : ∀ xs ys : List Int, HT.lexLt xs ys = seqLt xs ys
  | [], [] => rfl
  | [], _ :: _ => rfl
  | _ :: _, [] => rfl
  | x :: xs, y :: ys => by rw [HT.lexLt_cons, seqLt_eq xs ys]; rfl
def natsLt : List Nat → List Nat → Bool
  | [], [] => false
  | [], _ :: _ => true
  | _ :: _, [] => false
  | x :: xs, y :: ys => (match Nat.blt x y with
    | true => true
    | false => (match Nat.beq x y with
      | true => natsLt xs ys
      | false => false))
theorem natsLt_eq : ∀ xs ys : List Nat, decide (xs < ys) = natsLt xs ys
  | [], [] => by rw [decide_eq_false (by simp)]; rfl
  | [], _ :: _ => by rw [decide_eq_true (by simp)]; rfl
  | _ :: _, [] => by rw [decide_eq_false (by simp)]; rfl
  | x :: xs, y :: ys => by
    unfold natsLt
    cases h : Nat.blt x y with
    | true =>
      have : x < y := Nat.le_of_ble_eq_true h
      exact decide_eq_true (by rw [List.cons_lt_cons_iff]; exact .inl this)
    | false =>
      have h1 : ¬ x < y := fun q => by
        rw [show Nat.blt x y = true from Nat.ble_eq_true_of_le q] at h; cases h
      cases h2 : Nat.beq x y with
      | true =>
        have e : x = y := Nat.eq_of_beq_eq_true h2
        subst e
        rw [← natsLt_eq xs ys]
        simp
      | false =>
        have h3 : x ≠ y := Nat.ne_of_beq_eq_false h2
        exact decide_eq_false (by rw [List.cons_lt_cons_iff]; rintro (q | ⟨q, _⟩); exact h1 q; exact h3 q)
def fLt : D → D → Option D
  | .int i, .int j => some (.bl (decide (i < j)))
  | .str a, .str b => some (.bl (natsLt a b))
  | .tup a, .tup b => (match intsOf a with
    | some xs => (match intsOf b with
      | some ys => some (.bl (seqLt xs ys))
      | none => none)
    | none => none)
  | _, _ => none
def rLtS : R2 := fun x y H Q => ∃ i j, x = .str i ∧ y = .str j ∧ Q (.bl (decide (i.cps.toList < j.cps.toList))) H
def rLt (K : PySem.W.Frag) : R2 := fun x y H Q => (rI0 fun i j => .bl (decide (i < j))) x y H Q ∨ (rLtS x y H Q ∨ rLtT K x y H Q)
theorem o_lt {X : Cx} (hu : X.A.units < cLine) : OpR X (compareOp .Lt) (rLt X.K) := op_lt.or (OpR.or op_lt_str (op_ltT hu))
theorem s_lt {K : PySem.W.Frag} : OpS K (rLt K) fLt := by
  intro H O x y v u Q d dom px py e q
  cases x <;> cases y <;> simp only [fLt] at e <;> try (cases e)
  · exact .inl ⟨_, _, p_int px, p_int py, q _ H (Same.refl H) (by simp only [RelD])⟩
  · refine .inr (.inl ⟨_, _, p_str px, p_str py, q _ H (Same.refl H) ?_⟩)
    simp only [RelD]
    rw [← natsLt_eq]
  · rename_i a b
    cases e1 : intsOf a with
    | none => rw [e1] at e; cases e
    | some xs =>
      rw [e1] at e
      dsimp only at e
      cases e2 : intsOf b with
      | none => rw [e2] at e; cases e
      | some ys =>
        rw [e2] at e
        cases e
        have i1 := intsOf_ok e1
        have i2 := intsOf_ok e2
        subst i1 i2
        obtain ⟨w, ws, rfl, q1, r1⟩ := p_tup px |>.2
        obtain ⟨z, zs, rfl, q2, r2⟩ := p_tup py |>.2
        rw [p_ints r1] at q1
        rw [p_ints r2] at q2
        refine .inr (.inr ⟨w, z, xs, ys, rfl, rfl, q1, q2, q _ H (Same.refl H) ?_⟩)
        simp only [RelD]
        rw [seqLt_eq]
def fLe : D → D → Option D
  | .int i, .int j => some (.bl (decide (i ≤ j)))
  | _, _ => none
theorem s_le {K : PySem.W.Frag} : OpS K (rI0 fun i j => .bl (decide (i ≤ j))) fLe := by
  intro H O x y v u Q d dom px py e q
  cases x <;> cases y <;> simp only [fLe] at e <;> cases e
  exact ⟨_, _, p_int px, p_int py, q _ H (Same.refl H) (by simp only [RelD])⟩
def fGt : D → D → Option D
  | .int i, .int j => some (.bl (decide (j < i)))
  | _, _ => none
theorem s_gt {K : PySem.W.Frag} : OpS K (rI0 fun i j => .bl (decide (j < i))) fGt := by
  intro H O x y v u Q d dom px py e q
  cases x <;> cases y <;> simp only [fGt] at e <;> cases e
  exact ⟨_, _, p_int px, p_int py, q _ H (Same.refl H) (by simp only [RelD])⟩
def fGe : D → D → Option D
  | .int i, .int j => some (.bl (decide (j ≤ i)))
  | _, _ => none
theorem s_ge {K : PySem.W.Frag} : OpS K (rI0 fun i j => .bl (decide (j ≤ i))) fGe := by
  intro H O x y v u Q d dom px py e q
  cases x <;> cases y <;> simp only [fGe] at e <;> cases e
  exact ⟨_, _, p_int px, p_int py, q _ H (Same.refl H) (by simp only [RelD])⟩
def isNon : D → Bool
  | .non => true
  | _ => false
theorem isNon_of {K : PySem.W.Frag} {H : Hp} {O : Addr → Prop} {x : D} {v : V} (px : PRel K H O x v) : decide (v = .non) = isNon x := by
  cases x with
  | non => rw [p_non px]; rfl
  | bl b => rw [p_bl px]; rfl
  | int b => rw [p_int px]; rfl
  | str b => rw [p_str px]; exact decide_eq_false (fun z => by cases z)
  | tup b =>
    obtain ⟨w, ws, rfl, _⟩ := p_tup px |>.2
    exact decide_eq_false (fun z => by cases z)
  | lst b =>
    obtain ⟨w, ws, rfl, _⟩ := p_lst px
    exact decide_eq_false (fun z => by cases z)
  | scr b =>
    obtain ⟨w, rfl, _⟩ := p_scr px
    exact decide_eq_false (fun z => by cases z)
  | dct a b =>
    obtain ⟨w, ws, rfl, _⟩ := p_dct px
    exact decide_eq_false (fun z => by cases z)
  | dtp a b =>
    rcases px with h | ⟨w, rfl, h⟩
    · simp only [RelD] at h
    · exact decide_eq_false (fun z => by cases z)
def fIsN : D → D → Option D := fun x y => match y with
  | .non => some (.bl (isNon x))
  | _ => none
def fNotN : D → D → Option D := fun x y => match y with
  | .non => some (.bl (!isNon x))
  | _ => none
theorem s_isN {K : PySem.W.Frag} : OpS K (fun x y H Q => y = .non ∧ Q (.bl (decide (x = .non))) H) fIsN := by
  intro H O x y v u Q d dom px py e q
  cases y <;> simp only [fIsN] at e <;> cases e
  refine ⟨p_non py, ?_⟩
  rw [isNon_of px]
  exact q _ H (Same.refl H) (by simp only [RelD])
theorem s_notN {K : PySem.W.Frag} : OpS K (fun x y H Q => y = .non ∧ Q (.bl (!decide (x = .non))) H) fNotN := by
  intro H O x y v u Q d dom px py e q
  cases y <;> simp only [fNotN] at e <;> cases e
  refine ⟨p_non py, ?_⟩
  rw [isNon_of px]
  exact q _ H (Same.refl H) (by simp only [RelD])
end MP

set_option Elab.async false
set_option linter.all false
set_option maxRecDepth 100000
set_option maxHeartbeats 4000000
namespace MP
open PySem PySem.Spec L2
open PyProof.Rows hiding St

/-! ### equality of trees -/
mutual
def D.py : D → PyData
  | .non => .none
  | .bl b => .bool b
  | .int i => .int i
  | .str cs => .str ⟨cs.toArray⟩
  | .tup xs => .tuple (pyL xs)
  | .lst xs => .list (pyL xs)
  | .scr _ => .dict []
  | .dct _ _ => .dict []
  | .dtp _ _ => .dict []
def pyL : List D → List PyData
  | [] => []
  | x :: xs => x.py :: pyL xs
end
def natsEq : List Nat → List Nat → Bool
  | [], [] => true
  | x :: xs, y :: ys => (match Nat.beq x y with
    | true => natsEq xs ys
    | false => false)
  | _, _ => false
theorem natsEq_eq : ∀ xs ys : List Nat, natsEq xs ys = decide (xs = ys)
  | [], [] => rfl
  | [], _ :: _ => rfl
  | _ :: _, [] => rfl
  | x :: xs, y :: ys => by
    unfold natsEq
    cases h : Nat.beq x y with
    | true =>
      have e : x = y := Nat.eq_of_beq_eq_true h
      subst e
      show natsEq xs ys = _
      rw [natsEq_eq xs ys]
      simp
    | false =>
      have e : x ≠ y := Nat.ne_of_beq_eq_false h
      exact (decide_eq_false (fun z => e (by injection z))).symm
theorem natsEq_iff {xs ys : List Nat} : natsEq xs ys = true ↔ xs = ys := by rw [natsEq_eq]; exact decide_eq_true_iff
mutual
def eqD : D → D → Bool
  | .non, .non => true
  | .bl a, .bl b => a == b
  | .bl a, .int j => decide (b2iD a = j)
  | .int i, .bl b => decide (i = b2iD b)
  | .int i, .int j => decide (i = j)
  | .str a, .str b => natsEq a b
  | .tup xs, .tup ys => eqL xs ys
  | .lst xs, .lst ys => eqL xs ys
  | _, _ => false
def eqL : List D → List D → Bool
  | [], [] => true
  | x :: xs, y :: ys => (match eqD x y with
    | true => eqL xs ys
    | false => false)
  | _, _ => false
end
mutual
def okD : Nat → D → Bool
  | _, .non => true
  | _, .bl _ => true
  | _, .int _ => true
  | _, .str cs => cs.all fun c => Nat.blt c 1114112
  | n, .tup xs => (match n with
    | 0 => false
    | m + 1 => okL m xs)
  | n, .lst xs => (match n with
    | 0 => false
    | m + 1 => okL m xs)
  | _, .scr _ => false
  | _, .dct _ _ => false
  | _, .dtp _ _ => false
def okL : Nat → List D → Bool
  | _, [] => true
  | n, x :: xs => (match okD n x with
    | true => okL n xs
    | false => false)
end
mutual
theorem eqD_py : ∀ (d e : D) (n m : Nat), okD n d = true → okD m e = true → PyData.eqv d.py e.py = eqD d e
  | .non, e, n, m, h, k => by cases e <;> simp only [D.py, PyData.eqv, eqD] <;> simp [okD] at k
  | .bl a, e, n, m, h, k => by
    cases e <;> simp only [D.py, PyData.eqv, eqD] <;> try (simp [okD] at k; done)
    cases a <;> simp [b2iD] <;> (rw [Bool.eq_iff_iff]; simp only [beq_iff_eq]; exact ⟨fun h => decide_eq_true h, fun h => of_decide_eq_true h⟩)
  | .int i, e, n, m, h, k => by
    cases e <;> simp only [D.py, PyData.eqv, eqD] <;> try (simp [okD] at k; done)
    · rename_i b
      cases b <;> simp [b2iD] <;> (rw [Bool.eq_iff_iff]; simp only [beq_iff_eq]; exact ⟨fun h => decide_eq_true h, fun h => of_decide_eq_true h⟩)
    · rw [Bool.eq_iff_iff]; simp
  | .str a, e, n, m, h, k => by
    cases e <;> simp only [D.py, PyData.eqv, eqD] <;> try (simp [okD] at k; done)
    rw [natsEq_eq, Bool.eq_iff_iff]
    simp
  | .tup xs, e, n, m, h, k => by
    cases e <;> simp only [D.py, PyData.eqv, eqD] <;> try (simp [okD] at k; done)
    cases n with
    | zero => simp [okD] at h
    | succ n =>
      cases m with
      | zero => simp [okD] at k
      | succ m => exact eqL_py xs _ n m (by simpa only [okD] using h) (by simpa only [okD] using k)
  | .lst xs, e, n, m, h, k => by
    cases e <;> simp only [D.py, PyData.eqv, eqD] <;> try (simp [okD] at k; done)
    cases n with
    | zero => simp [okD] at h
    | succ n =>
      cases m with
      | zero => simp [okD] at k
      | succ m => exact eqL_py xs _ n m (by simpa only [okD] using h) (by simpa only [okD] using k)
  | .scr _, e, n, m, h, k => by simp [okD] at h
  | .dct _ _, e, n, m, h, k => by simp [okD] at h
  | .dtp _ _, e, n, m, h, k => by simp [okD] at h
theorem eqL_py : ∀ (xs ys : List D) (n m : Nat), okL n xs = true → okL m ys = true → PyData.eqvAll (pyL xs) (pyL ys) = eqL xs ys
  | [], [], n, m, h, k => by simp only [pyL, PyData.eqvAll, eqL]
  | [], _ :: _, n, m, h, k => by simp only [pyL, PyData.eqvAll, eqL]
  | _ :: _, [], n, m, h, k => by simp only [pyL, PyData.eqvAll, eqL]
  | x :: xs, y :: ys, n, m, h, k => by
    simp only [okL] at h k
    split at h
    · rename_i h1
      split at k
      · rename_i k1
        simp only [pyL, PyData.eqvAll, eqL]
        rw [eqD_py x y n m h1 k1, eqL_py xs ys n m h k]
        cases eqD x y <;> rfl
      · cases k
    · cases h
end
theorem okChars {cs : List Nat} (h : (cs.all fun c => Nat.blt c 1114112) = true) : PyData.strOk ⟨cs.toArray⟩ = true := by
  unfold PyData.strOk
  simp only [List.all_toArray]
  rw [List.all_eq_true] at h ⊢
  intro c hc
  exact decide_eq_true (Nat.le_of_ble_eq_true (h c hc))
mutual
theorem okD_shape : ∀ (d : D) (n : Nat), okD n d = true → d.py.canLay0 = true ∧ d.py.depth ≤ n
  | .non, n, h => by simp only [D.py, PyData.canLay0, PyData.depth]; exact ⟨trivial, Nat.zero_le _⟩
  | .bl a, n, h => by simp only [D.py, PyData.canLay0, PyData.depth]; exact ⟨trivial, Nat.zero_le _⟩
  | .int i, n, h => by simp only [D.py, PyData.canLay0, PyData.depth]; exact ⟨trivial, Nat.zero_le _⟩
  | .str a, n, h => by
    simp only [okD] at h
    simp only [D.py, PyData.canLay0, PyData.depth]
    exact ⟨okChars h, Nat.zero_le _⟩
  | .tup xs, n, h => by
    cases n with
    | zero => simp [okD] at h
    | succ n =>
      obtain ⟨h1, h2⟩ := okL_shape xs n (by simpa only [okD] using h)
      simp only [D.py, PyData.canLay0, PyData.depth]
      exact ⟨h1, by omega⟩
  | .lst xs, n, h => by
    cases n with
    | zero => simp [okD] at h
    | succ n =>
      obtain ⟨h1, h2⟩ := okL_shape xs n (by simpa only [okD] using h)
      simp only [D.py, PyData.canLay0, PyData.depth]
      exact ⟨h1, by omega⟩
  | .scr _, n, h => by simp [okD] at h
  | .dct _ _, n, h => by simp [okD] at h
  | .dtp _ _, n, h => by simp [okD] at h
theorem okL_shape : ∀ (xs : List D) (n : Nat), okL n xs = true → PyData.canLayAll0 (pyL xs) = true ∧ PyData.depthAll (pyL xs) ≤ n
  | [], n, h => by simp only [pyL, PyData.canLayAll0, PyData.depthAll]; exact ⟨trivial, Nat.zero_le _⟩
  | x :: xs, n, h => by
    simp only [okL] at h
    split at h
    · rename_i h1
      obtain ⟨a1, a2⟩ := okD_shape x n h1
      obtain ⟨b1, b2⟩ := okL_shape xs n h
      simp only [pyL, PyData.canLayAll0, PyData.depthAll]
      exact ⟨by rw [a1, b1]; rfl, Nat.max_le.mpr ⟨a2, b2⟩⟩
    · cases h
end
theorem okD_shaped {d : D} (h : okD 64 d = true) : SeqAt.shaped d.py = true := by
  obtain ⟨a, b⟩ := okD_shape d 64 h
  unfold SeqAt.shaped
  rw [a, decide_eq_true b]
  rfl
mutual
theorem dp_of {K : PySem.W.Frag} {H : Hp} {O : Addr → Prop} : ∀ (d : D) (n : Nat) (v : V), okD n d = true → RelD K H O d v → Dp K H v d.py
  | .non, n, v, h, r => by simp only [RelD] at r; subst r; simp only [D.py]; exact .non
  | .bl a, n, v, h, r => by simp only [RelD] at r; subst r; simp only [D.py]; exact .bl _
  | .int i, n, v, h, r => by simp only [RelD] at r; subst r; simp only [D.py]; exact .int _
  | .str a, n, v, h, r => by simp only [RelD] at r; subst r; simp only [D.py]; exact .str _
  | .tup xs, n, v, h, r => by
    cases n with
    | zero => simp [okD] at h
    | succ n =>
      simp only [RelD] at r
      obtain ⟨a, vs, rfl, q, r⟩ := r
      simp only [D.py]
      exact .tup (q.elim (fun q => .inl q.1) .inr) (dp_ofL xs n vs (by simpa only [okD] using h) r)
  | .lst xs, n, v, h, r => by
    cases n with
    | zero => simp [okD] at h
    | succ n =>
      simp only [RelD] at r
      obtain ⟨a, vs, rfl, q, _, r⟩ := r
      simp only [D.py]
      exact .lst (.inl (.inl q)) (dp_ofL xs n vs (by simpa only [okD] using h) r)
  | .scr _, n, v, h, r => by simp [okD] at h
  | .dct _ _, n, v, h, r => by simp [okD] at h
  | .dtp _ _, n, v, h, r => by simp [okD] at h
theorem dp_ofL {K : PySem.W.Frag} {H : Hp} {O : Addr → Prop} : ∀ (ds : List D) (n : Nat) (vs : List V), okL n ds = true → RelL K H O ds vs → DpAll K H vs (pyL ds)
  | [], n, vs, h, r => by simp only [RelL] at r; subst r; simp only [pyL]; exact .nil
  | d :: ds, n, vs, h, r => by
    simp only [okL] at h
    split at h
    · rename_i h1
      simp only [RelL] at r
      obtain ⟨v, u, rfl, r1, r2⟩ := r
      simp only [pyL]
      exact .cons (dp_of d n v h1 r1) (dp_ofL ds n u h r2)
    · cases h
end
theorem dp_p {K : PySem.W.Frag} {H : Hp} {O : Addr → Prop} {d : D} {v : V} (h : okD 64 d = true) (r : PRel K H O d v) : Dp K H v d.py := by
  rcases r with r | ⟨a, rfl, r⟩
  · exact dp_of d 64 v h r
  · cases d with
    | lst xs =>
      simp only [CRel] at r
      obtain ⟨vs, q, r⟩ := r
      simp only [D.py]
      exact .lst (.inl (.inl q)) (dp_ofL xs 63 vs (by simpa only [okD] using h) r)
    | dct a b => simp [okD] at h
    | dtp a b => simp [okD] at h
    | _ => simp only [CRel] at r
def fEq : D → D → Option D := fun x y => match okD 64 x with
  | true => (match okD 64 y with
    | true => some (.bl (eqD x y))
    | false => none)
  | false => none
def fNe : D → D → Option D := fun x y => match okD 64 x with
  | true => (match okD 64 y with
    | true => some (.bl (!eqD x y))
    | false => none)
  | false => none
theorem s_eq {K : PySem.W.Frag} : OpS K (rEqD K) fEq := by
  intro H O x y v u Q d dom px py e q
  unfold fEq at e
  split at e
  · rename_i h1
    split at e
    · rename_i h2
      cases e
      refine ⟨x.py, y.py, dp_p h1 px, dp_p h2 py, okD_shaped h1, okD_shaped h2, q _ H (Same.refl H) ?_⟩
      simp only [RelD]
      rw [eqD_py x y 64 64 h1 h2]
    · cases e
  · cases e
theorem s_ne {K : PySem.W.Frag} : OpS K (rNeD K) fNe := by
  intro H O x y v u Q d dom px py e q
  unfold fNe at e
  split at e
  · rename_i h1
    split at e
    · rename_i h2
      cases e
      refine ⟨x.py, y.py, dp_p h1 px, dp_p h2 py, okD_shaped h1, okD_shaped h2, q _ H (Same.refl H) ?_⟩
      simp only [RelD]
      rw [eqD_py x y 64 64 h1 h2]
    · cases e
  · cases e

/-! ### subscripts -/
def ixD {α : Type} (xs : List α) (i : Int) : Option α := match decide (0 ≤ i) with
  | true => xs[i.toNat]?
  | false => (match decide (-(xs.length : Int) ≤ i) with
    | true => xs[(i + xs.length).toNat]?
    | false => none)
theorem ixD_atI {α : Type} {xs : List α} {i : Int} {x : α} (h : ixD xs i = some x) : ∃ j, ixN xs.length i = some j ∧ xs[j]? = some x := by
  unfold ixD at h
  split at h
  · rename_i h0
    have h0 := of_decide_eq_true h0
    have hl : i.toNat < xs.length := (List.getElem?_eq_some_iff.mp h).1
    refine ⟨i.toNat, ?_, h⟩
    unfold ixN
    rw [if_pos h0, if_pos (by omega)]
  · rename_i h0
    have h0 := of_decide_eq_false h0
    split at h
    · rename_i h1
      have h1 := of_decide_eq_true h1
      refine ⟨_, ?_, h⟩
      unfold ixN
      rw [if_neg h0, if_pos h1]
    · cases h
def fIx : D → D → Option D
  | .lst xs, .int i => ixD xs i
  | .tup xs, .int i => ixD xs i
  | .str cs, .int i => (match Nat.ble cs.length line with
    | true => (match ixD cs i with
      | some c => some (.str [c])
      | none => none)
    | false => none)
  | .scr ns, .int i => (match ixD ns i with
      | some c => some (.int c)
      | none => none)
  | _, _ => none
theorem s_ix {K : PySem.W.Frag} : OpS K (rIx K) fIx := by
  intro H O x y v u Q d dom px py e q
  cases x <;> cases y <;> simp only [fIx] at e <;> try (cases e; done)
  · rename_i cs i
    split at e
    · rename_i hl
      split at e
      · rename_i c hc
        cases e
        obtain ⟨j, h1, h2⟩ := ixD_atI hc
        refine .inr (.inr ⟨_, i, c, p_str px, p_int py, ?_, ?_, q _ H (Same.refl H) ?_⟩)
        · have := line_le hl
          simpa [Str.length] using this
        · show atI (cs.toArray).toList i = some c
          unfold atI
          rw [List.toList_toArray, h1]
          exact h2
        · simp only [RelD]
      · cases e
    · cases e
  · rename_i xs i
    obtain ⟨j, h1, h2⟩ := ixD_atI e
    obtain ⟨a, vs, rfl, e1, r1⟩ := p_tup px |>.2
    obtain ⟨w, hw, rw1⟩ := relL_get r1 h2
    refine .inr (.inl ⟨a, vs, i, w, rfl, p_int py, e1, ?_, q _ H (Same.refl H) rw1⟩)
    unfold atI
    rw [← relL_len r1, h1]
    exact hw
  · rename_i xs i
    obtain ⟨j, h1, h2⟩ := ixD_atI e
    obtain ⟨a, vs, rfl, e1, r1⟩ := p_lst px
    obtain ⟨w, hw, rw1⟩ := relL_get r1 h2
    refine .inl ⟨a, vs, i, w, rfl, p_int py, .inl (.inl e1), ?_, q _ H (Same.refl H) rw1⟩
    unfold atI
    rw [← relL_len r1, h1]
    exact hw
  · rename_i ns i
    split at e
    · rename_i c hc
      cases e
      obtain ⟨j, h1, h2⟩ := ixD_atI hc
      obtain ⟨a, rfl, e1⟩ := p_scr px
      refine .inl ⟨a, _, i, .int c, rfl, p_int py, e1, ?_, q _ H (Same.refl H) (by simp only [RelD])⟩
      unfold atI
      rw [List.length_map, h1]
      show (ns.map V.int)[j]? = _
      rw [List.getElem?_map, h2]
      rfl
    · cases e
end MP

set_option Elab.async false
set_option linter.all false
set_option maxRecDepth 100000
set_option maxHeartbeats 4000000
namespace MP
open PySem PySem.Spec L2
open PyProof.Rows hiding St

section
variable {K : PySem.W.Frag} {H H' : Hp} {O : Addr → Prop}
theorem pRelL_one {d : D} {vs : List V} (h : PRelL K H O [d] vs) : ∃ v, vs = [v] ∧ PRel K H O d v := by
  simp only [PRelL] at h
  obtain ⟨v, r, rfl, h1, rfl⟩ := h
  exact ⟨v, rfl, h1⟩
theorem pRelL_two {d e : D} {vs : List V} (h : PRelL K H O [d, e] vs) : ∃ v u, vs = [v, u] ∧ PRel K H O d v ∧ PRel K H O e u := by
  simp only [PRelL] at h
  obtain ⟨v, r, rfl, h1, u, r2, rfl, h2, rfl⟩ := h
  exact ⟨v, u, rfl, h1, h2⟩
end
/-! ### lists of operands -/
def maNil : MA := fun e => .ok [] e
def laNil : Ev → List D → Option (List D) := fun _ _ => some []
def maCons (m : ME) (ma : MA) : MA := fun e => match m e with
  | .ok x e1 => (match ma e1 with
    | .ok xs e2 => .ok (x :: xs) e2
    | .ex c e2 => .ex c e2
    | .bad => .bad)
  | .ex c e1 => .ex c e1
  | .bad => .bad
def laCons (l : Ev → D → Option D) (la : Ev → List D → Option (List D)) : Ev → List D → Option (List D) := fun e ds => match ds with
  | x :: xs => (match l e x with
    | some d => (match la e xs with
      | some r => some (d :: r)
      | none => none)
    | none => none)
  | [] => none
section
variable {X : Cx} {C : Nat → Value} {W : WX}
theorem j_anil : JA X C W [] maNil laNil := by
  refine ⟨_, pa_nil, fun F env σ H Q k s z => z [] H s .refl fun env2 H2 s2 x d2 e => ?_⟩
  cases e
  simp only [PRelL]
theorem j_acons {e : Expr} {es : List Expr} {m : ME} {l : Ev → D → Option D} {ma : MA} {la : Ev → List D → Option (List D)} (ha : JO X C W e m l) (hr : JA X C W es ma la)
    (hs : starEach (e :: es) X.env = (false, eval e X.env) :: starEach es X.env) : JA X C W (e :: es) (maCons m ma) (laCons l la) := by
  obtain ⟨t, p, q⟩ := ha.run
  obtain ⟨t2, p2, q2⟩ := hr.run
  refine ⟨_, pa_cons p p2 hs, fun F env σ H Q k s z => q F env σ H _ k s ?_⟩
  unfold maCons at z
  cases e1 : m env with
  | ok x env1 =>
    rw [e1] at z
    refine fun v H1 s1 x1 lt1 => q2 F env1 σ H1 _ k s1 ?_
    dsimp only at z
    cases e2 : ma env1 with
    | ok xs env2 =>
      rw [e2] at z
      refine fun vs H2 s2 x2 lt2 => z (v :: vs) H2 s2 (x1.trans x2) fun env3 H3 s3 x3 d3 e3 => ?_
      simp only [laCons] at e3
      cases e4 : l env3 x with
      | none => rw [e4] at e3; cases e3
      | some a =>
        rw [e4] at e3
        dsimp only at e3
        cases e5 : la env3 xs with
        | none => rw [e5] at e3; cases e3
        | some r =>
          rw [e5] at e3
          cases e3
          simp only [PRelL]
          exact ⟨v, vs, rfl, lt1 env3 H3 s3 (x2.trans x3) a e4, lt2 env3 H3 s3 x3 r e5⟩
    | ex c env2 => rw [e2] at z; exact fun H' s' x' => z H' s' (x1.trans x')
    | bad => rw [e2] at z; exact z
  | ex c env1 => rw [e1] at z; exact z
  | bad => rw [e1] at z; exact z

/-! ### calls of built-ins -/
def mCall (f : List D → Option D) (ma : MA) (la : Ev → List D → Option (List D)) : ME := fun e => match ma e with
  | .ok xs e1 => (match la e1 xs with
    | some ds => (match f ds with
      | some d => .ok d e1
      | none => .bad)
    | none => .bad)
  | .ex c e1 => .ex c e1
  | .bad => .bad
theorem call_run {F : Fx} {env : Ev} {σ : St} {H : Hp} {Q : VK} {r : List V → Hp → VK → Prop} {f : List D → Option D} {t : TA} {ma : MA} {la : Ev → List D → Option (List D)} (k : F.K = X.K)
    (qa : ∀ F env σ H Q, F.K = X.K → SR F env σ H → PostA F C W env σ H la Q (ma env) → t σ H Q) (hs : CaS X.K r f) (s : SR F env σ H) (z : PostE F C W env σ H Q (mCall f ma la env)) : tCB r t σ H Q := by
  refine qa F env σ H _ k s ?_
  unfold mCall at z
  cases e1 : ma env with
  | ok xs env1 =>
    rw [e1] at z
    refine fun vs H1 s1 x1 lt => ?_
    dsimp only at z
    cases e2 : la env1 xs with
    | none => rw [e2] at z; exact z.elim
    | some ds =>
      rw [e2] at z
      dsimp only at z
      cases e3 : f ds with
      | none => rw [e3] at z; exact z.elim
      | some d =>
        rw [e3] at z
        refine hs H1 (Ow F env1 σ) ds vs _ d (fun a => s1.dom) (by rw [← k]; exact lt env1 H1 s1 .refl ds e2) e3 fun v' H' g rel => ?_
        exact fin_op s1 x1 g (by rw [k]; exact rel) z
  | ex c env1 => rw [e1] at z; exact z
  | bad => rw [e1] at z; exact z
theorem j_callB {id : String} {r : List V → Hp → VK → Prop} {f : List D → Option D} {x : Str} {e : Expr} {es : List Expr} {ma : MA} {la : Ev → List D → Option (List D)} {p pos : Pos} (hc : CallR X (.builtin id) r) (hs : CaS X.K r f) (hg : Gl X x) (hm : X.mg x = none)
    (hv : bootBuiltins x = some (.builtin id)) (hn : x ≠ "__name__") (hdb : (x == ("__debug__" : Str)) = false) (ha : JA X C W (e :: es) ma la)
    (he : starEach (e :: es) X.env = (false, eval e X.env) :: starEach es X.env) (hpl : (backTo pos (starEach es X.env)).any (·.1) = false) : JE X C W (.Call (.Name x p) (e :: es) [] pos) (mCall f ma la) := by
  obtain ⟨t, p, q⟩ := ha.run
  exact ⟨_, pe_callB hc hg hm hv p hn hdb he hpl, fun F env σ H Q k s z => call_run k q hs s z⟩
theorem j_callT {T : String} {r : List V → Hp → VK → Prop} {f : List D → Option D} {x : Str} {e : Expr} {es : List Expr} {ma : MA} {la : Ev → List D → Option (List D)} {p pos : Pos} (hc : CallR X (.type T) r) (hs : CaS X.K r f) (hg : Gl X x) (hm : X.mg x = none)
    (hv : bootBuiltins x = some (.type T)) (hn : x ≠ "__name__") (hdb : (x == ("__debug__" : Str)) = false) (ha : JA X C W (e :: es) ma la)
    (he : starEach (e :: es) X.env = (false, eval e X.env) :: starEach es X.env) (hpl : (backTo pos (starEach es X.env)).any (·.1) = false) : JE X C W (.Call (.Name x p) (e :: es) [] pos) (mCall f ma la) := by
  obtain ⟨t, p, q⟩ := ha.run
  exact ⟨_, pe_callTy hc hg hm hv p hn hdb he hpl, fun F env σ H Q k s z => call_run k q hs s z⟩
/-! ### displays: their items are values -/
def mvNil : MA := fun e => .ok [] e
/-- values in a row: the first holds while the rest is reckoned -/
def mvCons (m : ME) (ma : MA) : MA := maCons m ma
def PostV (F : Fx) (C : Nat → Value) (W : WX) (env : Ev) (σ : St) (H : Hp) (Q : List V → Hp → Prop) : RA → Prop
  | .ok ds env' => ∀ vs H', SR F env' σ H' → Ext (Ow F env σ) H (Ow F env' σ) H' → RelL F.K H' (Ow F env' σ) ds vs → Q vs H'
  | .ex c env' => ∀ H', SR F env' σ H' → Ext (Ow F env σ) H (Ow F env' σ) H' → W (C c) none σ H'
  | .bad => False
structure JV (X : Cx) (C : Nat → Value) (W : WX) (es : List Expr) (m : MA) : Prop where
  run : ∃ t, PA X es t ∧ ∀ F env σ H Q, F.K = X.K → SR F env σ H → PostV F C W env σ H Q (m env) → t σ H Q
theorem j_vnil : JV X C W [] maNil := ⟨_, pa_nil, fun F env σ H Q k s z => z [] H s .refl (by simp only [RelL])⟩
theorem j_vcons {e : Expr} {es : List Expr} {m : ME} {ma : MA} (ha : JE X C W e m) (hr : JV X C W es ma) (hs : starEach (e :: es) X.env = (false, eval e X.env) :: starEach es X.env) : JV X C W (e :: es) (maCons m ma) := by
  obtain ⟨t, p, q⟩ := ha.run
  obtain ⟨t2, p2, q2⟩ := hr.run
  refine ⟨_, pa_cons p p2 hs, fun F env σ H Q k s z => q F env σ H _ k s ?_⟩
  unfold maCons at z
  cases e1 : m env with
  | ok x env1 =>
    rw [e1] at z
    refine fun v H1 s1 x1 r1 => q2 F env1 σ H1 _ k s1 ?_
    dsimp only at z
    cases e2 : ma env1 with
    | ok xs env2 =>
      rw [e2] at z
      refine fun vs H2 s2 x2 r2 => z (v :: vs) H2 s2 (x1.trans x2) ?_
      simp only [RelL]
      exact ⟨v, vs, rfl, r1.ext x2, r2⟩
    | ex c env2 => rw [e2] at z; exact fun H' s' x' => z H' s' (x1.trans x')
    | bad => rw [e2] at z; exact z
  | ex c env1 => rw [e1] at z; exact z
  | bad => rw [e1] at z; exact z
def mTup (ma : MA) : ME := fun e => match ma e with
  | .ok xs e1 => (match Nat.ble xs.length line with
    | true => .ok (.tup xs) e1
    | false => .bad)
  | .ex c e1 => .ex c e1
  | .bad => .bad
def mLst (ma : MA) : ME := fun e => match ma e with
  | .ok xs e1 => (match Nat.ble xs.length line with
    | true => .ok (.lst xs) e1
    | false => .bad)
  | .ex c e1 => .ex c e1
  | .bad => .bad
theorem j_tup {es : List Expr} {ma : MA} {x1 : Nat} {pos : Pos} (h : JV X C W es ma) : JE X C W (.Tuple es x1 pos) (mTup ma) := by
  obtain ⟨t, p, q⟩ := h.run
  refine ⟨_, pe_tup p, fun F env σ H Q k s z => q F env σ H _ k s ?_⟩
  unfold mTup at z
  cases e1 : ma env with
  | ok xs env1 =>
    rw [e1] at z
    dsimp only at z
    cases hl : Nat.ble xs.length line with
    | true =>
      rw [hl] at z
      refine fun vs H1 s1 x1 r => ⟨by rw [← relL_len r]; exact line_le hl, fun p np => ?_⟩
      exact z _ _ (s1.grow (same_upd np)) (x1.trans (Ext.of (same_upd np))) (rel_newT np (fun a => s1.dom) r)
    | false => rw [hl] at z; exact z.elim
  | ex c env1 => rw [e1] at z; exact z
  | bad => rw [e1] at z; exact z
theorem j_lst {es : List Expr} {ma : MA} {pos : Pos} (h : JV X C W es ma) : JE X C W (.List es pos) (mLst ma) := by
  obtain ⟨t, p, q⟩ := h.run
  refine ⟨_, pe_lst p, fun F env σ H Q k s z => q F env σ H _ k s ?_⟩
  unfold mLst at z
  cases e1 : ma env with
  | ok xs env1 =>
    rw [e1] at z
    dsimp only at z
    cases hl : Nat.ble xs.length line with
    | true =>
      rw [hl] at z
      refine fun vs H1 s1 x1 r => ⟨by rw [← relL_len r]; exact line_le hl, fun p np => ?_⟩
      exact z _ _ (s1.grow (same_upd np)) (x1.trans (Ext.of (same_upd np))) (rel_newL np (fun a => s1.dom) r)
    | false => rw [hl] at z; exact z.elim
  | ex c env1 => rw [e1] at z; exact z
  | bad => rw [e1] at z; exact z
/-! ### and, or, not, if -/
def mAnd (m1 m2 : ME) : ME := fun e => match m1 e with
  | .ok (.bl true) e1 => m2 e1
  | .ok (.bl false) e1 => .ok (.bl false) e1
  | .ok _ _ => .bad
  | .ex c e1 => .ex c e1
  | .bad => .bad
def mOr (m1 m2 : ME) : ME := fun e => match m1 e with
  | .ok (.bl true) e1 => .ok (.bl true) e1
  | .ok (.bl false) e1 => m2 e1
  | .ok _ _ => .bad
  | .ex c e1 => .ex c e1
  | .bad => .bad
def mNot (m : ME) : ME := fun e => match m e with
  | .ok (.bl b) e1 => .ok (.bl (!b)) e1
  | .ok _ _ => .bad
  | .ex c e1 => .ex c e1
  | .bad => .bad
def mIf (mc m1 m2 : ME) : ME := fun e => match mc e with
  | .ok (.bl true) e1 => m1 e1
  | .ok (.bl false) e1 => m2 e1
  | .ok _ _ => .bad
  | .ex c e1 => .ex c e1
  | .bad => .bad
theorem PostE.after {F : Fx} {env env1 : Ev} {σ : St} {H H1 : Hp} {Q : VK} (x : Ext (Ow F env σ) H (Ow F env1 σ) H1) : ∀ {r : RE}, PostE F C W env σ H Q r → PostE F C W env1 σ H1 Q r
  | .ok d env2, z => fun v H2 s2 x2 rel => z v H2 s2 (x.trans x2) rel
  | .ex c env2, z => fun H2 s2 x2 => z H2 s2 (x.trans x2)
  | .bad, z => z
theorem PostT.after {F : Fx} {env env1 : Ev} {σ : St} {H H1 : Hp} {Q : Bool → Hp → Prop} (x : Ext (Ow F env σ) H (Ow F env1 σ) H1) : ∀ {r : RE}, PostT F C W env σ H Q r → PostT F C W env1 σ H1 Q r
  | .ok d env2, z => by
    obtain ⟨b, rfl, z⟩ := z
    exact ⟨b, rfl, fun H2 s2 x2 => z H2 s2 (x.trans x2)⟩
  | .ex c env2, z => fun H2 s2 x2 => z H2 s2 (x.trans x2)
  | .bad, z => z
theorem rel_bl {K : PySem.W.Frag} {H : Hp} {O : Addr → Prop} {b : Bool} {v : V} (h : RelD K H O (.bl b) v) : v = .bl b := by simpa only [RelD] using h
theorem jv_one {op : BoolOp} {a : Expr} {m : ME} {pos : Pos} (h : JE X C W a m) : JE X C W (.BoolOp op [a] pos) m := by
  obtain ⟨t, p, q⟩ := h.run
  exact ⟨_, pe_one p, q⟩
theorem jv_and {a b : Expr} {rest : List Expr} {m1 m2 : ME} {pos : Pos} (ha : JE X C W a m1) (hb : JE X C W (.BoolOp .And (b :: rest) pos) m2) : JE X C W (.BoolOp .And (a :: b :: rest) pos) (mAnd m1 m2) := by
  obtain ⟨ta, pa, qa⟩ := ha.run
  obtain ⟨tb, pb, qb⟩ := hb.run
  refine ⟨_, pe_and pa pb, fun F env σ H Q k s z => qa F env σ H _ k s ?_⟩
  unfold mAnd at z
  cases e1 : m1 env with
  | ok x env1 =>
    rw [e1] at z
    refine fun v H1 s1 x1 r => ?_
    cases x with
    | bl c =>
      refine ⟨c, rel_bl r, ?_⟩
      cases c with
      | true => exact iteT (qb F env1 σ H1 Q k s1 (PostE.after x1 z))
      | false => exact iteF (z _ H1 s1 x1 (by simp only [RelD]))
    | _ => exact z.elim
  | ex c env1 => rw [e1] at z; exact z
  | bad => rw [e1] at z; exact z
theorem jv_or {a b : Expr} {rest : List Expr} {m1 m2 : ME} {pos : Pos} (ha : JE X C W a m1) (hb : JE X C W (.BoolOp .Or (b :: rest) pos) m2) : JE X C W (.BoolOp .Or (a :: b :: rest) pos) (mOr m1 m2) := by
  obtain ⟨ta, pa, qa⟩ := ha.run
  obtain ⟨tb, pb, qb⟩ := hb.run
  refine ⟨_, pe_or pa pb, fun F env σ H Q k s z => qa F env σ H _ k s ?_⟩
  unfold mOr at z
  cases e1 : m1 env with
  | ok x env1 =>
    rw [e1] at z
    refine fun v H1 s1 x1 r => ?_
    cases x with
    | bl c =>
      refine ⟨c, rel_bl r, ?_⟩
      cases c with
      | true => exact iteT (z _ H1 s1 x1 (by simp only [RelD]))
      | false => exact iteF (qb F env1 σ H1 Q k s1 (PostE.after x1 z))
    | _ => exact z.elim
  | ex c env1 => rw [e1] at z; exact z
  | bad => rw [e1] at z; exact z
theorem jv_not {a : Expr} {m : ME} {pos : Pos} (ha : JE X C W a m) : JE X C W (.UnaryOp .Not a pos) (mNot m) := by
  obtain ⟨ta, pa, qa⟩ := ha.run
  refine ⟨_, pe_not pa, fun F env σ H Q k s z => qa F env σ H _ k s ?_⟩
  unfold mNot at z
  cases e1 : m env with
  | ok x env1 =>
    rw [e1] at z
    refine fun v H1 s1 x1 r => ?_
    cases x with
    | bl c => exact ⟨c, rel_bl r, z _ H1 s1 x1 (by simp only [RelD])⟩
    | _ => exact z.elim
  | ex c env1 => rw [e1] at z; exact z
  | bad => rw [e1] at z; exact z
/-- a value that is True or False, as a test -/
theorem jt_val {a : Expr} {m : ME} (ha : JE X C W a m) (he : ∀ whole, isTrue a X.env whole = (do let v ← whole; standAt a.pos; holding [v] (truthy v))) : JT X C W a m := by
  obtain ⟨t, p, q⟩ := ha.run
  refine ⟨_, pt_val p he, fun F env σ H Q k s z => q F env σ H _ k s ?_⟩
  cases e1 : m env with
  | ok x env1 =>
    rw [e1] at z
    obtain ⟨b, rfl, z⟩ := z
    exact fun v H1 s1 x1 r => ⟨b, rel_bl r, z H1 s1 x1⟩
  | ex c env1 => rw [e1] at z; exact z
  | bad => rw [e1] at z; exact z
theorem jt_cmp {op : CmpOp} {r : R2} {f : D → D → Option D} {a b : Expr} {m1 m2 : ME} {l1 l2 : Ev → D → Option D} {pos : Pos} (hr : OpR X (compareOp op) r) (hs : OpS X.K r f) (ha : JO X C W a m1 l1) (hb : JO X C W b m2 l2) (hm : behindInMarks op b = false) :
    JT X C W (.Compare a [op] [b] pos) (mB f m1 l1 m2 l2) := by
  obtain ⟨ta, pa, qa⟩ := ha.run
  obtain ⟨tb, pb, qb⟩ := hb.run
  refine ⟨_, pt_cmpR hr pa pb hm, fun F env σ H Q k s z => ?_⟩
  show tOp r ta tb σ H _
  refine two_ops k qa qb hs s ?_
  cases e1 : mB f m1 l1 m2 l2 env with
  | ok x env1 =>
    rw [e1] at z
    obtain ⟨b, rfl, z⟩ := z
    exact fun v H1 s1 x1 r => ⟨b, rel_bl r, z H1 s1 x1⟩
  | ex c env1 => rw [e1] at z; exact z
  | bad => rw [e1] at z; exact z
/-- a test whatever its whole -/
structure JW (X : Cx) (C : Nat → Value) (W : WX) (e : Expr) (m : ME) : Prop where
  run : ∃ t, PW X e t ∧ ∀ F env σ H Q, F.K = X.K → SR F env σ H → PostT F C W env σ H Q (m env) → t σ H Q
theorem JW.t {e : Expr} {m : ME} (h : JW X C W e m) : JT X C W e m := by
  obtain ⟨t, p, q⟩ := h.run
  exact ⟨_, p.pt, q⟩
theorem jt_not {a : Expr} {m : ME} {pos : Pos} (ha : JT X C W a m) : JT X C W (.UnaryOp .Not a pos) (mNot m) := by
  obtain ⟨ta, pa, qa⟩ := ha.run
  refine ⟨_, pt_not pa, fun F env σ H Q k s z => qa F env σ H _ k s ?_⟩
  unfold mNot at z
  cases e1 : m env with
  | ok x env1 =>
    rw [e1] at z
    cases x with
    | bl c =>
      obtain ⟨b, e, z⟩ := z
      cases e
      exact ⟨c, rfl, z⟩
    | _ => exact z.elim
  | ex c env1 => rw [e1] at z; exact z
  | bad => rw [e1] at z; exact z
theorem jw_and1 {a : Expr} {m : ME} {pos : Pos} (ha : JT X C W a m) : JW X C W (.BoolOp .And [a] pos) m := by
  obtain ⟨ta, pa, qa⟩ := ha.run
  exact ⟨_, pw_and1 pa, qa⟩
theorem jw_or1 {a : Expr} {m : ME} {pos : Pos} (ha : JT X C W a m) : JW X C W (.BoolOp .Or [a] pos) m := by
  obtain ⟨ta, pa, qa⟩ := ha.run
  exact ⟨_, pw_or1 pa, qa⟩
theorem jw_and {a b : Expr} {rest : List Expr} {m1 m2 : ME} {pos : Pos} (ha : JT X C W a m1) (hb : JW X C W (.BoolOp .And (b :: rest) pos) m2) : JW X C W (.BoolOp .And (a :: b :: rest) pos) (mAnd m1 m2) := by
  obtain ⟨ta, pa, qa⟩ := ha.run
  obtain ⟨tb, pb, qb⟩ := hb.run
  refine ⟨_, pw_and pa pb, fun F env σ H Q k s z => qa F env σ H _ k s ?_⟩
  unfold mAnd at z
  cases e1 : m1 env with
  | ok x env1 =>
    rw [e1] at z
    cases x with
    | bl c =>
      refine ⟨c, rfl, fun H1 s1 x1 => ?_⟩
      cases c with
      | true => exact iteT (qb F env1 σ H1 Q k s1 (PostT.after x1 z))
      | false =>
        obtain ⟨b, e, z⟩ := z
        cases e
        exact iteF (z H1 s1 x1)
    | _ => exact z.elim
  | ex c env1 => rw [e1] at z; exact z
  | bad => rw [e1] at z; exact z
theorem jw_or {a b : Expr} {rest : List Expr} {m1 m2 : ME} {pos : Pos} (ha : JT X C W a m1) (hb : JW X C W (.BoolOp .Or (b :: rest) pos) m2) : JW X C W (.BoolOp .Or (a :: b :: rest) pos) (mOr m1 m2) := by
  obtain ⟨ta, pa, qa⟩ := ha.run
  obtain ⟨tb, pb, qb⟩ := hb.run
  refine ⟨_, pw_or pa pb, fun F env σ H Q k s z => qa F env σ H _ k s ?_⟩
  unfold mOr at z
  cases e1 : m1 env with
  | ok x env1 =>
    rw [e1] at z
    cases x with
    | bl c =>
      refine ⟨c, rfl, fun H1 s1 x1 => ?_⟩
      cases c with
      | true =>
        obtain ⟨b, e, z⟩ := z
        cases e
        exact iteT (z H1 s1 x1)
      | false => exact iteF (qb F env1 σ H1 Q k s1 (PostT.after x1 z))
    | _ => exact z.elim
  | ex c env1 => rw [e1] at z; exact z
  | bad => rw [e1] at z; exact z
theorem j_if {c a b : Expr} {mc m1 m2 : ME} {pos : Pos} (hc : JT X C W c mc) (ha : JE X C W a m1) (hb : JE X C W b m2) : JE X C W (.IfExp c a b pos) (mIf mc m1 m2) := by
  obtain ⟨tc, pc, qc⟩ := hc.run
  obtain ⟨ta, pa, qa⟩ := ha.run
  obtain ⟨tb, pb, qb⟩ := hb.run
  refine ⟨_, pe_ifExp pc pa pb, fun F env σ H Q k s z => qc F env σ H _ k s ?_⟩
  unfold mIf at z
  cases e1 : mc env with
  | ok x env1 =>
    rw [e1] at z
    cases x with
    | bl c =>
      refine ⟨c, rfl, fun H1 s1 x1 => ?_⟩
      cases c with
      | true => exact iteT (qa F env1 σ H1 Q k s1 (PostE.after x1 z))
      | false => exact iteF (qb F env1 σ H1 Q k s1 (PostE.after x1 z))
    | _ => exact z.elim
  | ex c env1 => rw [e1] at z; exact z
  | bad => rw [e1] at z; exact z
/-! ### a < b < c -/
def mChain (f g : D → D → Option D) (m1 : ME) (l1 : Ev → D → Option D) (m2 : ME) (l2 : Ev → D → Option D) (m3 : ME) (l3 : Ev → D → Option D) : ME := fun e => match m1 e with
  | .ok x e1 => (match m2 e1 with
    | .ok y e2 => (match l1 e2 x with
      | some a => (match l2 e2 y with
        | some b => (match f a b with
          | some (.bl true) => (match m3 e2 with
            | .ok w e3 => (match l2 e3 y with
              | some b' => (match l3 e3 w with
                | some c => (match g b' c with
                  | some d => .ok d e3
                  | none => .bad)
                | none => .bad)
              | none => .bad)
            | .ex c e3 => .ex c e3
            | .bad => .bad)
          | some (.bl false) => .ok (.bl false) e2
          | _ => .bad)
        | none => .bad)
      | none => .bad)
    | .ex c e2 => .ex c e2
    | .bad => .bad)
  | .ex c e1 => .ex c e1
  | .bad => .bad
theorem j_chain {op op' : CmpOp} {r r' : R2} {f g : D → D → Option D} {a b c : Expr} {m1 m2 m3 : ME} {l1 l2 l3 : Ev → D → Option D} {pos : Pos} (hr : OpR X (compareOp op) r) (hs : OpS X.K r f) (hr' : OpR X (compareOp op') r') (hs' : OpS X.K r' g)
    (ha : JO X C W a m1 l1) (hb : JO X C W b m2 l2) (hc : JO X C W c m3 l3) (hm : lastMarks [op, op'] [b, c] = false) : JE X C W (.Compare a [op, op'] [b, c] pos) (mChain f g m1 l1 m2 l2 m3 l3) := by
  obtain ⟨ta, pa, qa⟩ := ha.run
  obtain ⟨tb, pb, qb⟩ := hb.run
  obtain ⟨tc, pc, qc⟩ := hc.run
  refine ⟨_, pe_chain hr hr' pa pb pc hm, fun F env σ H Q k s z => qa F env σ H _ k s ?_⟩
  unfold mChain at z
  cases e1 : m1 env with
  | ok x env1 =>
    rw [e1] at z
    refine fun v H1 s1 x1 lt1 => qb F env1 σ H1 _ k s1 ?_
    dsimp only at z
    cases e2 : m2 env1 with
    | ok y env2 =>
      rw [e2] at z
      refine fun u H2 s2 x2 lt2 => ?_
      dsimp only at z
      cases e3 : l1 env2 x with
      | none => rw [e3] at z; exact z.elim
      | some a1 =>
        rw [e3] at z
        dsimp only at z
        cases e4 : l2 env2 y with
        | none => rw [e4] at z; exact z.elim
        | some b1 =>
          rw [e4] at z
          dsimp only at z
          cases e5 : f a1 b1 with
          | none => rw [e5] at z; exact z.elim
          | some d =>
            rw [e5] at z
            refine hs H2 (Ow F env2 σ) a1 b1 v u _ d (fun a => s2.dom) (by rw [← k]; exact lt1 env2 H2 s2 x2 a1 e3) (by rw [← k]; exact lt2 env2 H2 s2 .refl b1 e4) e5 fun v' H3 g3 rel => ?_
            cases d with
            | bl bb =>
              refine ⟨bb, rel_bl rel, ?_⟩
              have s3 := s2.grow g3
              have x3 := x2.trans (Ext.of (O := Ow F env2 σ) g3)
              cases bb with
              | false => exact iteF (z _ H3 s3 (x1.trans x3) (by simp only [RelD]))
              | true =>
                refine iteT (qc F env2 σ H3 _ k s3 ?_)
                dsimp only at z
                cases e6 : m3 env2 with
                | ok w env3 =>
                  rw [e6] at z
                  refine fun u3 H4 s4 x4 lt4 => ?_
                  dsimp only at z
                  cases e7 : l2 env3 y with
                  | none => rw [e7] at z; exact z.elim
                  | some b2 =>
                    rw [e7] at z
                    dsimp only at z
                    cases e8 : l3 env3 w with
                    | none => rw [e8] at z; exact z.elim
                    | some c2 =>
                      rw [e8] at z
                      dsimp only at z
                      cases e9 : g b2 c2 with
                      | none => rw [e9] at z; exact z.elim
                      | some d2 =>
                        rw [e9] at z
                        refine hs' H4 (Ow F env3 σ) b2 c2 u u3 _ d2 (fun a => s4.dom) (by rw [← k]; exact lt2 env3 H4 s4 ((Ext.of (O := Ow F env2 σ) g3).trans x4) b2 e7) (by rw [← k]; exact lt4 env3 H4 s4 .refl c2 e8) e9 fun v5 H5 g5 rel5 => ?_
                        exact fin_op s4 ((x1.trans x3).trans x4) g5 (by rw [k]; exact rel5) z
                | ex c env3 => rw [e6] at z; exact fun H' s' x' => z H' s' ((x1.trans x3).trans x')
                | bad => rw [e6] at z; exact z
            | _ => exact z.elim
    | ex c env2 => rw [e2] at z; exact fun H' s' x' => z H' s' (x1.trans x')
    | bad => rw [e2] at z; exact z
  | ex c env1 => rw [e1] at z; exact z
  | bad => rw [e1] at z; exact z
end
end MP

set_option Elab.async false
set_option linter.all false
set_option maxRecDepth 100000
set_option maxHeartbeats 4000000
namespace MP
open PySem PySem.Spec L2
open PyProof.Rows hiding St

/-! ### slices -/
def prt : D → Option (Option Int)
  | .non => some none
  | .int i => some (some i)
  | _ => none
def PostP (F : Fx) (C : Nat → Value) (W : WX) (env : Ev) (σ : St) (H : Hp) (Q : Option Int → Hp → Prop) : RE → Prop
  | .ok d env' => ∃ o, prt d = some o ∧ ∀ H', SR F env' σ H' → Ext (Ow F env σ) H (Ow F env' σ) H' → Q o H'
  | .ex c env' => ∀ H', SR F env' σ H' → Ext (Ow F env σ) H (Ow F env' σ) H' → W (C c) none σ H'
  | .bad => False
structure JP (X : Cx) (C : Nat → Value) (W : WX) (e : Option Expr) (m : ME) : Prop where
  run : ∃ t, PO X e t ∧ ∀ F env σ H Q, F.K = X.K → SR F env σ H → PostP F C W env σ H Q (m env) → t σ H Q
def cutD {α : Type} (xs : List α) (lo hi : Option Int) : List α := (xs.drop (HT.sIx xs.length 0 lo)).take (HT.sIx xs.length xs.length hi - HT.sIx xs.length 0 lo)
def fSl : D → Option Int → Option Int → Option D
  | .lst xs, lo, hi => some (.lst (cutD xs lo hi))
  | .tup xs, lo, hi => some (.tup (cutD xs lo hi))
  | .str cs, lo, hi => (match Nat.ble cs.length line with
    | true => some (.str (cutD cs lo hi))
    | false => none)
  | _, _, _ => none
def mSl (m : ME) (l : Ev → D → Option D) (m1 m2 : ME) : ME := fun e => match m e with
  | .ok x e1 => (match m1 e1 with
    | .ok a e2 => (match prt a with
      | some lo => (match m2 e2 with
        | .ok b e3 => (match prt b with
          | some hi => (match l e3 x with
            | some y => (match fSl y lo hi with
              | some d => .ok d e3
              | none => .bad)
            | none => .bad)
          | none => .bad)
        | .ex c e3 => .ex c e3
        | .bad => .bad)
      | none => .bad)
    | .ex c e2 => .ex c e2
    | .bad => .bad)
  | .ex c e1 => .ex c e1
  | .bad => .bad
section
variable {X : Cx} {C : Nat → Value} {W : WX}
theorem jp_none : JP X C W none (mC .non) := ⟨_, po_none, fun F env σ H Q k s z => by
  obtain ⟨o, e, z⟩ := z
  cases e
  exact z H s .refl⟩
theorem jp_some {e : Expr} {m : ME} (h : JE X C W e m) : JP X C W (some e) (fun env => match m env with
  | .ok (.int i) e1 => .ok (.int i) e1
  | .ok _ _ => .bad
  | .ex c e1 => .ex c e1
  | .bad => .bad) := by
  obtain ⟨t, p, q⟩ := h.run
  refine ⟨_, po_some p, fun F env σ H Q k s z => q F env σ H _ k s ?_⟩
  cases e1 : m env with
  | ok x env1 =>
    rw [e1] at z
    refine fun v H1 s1 x1 r => ?_
    cases x with
    | int i =>
      obtain ⟨o, e, z⟩ := z
      cases e
      refine ⟨i, by simpa only [RelD] using r, z H1 s1 x1⟩
    | _ => exact z.elim
  | ex c env1 => rw [e1] at z; exact z
  | bad => rw [e1] at z; exact z
def rSlAll (K : PySem.W.Frag) : V → Option Int → Option Int → Hp → VK → Prop := fun x lo hi H Q => rSlL K x lo hi H Q ∨ (rSlA K x lo hi H Q ∨ rSlS x lo hi H Q)
theorem sl_all : SlR X (rSlAll X.K) := sl_list.or (sl_tupA.or sl_str)
theorem s_sl {K : PySem.W.Frag} {H : Hp} {O : Addr → Prop} {x : D} {v : V} {lo hi : Option Int} {Q : VK} {d : D} (dom : ∀ a, O a → H a ≠ none) (px : PRel K H O x v) (e : fSl x lo hi = some d)
    (q : ∀ v' H', Same H H' → RelD K H' O d v' → Q v' H') : rSlAll K v lo hi H Q := by
  cases x <;> simp only [fSl] at e <;> try (cases e; done)
  · rename_i cs
    split at e
    · rename_i hl
      cases e
      refine .inr (.inr ⟨_, p_str px, ?_, q _ H (Same.refl H) ?_⟩)
      · have := line_le hl
        simpa [Str.length] using this
      · simp only [RelD]
        rfl
    · cases e
  · rename_i xs
    cases e
    obtain ⟨a, vs, rfl, e1, r1⟩ := p_tup px |>.2
    have l1 := relL_len r1
    have rc : RelL K H O (cutD xs lo hi) (cutV vs lo hi) := by
      unfold cutD cutV
      rw [l1]
      exact relL_take _ (relL_drop _ r1)
    refine .inr (.inl ⟨a, vs, rfl, e1, fun h => ?_, fun h p np => q _ _ (same_upd np) (rel_newT np dom rc)⟩)
    have : cutD xs lo hi = xs := by
      unfold cutD
      rw [l1, h.1, h.2, List.drop_zero, ← l1]
      exact List.take_of_length_le (by omega)
    rw [this] at q
    exact q _ H (Same.refl H) (p_tup px).1
  · rename_i xs
    cases e
    obtain ⟨a, vs, rfl, e1, r1⟩ := p_lst px
    have l1 := relL_len r1
    have rc : RelL K H O (cutD xs lo hi) (cutV vs lo hi) := by
      unfold cutD cutV
      rw [l1]
      exact relL_take _ (relL_drop _ r1)
    exact .inl ⟨a, vs, rfl, .inl (.inl e1), fun p np => q _ _ (same_upd np) (rel_newL np dom rc)⟩
theorem j_sl {e : Expr} {lo hi : Option Expr} {m m1 m2 : ME} {l : Ev → D → Option D} {p2 pos : Pos} (he : JO X C W e m l) (h1 : JP X C W lo m1) (h2 : JP X C W hi m2) : JE X C W (.Subscript e (.Slice lo hi none p2) pos) (mSl m l m1 m2) := by
  obtain ⟨t, p, q⟩ := he.run
  obtain ⟨t1, p1, q1⟩ := h1.run
  obtain ⟨t2, pp2, q2⟩ := h2.run
  refine ⟨_, pe_slice sl_all p p1 pp2, fun F env σ H Q k s z => q F env σ H _ k s ?_⟩
  unfold mSl at z
  cases e1 : m env with
  | ok x env1 =>
    rw [e1] at z
    refine fun v H1 s1 x1 lt => q1 F env1 σ H1 _ k s1 ?_
    dsimp only at z
    cases e2 : m1 env1 with
    | ok a env2 =>
      rw [e2] at z
      dsimp only at z
      cases e5 : prt a with
      | none => rw [e5] at z; exact z.elim
      | some o1 =>
        rw [e5] at z
        dsimp only at z
        refine ⟨o1, e5, fun H2 s2 x2 => q2 F env2 σ H2 _ k s2 ?_⟩
        cases e3 : m2 env2 with
        | ok b env3 =>
          rw [e3] at z
          dsimp only at z
          cases e6 : prt b with
          | none => rw [e6] at z; exact z.elim
          | some o2 =>
            rw [e6] at z
            dsimp only at z
            refine ⟨o2, e6, fun H3 s3 x3 => ?_⟩
            cases e4 : l env3 x with
            | none => rw [e4] at z; exact z.elim
            | some y =>
              rw [e4] at z
              dsimp only at z
              cases e7 : fSl y o1 o2 with
              | none => rw [e7] at z; exact z.elim
              | some d =>
                rw [e7] at z
                refine s_sl (fun a => s3.dom) (by rw [← k]; exact lt env3 H3 s3 (x2.trans x3) y e4) e7 fun v' H' g rel => ?_
                exact fin_op s3 ((x1.trans x2).trans x3) g (by rw [k]; exact rel) z
        | ex c env3 => rw [e3] at z; exact fun H' s' x' => z H' s' ((x1.trans x2).trans x')
        | bad => rw [e3] at z; exact z
    | ex c env2 => rw [e2] at z; exact fun H' s' x' => z H' s' (x1.trans x')
    | bad => rw [e2] at z; exact z
  | ex c env1 => rw [e1] at z; exact z
  | bad => rw [e1] at z; exact z
/-! ### [::-1] of a list -/
def fRev : D → Option D
  | .lst xs => some (.lst xs.reverse)
  | _ => none
theorem j_revL {e : Expr} {m : ME} {l : Ev → D → Option D} {k : Nat} {p1 p2 p3 pos : Pos} (he : JO X C W e m l) : JE X C W (.Subscript e (.Slice none none (some (.UnaryOp .USub (.Constant (.int 1) k p1) p2)) p3) pos) (mU fRev m l) := by
  obtain ⟨t, p, q⟩ := he.run
  refine ⟨_, pe_revL p, fun F env σ H Q k s z => q F env σ H _ k s ?_⟩
  unfold mU at z
  cases e1 : m env with
  | ok x env1 =>
    rw [e1] at z
    refine fun v H1 s1 x1 lt => ?_
    dsimp only at z
    cases e2 : l env1 x with
    | none => rw [e2] at z; exact z.elim
    | some a1 =>
      rw [e2] at z
      dsimp only at z
      cases a1 with
      | lst xs =>
        obtain ⟨a, vs, rfl, q1, r1⟩ := p_lst (lt env1 H1 s1 .refl _ e2)
        refine ⟨a, vs, rfl, .inl (.inl q1), fun p np => ?_⟩
        exact z _ _ (s1.grow (same_upd np)) (x1.trans (Ext.of (same_upd np))) (rel_newL np (fun a => s1.dom) (relL_rev r1))
      | _ => exact z.elim
  | ex c env1 => rw [e1] at z; exact z
  | bad => rw [e1] at z; exact z
end

/-! ### built-ins -/
theorem CallR.or' {X : Cx} {f : Value} {r r' : List V → Hp → VK → Prop} (h : CallR X f r) (h' : CallR X f r') : CallR X f (fun xs H Q => r xs H Q ∨ r' xs H Q) := h.or h'
section
variable {K : PySem.W.Frag}
def bLen : List D → Option D
  | [.lst xs] => some (.int xs.length)
  | [.tup xs] => some (.int xs.length)
  | [.scr xs] => some (.int xs.length)
  | [.str cs] => (match Nat.ble cs.length line with
    | true => some (.int cs.length)
    | false => none)
  | _ => none
theorem s_len : CaS K (fun xs H Q => ∃ x n, xs = [x] ∧ LenV K x H n ∧ Q (.int n) H) bLen := by
  intro H O xs vs Q d dom pp e q
  match xs, e with
  | [x], e =>
    obtain ⟨v, rfl, px⟩ := pRelL_one pp
    cases x <;> simp only [bLen] at e <;> try (cases e; done)
    · rename_i cs
      split at e
      · rename_i hl
        cases e
        rw [p_str px]
        exact ⟨_, _, rfl, ⟨by have := line_le hl; simpa [Str.length] using this, rfl⟩, by
          have := q (.int cs.length) H (Same.refl H) (by simp only [RelD])
          simpa [Str.length] using this⟩
      · cases e
    · cases e
      obtain ⟨a, ws, rfl, q1, r1⟩ := p_tup px |>.2
      exact ⟨_, _, rfl, .inr ⟨ws, q1, rfl⟩, q _ H (Same.refl H) (by simp only [RelD]; rw [relL_len r1])⟩
    · cases e
      obtain ⟨a, ws, rfl, q1, r1⟩ := p_lst px
      exact ⟨_, _, rfl, .inl ⟨ws, .inl (.inl q1), rfl⟩, q _ H (Same.refl H) (by simp only [RelD]; rw [relL_len r1])⟩
    · cases e
      obtain ⟨a, rfl, q1⟩ := p_scr px
      exact ⟨_, _, rfl, .inl ⟨_, q1, rfl⟩, q _ H (Same.refl H) (by simp only [RelD]; rw [List.length_map])⟩
  | [], e => simp [bLen] at e
  | _ :: _ :: _, e => simp [bLen] at e
def bAbs : List D → Option D
  | [.int i] => some (.int (if i < 0 then -i else i))
  | _ => none
theorem s_abs : CaS K (fun xs H Q => ∃ i, xs = [.int i] ∧ Q (.int (if i < 0 then -i else i)) H) bAbs := by
  intro H O xs vs Q d dom pp e q
  match xs, e with
  | [x], e =>
    obtain ⟨v, rfl, px⟩ := pRelL_one pp
    cases x <;> simp only [bAbs] at e <;> cases e
    rw [p_int px]
    exact ⟨_, rfl, q _ H (Same.refl H) (by simp only [RelD])⟩
  | [], e => simp [bAbs] at e
  | _ :: _ :: _, e => simp [bAbs] at e
def bInt : List D → Option D
  | [.int i] => some (.int i)
  | [.bl b] => some (.int (b2iD b))
  | _ => none
theorem s_int : CaS K (fun xs H Q => (∃ i, xs = [.int i] ∧ Q (.int i) H) ∨ ∃ k, xs = [.bl k] ∧ Q (.int (if k then 1 else 0)) H) bInt := by
  intro H O xs vs Q d dom pp e q
  match xs, e with
  | [x], e =>
    obtain ⟨v, rfl, px⟩ := pRelL_one pp
    cases x <;> simp only [bInt] at e <;> cases e
    · rename_i b
      rw [p_bl px]
      exact .inr ⟨b, rfl, q _ H (Same.refl H) (by simp only [RelD]; cases b <;> rfl)⟩
    · rw [p_int px]
      exact .inl ⟨_, rfl, q _ H (Same.refl H) (by simp only [RelD])⟩
  | [], e => simp [bInt] at e
  | _ :: _ :: _, e => simp [bInt] at e
def bMax : List D → Option D
  | [.int i, .int j] => some (.int (if j > i then j else i))
  | [.lst xs] => (match intsOf xs with
    | some (n :: r) => some (.int (r.foldl max n))
    | _ => none)
  | _ => none
def bMin : List D → Option D
  | [.int i, .int j] => some (.int (if j < i then j else i))
  | [.lst xs] => (match intsOf xs with
    | some (n :: r) => some (.int (r.foldl min n))
    | _ => none)
  | _ => none
theorem foldl_max : ∀ (r : List Int) (n m : Int), m ∈ n :: r → (∀ y, y ∈ n :: r → y ≤ m) → r.foldl max n = m
  | [], n, m, h, k => by simp at h; rw [h]; rfl
  | x :: r, n, m, h, k => by
    show r.foldl max (max n x) = m
    have hn := k n (by simp)
    have hx := k x (by simp)
    refine foldl_max r (max n x) m ?_ fun y hy => ?_
    · simp only [List.mem_cons] at h ⊢
      rcases h with h | h | h
      · left; omega
      · left; omega
      · right; exact h
    · simp only [List.mem_cons] at hy
      rcases hy with rfl | hy
      · omega
      · exact k y (by simp [hy])
theorem foldl_min : ∀ (r : List Int) (n m : Int), m ∈ n :: r → (∀ y, y ∈ n :: r → m ≤ y) → r.foldl min n = m
  | [], n, m, h, k => by simp at h; rw [h]; rfl
  | x :: r, n, m, h, k => by
    show r.foldl min (min n x) = m
    have hn := k n (by simp)
    have hx := k x (by simp)
    refine foldl_min r (min n x) m ?_ fun y hy => ?_
    · simp only [List.mem_cons] at h ⊢
      rcases h with h | h | h
      · left; omega
      · left; omega
      · right; exact h
    · simp only [List.mem_cons] at hy
      rcases hy with rfl | hy
      · omega
      · exact k y (by simp [hy])
def rMaxA (K : PySem.W.Frag) : List V → Hp → VK → Prop := fun xs H Q => (∃ i j, xs = [.int i, .int j] ∧ Q (.int (if j > i then j else i)) H) ∨ rMax K xs H Q
def rMinA (K : PySem.W.Frag) : List V → Hp → VK → Prop := fun xs H Q => (∃ i j, xs = [.int i, .int j] ∧ Q (.int (if j < i then j else i)) H) ∨ rMin K xs H Q
theorem c_max {X : Cx} (hc : X.calm = true) : CallR X (.builtin "max") (rMaxA X.K) := (call_max2 hc).or (cr_max hc)
theorem c_min {X : Cx} (hc : X.calm = true) : CallR X (.builtin "min") (rMinA X.K) := (call_min2 hc).or (cr_min hc)
theorem s_max : CaS K (rMaxA K) bMax := by
  intro H O xs vs Q d dom pp e q
  match xs, e with
  | [x], e =>
    obtain ⟨v, rfl, px⟩ := pRelL_one pp
    cases x <;> simp only [bMax] at e <;> try (cases e; done)
    rename_i ys
    split at e <;> cases e
    rename_i n r he
    obtain ⟨a, ws, rfl, q1, r1⟩ := p_lst px
    have i1 := intsOf_ok he
    subst i1
    rw [p_ints r1] at q1
    refine .inr ⟨a, n :: r, rfl, .inl (.inl q1), by simp, fun m hm hk => ?_⟩
    rw [← foldl_max r n m hm hk]
    exact q _ H (Same.refl H) (by simp only [RelD])
  | [x, y], e =>
    obtain ⟨v, u, rfl, px, py⟩ := pRelL_two pp
    cases x <;> cases y <;> simp only [bMax] at e <;> cases e
    rw [p_int px, p_int py]
    exact .inl ⟨_, _, rfl, q _ H (Same.refl H) (by simp only [RelD])⟩
  | [], e => simp [bMax] at e
  | _ :: _ :: _ :: _, e => simp [bMax] at e
theorem s_min : CaS K (rMinA K) bMin := by
  intro H O xs vs Q d dom pp e q
  match xs, e with
  | [x], e =>
    obtain ⟨v, rfl, px⟩ := pRelL_one pp
    cases x <;> simp only [bMin] at e <;> try (cases e; done)
    rename_i ys
    split at e <;> cases e
    rename_i n r he
    obtain ⟨a, ws, rfl, q1, r1⟩ := p_lst px
    have i1 := intsOf_ok he
    subst i1
    rw [p_ints r1] at q1
    refine .inr ⟨a, n :: r, rfl, .inl (.inl q1), by simp, fun m hm hk => ?_⟩
    rw [← foldl_min r n m hm hk]
    exact q _ H (Same.refl H) (by simp only [RelD])
  | [x, y], e =>
    obtain ⟨v, u, rfl, px, py⟩ := pRelL_two pp
    cases x <;> cases y <;> simp only [bMin] at e <;> cases e
    rw [p_int px, p_int py]
    exact .inl ⟨_, _, rfl, q _ H (Same.refl H) (by simp only [RelD])⟩
  | [], e => simp [bMin] at e
  | _ :: _ :: _ :: _, e => simp [bMin] at e
def bSum : List D → Option D
  | [.lst xs] => (match intsOf xs with
    | some ns => some (.int ns.sum)
    | none => none)
  | _ => none
theorem s_sum : CaS K (rSum K) bSum := by
  intro H O xs vs Q d dom pp e q
  match xs, e with
  | [x], e =>
    obtain ⟨v, rfl, px⟩ := pRelL_one pp
    cases x <;> simp only [bSum] at e <;> try (cases e; done)
    split at e <;> cases e
    rename_i he
    obtain ⟨a, ws, rfl, q1, r1⟩ := p_lst px
    have i1 := intsOf_ok he
    subst i1
    rw [p_ints r1] at q1
    exact ⟨a, _, rfl, .inl (.inl q1), q _ H (Same.refl H) (by simp only [RelD])⟩
  | [], e => simp [bSum] at e
  | _ :: _ :: _, e => simp [bSum] at e
def bAll : List D → Option D
  | [.lst xs] => (match blsOf xs with
    | some ns => some (.bl (ns.all id))
    | none => none)
  | _ => none
theorem s_all : CaS K (rAll K) bAll := by
  intro H O xs vs Q d dom pp e q
  match xs, e with
  | [x], e =>
    obtain ⟨v, rfl, px⟩ := pRelL_one pp
    cases x <;> simp only [bAll] at e <;> try (cases e; done)
    split at e <;> cases e
    rename_i he
    obtain ⟨a, ws, rfl, q1, r1⟩ := p_lst px
    have i1 := blsOf_ok he
    subst i1
    rw [p_bls r1] at q1
    exact ⟨a, _, rfl, .inl (.inl q1), q _ H (Same.refl H) (by simp only [RelD])⟩
  | [], e => simp [bAll] at e
  | _ :: _ :: _, e => simp [bAll] at e
def bAny : List D → Option D
  | [.lst xs] => (match blsOf xs with
    | some ns => some (.bl (ns.any id))
    | none => none)
  | _ => none
theorem s_any : CaS K (rAny K) bAny := by
  intro H O xs vs Q d dom pp e q
  match xs, e with
  | [x], e =>
    obtain ⟨v, rfl, px⟩ := pRelL_one pp
    cases x <;> simp only [bAny] at e <;> try (cases e; done)
    split at e <;> cases e
    rename_i he
    obtain ⟨a, ws, rfl, q1, r1⟩ := p_lst px
    have i1 := blsOf_ok he
    subst i1
    rw [p_bls r1] at q1
    exact ⟨a, _, rfl, .inl (.inl q1), q _ H (Same.refl H) (by simp only [RelD])⟩
  | [], e => simp [bAny] at e
  | _ :: _ :: _, e => simp [bAny] at e
def bList : List D → Option D
  | [.lst xs] => some (.lst xs)
  | [.tup xs] => some (.lst xs)
  | _ => none
theorem s_list : CaS K (fun xs H Q => ∃ p ys, xs = [.ref p] ∧ (SqL K H p ys ∨ SqT K H p ys) ∧ ∀ l, H l = none → Q (.ref l) (upd H l (.lst ys))) bList := by
  intro H O xs vs Q d dom pp e q
  match xs, e with
  | [x], e =>
    obtain ⟨v, rfl, px⟩ := pRelL_one pp
    cases x <;> simp only [bList] at e <;> try (cases e; done)
    · cases e
      obtain ⟨a, ws, rfl, q1, r1⟩ := p_tup px |>.2
      exact ⟨a, ws, rfl, .inr q1, fun p np => q _ _ (same_upd np) (rel_newL np dom r1)⟩
    · cases e
      obtain ⟨a, ws, rfl, q1, r1⟩ := p_lst px
      exact ⟨a, ws, rfl, .inl (.inl (.inl q1)), fun p np => q _ _ (same_upd np) (rel_newL np dom r1)⟩
  | [], e => simp [bList] at e
  | _ :: _ :: _, e => simp [bList] at e
def bTuple : List D → Option D
  | [.lst xs] => some (.tup xs)
  | [.tup xs] => some (.tup xs)
  | _ => none
theorem s_tuple : CaS K (fun xs H Q => ∃ p ys, xs = [.ref p] ∧ ((SqL K H p ys ∧ ∀ l, H l = none → Q (.ref l) (upd H l (.tup ys))) ∨ (SqT K H p ys ∧ Q (.ref p) H))) bTuple := by
  intro H O xs vs Q d dom pp e q
  match xs, e with
  | [x], e =>
    obtain ⟨v, rfl, px⟩ := pRelL_one pp
    cases x <;> simp only [bTuple] at e <;> try (cases e; done)
    · cases e
      obtain ⟨r0, a, ws, rfl, q1, r1⟩ := p_tup px
      exact ⟨a, ws, rfl, .inr ⟨q1, q _ H (Same.refl H) r0⟩⟩
    · cases e
      obtain ⟨a, ws, rfl, q1, r1⟩ := p_lst px
      exact ⟨a, ws, rfl, .inl ⟨.inl (.inl q1), fun p np => q _ _ (same_upd np) (rel_newT np dom r1)⟩⟩
  | [], e => simp [bTuple] at e
  | _ :: _ :: _, e => simp [bTuple] at e
/-- the sorted list of some ints -/
def insI (x : Int) : List Int → List Int
  | [] => [x]
  | y :: r => (match decide (x ≤ y) with
    | true => x :: y :: r
    | false => y :: insI x r)
def sortI : List Int → List Int
  | [] => []
  | x :: r => insI x (sortI r)
theorem insI_perm (x : Int) : ∀ l : List Int, (insI x l).Perm (x :: l)
  | [] => .refl _
  | y :: r => by
    unfold insI
    split
    · exact .refl _
    · exact ((insI_perm x r).cons y).trans (.swap x y r)
theorem sortI_perm : ∀ l : List Int, (sortI l).Perm l
  | [] => .refl _
  | x :: r => (insI_perm x _).trans ((sortI_perm r).cons x)
theorem insI_sorted (x : Int) : ∀ l : List Int, l.Pairwise (· ≤ ·) → (insI x l).Pairwise (· ≤ ·)
  | [], _ => by simp [insI]
  | y :: r, h => by
    obtain ⟨h1, h2⟩ := List.pairwise_cons.mp h
    unfold insI
    split
    · rename_i q
      have q := of_decide_eq_true q
      refine List.pairwise_cons.mpr ⟨fun z hz => ?_, h⟩
      rcases List.mem_cons.mp hz with rfl | hz
      · exact q
      · exact Int.le_trans q (h1 z hz)
    · rename_i q
      have q := of_decide_eq_false q
      refine List.pairwise_cons.mpr ⟨fun z hz => ?_, insI_sorted x r h2⟩
      have := (insI_perm x r).mem_iff.mp hz
      rcases List.mem_cons.mp this with rfl | hz
      · omega
      · exact h1 z hz
theorem sortI_sorted : ∀ l : List Int, (sortI l).Pairwise (· ≤ ·)
  | [] => .nil
  | x :: r => insI_sorted x _ (sortI_sorted r)
theorem sorted_one : ∀ {l l' : List Int}, l.Perm l' → l.Pairwise (· ≤ ·) → l'.Pairwise (· ≤ ·) → l = l'
  | [], l', p, _, _ => (List.Perm.nil_eq p)
  | x :: r, [], p, _, _ => absurd p.length_eq (by simp)
  | x :: r, y :: r', p, h, h' => by
    obtain ⟨h1, h2⟩ := List.pairwise_cons.mp h
    obtain ⟨h3, h4⟩ := List.pairwise_cons.mp h'
    have a : x ≤ y := by
      have : y ∈ x :: r := p.mem_iff.mpr (by simp)
      rcases List.mem_cons.mp this with e | e
      · omega
      · exact h1 y e
    have b : y ≤ x := by
      have : x ∈ y :: r' := p.mem_iff.mp (by simp)
      rcases List.mem_cons.mp this with e | e
      · omega
      · exact h3 x e
    have e : x = y := by omega
    subst e
    rw [sorted_one (p.cons_inv) h2 h4]
def bSorted : List D → Option D
  | [.lst xs] => (match intsOf xs with
    | some ns => (match Nat.blt ns.length 64 with
      | true => some (.lst ((sortI ns).map D.int))
      | false => none)
    | none => none)
  | _ => none
theorem s_sorted : CaS K (rSorted K) bSorted := by
  intro H O xs vs Q d dom pp e q
  match xs, e with
  | [x], e =>
    obtain ⟨v, rfl, px⟩ := pRelL_one pp
    cases x <;> simp only [bSorted] at e <;> try (cases e; done)
    split at e
    · rename_i he
      split at e <;> cases e
      rename_i hl
      obtain ⟨a, ws, rfl, q1, r1⟩ := p_lst px
      have i1 := intsOf_ok he
      subst i1
      rw [p_ints r1] at q1
      refine ⟨a, _, rfl, .inl (.inl q1), Nat.le_of_ble_eq_true hl, fun ns' p pm pw np => ?_⟩
      rw [sorted_one (pm.trans (sortI_perm _).symm) pw (sortI_sorted _)]
      exact q _ _ (same_upd np) (rel_newL np dom (r_ints _))
    · cases e
  | [], e => simp [bSorted] at e
  | _ :: _ :: _, e => simp [bSorted] at e
end
end MP

set_option Elab.async false
set_option linter.all false
set_option maxRecDepth 100000
set_option maxHeartbeats 4000000
namespace MP
open PySem PySem.Spec L2
open PyProof.Rows hiding St

/-! ### isinstance -/
def tyStr : D → Option String
  | .non => some "NoneType"
  | .bl _ => some "bool"
  | .int _ => some "int"
  | .str _ => some "str"
  | .tup _ => some "tuple"
  | .lst _ => some "list"
  | _ => none
def isInt : D → Option D
  | .int _ => some (.bl true)
  | .bl _ => some (.bl true)
  | .non => some (.bl false)
  | .str _ => some (.bl false)
  | .tup _ => some (.bl false)
  | .lst _ => some (.bl false)
  | _ => none
def isBool : D → Option D
  | .bl _ => some (.bl true)
  | .int _ => some (.bl false)
  | .non => some (.bl false)
  | .str _ => some (.bl false)
  | .tup _ => some (.bl false)
  | .lst _ => some (.bl false)
  | _ => none
def isTup : D → Option D
  | .tup _ => some (.bl true)
  | .bl _ => some (.bl false)
  | .int _ => some (.bl false)
  | .non => some (.bl false)
  | .str _ => some (.bl false)
  | .lst _ => some (.bl false)
  | _ => none
def isStr : D → Option D
  | .str _ => some (.bl true)
  | .bl _ => some (.bl false)
  | .int _ => some (.bl false)
  | .non => some (.bl false)
  | .tup _ => some (.bl false)
  | .lst _ => some (.bl false)
  | _ => none
theorem ty_of {K : PySem.W.Frag} {H : Hp} {O : Addr → Prop} {x : D} {v : V} {T : String} (px : PRel K H O x v) (e : tyStr x = some T) : TyX K H v (.type T) := by
  cases x <;> simp only [tyStr] at e <;> cases e
  · rw [p_non px]; exact .base .non
  · rw [p_bl px]; exact .base (.bl _)
  · rw [p_int px]; exact .base (.int _)
  · rw [p_str px]; exact .base (.str _)
  · rcases px with h | ⟨a, e, h⟩
    · simp only [RelD] at h
      obtain ⟨a, vs, rfl, q, r⟩ := h
      rcases q with ⟨q, n⟩ | ⟨o, its, n, q, c, _⟩
      · rcases q with q | ⟨o, q⟩
        · exact .base (.tup q)
        · exact .fTuple q
      · exact .kTuple q c
    · simp only [CRel] at h
  · obtain ⟨a, vs, rfl, q, r⟩ := p_lst px
    exact .base (.lst q)
def tIsi (K : PySem.W.Frag) (T : String) (ta : TE) : TE := tCB (rIsi K) (tCons ta (tCons (tC (.ty T)) tNil))
/-- which answers isinstance(x, T) has -/
def IsiOk (T : String) (f : D → Option D) : Prop := ∀ x d, f x = some d → ∃ S b, tyStr x = some S ∧ d = .bl b ∧ kitB S T = some b
theorem isi_int : IsiOk "int" isInt := by
  intro x d e
  cases x <;> simp only [isInt] at e <;> cases e <;> exact ⟨_, _, rfl, rfl, by decide +kernel⟩
theorem isi_bool : IsiOk "bool" isBool := by
  intro x d e
  cases x <;> simp only [isBool] at e <;> cases e <;> exact ⟨_, _, rfl, rfl, by decide +kernel⟩
theorem isi_tup : IsiOk "tuple" isTup := by
  intro x d e
  cases x <;> simp only [isTup] at e <;> cases e <;> exact ⟨_, _, rfl, rfl, by decide +kernel⟩
theorem isi_str : IsiOk "str" isStr := by
  intro x d e
  cases x <;> simp only [isStr] at e <;> cases e <;> exact ⟨_, _, rfl, rfl, by decide +kernel⟩
section
variable {X : Cx} {C : Nat → Value} {W : WX}
theorem j_isi {T : String} {f : D → Option D} {x y : Str} {a : Expr} {m : ME} {l : Ev → D → Option D} {p p2 pos : Pos} (hi : IsiOk T f) (ha : JO X C W a m l) (hg : Gl X x) (hm : X.mg x = none) (hv : bootBuiltins x = some (.builtin "isinstance"))
    (hn : x ≠ "__name__") (hdb : (x == ("__debug__" : Str)) = false) (hg2 : Gl X y) (hm2 : X.mg y = none) (hv2 : bootBuiltins y = some (.type T)) (hn2 : y ≠ "__name__") (hdb2 : (y == ("__debug__" : Str)) = false)
    (hs : starEach [a, .Name y p2] X.env = (false, eval a X.env) :: starEach [.Name y p2] X.env) (hs2 : starEach [.Name y p2] X.env = (false, eval (.Name y p2) X.env) :: starEach [] X.env) (hpl : (backTo pos (starEach [.Name y p2] X.env)).any (·.1) = false) :
    JE X C W (.Call (.Name x p) [a, .Name y p2] [] pos) (mU f m l) := by
  obtain ⟨t, pt, q⟩ := ha.run
  have h2 : PE X (.Name y p2) (tC (.ty T)) := pe_bltn hg2 hm2 hv2 rfl hn2 hdb2
  refine ⟨_, pe_callB call_isi hg hm hv (pa_cons pt (pa_cons h2 pa_nil hs2) hs) hn hdb hs hpl, fun F env σ H Q k s z => q F env σ H _ k s ?_⟩
  unfold mU at z
  cases e1 : m env with
  | ok d env1 =>
    rw [e1] at z
    refine fun v H1 s1 x1 lt => ?_
    dsimp only at z
    cases e2 : l env1 d with
    | none => rw [e2] at z; exact z.elim
    | some b =>
      rw [e2] at z
      dsimp only at z
      cases e3 : f b with
      | none => rw [e3] at z; exact z.elim
      | some r =>
        rw [e3] at z
        obtain ⟨S, bb, h3, rfl, h4⟩ := hi b r e3
        have px := lt env1 H1 s1 .refl b e2
        rw [k] at px
        exact ⟨v, .ty T, .type S, .type T, bb, rfl, .ty T, ty_of px h3, kit_ty h4, z _ H1 s1 x1 (by simp only [RelD])⟩
  | ex c env1 => rw [e1] at z; exact z
  | bad => rw [e1] at z; exact z
end
/-! ### in -/
def flatD : D → Bool
  | .non => true
  | .bl _ => true
  | .int _ => true
  | .str _ => true
  | _ => false
theorem flat_of {K : PySem.W.Frag} {H : Hp} {O : Addr → Prop} {x : D} {v : V} (f : flatD x = true) (h : RelD K H O x v) : flatV v = true := by
  cases x <;> simp only [flatD] at f <;> (try cases f) <;> simp only [RelD] at h <;> subst h <;> rfl
theorem p_flat {K : PySem.W.Frag} {H : Hp} {O : Addr → Prop} {x : D} {v : V} (f : flatD x = true) (h : PRel K H O x v) : RelD K H O x v := by
  rcases h with h | ⟨a, e, h⟩
  · exact h
  · cases x <;> simp only [flatD] at f <;> (try cases f) <;> simp only [CRel] at h
theorem eqV_of {K : PySem.W.Frag} {H : Hp} {O : Addr → Prop} {x y : D} {v u : V} (f : flatD x = true) (g : flatD y = true) (h : RelD K H O x v) (h' : RelD K H O y u) : eqV v u = eqD x y := by
  cases x <;> simp only [flatD] at f <;> (try cases f) <;> simp only [RelD] at h <;> subst h <;>
    cases y <;> simp only [flatD] at g <;> (try cases g) <;> simp only [RelD] at h' <;> subst h' <;> simp only [eqV, eqD]
  · rename_i a b
    cases a <;> simp [b2iD] <;> (rw [Bool.eq_iff_iff]; simp only [beq_iff_eq]; exact ⟨fun h => decide_eq_true h, fun h => of_decide_eq_true h⟩)
  · rename_i a b
    cases b <;> simp [b2iD] <;> (rw [Bool.eq_iff_iff]; simp only [beq_iff_eq]; exact ⟨fun h => decide_eq_true h, fun h => of_decide_eq_true h⟩)
  · rw [Bool.eq_iff_iff]; simp only [beq_iff_eq]; exact ⟨fun h => decide_eq_true h, fun h => of_decide_eq_true h⟩
  · rw [natsEq_eq, Bool.eq_iff_iff]
    simp
def anyEq (x : D) : List D → Bool
  | [] => false
  | y :: r => (match eqD y x with
    | true => true
    | false => anyEq x r)
def allFlat : List D → Bool
  | [] => true
  | y :: r => (match flatD y with
    | true => allFlat r
    | false => false)
theorem inV_of {K : PySem.W.Frag} {H : Hp} {O : Addr → Prop} {x : D} {v : V} (f : flatD x = true) (h : RelD K H O x v) : ∀ (ys : List D) (us : List V), allFlat ys = true → RelL K H O ys us → us.all flatV = true ∧ inV v us = anyEq x ys
  | [], us, _, r => by simp only [RelL] at r; subst r; exact ⟨rfl, rfl⟩
  | y :: ys, us, g, r => by
    simp only [RelL] at r
    obtain ⟨u, us', rfl, r1, r2⟩ := r
    unfold allFlat at g
    split at g
    · rename_i g1
      obtain ⟨h1, h2⟩ := inV_of f h ys us' g r2
      refine ⟨by rw [List.all_cons, flat_of g1 r1, h1]; rfl, ?_⟩
      show (eqV u v || us'.any fun y => eqV y v) = _
      unfold anyEq
      rw [eqV_of g1 f r1 h]
      have h2' : (us'.any fun y => eqV y v) = anyEq x ys := h2
      rw [h2']
      cases eqD y x <;> rfl
    · cases g
def inOf (x : D) : D → Option Bool
  | .lst ys => (match flatD x with
    | true => (match allFlat ys with
      | true => some (anyEq x ys)
      | false => none)
    | false => none)
  | .tup ys => (match flatD x with
    | true => (match allFlat ys with
      | true => some (anyEq x ys)
      | false => none)
    | false => none)
  | _ => none
def fIn : D → D → Option D := fun x y => match inOf x y with
  | some b => some (.bl b)
  | none => none
def fNotIn : D → D → Option D := fun x y => match inOf x y with
  | some b => some (.bl (!b))
  | none => none
theorem inOf_ok {K : PySem.W.Frag} {H : Hp} {O : Addr → Prop} {x y : D} {v u : V} {b : Bool} (px : PRel K H O x v) (py : PRel K H O y u) (e : inOf x y = some b) :
    ∃ p xs, u = .ref p ∧ (SqL K H p xs ∨ SqT K H p xs) ∧ flatV v = true ∧ xs.all flatV = true ∧ inV v xs = b := by
  cases y <;> simp only [inOf] at e <;> try (cases e; done)
  · split at e
    · rename_i f
      split at e
      · rename_i g
        cases e
        obtain ⟨a, ws, rfl, q1, r1⟩ := p_tup py |>.2
        have rx := p_flat f px
        obtain ⟨h1, h2⟩ := inV_of f rx _ _ g r1
        exact ⟨a, ws, rfl, .inr q1, flat_of f rx, h1, h2⟩
      · cases e
    · cases e
  · split at e
    · rename_i f
      split at e
      · rename_i g
        cases e
        obtain ⟨a, ws, rfl, q1, r1⟩ := p_lst py
        have rx := p_flat f px
        obtain ⟨h1, h2⟩ := inV_of f rx _ _ g r1
        exact ⟨a, ws, rfl, .inl (.inl (.inl q1)), flat_of f rx, h1, h2⟩
      · cases e
    · cases e
theorem s_in {K : PySem.W.Frag} : OpS K (rIn K false) fIn := by
  intro H O x y v u Q d dom px py e q
  unfold fIn at e
  split at e <;> cases e
  rename_i b he
  obtain ⟨p, xs, rfl, h1, h2, h3, h4⟩ := inOf_ok px py he
  refine ⟨p, xs, rfl, h1, h2, h3, ?_⟩
  rw [h4]
  exact q _ H (Same.refl H) (by simp only [RelD]; rfl)
theorem s_notIn {K : PySem.W.Frag} : OpS K (rIn K true) fNotIn := by
  intro H O x y v u Q d dom px py e q
  unfold fNotIn at e
  split at e <;> cases e
  rename_i b he
  obtain ⟨p, xs, rfl, h1, h2, h3, h4⟩ := inOf_ok px py he
  refine ⟨p, xs, rfl, h1, h2, h3, ?_⟩
  rw [h4]
  exact q _ H (Same.refl H) (by simp only [RelD]; rfl)

/-! ### what is walked -/
def ItOk (F : Fx) (σ : St) (J : It) (ds : List D) (env1 : Ev) (H1 : Hp) : Prop :=
  ∃ (G : Hp → Prop) (Y : Nat → Hp → V → Hp → Prop), Walk J ds.length G Y ∧ (∀ O2 H2, Ext (Ow F env1 σ) H1 O2 H2 → G H2) ∧
    ∀ O2 i H2 x H3 d, Ext (Ow F env1 σ) H1 O2 H2 → (∀ a, O2 a → H2 a ≠ none) → Y i H2 x H3 → ds[i]? = some d → Same H2 H3 ∧ RelD F.K H3 O2 d x
def PostI (F : Fx) (C : Nat → Value) (W : WX) (env : Ev) (σ : St) (H : Hp) (R : It → Hp → Prop) : RA → Prop
  | .ok ds env' => ∀ J H', SR F env' σ H' → Ext (Ow F env σ) H (Ow F env' σ) H' → ItOk F σ J ds env' H' → R J H'
  | .ex c env' => ∀ H', SR F env' σ H' → Ext (Ow F env σ) H (Ow F env' σ) H' → W (C c) none σ H'
  | .bad => False
structure JI (X : Cx) (C : Nat → Value) (W : WX) (tg e : Expr) (m : MA) : Prop where
  run : ∃ t, PI X tg e t ∧ ∀ F env σ H R, F.K = X.K → SR F env σ H → PostI F C W env σ H R (m env) → t σ H R
theorem PI.or {X : Cx} {tg e : Expr} {w w' : TI} (h : PI X tg e w) (h' : PI X tg e w') : PI X tg e (fun σ H R => w σ H R ∨ w' σ H R) :=
  ⟨fun pins s σ H R I q => q.elim (h.run pins s σ H R I) (h'.run pins s σ H R I)⟩
theorem relD_tupC {K : PySem.W.Frag} {O O' : Addr → Prop} {H H' : Hp} {xs : List D} {a : Addr} {vs : List V} (q : (Rd H a (.tup vs) ∧ ¬ O a) ∨ KT K a vs) (x : Ext O H O' H') : SqT K H' a vs := by
  rcases q with ⟨q, n⟩ | q
  · exact .inl (x.rd q n).1
  · exact .inr q
def mIt (m : ME) : MA := fun e => match m e with
  | .ok (.lst xs) e1 => .ok xs e1
  | .ok (.tup xs) e1 => .ok xs e1
  | .ok _ _ => .bad
  | .ex c e1 => .ex c e1
  | .bad => .bad
section
variable {X : Cx} {C : Nat → Value} {W : WX}
theorem it_list {F : Fx} {σ : St} {a : Addr} {vs : List V} {xs : List D} {env1 : Ev} {H1 : Hp} (q : H1 a = some (.lst vs)) (n : ¬ Ow F env1 σ a) (r : RelL F.K H1 (Ow F env1 σ) xs vs) : ItOk F σ (Itl F.K a) xs env1 H1 := by
  refine ⟨fun H => SqL F.K H a vs, YAt vs, (by rw [relL_len r]; exact walk_list (xs := vs)), fun O2 H2 x => Or.inl (Or.inl (x.1 a _ q n)), fun O2 i H2 x H3 d e dom y hd => ?_⟩
  obtain ⟨rfl, hx⟩ := y
  obtain ⟨v, hv, rv⟩ := relL_get r hd
  rw [hv] at hx
  cases hx
  exact ⟨Same.refl _, rv.ext e⟩
theorem it_tup {F : Fx} {σ : St} {a : Addr} {vs : List V} {xs : List D} {env1 : Ev} {H1 : Hp} (q : (Rd H1 a (.tup vs) ∧ ¬ Ow F env1 σ a) ∨ KT F.K a vs) (r : RelL F.K H1 (Ow F env1 σ) xs vs) : ItOk F σ (Itt F.K a) xs env1 H1 := by
  refine ⟨fun H => SqT F.K H a vs, YAt vs, (by rw [relL_len r]; exact walk_tup (xs := vs)), fun O2 H2 x => relD_tupC (xs := xs) q x, fun O2 i H2 x H3 d e dom y hd => ?_⟩
  obtain ⟨rfl, hx⟩ := y
  obtain ⟨v, hv, rv⟩ := relL_get r hd
  rw [hv] at hx
  cases hx
  exact ⟨Same.refl _, rv.ext e⟩
theorem j_it {tg e : Expr} {m : ME} (h : JE X C W e m) : JI X C W tg e (mIt m) := by
  obtain ⟨t, p, q⟩ := h.run
  refine ⟨_, PI.or (pi_list p) (pi_tup p), fun F env σ H R k s z => ?_⟩
  unfold mIt at z
  cases e1 : m env with
  | ok x env1 =>
    rw [e1] at z
    cases x with
    | lst xs =>
      refine .inl (q F env σ H _ k s ?_)
      rw [e1]
      refine fun v H1 s1 x1 r => ?_
      simp only [RelD] at r
      obtain ⟨a, vs, rfl, q1, n1, r1⟩ := r
      refine ⟨a, rfl, ⟨vs, .inl (.inl q1)⟩, ?_⟩
      rw [← k]
      exact z _ H1 s1 x1 (it_list q1 n1 r1)
    | tup xs =>
      refine .inr (q F env σ H _ k s ?_)
      rw [e1]
      refine fun v H1 s1 x1 r => ?_
      simp only [RelD] at r
      obtain ⟨a, vs, rfl, q1, r1⟩ := r
      refine ⟨a, rfl, ⟨vs, by rw [← k]; exact relD_tupC (xs := xs) q1 .refl⟩, ?_⟩
      rw [← k]
      exact z _ H1 s1 x1 (it_tup q1 r1)
    | _ => exact z.elim
  | ex c env1 =>
    rw [e1] at z
    refine .inl (q F env σ H _ k s ?_)
    rw [e1]
    exact z
  | bad => rw [e1] at z; exact z.elim
/-- range -/
def ups (lo : Int) : Nat → List D
  | 0 => []
  | n + 1 => .int lo :: ups (lo + 1) n
theorem ups_len : ∀ (n : Nat) (lo : Int), (ups lo n).length = n
  | 0, _ => rfl
  | n + 1, lo => by unfold ups; rw [List.length_cons, ups_len n]
theorem ups_get : ∀ (n : Nat) (lo : Int) (i : Nat) (d : D), (ups lo n)[i]? = some d → d = .int (lo + i)
  | 0, _, i, d, h => by simp [ups] at h
  | n + 1, lo, 0, d, h => by simp [ups] at h; rw [← h]; simp
  | n + 1, lo, i + 1, d, h => by
    have := ups_get n (lo + 1) i d (by simpa [ups] using h)
    rw [this]
    congr 1
    simp only [Int.natCast_add]
    omega
def big (i : Int) : Bool := decide (-(2 ^ 62) ≤ i) && decide (i < 2 ^ 62)
theorem big_ok {i : Int} (h : big i = true) : -(2 ^ 62) ≤ i ∧ i < 2 ^ 62 := by
  unfold big at h
  simpa [Bool.and_eq_true, decide_eq_true_eq] using h
def mRange1 (ma : MA) : MA := fun e => match ma e with
  | .ok [.int j] e1 => (match big j with
    | true => .ok (ups 0 j.toNat) e1
    | false => .bad)
  | .ok _ _ => .bad
  | .ex c e1 => .ex c e1
  | .bad => .bad
def mRange2 (ma : MA) : MA := fun e => match ma e with
  | .ok [.int i, .int j] e1 => (match big i && big j with
    | true => .ok (ups i (j - i).toNat) e1
    | false => .bad)
  | .ok _ _ => .bad
  | .ex c e1 => .ex c e1
  | .bad => .bad
theorem it_range {F : Fx} {σ : St} {lo : Int} {n : Nat} {env1 : Ev} {H1 : Hp} : ItOk F σ (Itr lo n) (ups lo n) env1 H1 := by
  refine ⟨_, _, (by rw [ups_len]; exact walk_range (lo := lo) (n := n)), fun _ _ _ => trivial, fun O2 i H2 x H3 d e dom y hd => ?_⟩
  obtain ⟨rfl, rfl⟩ := y
  refine ⟨Same.refl _, ?_⟩
  rw [ups_get n lo i d hd]
  simp only [RelD]
theorem rel1 {K : PySem.W.Frag} {H : Hp} {O : Addr → Prop} {i : Int} {vs : List V} (h : RelL K H O [.int i] vs) : vs = [.int i] := by
  simp only [RelL, RelD] at h
  obtain ⟨v, r, rfl, rfl, rfl⟩ := h
  rfl
theorem rel2 {K : PySem.W.Frag} {H : Hp} {O : Addr → Prop} {i j : Int} {vs : List V} (h : RelL K H O [.int i, .int j] vs) : vs = [.int i, .int j] := by
  simp only [RelL, RelD] at h
  obtain ⟨v, r, rfl, rfl, u, r2, rfl, rfl, rfl⟩ := h
  rfl
theorem j_range1 {tg a : Expr} {ma : MA} {p pos : Pos} (hg : Gl X "range") (hm : X.mg "range" = none) (ha : JV X C W [a] ma) (hs : starEach [a] X.env = [(false, eval a X.env)]) : JI X C W tg (.Call (.Name "range" p) [a] [] pos) (mRange1 ma) := by
  obtain ⟨t, pa, q⟩ := ha.run
  refine ⟨_, pi_range1 hg hm pa hs, fun F env σ H R k s z => q F env σ H _ k s ?_⟩
  unfold mRange1 at z
  cases e1 : ma env with
  | ok xs env1 =>
    rw [e1] at z
    match xs, z with
    | [.int j], z =>
      dsimp only at z
      cases e2 : big j with
      | false => rw [e2] at z; exact z.elim
      | true =>
        rw [e2] at z
        obtain ⟨b1, b2⟩ := big_ok e2
        exact fun vs H1 s1 x1 r => ⟨j, rel1 r, b1, b2, z _ H1 s1 x1 it_range⟩
    | [], z => exact z.elim
    | [.non], z => exact z.elim
    | [.bl _], z => exact z.elim
    | [.str _], z => exact z.elim
    | [.tup _], z => exact z.elim
    | [.lst _], z => exact z.elim
    | [.dct _ _], z => exact z.elim
    | [.dtp _ _], z => exact z.elim
    | [.scr _], z => exact z.elim
    | a :: b :: c, z => cases a <;> exact z.elim
  | ex c env1 => rw [e1] at z; exact z
  | bad => rw [e1] at z; exact z
theorem j_range2 {tg a b : Expr} {ma : MA} {p pos : Pos} (hg : Gl X "range") (hm : X.mg "range" = none) (ha : JV X C W [a, b] ma) (hs : starEach [a, b] X.env = [(false, eval a X.env), (false, eval b X.env)]) (hs2 : starEach [b] X.env = [(false, eval b X.env)]) :
    JI X C W tg (.Call (.Name "range" p) [a, b] [] pos) (mRange2 ma) := by
  obtain ⟨t, pa, q⟩ := ha.run
  refine ⟨_, pi_range2 hg hm pa hs hs2, fun F env σ H R k s z => q F env σ H _ k s ?_⟩
  unfold mRange2 at z
  cases e1 : ma env with
  | ok xs env1 =>
    rw [e1] at z
    split at z
    · rename_i i j e e2
      cases e2
      split at z
      · rename_i e2
        rw [Bool.and_eq_true] at e2
        obtain ⟨b1, b2⟩ := big_ok e2.1
        obtain ⟨b3, b4⟩ := big_ok e2.2
        exact fun vs H1 s1 x1 r => ⟨i, j, rel2 r, ⟨b1, b2, b3, b4⟩, z _ H1 s1 x1 it_range⟩
      · exact z.elim
    · exact z.elim
    · rename_i h
      cases h
    · exact z.elim
  | ex c env1 => rw [e1] at z; exact z
  | bad => rw [e1] at z; exact z
/-- zip of two lists, or of two tuples -/
def pairs : List D → List D → List D
  | x :: xs, y :: ys => .tup [x, y] :: pairs xs ys
  | _, _ => []
theorem pairs_len : ∀ xs ys : List D, (pairs xs ys).length = min xs.length ys.length
  | [], ys => by simp [pairs]
  | _ :: _, [] => by simp [pairs]
  | x :: xs, y :: ys => by unfold pairs; simp only [List.length_cons]; rw [pairs_len xs ys]; omega
theorem pairs_get : ∀ (xs ys : List D) (i : Nat) (d : D), (pairs xs ys)[i]? = some d → ∃ x y, xs[i]? = some x ∧ ys[i]? = some y ∧ d = .tup [x, y]
  | [], ys, i, d, h => by simp [pairs] at h
  | _ :: _, [], i, d, h => by simp [pairs] at h
  | x :: xs, y :: ys, 0, d, h => by simp [pairs] at h; exact ⟨x, y, rfl, rfl, h.symm⟩
  | x :: xs, y :: ys, i + 1, d, h => by
    obtain ⟨a, b, h1, h2, h3⟩ := pairs_get xs ys i d (by simpa [pairs] using h)
    exact ⟨a, b, by simpa using h1, by simpa using h2, h3⟩
def mZip (ma : MA) : MA := fun e => match ma e with
  | .ok [.lst xs, .lst ys] e1 => .ok (pairs xs ys) e1
  | .ok [.tup xs, .tup ys] e1 => .ok (pairs xs ys) e1
  | .ok _ _ => .bad
  | .ex c e1 => .ex c e1
  | .bad => .bad
theorem it_pair {F : Fx} {σ : St} {J : It} {G : Hp → Prop} {vs us : List V} {xs ys : List D} {env1 : Ev} {H1 : Hp} {n : Nat} (hn : n = min vs.length us.length) (w : Walk J n G (YPair (fun i => vs[i]?) (fun i => us[i]?))) (g : ∀ O2 H2, Ext (Ow F env1 σ) H1 O2 H2 → G H2)
    (r : RelL F.K H1 (Ow F env1 σ) xs vs) (r' : RelL F.K H1 (Ow F env1 σ) ys us) : ItOk F σ J (pairs xs ys) env1 H1 := by
  refine ⟨_, _, (by rw [pairs_len, relL_len r, relL_len r', ← hn]; exact w), g, fun O2 i H2 x H3 d e dom y hd => ?_⟩
  obtain ⟨T, x1, x2, rfl, nT, rfl, e1, e2⟩ := y
  obtain ⟨a, b, h1, h2, rfl⟩ := pairs_get xs ys i d hd
  obtain ⟨v, hv, rv⟩ := relL_get r h1
  obtain ⟨u, hu, ru⟩ := relL_get r' h2
  dsimp only at e1 e2
  rw [hv] at e1
  rw [hu] at e2
  cases e1
  cases e2
  refine ⟨same_upd nT, rel_newT nT dom ?_⟩
  simp only [RelL]
  exact ⟨_, _, rfl, rv.ext e, _, _, rfl, ru.ext e, rfl⟩
theorem walk_zipT {K : PySem.W.Frag} {a b : Addr} {xs ys : List V} {n : Nat} (hn : n = min xs.length ys.length) : Walk (RZ.ItzT K a b) n (fun H => SqT K H a xs ∧ SqT K H b ys) (YPair (fun i => xs[i]?) (fun i => ys[i]?)) := by
  subst hn
  refine ⟨fun i H hi q => ?_, fun H q => ?_, fun i H x H' hi q y => ?_⟩
  · have h1 : i < xs.length := by omega
    have h2 : i < ys.length := by omega
    exact ⟨xs, ys, xs[i], ys[i], q.1, q.2, by simp [h1], by simp [h2]⟩
  · exact ⟨xs, ys, q.1, q.2, by omega⟩
  · obtain ⟨T, x1, x2, e1, e2, e3, f1, f2⟩ := y
    exact ⟨T, x1, x2, e1, e2, e3, f1 xs q.1, f2 ys q.2⟩
theorem j_zip {a b : Expr} {ma : MA} {p pos tpos : Pos} {elts : List Expr} {kk : Nat} (hg : Gl X "zip") (hm : X.mg "zip" = none) (ha : JV X C W [a, b] ma) (hs : starEach [a, b] X.env = (false, eval a X.env) :: starEach [b] X.env) (hpl : (backTo pos (starEach [b] X.env)).any (·.1) = false) :
    JI X C W (.Tuple elts kk tpos) (.Call (.Name "zip" p) [a, b] [] pos) (mZip ma) := by
  obtain ⟨t, pa, q⟩ := ha.run
  refine ⟨_, RZ.pi_zipA hg hm pa hs hpl, fun F env σ H R k s z => q F env σ H _ k s ?_⟩
  unfold mZip at z
  cases e1 : ma env with
  | ok xs env1 =>
    rw [e1] at z
    split at z
    · rename_i xs ys e e2
      cases e2
      refine fun vs H1 s1 x1 r => ?_
      simp only [RelL, RelD] at r
      obtain ⟨v, r0, rfl, ⟨a1, ws, rfl, q1, n1, r1⟩, u, r3, rfl, ⟨a2, us, rfl, q2, n2, r2⟩, rfl⟩ := r
      refine ⟨a1, a2, ws, us, rfl, .inl ⟨.inl (.inl q1), .inl (.inl q2), ?_⟩⟩
      refine z _ H1 s1 x1 (it_pair rfl (walk_zip rfl) (fun O2 H2 x => ⟨.inl (.inl (x.1 _ _ q1 n1)), .inl (.inl (x.1 _ _ q2 n2))⟩) r1 r2)
    · rename_i xs ys e e2
      cases e2
      refine fun vs H1 s1 x1 r => ?_
      simp only [RelL, RelD] at r
      obtain ⟨v, r0, rfl, ⟨a1, ws, rfl, q1, r1⟩, u, r3, rfl, ⟨a2, us, rfl, q2, r2⟩, rfl⟩ := r
      rw [← k]
      refine ⟨a1, a2, ws, us, rfl, .inr ⟨relD_tupC (xs := xs) q1 .refl, relD_tupC (xs := ys) q2 .refl, ?_⟩⟩
      refine z _ H1 s1 x1 (it_pair rfl (walk_zipT rfl) (fun O2 H2 x => ⟨relD_tupC (xs := xs) q1 x, relD_tupC (xs := ys) q2 x⟩) r1 r2)
    · exact z.elim
    · rename_i h
      cases h
    · exact z.elim
  | ex c env1 => rw [e1] at z; exact z
  | bad => rw [e1] at z; exact z
end
end MP

set_option Elab.async false
set_option linter.all false
set_option maxRecDepth 100000
set_option maxHeartbeats 4000000
namespace MP
open PySem PySem.Spec L2
open PyProof.Rows hiding St

/-! ### a slot gets a value -/
theorem lt_of_get {α : Type} {l : List α} {i : Nat} {x : α} (h : l[i]? = some x) : i < l.length := (List.getElem?_eq_some_iff.mp h).1
theorem get_set {α : Type} {l : List α} {i j : Nat} {x y : α} (h : (l.set i x)[j]? = some y) : (i = j ∧ y = x ∧ i < l.length) ∨ (i ≠ j ∧ l[j]? = some y) := by
  by_cases e : i = j
  · subst e
    have hl : i < l.length := by
      have := lt_of_get h
      rwa [List.length_set] at this
    rw [List.getElem?_set_self hl] at h
    exact .inl ⟨rfl, (Option.some.inj h).symm, hl⟩
  · rw [List.getElem?_set_ne e] at h
    exact .inr ⟨e, h⟩
section
variable {F : Fx} {env : Ev} {σ : St} {H : Hp}
theorem ow_set {i : Nat} {d : D} {v : V} (b : Addr) (h : Ow F (env.set i (.va d)) (σ.set i (some v)) b) : Ow F env σ b := by
  rcases h with h | ⟨j, d', h1, h2⟩
  · exact .inl h
  · rcases get_set h1 with ⟨_, z, _⟩ | ⟨e, h1⟩
    · cases z
    · rw [List.getElem?_set_ne e] at h2
      exact .inr ⟨j, d', h1, h2⟩
theorem SR.set (s : SR F env σ H) {i : Nat} {d : D} {v : V} (hi : i < env.length) (r : RelD F.K H (Ow F env σ) d v) : SR F (env.set i (.va d)) (σ.set i (some v)) H := by
  have x : Ext (Ow F env σ) H (Ow F (env.set i (.va d)) (σ.set i (some v))) H := Ext.sub fun b h => ow_set b h
  have hs : i < σ.length := by rw [← s.len]; exact hi
  refine ⟨s.fr, s.od, s.bo0, by rw [List.length_set, List.length_set]; exact s.len, fun j d' q => ?_, fun j d' q => ?_, fun j d' q => ?_, fun j d' q => ?_, fun j k b d1 d2 q1 q2 q3 q4 => ?_, fun j k b d1 d2 q1 q2 q3 q4 => ?_⟩
  · rcases get_set q with ⟨e, z, _⟩ | ⟨e, q⟩
    · subst e
      cases z
      exact ⟨v, List.getElem?_set_self hs, r.ext x⟩
    · obtain ⟨w, w1, w2⟩ := s.va j d' q
      exact ⟨w, by rw [List.getElem?_set_ne e]; exact w1, w2.ext x⟩
  · rcases get_set q with ⟨_, z, _⟩ | ⟨e, q⟩
    · cases z
    · obtain ⟨w, w1, w2, w3, w4⟩ := s.ow j d' q
      exact ⟨w, by rw [List.getElem?_set_ne e]; exact w1, w2, w3, w4.ext x rfl⟩
  · rcases get_set q with ⟨_, z, _⟩ | ⟨e, q⟩
    · cases z
    · obtain ⟨w, w1, w2, w4⟩ := s.bo j d' q
      exact ⟨w, by rw [List.getElem?_set_ne e]; exact w1, w2, w4.ext x rfl⟩
  · rcases get_set q with ⟨_, z, _⟩ | ⟨e, q⟩
    · cases z
    · obtain ⟨w, w1, w2, w3, w4⟩ := s.ro j d' q
      exact ⟨w, by rw [List.getElem?_set_ne e]; exact w1, w2, w3, w4.ext x rfl⟩
  · rcases get_set q1 with ⟨_, z, _⟩ | ⟨e1, q1⟩
    · cases z
    · rcases get_set q2 with ⟨_, z, _⟩ | ⟨e2, q2⟩
      · cases z
      · rw [List.getElem?_set_ne e1] at q3
        rw [List.getElem?_set_ne e2] at q4
        exact s.dj j k b d1 d2 q1 q2 q3 q4
  · rcases get_set q1 with ⟨_, z, _⟩ | ⟨e1, q1⟩
    · cases z
    · rcases get_set q2 with ⟨_, z, _⟩ | ⟨e2, q2⟩
      · cases z
      · rw [List.getElem?_set_ne e1] at q3
        rw [List.getElem?_set_ne e2] at q4
        exact s.djb j k b d1 d2 q1 q2 q3 q4
end
/-! ### targets -/
abbrev MT := D → Ev → Option Ev
structure JG (X : Cx) (tg : Expr) (mg : MT) (js : List Nat) : Prop where
  run : ∃ g, PG X tg g ∧ ∀ F env σ H d v env' Q, F.K = X.K → SR F env σ H → RelD F.K H (Ow F env σ) d v → mg d env = some env' →
    (∀ σ', SR F env' σ' H → (∀ b, Ow F env' σ' b → Ow F env σ b) → (∀ vs : List Nat, (∀ j ∈ js, j ∈ vs) → wipe σ' vs = wipe σ vs) → Q σ' H) → g v σ H Q
structure JGs (X : Cx) (tgs : List Expr) (mg : List D → Ev → Option Ev) (js : List Nat) : Prop where
  run : ∃ g, PGs X tgs g ∧ ∀ F env σ H ds vs env' Q, F.K = X.K → SR F env σ H → RelL F.K H (Ow F env σ) ds vs → mg ds env = some env' →
    (∀ σ', SR F env' σ' H → (∀ b, Ow F env' σ' b → Ow F env σ b) → (∀ vs : List Nat, (∀ j ∈ js, j ∈ vs) → wipe σ' vs = wipe σ vs) → Q σ' H) → g vs σ H Q
def mgName (i : Nat) : MT := fun d env => match Nat.blt i env.length with
  | true => some (env.set i (.va d))
  | false => none
theorem wipe_set {σ : St} {i : Nat} {v : Option V} : ∀ {vs : List Nat}, i ∈ vs → wipe (σ.set i v) vs = wipe σ vs
  | [], h => by simp at h
  | w :: ws, h => by
    unfold wipe
    by_cases hi : i ∈ ws
    · rw [wipe_set hi]
    · have e : i = w := by
        rcases List.mem_cons.mp h with h | h
        · exact h
        · exact absurd h hi
      subst e
      have gen : ∀ (ws : List Nat), i ∉ ws → (wipe (σ.set i v) ws) = (wipe σ ws).set i v := by
        intro ws
        induction ws with
        | nil => intro _; rfl
        | cons a r ih =>
          intro hn
          simp only [List.mem_cons, not_or] at hn
          show (wipe (σ.set i v) r).set a none = ((wipe σ r).set a none).set i v
          rw [ih hn.2]
          exact List.set_comm _ _ hn.1
      rw [gen ws hi, List.set_set]
theorem jg_name {X : Cx} {i : Nat} {x : Str} {pos : Pos} (hN : X.N.Nodup) (hi : X.N[i]? = some x) (hx : Loc X.env.scope x) (hf : X.fn x = true ∨ X.env.scope.names.lookup x = some .local) : JG X (.Name x pos) (mgName i) [i] := by
  refine ⟨gName i, pg_name hN hi hx hf, fun F env σ H d v env' Q k s r e z => ?_⟩
  unfold mgName at e
  split at e <;> cases e
  rename_i hl
  exact z _ (s.set (Nat.le_of_ble_eq_true hl) r) (fun b h => ow_set b h) fun vs h => wipe_set (h i (by simp))
def mgsNil : List D → Ev → Option Ev := fun ds env => match ds with
  | [] => some env
  | _ => none
def mgsCons (m : MT) (ms : List D → Ev → Option Ev) : List D → Ev → Option Ev := fun ds env => match ds with
  | d :: r => (match m d env with
    | some e1 => ms r e1
    | none => none)
  | [] => none
theorem jgs_nil {X : Cx} : JGs X [] mgsNil [] := by
  refine ⟨gNil, pgs_nil, fun F env σ H ds vs env' Q k s r e z => ?_⟩
  unfold mgsNil at e
  split at e <;> cases e
  simp only [RelL] at r
  exact ⟨r, z σ s (fun _ h => h) fun _ _ => rfl⟩
theorem jgs_cons {X : Cx} {tg : Expr} {tgs : List Expr} {m : MT} {ms : List D → Ev → Option Ev} {js ks : List Nat} (h : JG X tg m js) (hs : JGs X tgs ms ks) (hz : (assignEach (tg :: tgs) X.env).map (·.2) = assign tg X.env :: (assignEach tgs X.env).map (·.2)) : JGs X (tg :: tgs) (mgsCons m ms) (js ++ ks) := by
  obtain ⟨g, pg, q⟩ := h.run
  obtain ⟨g2, pg2, q2⟩ := hs.run
  refine ⟨_, pgs_cons pg pg2 hz, fun F env σ H ds vs env' Q k s r e z => ?_⟩
  unfold mgsCons at e
  split at e
  · rename_i d ds'
    split at e
    · rename_i e1 he
      simp only [RelL] at r
      obtain ⟨v, u, rfl, r1, r2⟩ := r
      refine ⟨v, u, rfl, q F env σ H d v e1 _ k s r1 he fun σ1 s1 sub w1 => ?_⟩
      refine q2 F e1 σ1 H ds' u env' _ k s1 (RelL.ext (Ext.sub sub) _ _ r2) e fun σ2 s2 sub2 w2 => ?_
      exact z σ2 s2 (fun b h => sub b (sub2 b h)) fun vs h => (w2 vs fun j hj => h j (List.mem_append_right _ hj)).trans (w1 vs fun j hj => h j (List.mem_append_left _ hj))
    · cases e
  · cases e
def mgTup (n : Nat) (ms : List D → Ev → Option Ev) : MT := fun d env => match d with
  | .tup ds => (match Nat.beq ds.length n with
    | true => ms ds env
    | false => none)
  | _ => none
theorem jg_tup {X : Cx} {es : List Expr} {ms : List D → Ev → Option Ev} {js : List Nat} {kk n : Nat} {pos : Pos} (hc : X.calm = true) (h : JGs X es ms js) (hn : (assignEach es X.env).length = n) (hst : (assignEach es X.env).findIdx? (·.1) = none) :
    JG X (.Tuple es kk pos) (mgTup n ms) js := by
  obtain ⟨g, pg, q⟩ := h.run
  refine ⟨_, pg_tup hc pg hn hst, fun F env σ H d v env' Q k s r e z => ?_⟩
  unfold mgTup at e
  split at e
  · rename_i ds
    split at e
    · rename_i hl
      simp only [RelD] at r
      obtain ⟨a, vs, rfl, q1, r1⟩ := r
      refine ⟨a, vs, rfl, by rw [← k]; exact relD_tupC (xs := ds) q1 .refl, by rw [← relL_len r1]; exact Nat.eq_of_beq_eq_true hl, ?_⟩
      exact q F env σ H ds vs env' _ k s r1 e z
    · cases e
  · cases e

/-! ### comprehensions -/
def roE : Sl → Sl
  | .ow d => .ro d
  | .bo d => .ro d
  | x => x
def wipeE (env : Ev) : List Nat → Ev
  | [] => env
  | v :: vs => (wipeE env vs).set v .no
def lcGo (mg : MT) (mt : ME) (me : ME) (benv : Ev) : List D → List D → Option (List D)
  | [], acc => some acc
  | d :: ds, acc => (match mg d benv with
    | some e1 => (match mt e1 with
      | .ok (.bl true) e2 => (match me e2 with
        | .ok y _ => lcGo mg mt me benv ds (acc ++ [y])
        | _ => none)
      | .ok (.bl false) _ => lcGo mg mt me benv ds acc
      | _ => none)
    | none => none)
def mLc (mi : MA) (vs : List Nat) (mg : MT) (mt : ME) (me : ME) : ME := fun env => match mi env with
  | .ok ds e1 => (match Nat.blt ds.length line with
    | true => (match lcGo mg mt me (wipeE (e1.map roE) vs) ds [] with
      | some ys => .ok (.lst ys) e1
      | none => .bad)
    | false => .bad)
  | .ex c e1 => .ex c e1
  | .bad => .bad
theorem wipeE_len (env : Ev) : ∀ vs : List Nat, (wipeE env vs).length = env.length
  | [] => rfl
  | v :: vs => by unfold wipeE; rw [List.length_set, wipeE_len env vs]
theorem wipe_both {env : Ev} {σ : St} (hl : env.length = σ.length) : ∀ {vs : List Nat} {i : Nat} {x : Sl}, (wipeE env vs)[i]? = some x → x = .no ∨ (env[i]? = some x ∧ (wipe σ vs)[i]? = σ[i]?)
  | [], i, x, h => .inr ⟨h, rfl⟩
  | v :: vs, i, x, h => by
    unfold wipeE at h
    rcases get_set h with ⟨_, z, _⟩ | ⟨e, h⟩
    · exact .inl z
    · rcases wipe_both hl h with z | ⟨h1, h2⟩
      · exact .inl z
      · refine .inr ⟨h1, ?_⟩
        unfold wipe
        rw [List.getElem?_set_ne e]
        exact h2
theorem roE_get {env : Ev} {i : Nat} {x : Sl} (h : (env.map roE)[i]? = some x) : ∃ y, env[i]? = some y ∧ x = roE y := by
  rw [List.getElem?_map] at h
  cases e : env[i]? with
  | none => rw [e] at h; cases h
  | some y => rw [e] at h; exact ⟨y, rfl, (Option.some.inj h).symm⟩
/-- the state of a comprehension's block -/
theorem SR.block {F : Fx} {env : Ev} {σ : St} {H1 H : Hp} {D0 : Addr} {vs : List Nat} (s : SR F env σ H1) (n : H1 D0 = none) (g : Same H1 H) (t : H D0 ≠ none) :
    SR ⟨F.K, fun a => Ow F env σ a ∨ a = D0, H, fun _ => False⟩ (wipeE (env.map roE) vs) (wipe σ vs) H ∧
      ∀ b, Ow ⟨F.K, fun a => Ow F env σ a ∨ a = D0, H, fun _ => False⟩ (wipeE (env.map roE) vs) (wipe σ vs) b ↔ (Ow F env σ b ∨ b = D0) := by
  have st : ∀ a, H1 a ≠ none → H a = H1 a := fun a n => by
    cases e : H1 a with
    | none => exact absurd e n
    | some o => rw [g a o e]
  have noow : ∀ {i : Nat} {d : D}, (wipeE (env.map roE) vs)[i]? = some (.ow d) → False := fun {i d} h => by
    rcases wipe_both (σ := σ) (by rw [List.length_map]; exact s.len) h with z | ⟨h1, _⟩
    · cases z
    · obtain ⟨y, _, e⟩ := roE_get h1
      cases y <;> cases e
  have nobo : ∀ {i : Nat} {d : D}, (wipeE (env.map roE) vs)[i]? = some (.bo d) → False := fun {i d} h => by
    rcases wipe_both (σ := σ) (by rw [List.length_map]; exact s.len) h with z | ⟨h1, _⟩
    · cases z
    · obtain ⟨y, _, e⟩ := roE_get h1
      cases y <;> cases e
  have oeq : ∀ b, Ow ⟨F.K, fun a => Ow F env σ a ∨ a = D0, H, fun _ => False⟩ (wipeE (env.map roE) vs) (wipe σ vs) b ↔ (Ow F env σ b ∨ b = D0) := fun b =>
    ⟨fun h => h.elim id fun ⟨i, d, h1, _⟩ => (noow h1).elim, fun h => .inl h⟩
  have x : Ext (Ow F env σ) H1 (Ow ⟨F.K, fun a => Ow F env σ a ∨ a = D0, H, fun _ => False⟩ (wipeE (env.map roE) vs) (wipe σ vs)) H :=
    ⟨fun b o h _ => g b o h, fun b h => ((oeq b).mp h).elim .inl fun e => .inr (e ▸ n)⟩
  refine ⟨⟨fun b o h _ => h, fun a h => ?_, fun _ h => h.elim, by rw [wipeE_len, wipe_length, List.length_map]; exact s.len, fun i d h => ?_, fun i d h => (noow h).elim, fun i d h => (nobo h).elim, fun i d h => ?_,
    fun i j a d d' h => (noow h).elim, fun i j a d d' h => (nobo h).elim⟩, oeq⟩
  · rcases h with h | h
    · rw [st a (s.dom h)]; exact s.dom h
    · rw [h]; exact t
  · rcases wipe_both (σ := σ) (by rw [List.length_map]; exact s.len) h with z | ⟨h1, h2⟩
    · cases z
    · obtain ⟨y, hy, e⟩ := roE_get h1
      cases y <;> cases e
      obtain ⟨v, w1, w2⟩ := s.va i d hy
      exact ⟨v, h2.trans w1, w2.ext x⟩
  · rcases wipe_both (σ := σ) (by rw [List.length_map]; exact s.len) h with z | ⟨h1, h2⟩
    · cases z
    · obtain ⟨y, hy, e⟩ := roE_get h1
      cases y <;> cases e
      · obtain ⟨a, w1, _, _, w4⟩ := s.ow i d hy
        exact ⟨a, h2.trans w1, .inl (.inr ⟨i, d, hy, w1⟩), fun z => z, w4.ext x (st a w4.some)⟩
      · obtain ⟨a, w1, w2, w4⟩ := s.bo i d hy
        exact ⟨a, h2.trans w1, .inl (.inl (s.bo0 a w2)), fun z => z, w4.ext x (st a w4.some)⟩
      · obtain ⟨a, w1, w2, _, w4⟩ := s.ro i d hy
        exact ⟨a, h2.trans w1, .inl (.inl w2), fun z => z, w4.ext x (st a w4.some)⟩
def mYes : ME := fun e => .ok (.bl true) e
/-- a clause's tests -/
structure JTs (X : Cx) (C : Nat → Value) (W : WX) (ifs : List Expr) (m : ME) : Prop where
  run : ∃ t, PTs X ifs t ∧ ∀ F env σ H Q, F.K = X.K → SR F env σ H → PostT F C W env σ H Q (m env) → t σ H Q
theorem jts_nil {X : Cx} {C : Nat → Value} {W : WX} : JTs X C W [] mYes := ⟨_, pts_nil, fun F env σ H Q k s z => by
  obtain ⟨b, e, z⟩ := z
  cases e
  exact z H s .refl⟩
theorem jts_one {X : Cx} {C : Nat → Value} {W : WX} {e : Expr} {m : ME} (h : JT X C W e m) : JTs X C W [e] m := by
  obtain ⟨t, p, q⟩ := h.run
  exact ⟨_, pts_one p, q⟩
abbrev W0 : WX := fun _ _ _ _ => False
section
variable {X : Cx} {C : Nat → Value} {W : WX}
/-- a comprehension: what it makes is new (Q is asked at a new place) -/
theorem lc_run {wi : TI} {g : TG} {tt : TT} {te : TE} {vs js : List Nat} {mi : MA} {mg : MT} {mt me : ME} {F : Fx} {env : Ev} {σ : St} {H : Hp} {Q : VK} (k : F.K = X.K)
    (qi : ∀ F env σ H R, F.K = X.K → SR F env σ H → PostI F C W env σ H R (mi env) → wi σ H R)
    (qg : ∀ F env σ H d v env' Q, F.K = X.K → SR F env σ H → RelD F.K H (Ow F env σ) d v → mg d env = some env' →
      (∀ σ', SR F env' σ' H → (∀ b, Ow F env' σ' b → Ow F env σ b) → (∀ vs : List Nat, (∀ j ∈ js, j ∈ vs) → wipe σ' vs = wipe σ vs) → Q σ' H) → g v σ H Q)
    (qt : ∀ F env σ H Q, F.K = X.K → SR F env σ H → PostT F C W0 env σ H Q (mt env) → tt σ H Q)
    (qe : ∀ F env σ H Q, F.K = X.K → SR F env σ H → PostE F C W0 env σ H Q (me env) → te σ H Q) (hj : ∀ j ∈ js, j ∈ vs) (s : SR F env σ H)
    (z : match mLc mi vs mg mt me env with
      | .ok d env' => ∃ ys, d = .lst ys ∧ ∀ p H1 H' ws, SR F env' σ H1 → Ext (Ow F env σ) H (Ow F env' σ) H1 → H1 p = none → Same H1 H' → H' p = some (.lst ws) → RelL F.K H' (fun a => Ow F env' σ a ∨ a = p) ys ws → Q (.ref p) H'
      | .ex c env' => ∀ H', SR F env' σ H' → Ext (Ow F env σ) H (Ow F env' σ) H' → W (C c) none σ H'
      | .bad => False) : tLc wi g tt te vs σ H Q := by
  refine qi F env σ H _ k s ?_
  unfold mLc at z
  cases e1 : mi env with
  | bad => rw [e1] at z; exact z
  | ex c env1 => rw [e1] at z; exact z
  | ok ds env1 =>
    rw [e1] at z
    dsimp only at z
    cases hl : Nat.blt ds.length line with
    | false => rw [hl] at z; exact z.elim
    | true =>
      rw [hl] at z
      dsimp only at z
      have hlen : ds.length < sizeLine := line_lt hl
      cases e2 : lcGo mg mt me (wipeE (env1.map roE) vs) ds [] with
      | none => rw [e2] at z; exact z.elim
      | some ys =>
        rw [e2] at z
        obtain ⟨_, e0, z⟩ := z
        cases e0
        intro J H1 s1 x1 it D0 nD
        obtain ⟨G, Y, wk, hG, hY⟩ := it
        refine lc_it wk (fun i H2 => Same H1 H2 ∧ ∃ acc ws, acc.length ≤ i ∧ lcGo mg mt me (wipeE (env1.map roE) vs) (ds.drop i) acc = some ys ∧ H2 D0 = some (.lst ws) ∧ RelL F.K H2 (fun a => Ow F env1 σ a ∨ a = D0) acc ws) ?_ ?_ ?_ ?_
        · refine ⟨same_upd nD, [], [], Nat.le_refl _, by rw [List.drop_zero]; exact e2, upd_same, by simp only [RelL]⟩
        · rintro i H2 hi ⟨g, _⟩
          exact hG _ _ (Ext.of g)
        · rintro i x H2 H3 hi ⟨g, acc, ws, hac, e3, hD, ra⟩ y
          obtain ⟨d, hd⟩ : ∃ d, ds[i]? = some d := ⟨_, List.getElem?_eq_getElem hi⟩
          have ex : Ext (Ow F env1 σ) H1 (fun a => Ow F env1 σ a ∨ a = D0) H2 := ⟨fun b o h _ => g b o h, fun b h => h.elim .inl fun e => .inr (e ▸ nD)⟩
          have dom2 : ∀ a, (Ow F env1 σ a ∨ a = D0) → H2 a ≠ none := fun a h => by
            rcases h with h | h
            · cases q : H1 a with
              | none => exact absurd q (s1.dom h)
              | some o => rw [g a o q]; intro z; cases z
            · rw [h, hD]; intro z; cases z
          obtain ⟨g23, rx⟩ := hY _ i H2 x H3 d ex dom2 y hd
          have g3 : Same H1 H3 := g.trans g23
          have hD3 : H3 D0 = some (.lst ws) := g23 _ _ hD
          obtain ⟨sb, ob⟩ := s1.block (D0 := D0) (vs := vs) nD g3 (by rw [hD3]; intro z; cases z)
          rw [List.drop_eq_getElem_cons hi] at e3
          have ed : ds[i] = d := by
            have := List.getElem?_eq_getElem hi
            rw [hd] at this
            exact (Option.some.inj this).symm
          rw [ed] at e3
          simp only [lcGo] at e3
          cases e4 : mg d (wipeE (env1.map roE) vs) with
          | none => rw [e4] at e3; cases e3
          | some env2 =>
            rw [e4] at e3
            dsimp only at e3
            refine qg ⟨F.K, fun a => Ow F env1 σ a ∨ a = D0, H3, fun _ => False⟩ _ _ H3 d x env2 _ k sb ?_ e4 fun σ2 s2 sub2 w2 => ⟨?_, ?_⟩
            · exact rx.ext (Ext.sub fun b h => (ob b).mp h)
            · rw [w2 vs hj]
              clear w2 e4 e2
              have idem : ∀ ws : List Nat, (∀ w ∈ ws, w ∈ vs) → wipe (wipe σ vs) ws = wipe σ vs := by
                intro ws
                induction ws with
                | nil => intro _; rfl
                | cons w r ih =>
                  intro h
                  show (wipe (wipe σ vs) r).set w none = wipe σ vs
                  rw [ih fun u hu => h u (List.mem_cons_of_mem _ hu)]
                  have hw := h w (List.mem_cons_self ..)
                  have gen : ∀ us : List Nat, w ∈ us → (wipe σ us).set w none = wipe σ us := by
                    intro us
                    induction us with
                    | nil => intro h; simp at h
                    | cons u us ih2 =>
                      intro h
                      show ((wipe σ us).set u none).set w none = (wipe σ us).set u none
                      by_cases e : u = w
                      · subst e; rw [List.set_set]
                      · rw [List.set_comm _ _ e]
                        rcases List.mem_cons.mp h with h | h
                        · exact absurd h.symm e
                        · rw [ih2 h]
                  exact gen vs hw
              exact idem vs fun _ h => h
            · refine qt ⟨F.K, fun a => Ow F env1 σ a ∨ a = D0, H3, fun _ => False⟩ _ _ H3 _ k s2 ?_
              cases e5 : mt env2 with
              | bad => rw [e5] at e3; cases e3
              | ex c env3 => rw [e5] at e3; cases e3
              | ok b env3 =>
                rw [e5] at e3
                cases b with
                | bl c =>
                  refine ⟨c, rfl, fun H4 s4 x4 => ?_⟩
                  have g34 : Same H3 H4 := fun b o h => s4.fr b o h fun z => z
                  cases c with
                  | false =>
                    refine iteF ⟨g3.trans g34, acc, ws, by omega, ?_, g34 _ _ hD3, ?_⟩
                    · exact e3
                    · exact RelL.ext (Ext.of (g23.trans g34)) _ _ ra
                  | true =>
                    dsimp only at e3
                    refine iteT (qe ⟨F.K, fun a => Ow F env1 σ a ∨ a = D0, H3, fun _ => False⟩ _ _ H4 _ k s4 ?_)
                    cases e6 : me env3 with
                    | bad => rw [e6] at e3; cases e3
                    | ex c env4 => rw [e6] at e3; cases e3
                    | ok w env4 =>
                      rw [e6] at e3
                      refine fun v5 H5 s5 x5 r5 => ?_
                      have g35 : Same H3 H5 := fun b o h => s5.fr b o h fun z => z
                      have hD5 : H5 D0 = some (.lst ws) := g35 _ _ hD3
                      have r5' : RelD F.K H5 (fun a => Ow F env1 σ a ∨ a = D0) w v5 := r5.ext (Ext.sub fun b h => .inl h)
                      have ra5 : RelL F.K H5 (fun a => Ow F env1 σ a ∨ a = D0) acc ws := RelL.ext (Ext.of (g23.trans g35)) _ _ ra
                      have up : Ext (fun a => Ow F env1 σ a ∨ a = D0) H5 (fun a => Ow F env1 σ a ∨ a = D0) (upd H5 D0 (.lst (ws ++ [v5]))) := by
                        refine ⟨fun b o h n => ?_, fun b h => .inl h⟩
                        have : b ≠ D0 := fun e => n (.inr e)
                        rw [upd_ne this]; exact h
                      refine ⟨ws, hD5, by rw [← relL_len ra5]; omega, ?_, acc ++ [w], ws ++ [v5], by rw [List.length_append]; simp; omega, ?_, upd_same, ?_⟩
                      · refine fun b o h => ?_
                        have : b ≠ D0 := ne_of_none h nD
                        rw [upd_ne this]
                        exact g3.trans g35 b o h
                      · exact e3
                      · refine relL_app (RelL.ext up _ _ ra5) ?_
                        simp only [RelL]
                        exact ⟨v5, [], rfl, r5'.ext up, rfl⟩
                | _ => cases e3
        · rintro H2 ⟨g, acc, ws, hac, e3, hD, ra⟩
          rw [List.drop_length] at e3
          simp only [lcGo, Option.some.injEq] at e3
          subst e3
          exact z D0 H1 H2 ws s1 x1 nD g hD ra
end
end MP

set_option Elab.async false
set_option linter.all false
set_option maxRecDepth 100000
set_option maxHeartbeats 4000000
namespace MP
open PySem PySem.Spec L2
open PyProof.Rows hiding St

/-! ### what is new: at a place that was free -/
def PostF (F : Fx) (C : Nat → Value) (W : WX) (env : Ev) (σ : St) (H : Hp) (Q : VK) : RE → Prop
  | .ok d env' => ∀ p H1 H', SR F env' σ H1 → Ext (Ow F env σ) H (Ow F env' σ) H1 → H1 p = none → Same H1 H' → CRel F.K H' (fun a => Ow F env' σ a ∨ a = p) d p → Q (.ref p) H'
  | .ex c env' => ∀ H', SR F env' σ H' → Ext (Ow F env σ) H (Ow F env' σ) H' → W (C c) none σ H'
  | .bad => False
structure JF (X : Cx) (C : Nat → Value) (W : WX) (e : Expr) (m : ME) : Prop where
  run : ∃ t, PE X e t ∧ ∀ F env σ H Q, F.K = X.K → SR F env σ H → PostF F C W env σ H Q (m env) → t σ H Q
/-- a new list as a value -/
def isLst : D → Bool
  | .lst _ => true
  | _ => false
def mAsV (m : ME) : ME := fun e => match m e with
  | .ok (.lst xs) e1 => .ok (.lst xs) e1
  | .ok _ _ => .bad
  | .ex c e1 => .ex c e1
  | .bad => .bad
section
variable {X : Cx} {C : Nat → Value} {W : WX}
theorem JF.e {e : Expr} {m : ME} (h : JF X C W e m) : JE X C W e (mAsV m) := by
  obtain ⟨t, p, q⟩ := h.run
  refine ⟨t, p, fun F env σ H Q k s z => q F env σ H Q k s ?_⟩
  unfold mAsV at z
  cases e1 : m env with
  | ok d env1 =>
    rw [e1] at z
    cases d with
    | lst xs =>
      refine fun p H1 H' s1 x1 n g c => z _ H' (s1.grow g) (x1.trans (Ext.of g)) ?_
      simp only [CRel] at c
      obtain ⟨vs, c1, c2⟩ := c
      simp only [RelD]
      exact ⟨p, vs, rfl, c1, s1.new n, RelL.ext (Ext.sub fun b h => .inl h) _ _ c2⟩
    | _ => exact z.elim
  | ex c env1 => rw [e1] at z; exact z
  | bad => rw [e1] at z; exact z
theorem ext_new {F : Fx} {env : Ev} {σ : St} {H : Hp} {p : Addr} (n : H p = none) {H' : Hp} (g : Same H H') : Ext (Ow F env σ) H (fun a => Ow F env σ a ∨ a = p) H' :=
  ⟨fun b o h _ => g b o h, fun b h => h.elim .inl fun e => .inr (e ▸ n)⟩
theorem jf_lst {es : List Expr} {ma : MA} {pos : Pos} (h : JV X C W es ma) : JF X C W (.List es pos) (mLst ma) := by
  obtain ⟨t, p, q⟩ := h.run
  refine ⟨_, pe_lst p, fun F env σ H Q k s z => q F env σ H _ k s ?_⟩
  unfold mLst at z
  cases e1 : ma env with
  | ok xs env1 =>
    rw [e1] at z
    dsimp only at z
    cases hl : Nat.ble xs.length line with
    | true =>
      rw [hl] at z
      refine fun vs H1 s1 x1 r => ⟨by rw [← relL_len r]; exact line_le hl, fun p np => ?_⟩
      refine z p H1 _ s1 x1 np (same_upd np) ?_
      simp only [CRel]
      exact ⟨vs, upd_same, RelL.ext (ext_new np (same_upd np)) _ _ r⟩
    | false => rw [hl] at z; exact z.elim
  | ex c env1 => rw [e1] at z; exact z
  | bad => rw [e1] at z; exact z
def mNewD : ME := fun e => .ok (.dct [] []) e
def mNewT : ME := fun e => .ok (.dtp [] []) e
theorem jf_dict {pos : Pos} : JF X C W (.Dict [] [] pos) mNewD := by
  refine ⟨_, pe_dnewK, fun F env σ H Q k s z p n => z p H _ s .refl n (same_upd n) ?_⟩
  simp only [CRel]
  exact ⟨[], upd_same, rfl, by simp only [RelL]⟩
theorem jf_dictT {pos : Pos} : JF X C W (.Dict [] [] pos) mNewT := by
  refine ⟨_, pe_dnewT, fun F env σ H Q k s z p n => z p H _ s .refl n (same_upd n) ?_⟩
  simp only [CRel]
  exact ⟨[], upd_same, rfl, by simp only [RelL]⟩
/-- [0] * n -/
def mRep (m1 m2 : ME) : ME := fun e => match m1 e with
  | .ok (.lst a) e1 => (match m2 e1 with
    | .ok (.int k) e2 => (match Nat.ble (a.length * k.toNat) line && (decide (-(2 ^ 63) ≤ k) && decide (k < 2 ^ 63)) with
      | true => .ok (.lst (List.replicate k.toNat a).flatten) e2
      | false => .bad)
    | .ok _ _ => .bad
    | .ex c e2 => .ex c e2
    | .bad => .bad)
  | .ok _ _ => .bad
  | .ex c e1 => .ex c e1
  | .bad => .bad
theorem jf_rep {a b : Expr} {m1 m2 : ME} {pos : Pos} (ha : JE X C W a m1) (hb : JE X C W b m2) : JF X C W (.BinOp a .Mult b pos) (mRep m1 m2) := by
  obtain ⟨t, p, q⟩ := ha.run
  obtain ⟨t2, p2, q2⟩ := hb.run
  refine ⟨_, pe_op op_rep p p2, fun F env σ H Q k s z => q F env σ H _ k s ?_⟩
  unfold mRep at z
  cases e1 : m1 env with
  | ok d env1 =>
    rw [e1] at z
    refine fun v H1 s1 x1 r1 => q2 F env1 σ H1 _ k s1 ?_
    cases d with
    | lst xs =>
      dsimp only at z
      cases e2 : m2 env1 with
      | ok d2 env2 =>
        rw [e2] at z
        refine fun u H2 s2 x2 r2 => ?_
        cases d2 with
        | int kk =>
          dsimp only at z
          split at z
          · rename_i hl
            simp only [Bool.and_eq_true, decide_eq_true_eq] at hl
            obtain ⟨h1, h2, h3⟩ := hl
            have r1 := r1.ext x2
            simp only [RelD] at r1 r2
            obtain ⟨w, ws, rfl, q1, n1, r1⟩ := r1
            refine ⟨w, kk, ws, rfl, r2, q1, h2, h3, by rw [← relL_len r1]; exact line_le h1, fun p np => ?_⟩
            refine z p H2 _ s2 (x1.trans x2) np (same_upd np) ?_
            simp only [CRel]
            exact ⟨_, upd_same, RelL.ext (ext_new np (same_upd np)) _ _ (relL_repL r1 _)⟩
          · exact z.elim
        | _ => exact z.elim
      | ex c env2 => rw [e2] at z; exact fun H' s' x' => z H' s' (x1.trans x')
      | bad => rw [e2] at z; exact z
    | _ => exact z.elim
  | ex c env1 => rw [e1] at z; exact z
  | bad => rw [e1] at z; exact z
def cE (K : PySem.W.Frag) (C : Nat → Value) (W : WX) (m : ME) : TE := fun σ H Q => ∃ F env, F.K = K ∧ SR F env σ H ∧ PostE F C W env σ H Q (m env)
theorem JE.canon {e : Expr} {m : ME} (h : JE X C W e m) : PE X e (cE X.K C W m) := by
  obtain ⟨t, p, q⟩ := h.run
  exact ⟨fun pins s σ H Q I z => by
    obtain ⟨F, env, k, sr, z⟩ := z
    exact p.run pins s σ H Q I (q F env σ H Q k sr z)⟩
def cTs (K : PySem.W.Frag) (C : Nat → Value) (W : WX) (m : ME) : TT := fun σ H Q => ∃ F env, F.K = K ∧ SR F env σ H ∧ PostT F C W env σ H Q (m env)
theorem JTs.canon {es : List Expr} {m : ME} (h : JTs X C W es m) : PTs X es (cTs X.K C W m) := by
  obtain ⟨t, p, q⟩ := h.run
  exact ⟨fun pins s σ H Q I z => by
    obtain ⟨F, env, k, sr, z⟩ := z
    exact p.run pins s σ H Q I (q F env σ H Q k sr z)⟩
def cG (K : PySem.W.Frag) (mg : MT) (js : List Nat) : TG := fun v σ H Q => ∃ F env d env', F.K = K ∧ SR F env σ H ∧ RelD F.K H (Ow F env σ) d v ∧ mg d env = some env' ∧
  (∀ σ', SR F env' σ' H → (∀ b, Ow F env' σ' b → Ow F env σ b) → (∀ vs : List Nat, (∀ j ∈ js, j ∈ vs) → wipe σ' vs = wipe σ vs) → Q σ' H)
theorem JG.canon {e : Expr} {mg : MT} {js : List Nat} (h : JG X e mg js) : PG X e (cG X.K mg js) := by
  obtain ⟨g, p, q⟩ := h.run
  exact ⟨fun pins s σ H v u Q I r z => by
    obtain ⟨F, env, d, env', k, sr, rel, e, z⟩ := z
    exact p.run pins s σ H v u Q I r (q F env σ H d v env' Q k sr rel e z)⟩
/-- [e for x in xs if t] -/
theorem jf_lc {elt tg iter : Expr} {ifs : List Expr} {scope : Scope} {own : List (Str × Nat)} {pos : Pos} {js : List Nat} {mi : MA} {mg : MT} {mt me : ME} (hc : X.calm = true) (hN : X.N.Nodup) (hi : JI X C W tg iter mi) (ok : BlkOk X.N X.env.scope scope own)
    (hg : ∀ (s : Shared) (H : Hp) (A : Addr) (cl : List (Str × Addr)) (fp : List Addr), JG (X.blk s H scope (compEnvC scope cl A X.env) fp) tg mg js)
    (ht : ∀ (s : Shared) (H : Hp) (A : Addr) (cl : List (Str × Addr)) (fp : List Addr), JTs (X.blk s H scope (compEnvC scope cl A X.env) fp) C W0 ifs mt)
    (he : ∀ (s : Shared) (H : Hp) (A : Addr) (cl : List (Str × Addr)) (fp : List Addr), JE (X.blk s H scope (compEnvC scope cl A X.env) fp) C W0 elt me)
    (hj : ∀ j ∈ js, j ∈ own.map (·.2)) (hs : ∀ x, foldedSetIterable iter X.env x = pure x) : JF X C W (.ListComp elt [⟨tg, iter, ifs, 0⟩] scope pos) (mLc mi (own.map (·.2)) mg mt me) := by
  obtain ⟨wi, pi, qi⟩ := hi.run
  have pg := fun s H A cl fp => (hg s H A cl fp).canon
  have pt := fun s H A cl fp => (ht s H A cl fp).canon
  have pe := fun s H A cl fp => (he s H A cl fp).canon
  have qg : ∀ F env σ H d v env' Q, F.K = X.K → SR F env σ H → RelD F.K H (Ow F env σ) d v → mg d env = some env' → (∀ σ', SR F env' σ' H → (∀ b, Ow F env' σ' b → Ow F env σ b) → (∀ vs : List Nat, (∀ j ∈ js, j ∈ vs) → wipe σ' vs = wipe σ vs) → Q σ' H) → cG X.K mg js v σ H Q :=
    fun F env σ H d v env' Q k sr rel e z => ⟨F, env, d, env', k, sr, rel, e, z⟩
  have qt : ∀ F env σ H Q, F.K = X.K → SR F env σ H → PostT F C W0 env σ H Q (mt env) → cTs X.K C W0 mt σ H Q := fun F env σ H Q k sr z => ⟨F, env, k, sr, z⟩
  have qe : ∀ F env σ H Q, F.K = X.K → SR F env σ H → PostE F C W0 env σ H Q (me env) → cE X.K C W0 me σ H Q := fun F env σ H Q k sr z => ⟨F, env, k, sr, z⟩
  refine ⟨_, pe_lc hc hN pi ok pg pt pe hs, fun F env σ H Q k s z => lc_run k qi qg qt qe hj s ?_⟩
  revert z
  cases e1 : mLc mi (own.map (·.2)) mg mt me env with
  | bad => exact fun z => z
  | ex c env1 => exact fun z => z
  | ok d env1 =>
    intro z
    have hd : ∃ ys, d = .lst ys := by
      unfold mLc at e1
      split at e1 <;> try (cases e1; done)
      split at e1 <;> try (cases e1; done)
      split at e1 <;> cases e1
      exact ⟨_, rfl⟩
    obtain ⟨ys, rfl⟩ := hd
    refine ⟨ys, rfl, fun p H1 H' ws s1 x1 n g hp r => z p H1 H' s1 x1 n g ?_⟩
    simp only [CRel]
    exact ⟨ws, hp, r⟩
end

/-! ### own defs -/
inductive RF where
  | ok (d : D) (out : Option D) | ex (c : Nat) (out : Option D) | bad
abbrev UF := List Sl → RF
def ArgR (K : PySem.W.Frag) (H : Hp) (O : Addr → Prop) : List Sl → List V → Prop
  | [], vs => vs = []
  | .va d :: r, vs => ∃ v u, vs = v :: u ∧ RelD K H O d v ∧ ArgR K H O r u
  | .ro d :: r, vs => ∃ a u, vs = .ref a :: u ∧ O a ∧ CRel K H O d a ∧ ArgR K H O r u
  | _ :: _, _ => False
/-- the arguments, the first of them perhaps borrowed -/
def ArgsR (K : PySem.W.Frag) (H : Hp) (O : Addr → Prop) (b : Option Addr) : List Sl → List V → Prop
  | .bo d :: r, vs => ∃ a u, vs = .ref a :: u ∧ b = some a ∧ O a ∧ CRel K H O d a ∧ (∃ ds : List D, r = ds.map Sl.va) ∧ ArgR K H O r u
  | xs, vs => b = none ∧ ArgR K H O xs vs
def EndF (K : PySem.W.Frag) (H : Hp) (O : Addr → Prop) (b : Option Addr) (out : Option D) (H' : Hp) : Prop :=
  (∀ c o, H c = some o → b ≠ some c → H' c = some o) ∧ (∀ a, O a → H' a ≠ none) ∧ ∀ a d, b = some a → out = some d → CRel K H' O d a
/-- what a def promises: its function of trees -/
def spU (K : PySem.W.Frag) (C : Nat → Value) (n : Nat) (f : UF) : Sp := fun vs H Q E => ∃ (O : Addr → Prop) (b : Option Addr) (args : List Sl), vs.length = n ∧ (∀ a, O a → H a ≠ none) ∧ ArgsR K H O b args vs ∧ match f args with
  | .ok d out => ∀ v H', EndF K H O b out H' → RelD K H' O d v → Q v H'
  | .ex c out => ∀ H', EndF K H O b out H' → E (C c) none H'
  | .bad => False
theorem argR_map {K : PySem.W.Frag} {H : Hp} {O : Addr → Prop} : ∀ {ds : List D} {vs : List V}, RelL K H O ds vs → ArgR K H O (ds.map Sl.va) vs
  | [], vs, h => by simpa only [List.map_nil, ArgR, RelL] using h
  | d :: ds, vs, h => by
    simp only [RelL] at h
    obtain ⟨v, r, rfl, h1, h2⟩ := h
    simp only [List.map_cons, ArgR]
    exact ⟨v, r, rfl, h1, argR_map h2⟩
/-- behind a call: the borrowed slot -/
def wback (env : Ev) (i : Nat) : Option D → Ev
  | some d => (match env[i]? with
    | some (.ow _) => env.set i (.ow d)
    | some (.bo _) => env.set i (.bo d)
    | _ => env.set i .no)
  | none => env.set i .no
section
variable {X : Cx} {C : Nat → Value} {W : WX}
/-- f(e, ..): values alone -/
def mUser (f : UF) (ma : MA) : ME := fun e => match ma e with
  | .ok ds e1 => (match f (ds.map Sl.va) with
    | .ok d _ => .ok d e1
    | .ex c _ => .ex c e1
    | .bad => .bad)
  | .ex c e1 => .ex c e1
  | .bad => .bad
theorem user_end {F : Fx} {env1 : Ev} {σ : St} {H1 H' : Hp} {out : Option D} (s1 : SR F env1 σ H1) (x : EndF F.K H1 (Ow F env1 σ) none out H') : Same H1 H' := fun c o h => x.1 c o h (fun z => by cases z)
theorem user_va {F : Fx} {env : Ev} {σ : St} {H : Hp} {Q : VK} {f : UF} {n : Nat} {t : TA} {ma : MA} (k : F.K = X.K) (qa : ∀ F env σ H Q, F.K = X.K → SR F env σ H → PostV F C W env σ H Q (ma env) → t σ H Q) (hn : ∀ ds e env, ma env = .ok ds e → ds.length = n) (s : SR F env σ H)
    (z : PostE F C W env σ H Q (mUser f ma env)) : t σ H (fun vs H1 => spU X.K C n f vs H1 Q (fun cls d H2 => W cls d σ H2)) := by
  refine qa F env σ H _ k s ?_
  unfold mUser at z
  cases e1 : ma env with
  | bad => rw [e1] at z; exact z
  | ex c env1 => rw [e1] at z; exact z
  | ok ds env1 =>
    rw [e1] at z
    dsimp only at z
    refine fun vs H1 s1 x1 r => ?_
    have hl := relL_len r
    refine ⟨Ow F env1 σ, none, ds.map Sl.va, by rw [← hl]; exact hn ds env1 env e1, fun a => s1.dom, ?_, ?_⟩
    · have := argR_map r
      rw [← k]
      cases ds with
      | nil => exact ⟨rfl, this⟩
      | cons d r => exact ⟨rfl, this⟩
    · cases e2 : f (ds.map Sl.va) with
      | bad => rw [e2] at z; exact z
      | ok d out =>
        rw [e2] at z
        refine fun v H2 en rel => ?_
        rw [← k] at en rel
        have g := user_end s1 en
        exact z v H2 (s1.grow g) (x1.trans (Ext.of g)) rel
      | ex c out =>
        rw [e2] at z
        refine fun H2 en => ?_
        rw [← k] at en
        have g := user_end s1 en
        exact z H2 (s1.grow g) (x1.trans (Ext.of g))
theorem j_user {f : UF} {n k : Nat} {fa : Addr} {fd : FuncData} {ps : List Str} {x : Str} {e : Expr} {es : List Expr} {ma : MA} {p pos : Pos} (tk : Takes X W) (G : FnOk X.prog X.w X.K X.mg X.base (L2.CX X.prog X.w) k fa fd ps (spU X.K C n f)) (hr : Room k X.A) (hg : Gl X x)
    (hm : X.mg x = some (.ref fa)) (hk : PySem.W.keepIn X.K (.ref fa) = true) (hb : Binds X.K fd ps []) (ha : JV X C W (e :: es) ma) (hn : ∀ ds e env, ma env = .ok ds e → ds.length = n) (hdb : (x == ("__debug__" : Str)) = false)
    (he : starEach (e :: es) X.env = (false, eval e X.env) :: starEach es X.env) (hpl : (backTo pos (starEach es X.env)).any (·.1) = false) : JE X C W (.Call (.Name x p) (e :: es) [] pos) (mUser f ma) := by
  obtain ⟨t, pa, q⟩ := ha.run
  exact ⟨_, pe_callS G hr hg hm hk hb (fun σ => passAt tk σ) pa hdb he hpl, fun F env σ H Q k s z => user_va k q hn s z⟩
/-- f() -/
def mUser0 (f : UF) : ME := fun e => match f [] with
  | .ok d _ => .ok d e
  | _ => .bad
theorem j_user0 {f : UF} {k : Nat} {fa : Addr} {fd : FuncData} {ps : List Str} {x : Str} {p pos : Pos} (tk : Takes X W) (G : FnOk X.prog X.w X.K X.mg X.base (L2.CX X.prog X.w) k fa fd ps (spU X.K C 0 f)) (hr : Room k X.A) (hg : Gl X x)
    (hm : X.mg x = some (.ref fa)) (hk : PySem.W.keepIn X.K (.ref fa) = true) (hb : Binds X.K fd ps []) (hdb : (x == ("__debug__" : Str)) = false) : JE X C W (.Call (.Name x p) [] [] pos) (mUser0 f) := by
  refine ⟨_, pe_call0 (E := E0) (dvs := []) G hr hg hm hk hb .nil (passes_call tk fun _ _ _ _ h => h.elim) hdb, fun F env σ H Q k s z => ?_⟩
  unfold mUser0 at z
  refine ⟨Ow F env σ, none, [], rfl, fun a => s.dom, ⟨rfl, rfl⟩, ?_⟩
  cases e2 : f [] with
  | bad => rw [e2] at z; exact z
  | ok d out =>
    rw [e2] at z
    refine fun v H2 en rel => ?_
    rw [← k] at en rel
    have g := user_end s en
    exact z v H2 (s.grow g) (Ext.of g) rel
  | ex c out => rw [e2] at z; exact z.elim
end
/-! ### the borrowed slot behind a call -/
theorem SR.put {F : Fx} {env : Ev} {σ : St} {H H' : Hp} (s : SR F env σ H) {i : Nat} {a : Addr} {d' : D} {z' : Sl} (h : (∃ d, env[i]? = some (.ow d) ∧ z' = .ow d') ∨ (∃ d, env[i]? = some (.bo d) ∧ z' = .bo d')) (ha : σ[i]? = some (some (.ref a)))
    (st : ∀ c, c ≠ a → H c ≠ none → H' c = H c) (c : CRel F.K H' (Ow F env σ) d' a) : SR F (env.set i z') σ H' ∧ ∀ b, Ow F (env.set i z') σ b ↔ Ow F env σ b := by
  have own : Ow F env σ a := by
    rcases h with ⟨d, h, _⟩ | ⟨d, h, _⟩
    · exact .inr ⟨i, d, h, ha⟩
    · obtain ⟨b, e1, e2, _⟩ := s.bo i d h
      rw [ha] at e1; cases e1
      exact .inl (s.bo0 a e2)
  have hi : i < env.length := by
    rcases h with ⟨d, h, _⟩ | ⟨d, h, _⟩ <;> exact lt_of_get h
  have oeq : ∀ b, Ow F (env.set i z') σ b ↔ Ow F env σ b := fun b => by
    constructor
    · rintro (q | ⟨j, d, q1, q2⟩)
      · exact .inl q
      · rcases get_set q1 with ⟨e, e2, _⟩ | ⟨e, q1⟩
        · subst e
          rcases h with ⟨d0, h, e3⟩ | ⟨d0, h, e3⟩
          · exact .inr ⟨i, d0, h, q2⟩
          · rw [e3] at e2; cases e2
        · exact .inr ⟨j, d, q1, q2⟩
    · rintro (q | ⟨j, d, q1, q2⟩)
      · exact .inl q
      · by_cases e : i = j
        · subst e
          rcases h with ⟨d0, h, e3⟩ | ⟨d0, h, e3⟩
          · exact .inr ⟨i, d', by rw [List.getElem?_set_self hi, e3], q2⟩
          · rw [h] at q1; cases q1
        · exact .inr ⟨j, d, by rw [List.getElem?_set_ne e]; exact q1, q2⟩
  have x : Ext (Ow F env σ) H (Ow F (env.set i z') σ) H' := by
    refine ⟨fun b o e n => ?_, fun b q => .inl ((oeq b).mp q)⟩
    have : b ≠ a := fun z => n (z ▸ own)
    rw [st b this (by rw [e]; intro z; cases z)]
    exact e
  have c' : CRel F.K H' (Ow F (env.set i z') σ) d' a := c.ext (Ext.sub fun b q => (oeq b).mp q) rfl
  have notA : ∀ {j : Nat} {d : D} {b : Addr}, i ≠ j → (env[j]? = some (.ow d) ∨ env[j]? = some (.bo d) ∨ env[j]? = some (.ro d)) → σ[j]? = some (some (V.ref b)) → b ≠ a := by
    intro j d b hij hj hb e
    subst e
    rcases h with ⟨d0, h, _⟩ | ⟨d0, h, _⟩
    · rcases hj with hj | hj | hj
      · exact hij (s.dj i j b _ _ h hj ha hb)
      · obtain ⟨b', e1, e2, _⟩ := s.bo j d hj
        rw [hb] at e1; cases e1
        obtain ⟨b2, e3, _, e4, _⟩ := s.ow i _ h
        rw [ha] at e3; cases e3
        exact e4 (s.bo0 b e2)
      · obtain ⟨b', e1, e2, _⟩ := s.ro j d hj
        rw [hb] at e1; cases e1
        obtain ⟨b2, e3, _, e4, _⟩ := s.ow i _ h
        rw [ha] at e3; cases e3
        exact e4 e2
    · rcases hj with hj | hj | hj
      · obtain ⟨b', e1, _, e2, _⟩ := s.ow j d hj
        rw [hb] at e1; cases e1
        obtain ⟨b2, e3, e4, _⟩ := s.bo i _ h
        rw [ha] at e3; cases e3
        exact e2 (s.bo0 b e4)
      · exact hij (s.djb i j b _ _ h hj ha hb)
      · obtain ⟨b', e1, _, e2, _⟩ := s.ro j d hj
        rw [hb] at e1; cases e1
        obtain ⟨b2, e3, e4, _⟩ := s.bo i _ h
        rw [ha] at e3; cases e3
        exact e2 e4
  refine ⟨⟨fun b o e n => ?_, fun b q => ?_, s.bo0, by rw [List.length_set]; exact s.len, fun j d q => ?_, fun j d q => ?_, fun j d q => ?_, fun j d q => ?_, fun j k b d1 d2 q1 q2 q3 q4 => ?_, fun j k b d1 d2 q1 q2 q3 q4 => ?_⟩, oeq⟩
  · have hb := s.fr b o e n
    by_cases hba : b = a
    · subst hba
      rcases h with ⟨d, h, _⟩ | ⟨d, h, _⟩
      · obtain ⟨b', e1, e2, _⟩ := s.ow i d h
        rw [ha] at e1; cases e1
        rw [e] at e2; cases e2
      · obtain ⟨b', e1, e2, _⟩ := s.bo i d h
        rw [ha] at e1; cases e1
        exact absurd e2 n
    · rw [st b hba (by rw [hb]; intro z; cases z)]; exact hb
  · by_cases hba : b = a
    · rw [hba]; exact c.some
    · rw [st b hba (s.od b q)]; exact s.od b q
  · rcases get_set q with ⟨e, z, _⟩ | ⟨e, q⟩
    · rcases h with ⟨_, _, e3⟩ | ⟨_, _, e3⟩ <;> rw [e3] at z <;> cases z
    · obtain ⟨w, w1, w2⟩ := s.va j d q
      exact ⟨w, w1, w2.ext x⟩
  · rcases get_set q with ⟨e, z, _⟩ | ⟨e, q⟩
    · subst e
      rcases h with ⟨d0, h, e3⟩ | ⟨_, _, e3⟩
      · rw [e3] at z; cases z
        obtain ⟨b, w1, w2, w3, _⟩ := s.ow i d0 h
        rw [ha] at w1; cases w1
        exact ⟨a, ha, w2, w3, c'⟩
      · rw [e3] at z; cases z
    · obtain ⟨b, w1, w2, w3, w4⟩ := s.ow j d q
      exact ⟨b, w1, w2, w3, w4.ext x (st b (notA e (.inl q) w1) w4.some)⟩
  · rcases get_set q with ⟨e, z, _⟩ | ⟨e, q⟩
    · subst e
      rcases h with ⟨_, _, e3⟩ | ⟨d0, h, e3⟩
      · rw [e3] at z; cases z
      · rw [e3] at z; cases z
        obtain ⟨b, w1, w2, _⟩ := s.bo i d0 h
        rw [ha] at w1; cases w1
        exact ⟨a, ha, w2, c'⟩
    · obtain ⟨b, w1, w2, w4⟩ := s.bo j d q
      exact ⟨b, w1, w2, w4.ext x (st b (notA e (.inr (.inl q)) w1) w4.some)⟩
  · rcases get_set q with ⟨e, z, _⟩ | ⟨e, q⟩
    · rcases h with ⟨_, _, e3⟩ | ⟨_, _, e3⟩ <;> rw [e3] at z <;> cases z
    · obtain ⟨b, w1, w2, w3, w4⟩ := s.ro j d q
      exact ⟨b, w1, w2, w3, w4.ext x (st b (notA e (.inr (.inr q)) w1) w4.some)⟩
  · have key : ∀ {j : Nat} {d : D}, (env.set i z')[j]? = some (.ow d) → ∃ d0, env[j]? = some (.ow d0) := fun {j d} q => by
      rcases get_set q with ⟨e, z, _⟩ | ⟨e, q⟩
      · subst e
        rcases h with ⟨d0, h, e3⟩ | ⟨_, _, e3⟩
        · exact ⟨d0, h⟩
        · rw [e3] at z; cases z
      · exact ⟨_, q⟩
    obtain ⟨d3, q1⟩ := key q1
    obtain ⟨d4, q2⟩ := key q2
    exact s.dj j k b d3 d4 q1 q2 q3 q4
  · have key : ∀ {j : Nat} {d : D}, (env.set i z')[j]? = some (.bo d) → ∃ d0, env[j]? = some (.bo d0) := fun {j d} q => by
      rcases get_set q with ⟨e, z, _⟩ | ⟨e, q⟩
      · subst e
        rcases h with ⟨_, _, e3⟩ | ⟨d0, h, e3⟩
        · rw [e3] at z; cases z
        · exact ⟨d0, h⟩
      · exact ⟨_, q⟩
    obtain ⟨d3, q1⟩ := key q1
    obtain ⟨d4, q2⟩ := key q2
    exact s.djb j k b d3 d4 q1 q2 q3 q4
end MP

set_option Elab.async false
set_option linter.all false
set_option maxRecDepth 100000
set_option maxHeartbeats 4000000
namespace MP
open PySem PySem.Spec L2
open PyProof.Rows hiding St

/-! ### statements -/
def PostS (F : Fx) (C : Nat → Value) (W : WX) (env : Ev) (σ : St) (H : Hp) (D : Ends) : RS → Prop
  | .nx env' => ∀ σ' H', SR F env' σ' H' → Ext (Ow F env σ) H (Ow F env' σ') H' → D.nx σ' H'
  | .rt d env' => ∀ v σ' H', SR F env' σ' H' → RelD F.K H' F.O0 d v → D.rt v H'
  | .bk env' => ∀ σ' H', SR F env' σ' H' → Ext (Ow F env σ) H (Ow F env' σ') H' → D.bk σ' H'
  | .ct env' => ∀ σ' H', SR F env' σ' H' → Ext (Ow F env σ) H (Ow F env' σ') H' → D.ct σ' H'
  | .ex c env' => ∀ σ' H', SR F env' σ' H' → Ext (Ow F env σ) H (Ow F env' σ') H' → W (C c) none σ' H'
  | .bad => False
structure JS (X : Cx) (C : Nat → Value) (W : WX) (st : Stmt) (m : MS) : Prop where
  run : ∃ t, PS X st t ∧ ∀ F env σ H D, F.K = X.K → SR F env σ H → PostS F C W env σ H D (m env) → t D σ H
structure JB (X : Cx) (C : Nat → Value) (W : WX) (st : List Stmt) (m : MS) : Prop where
  run : ∃ t, PSs X st t ∧ ∀ F env σ H D, F.K = X.K → SR F env σ H → PostS F C W env σ H D (m env) → t D σ H
theorem PostS.after {C : Nat → Value} {W : WX} {F : Fx} {env env1 : Ev} {σ σ1 : St} {H H1 : Hp} {D : Ends} (x : Ext (Ow F env σ) H (Ow F env1 σ1) H1) : ∀ {r : RS}, PostS F C W env σ H D r → PostS F C W env1 σ1 H1 D r
  | .nx _, z => fun σ2 H2 s2 x2 => z σ2 H2 s2 (x.trans x2)
  | .rt _ _, z => z
  | .bk _, z => fun σ2 H2 s2 x2 => z σ2 H2 s2 (x.trans x2)
  | .ct _, z => fun σ2 H2 s2 x2 => z σ2 H2 s2 (x.trans x2)
  | .ex _ _, z => fun σ2 H2 s2 x2 => z σ2 H2 s2 (x.trans x2)
  | .bad, z => z
section
variable {X : Cx} {C : Nat → Value} {W : WX}
def mSeq (m1 m2 : MS) : MS := fun e => match m1 e with
  | .nx e1 => m2 e1
  | r => r
def mSkip : MS := fun e => .nx e
theorem jb_nil : JB X C W [] mSkip := ⟨_, pss_nil, fun F env σ H D k s z => z σ H s .refl⟩
theorem jb_one {st : Stmt} {m : MS} (h : JS X C W st m) : JB X C W [st] m := by
  obtain ⟨t, p, q⟩ := h.run
  exact ⟨_, pss_one p, q⟩
theorem jb_cons {st : Stmt} {sts : List Stmt} {m1 m2 : MS} (h : JS X C W st m1) (h2 : JB X C W sts m2) : JB X C W (st :: sts) (mSeq m1 m2) := by
  obtain ⟨t, p, q⟩ := h.run
  obtain ⟨t2, p2, q2⟩ := h2.run
  refine ⟨_, pss_cons p p2, fun F env σ H D k s z => q F env σ H _ k s ?_⟩
  unfold mSeq at z
  cases e1 : m1 env with
  | nx env1 =>
    rw [e1] at z
    exact fun σ1 H1 s1 x1 => q2 F env1 σ1 H1 D k s1 (PostS.after x1 z)
  | rt d env1 => rw [e1] at z; exact z
  | bk env1 => rw [e1] at z; exact z
  | ct env1 => rw [e1] at z; exact z
  | ex c env1 => rw [e1] at z; exact z
  | bad => rw [e1] at z; exact z
def mDoc : MS := fun e => .nx e
theorem js_pass {pos : Pos} : JS X C W (.Pass pos) mSkip := ⟨_, ps_pass, fun F env σ H D k s z => z σ H s .refl⟩
def mBrk : MS := fun e => .bk e
def mCnt : MS := fun e => .ct e
theorem js_break {pos : Pos} : JS X C W (.Break pos) mBrk := ⟨_, ps_break, fun F env σ H D k s z => z σ H s .refl⟩
theorem js_continue {pos : Pos} : JS X C W (.Continue pos) mCnt := ⟨_, ps_continue, fun F env σ H D k s z => z σ H s .refl⟩
def mRet (m : ME) : MS := fun e => match m e with
  | .ok d e1 => .rt d e1
  | .ex c e1 => .ex c e1
  | .bad => .bad
theorem PostS.ex {F : Fx} {env env1 : Ev} {σ : St} {H : Hp} {D : Ends} {c : Nat} (z : PostS F C W env σ H D (.ex c env1)) : ∀ H', SR F env1 σ H' → Ext (Ow F env σ) H (Ow F env1 σ) H' → W (C c) none σ H' := fun H' s x => z σ H' s x
theorem js_ret {e : Expr} {m : ME} {pos : Pos} (h : JE X C W e m) : JS X C W (.Return (some e) pos) (mRet m) := by
  obtain ⟨t, p, q⟩ := h.run
  refine ⟨_, ps_ret p, fun F env σ H D k s z => q F env σ H _ k s ?_⟩
  unfold mRet at z
  cases e1 : m env with
  | ok d env1 =>
    rw [e1] at z
    exact fun v H1 s1 x1 r => z v σ H1 s1 (r.ext (Ext.sub fun b h => .inl h))
  | ex c env1 => rw [e1] at z; exact PostS.ex z
  | bad => rw [e1] at z; exact z
def mRetN : MS := fun e => .rt .non e
theorem js_retN {pos : Pos} : JS X C W (.Return none pos) mRetN := ⟨_, ps_retN, fun F env σ H D k s z => z .non σ H s (by simp only [RelD])⟩
def mDrop (m : ME) : MS := fun e => match m e with
  | .ok _ e1 => .nx e1
  | .ex c e1 => .ex c e1
  | .bad => .bad
theorem js_expr {e : Expr} {m : ME} {pos : Pos} (h : JE X C W e m) (hs : swapsWith e none pos.line X.env = pure false) : JS X C W (.Expr e pos) (mDrop m) := by
  obtain ⟨t, p, q⟩ := h.run
  refine ⟨_, ps_expr p hs, fun F env σ H D k s z => q F env σ H _ k s ?_⟩
  unfold mDrop at z
  cases e1 : m env with
  | ok d env1 =>
    rw [e1] at z
    exact fun v H1 s1 x1 r => z σ H1 s1 x1
  | ex c env1 => rw [e1] at z; exact PostS.ex z
  | bad => rw [e1] at z; exact z
def mIfS (mc : ME) (m1 m2 : MS) : MS := fun e => match mc e with
  | .ok (.bl true) e1 => m1 e1
  | .ok (.bl false) e1 => m2 e1
  | .ok _ _ => .bad
  | .ex c e1 => .ex c e1
  | .bad => .bad
theorem js_if {c : Expr} {a b : List Stmt} {mc : ME} {m1 m2 : MS} {pos : Pos} (hc : JT X C W c mc) (ha : JB X C W a m1) (hb : JB X C W b m2) : JS X C W (.If c a b pos) (mIfS mc m1 m2) := by
  obtain ⟨tc, pc, qc⟩ := hc.run
  obtain ⟨ta, pa, qa⟩ := ha.run
  obtain ⟨tb, pb, qb⟩ := hb.run
  refine ⟨_, ps_if pc pa pb, fun F env σ H D k s z => qc F env σ H _ k s ?_⟩
  unfold mIfS at z
  cases e1 : mc env with
  | ok x env1 =>
    rw [e1] at z
    cases x with
    | bl b =>
      refine ⟨b, rfl, fun H1 s1 x1 => ?_⟩
      cases b with
      | true => exact iteT (qa F env1 σ H1 D k s1 (PostS.after x1 z))
      | false => exact iteF (qb F env1 σ H1 D k s1 (PostS.after x1 z))
    | _ => exact z.elim
  | ex c env1 => rw [e1] at z; exact PostS.ex z
  | bad => rw [e1] at z; exact z
/-! ### x = e -/
def mSet (i : Nat) (m : ME) : MS := fun e => match m e with
  | .ok d e1 => (match Nat.blt i e1.length with
    | true => .nx (e1.set i (.va d))
    | false => .bad)
  | .ex c e1 => .ex c e1
  | .bad => .bad
theorem set_run {F : Fx} {env : Ev} {σ : St} {H : Hp} {D : Ends} {te : TE} {m : ME} {i : Nat} (k : F.K = X.K) (q : ∀ F env σ H Q, F.K = X.K → SR F env σ H → PostE F C W env σ H Q (m env) → te σ H Q) (s : SR F env σ H)
    (z : PostS F C W env σ H D (mSet i m env)) : tAsg te (gName i) D σ H := by
  refine q F env σ H _ k s ?_
  unfold mSet at z
  cases e1 : m env with
  | ok d env1 =>
    rw [e1] at z
    dsimp only at z
    cases hl : Nat.blt i env1.length with
    | false => rw [hl] at z; exact z.elim
    | true =>
      rw [hl] at z
      exact fun v H1 s1 x1 r => z _ H1 (s1.set (Nat.le_of_ble_eq_true hl) r) (x1.trans (Ext.sub fun b h => ow_set b h))
  | ex c env1 => rw [e1] at z; exact PostS.ex z
  | bad => rw [e1] at z; exact z
theorem js_set {i : Nat} {x : Str} {e : Expr} {m : ME} {pos' pos : Pos} (hN : X.N.Nodup) (hi : X.N[i]? = some x) (hx : Loc X.env.scope x) (hf : X.fn x = true ∨ X.env.scope.names.lookup x = some .local) (h : JE X C W e m)
    (hs : swapsWithSole [.Name x pos'] e pos.line X.env = pure false) (hw : swappedStores [.Name x pos'] e X.env = pure none) : JS X C W (.Assign [.Name x pos'] e pos) (mSet i m) := by
  obtain ⟨t, p, q⟩ := h.run
  exact ⟨_, ps_asg p (pg_name hN hi hx hf) hs hw, fun F env σ H D k s z => set_run k q s z⟩
def mOwn (i : Nat) (m : ME) : MS := fun e => match m e with
  | .ok d e1 => (match Nat.blt i e1.length with
    | true => .nx (e1.set i (.ow d))
    | false => .bad)
  | .ex c e1 => .ex c e1
  | .bad => .bad
/-- a new list or dict, owned -/
theorem SR.own {F : Fx} {env : Ev} {σ : St} {H H' : Hp} {p : Addr} (s : SR F env σ H) {i : Nat} {d : D} (hi : i < env.length) (n : H p = none) (g : Same H H') (c : CRel F.K H' (fun a => Ow F env σ a ∨ a = p) d p) :
    SR F (env.set i (.ow d)) (σ.set i (some (.ref p))) H' ∧ Ext (Ow F env σ) H (Ow F (env.set i (.ow d)) (σ.set i (some (.ref p)))) H' := by
  have hs : i < σ.length := by rw [← s.len]; exact hi
  have sub : ∀ b, Ow F (env.set i (.ow d)) (σ.set i (some (.ref p))) b → Ow F env σ b ∨ b = p := fun b q => by
    rcases q with q | ⟨j, d', q1, q2⟩
    · exact .inl (.inl q)
    · rcases get_set q1 with ⟨e, _, _⟩ | ⟨e, q1⟩
      · subst e
        rw [List.getElem?_set_self hs] at q2
        cases q2
        exact .inr rfl
      · rw [List.getElem?_set_ne e] at q2
        exact .inl (.inr ⟨j, d', q1, q2⟩)
  have x : Ext (Ow F env σ) H (Ow F (env.set i (.ow d)) (σ.set i (some (.ref p)))) H' := ⟨fun b o h _ => g b o h, fun b q => (sub b q).elim .inl fun e => .inr (e ▸ n)⟩
  have st : ∀ a, H a ≠ none → H' a = H a := fun a n => by
    cases e : H a with
    | none => exact absurd e n
    | some o => rw [g a o e]
  have nO : ¬ Ow F env σ p := s.new n
  have notP : ∀ {j : Nat} {d' : D}, i ≠ j → env[j]? = some (.ow d') → σ[j]? ≠ some (some (V.ref p)) := fun {j d'} _ h1 h2 => nO (.inr ⟨j, d', h1, h2⟩)
  refine ⟨⟨fun b o h m => g b o (s.fr b o h m), fun a h => ?_, s.bo0, by rw [List.length_set, List.length_set]; exact s.len, fun j d' q => ?_, fun j d' q => ?_, fun j d' q => ?_, fun j d' q => ?_, fun j k b d1 d2 q1 q2 q3 q4 => ?_, fun j k b d1 d2 q1 q2 q3 q4 => ?_⟩, x⟩
  · rw [st a (s.od a h)]; exact s.od a h
  · rcases get_set q with ⟨_, z, _⟩ | ⟨e, q⟩
    · cases z
    · obtain ⟨w, w1, w2⟩ := s.va j d' q
      exact ⟨w, by rw [List.getElem?_set_ne e]; exact w1, w2.ext x⟩
  · rcases get_set q with ⟨e, z, _⟩ | ⟨e, q⟩
    · subst e
      cases z
      refine ⟨p, List.getElem?_set_self hs, ?_, fun h => nO (.inl h), c.ext (Ext.sub sub) rfl⟩
      cases e0 : F.H0 p with
      | none => rfl
      | some o =>
        by_cases hb : F.B p
        · exact absurd (.inl (s.bo0 p hb)) nO
        · rw [s.fr p o e0 hb] at n; cases n
    · obtain ⟨w, w1, w2, w3, w4⟩ := s.ow j d' q
      exact ⟨w, by rw [List.getElem?_set_ne e]; exact w1, w2, w3, w4.ext x (st w w4.some)⟩
  · rcases get_set q with ⟨_, z, _⟩ | ⟨e, q⟩
    · cases z
    · obtain ⟨w, w1, w2, w4⟩ := s.bo j d' q
      exact ⟨w, by rw [List.getElem?_set_ne e]; exact w1, w2, w4.ext x (st w w4.some)⟩
  · rcases get_set q with ⟨_, z, _⟩ | ⟨e, q⟩
    · cases z
    · obtain ⟨w, w1, w2, w3, w4⟩ := s.ro j d' q
      exact ⟨w, by rw [List.getElem?_set_ne e]; exact w1, w2, w3, w4.ext x (st w w4.some)⟩
  · rcases get_set q1 with ⟨e1, _, _⟩ | ⟨e1, q1⟩
    · subst e1
      rw [List.getElem?_set_self hs] at q3
      cases q3
      rcases get_set q2 with ⟨e2, _, _⟩ | ⟨e2, q2⟩
      · exact e2
      · rw [List.getElem?_set_ne e2] at q4
        exact absurd q4 (notP e2 q2)
    · rw [List.getElem?_set_ne e1] at q3
      rcases get_set q2 with ⟨e2, _, _⟩ | ⟨e2, q2⟩
      · subst e2
        rw [List.getElem?_set_self hs] at q4
        cases q4
        exact absurd q3 (notP e1 q1)
      · rw [List.getElem?_set_ne e2] at q4
        exact s.dj j k b d1 d2 q1 q2 q3 q4
  · rcases get_set q1 with ⟨_, z, _⟩ | ⟨e1, q1⟩
    · cases z
    · rcases get_set q2 with ⟨_, z, _⟩ | ⟨e2, q2⟩
      · cases z
      · rw [List.getElem?_set_ne e1] at q3
        rw [List.getElem?_set_ne e2] at q4
        exact s.djb j k b d1 d2 q1 q2 q3 q4
theorem own_run {F : Fx} {env : Ev} {σ : St} {H : Hp} {D : Ends} {te : TE} {m : ME} {i : Nat} (k : F.K = X.K) (q : ∀ F env σ H Q, F.K = X.K → SR F env σ H → PostF F C W env σ H Q (m env) → te σ H Q) (s : SR F env σ H)
    (z : PostS F C W env σ H D (mOwn i m env)) : tAsg te (gName i) D σ H := by
  refine q F env σ H _ k s ?_
  unfold mOwn at z
  cases e1 : m env with
  | ok d env1 =>
    rw [e1] at z
    dsimp only at z
    cases hl : Nat.blt i env1.length with
    | false => rw [hl] at z; exact z.elim
    | true =>
      rw [hl] at z
      refine fun p H1 H' s1 x1 n g c => ?_
      obtain ⟨s2, x2⟩ := s1.own (Nat.le_of_ble_eq_true hl) n g c
      exact z _ H' s2 (x1.trans x2)
  | ex c env1 => rw [e1] at z; exact PostS.ex z
  | bad => rw [e1] at z; exact z
theorem js_own {i : Nat} {x : Str} {e : Expr} {m : ME} {pos' pos : Pos} (hN : X.N.Nodup) (hi : X.N[i]? = some x) (hx : Loc X.env.scope x) (hf : X.fn x = true ∨ X.env.scope.names.lookup x = some .local) (h : JF X C W e m)
    (hs : swapsWithSole [.Name x pos'] e pos.line X.env = pure false) (hw : swappedStores [.Name x pos'] e X.env = pure none) : JS X C W (.Assign [.Name x pos'] e pos) (mOwn i m) := by
  obtain ⟨t, p, q⟩ := h.run
  exact ⟨_, ps_asg p (pg_name hN hi hx hf) hs hw, fun F env σ H D k s z => own_run k q s z⟩
/-- x, y = e; any target -/
def mAsg (mg : MT) (m : ME) : MS := fun e => match m e with
  | .ok d e1 => (match mg d e1 with
    | some e2 => .nx e2
    | none => .bad)
  | .ex c e1 => .ex c e1
  | .bad => .bad
theorem js_asg {tg e : Expr} {mg : MT} {js : List Nat} {m : ME} {pos : Pos} (hg : JG X tg mg js) (h : JE X C W e m) (hs : swapsWithSole [tg] e pos.line X.env = pure false) (hw : swappedStores [tg] e X.env = pure none) (h1 : (assignEach [tg] X.env).map (·.2) = [assign tg X.env]) : JS X C W (.Assign [tg] e pos) (mAsg mg m) := by
  obtain ⟨t, p, q⟩ := h.run
  obtain ⟨g, pg, qg⟩ := hg.run
  refine ⟨_, ps_asg p pg hs hw h1, fun F env σ H D k s z => q F env σ H _ k s ?_⟩
  unfold mAsg at z
  cases e1 : m env with
  | ok d env1 =>
    rw [e1] at z
    dsimp only at z
    cases e2 : mg d env1 with
    | none => rw [e2] at z; exact z.elim
    | some env2 =>
      rw [e2] at z
      exact fun v H1 s1 x1 r => qg F env1 σ H1 d v env2 _ k s1 r e2 fun σ2 s2 sub w => z σ2 H1 s2 (x1.trans (Ext.sub sub))
  | ex c env1 => rw [e1] at z; exact PostS.ex z
  | bad => rw [e1] at z; exact z
/-- x, y = e1, e2 -/
def mPar (i j : Nat) (ma : MA) : MS := fun e => match ma e with
  | .ok [a, b] e1 => (match Nat.blt i e1.length && Nat.blt j e1.length with
    | true => .nx ((e1.set i (.va a)).set j (.va b))
    | false => .bad)
  | .ok _ _ => .bad
  | .ex c e1 => .ex c e1
  | .bad => .bad
theorem js_par {i j : Nat} {x y : Str} {a b : Expr} {ma : MA} {px py pt pos : Pos} {kt k2 : Nat} {pt2 : Pos} (hc : X.calm = true) (hN : X.N.Nodup) (hi : X.N[i]? = some x) (hj : X.N[j]? = some y) (hij : i ≠ j)
    (hx : X.env.scope.names.lookup x = some .local) (hy : X.env.scope.names.lookup y = some .local) (ha : JV X C W [a, b] ma)
    (hw : swappedStores [.Tuple [.Name x px, .Name y py] kt pt] (.Tuple [a, b] k2 pt2) X.env = pure (some [x, y])) (hs : swapsWithSole [.Tuple [.Name x px, .Name y py] kt pt] (.Tuple [a, b] k2 pt2) pos.line X.env = pure false) :
    JS X C W (.Assign [.Tuple [.Name x px, .Name y py] kt pt] (.Tuple [a, b] k2 pt2) pos) (mPar i j ma) := by
  obtain ⟨t, p, q⟩ := ha.run
  refine ⟨_, ps_par hc hN hi hj hij hx hy p hw hs, fun F env σ H D k s z => q F env σ H _ k s ?_⟩
  unfold mPar at z
  cases e1 : ma env with
  | ok ds env1 =>
    rw [e1] at z
    split at z
    · rename_i d1 d2 e0 e2
      cases e2
      split at z
      · rename_i hl
        rw [Bool.and_eq_true] at hl
        refine fun vs H1 s1 x1 r => ?_
        simp only [RelL] at r
        obtain ⟨v, r0, rfl, r1, u, r3, rfl, r2, rfl⟩ := r
        refine ⟨v, u, rfl, ?_⟩
        have s2 := s1.set (Nat.le_of_ble_eq_true hl.1) r1
        have x2 : Ext (Ow F env1 σ) H1 (Ow F (env1.set i (.va d1)) (σ.set i (some v))) H1 := Ext.sub fun b h => ow_set b h
        have s3 := s2.set (i := j) (by rw [List.length_set]; exact Nat.le_of_ble_eq_true hl.2) (r2.ext x2)
        exact z _ H1 s3 ((x1.trans x2).trans (Ext.sub fun b h => ow_set b h))
      · exact z.elim
    · exact z.elim
    · rename_i h
      cases h
    · exact z.elim
  | ex c env1 => rw [e1] at z; exact PostS.ex z
  | bad => rw [e1] at z; exact z
/-- x += e (ints) -/
def mAug (i : Nat) (f : D → D → Option D) (m : ME) : MS := fun e => match e[i]? with
  | some (.va x) => (match m e with
    | .ok y e1 => (match f x y with
      | some d => (match Nat.blt i e1.length with
        | true => .nx (e1.set i (.va d))
        | false => .bad)
      | none => .bad)
    | .ex c e1 => .ex c e1
    | .bad => .bad)
  | _ => .bad
/-! ### for -/
def forGo (mg : MT) (mb : MS) : List D → Ev → RS
  | [], e => .nx e
  | d :: ds, e => (match mg d e with
    | some e1 => (match mb e1 with
      | .nx e2 => forGo mg mb ds e2
      | .ct e2 => forGo mg mb ds e2
      | .bk e2 => .nx e2
      | .rt r e2 => .rt r e2
      | .ex c e2 => .ex c e2
      | .bad => .bad)
    | none => .bad)
def mFor (mi : MA) (mg : MT) (mb : MS) : MS := fun e => match mi e with
  | .ok ds e1 => forGo mg mb ds e1
  | .ex c e1 => .ex c e1
  | .bad => .bad
theorem js_for {tg iter : Expr} {body : List Stmt} {mi : MA} {mg : MT} {js : List Nat} {mb : MS} {pos : Pos} (hp : PassesOwn (model X.prog X.w) X.A X.env X.xe) (hc : X.calm = true) (hi : JI X C W tg iter mi) (hg : JG X tg mg js) (hb : JB X C W body mb) (hs : ∀ x, foldedSetIterable iter X.env x = pure x) :
    JS X C W (.For tg iter body [] pos) (mFor mi mg mb) := by
  obtain ⟨wi, pi, qi⟩ := hi.run
  obtain ⟨g, pg, qg⟩ := hg.run
  obtain ⟨tb, pb, qb⟩ := hb.run
  refine ⟨_, ps_for hp hc pi pg pb hs, fun F env σ H D k s z => qi F env σ H _ k s ?_⟩
  unfold mFor at z
  cases e1 : mi env with
  | bad => rw [e1] at z; exact z
  | ex c env1 => rw [e1] at z; exact PostS.ex z
  | ok ds env1 =>
    rw [e1] at z
    dsimp only at z
    intro J H1 s1 x1 it
    obtain ⟨G, Y, wk, hG, hY⟩ := it
    refine for_it wk (fun i σ2 H2 => ∃ env2, SR F env2 σ2 H2 ∧ Ext (Ow F env1 σ) H1 (Ow F env2 σ2) H2 ∧ PostS F C W env2 σ2 H2 D (forGo mg mb (ds.drop i) env2)) ?_ ?_ ?_ ?_
    · exact ⟨env1, s1, .refl, by rw [List.drop_zero]; exact PostS.after x1 z⟩
    · rintro i σ2 H2 hi ⟨env2, s2, x2, _⟩
      exact hG _ _ x2
    · rintro i x σ2 H2 H3 hi ⟨env2, s2, x2, z2⟩ y
      obtain ⟨g3, rx⟩ := hY _ i H2 x H3 ds[i] x2 (fun a => s2.dom) y (List.getElem?_eq_getElem hi)
      rw [List.drop_eq_getElem_cons hi] at z2
      simp only [forGo] at z2
      have s3 := s2.grow g3
      have x3 : Ext (Ow F env2 σ2) H2 (Ow F env2 σ2) H3 := Ext.of g3
      cases e2 : mg ds[i] env2 with
      | none => rw [e2] at z2; exact z2.elim
      | some env3 =>
        rw [e2] at z2
        dsimp only at z2
        refine qg F env2 σ2 H3 _ x env3 _ k s3 rx e2 fun σ4 s4 sub w => ?_
        have x4 : Ext (Ow F env2 σ2) H2 (Ow F env3 σ4) H3 := x3.trans (Ext.sub sub)
        refine qb F env3 σ4 H3 _ k s4 ?_
        cases e3 : mb env3 with
        | nx env4 =>
          rw [e3] at z2
          exact fun σ5 H5 s5 x5 => ⟨env4, s5, (x2.trans x4).trans x5, PostS.after (x4.trans x5) z2⟩
        | ct env4 =>
          rw [e3] at z2
          exact fun σ5 H5 s5 x5 => ⟨env4, s5, (x2.trans x4).trans x5, PostS.after (x4.trans x5) z2⟩
        | bk env4 =>
          rw [e3] at z2
          exact fun σ5 H5 s5 x5 => z2 σ5 H5 s5 (x4.trans x5)
        | rt r env4 => rw [e3] at z2; exact z2
        | ex c env4 => rw [e3] at z2; exact fun σ5 H5 s5 x5 => z2 σ5 H5 s5 (x4.trans x5)
        | bad => rw [e3] at z2; exact z2
    · rintro σ2 H2 ⟨env2, s2, x2, z2⟩
      rw [List.drop_length] at z2
      exact z2 σ2 H2 s2 .refl
/-! ### while -/
def whileGo (mc : ME) (mb : MS) : Nat → Ev → RS
  | 0, _ => .bad
  | n + 1, e => (match mc e with
    | .ok (.bl true) e1 => (match mb e1 with
      | .nx e2 => whileGo mc mb n e2
      | .ct e2 => whileGo mc mb n e2
      | .bk e2 => .nx e2
      | .rt r e2 => .rt r e2
      | .ex c e2 => .ex c e2
      | .bad => .bad)
    | .ok (.bl false) e1 => .nx e1
    | .ok _ _ => .bad
    | .ex c e1 => .ex c e1
    | .bad => .bad)
def mWhile (n : Nat) (mc : ME) (mb : MS) : MS := fun e => whileGo mc mb n e
theorem js_while {n : Nat} {c : Expr} {body : List Stmt} {mc : ME} {mb : MS} {pos : Pos} (hp : PassesOwn (model X.prog X.w) X.A X.env X.xe) (hc : JT X C W c mc) (hb : JB X C W body mb) : JS X C W (.While c body [] pos) (mWhile n mc mb) := by
  obtain ⟨tc, pc, qc⟩ := hc.run
  obtain ⟨tb, pb, qb⟩ := hb.run
  refine ⟨_, ps_while hp pc pb, fun F env σ H D k s z => ?_⟩
  unfold mWhile at z
  refine ⟨fun m σ2 H2 => ∃ env2, SR F env2 σ2 H2 ∧ PostS F C W env2 σ2 H2 D (whileGo mc mb m env2), ⟨n, env, s, z⟩, ?_⟩
  rintro m σ2 H2 ⟨env2, s2, z2⟩
  cases m with
  | zero => simp only [whileGo] at z2; exact z2.elim
  | succ m =>
    simp only [whileGo] at z2
    refine qc F env2 σ2 H2 _ k s2 ?_
    cases e1 : mc env2 with
    | bad => rw [e1] at z2; exact z2
    | ex c env3 => rw [e1] at z2; exact PostS.ex z2
    | ok x env3 =>
      rw [e1] at z2
      cases x with
      | bl b =>
        refine ⟨b, rfl, fun H3 s3 x3 => ?_⟩
        cases b with
        | false => exact iteF (z2 σ2 H3 s3 x3)
        | true =>
          dsimp only at z2
          refine iteT ⟨fun σ' H' => ∃ env2, SR F env2 σ' H' ∧ PostS F C W env2 σ' H' D (whileGo mc mb m env2), fun σ' H' w => ⟨m, Nat.lt_succ_self m, w⟩, ?_⟩
          refine qb F env3 σ2 H3 _ k s3 ?_
          cases e3 : mb env3 with
          | nx env4 =>
            rw [e3] at z2
            exact fun σ5 H5 s5 x5 => ⟨env4, s5, PostS.after (x3.trans x5) z2⟩
          | ct env4 =>
            rw [e3] at z2
            exact fun σ5 H5 s5 x5 => ⟨env4, s5, PostS.after (x3.trans x5) z2⟩
          | bk env4 =>
            rw [e3] at z2
            exact fun σ5 H5 s5 x5 => z2 σ5 H5 s5 (x3.trans x5)
          | rt r env4 => rw [e3] at z2; exact z2
          | ex c env4 => rw [e3] at z2; exact fun σ5 H5 s5 x5 => z2 σ5 H5 s5 (x3.trans x5)
          | bad => rw [e3] at z2; exact z2
      | _ => exact z2.elim
end
end MP

set_option Elab.async false
set_option linter.all false
set_option maxRecDepth 100000
set_option maxHeartbeats 4000000
namespace MP
open PySem PySem.Spec L2
open PyProof.Rows hiding St

/-! ### a def's body -/
def outOf (e : Ev) : Option D := match (e[0]? : Option Sl) with
  | some (Sl.bo d) => some d
  | _ => none
def runF (n tot : Nat) (m : MS) : UF := fun args => match m (args ++ List.replicate (tot - n) .no) with
  | .rt d e => .ok d (outOf e)
  | .nx e => .ok .non (outOf e)
  | .ex c e => .ex c (outOf e)
  | _ => .bad
theorem argR_len {K : PySem.W.Frag} {H : Hp} {O : Addr → Prop} : ∀ {xs : List Sl} {vs : List V}, ArgR K H O xs vs → xs.length = vs.length
  | [], vs, h => by simp only [ArgR] at h; rw [h]; rfl
  | .va d :: r, vs, h => by
    simp only [ArgR] at h
    obtain ⟨v, u, rfl, _, h⟩ := h
    simp only [List.length_cons]; rw [argR_len h]
  | .ro d :: r, vs, h => by
    simp only [ArgR] at h
    obtain ⟨a, u, rfl, _, _, h⟩ := h
    simp only [List.length_cons]; rw [argR_len h]
  | .no :: r, vs, h => by simp only [ArgR] at h
  | .ow _ :: r, vs, h => by simp only [ArgR] at h
  | .bo _ :: r, vs, h => by simp only [ArgR] at h
theorem argR_get {K : PySem.W.Frag} {H : Hp} {O : Addr → Prop} : ∀ {xs : List Sl} {vs : List V} {i : Nat} {x : Sl}, ArgR K H O xs vs → xs[i]? = some x →
    (∃ d v, x = .va d ∧ vs[i]? = some v ∧ RelD K H O d v) ∨ ∃ d a, x = .ro d ∧ vs[i]? = some (.ref a) ∧ O a ∧ CRel K H O d a
  | [], vs, i, x, h, e => by simp at e
  | .va d :: r, vs, i, x, h, e => by
    simp only [ArgR] at h
    obtain ⟨v, u, rfl, h1, h2⟩ := h
    cases i with
    | zero => simp at e; subst e; exact .inl ⟨d, v, rfl, rfl, h1⟩
    | succ j => exact argR_get (i := j) h2 (by simpa using e)
  | .ro d :: r, vs, i, x, h, e => by
    simp only [ArgR] at h
    obtain ⟨a, u, rfl, h0, h1, h2⟩ := h
    cases i with
    | zero => simp at e; subst e; exact .inr ⟨d, a, rfl, rfl, h0, h1⟩
    | succ j => exact argR_get (i := j) h2 (by simpa using e)
  | .no :: r, vs, i, x, h, e => by simp only [ArgR] at h
  | .ow _ :: r, vs, i, x, h, e => by simp only [ArgR] at h
  | .bo _ :: r, vs, i, x, h, e => by simp only [ArgR] at h
theorem rep_get {α : Type} {n i : Nat} {x y : α} (h : (List.replicate n x)[i]? = some y) : y = x := by
  rw [List.getElem?_replicate] at h
  split at h
  · exact (Option.some.inj h).symm
  · cases h
theorem pad_get {args : List Sl} {n i : Nat} {x : Sl} (h : (args ++ List.replicate n .no)[i]? = some x) : x = .no ∨ args[i]? = some x := by
  by_cases hi : i < args.length
  · rw [List.getElem?_append_left hi] at h
    exact .inr h
  · rw [List.getElem?_append_right (by omega)] at h
    exact .inl (rep_get h)
theorem start_get {N : List Str} {vs : List V} {i : Nat} {v : V} (h : vs[i]? = some v) : (L2.start N vs)[i]? = some (some v) := by
  unfold L2.start
  have hi : i < vs.length := lt_of_get h
  rw [List.getElem?_append_left (by rw [List.length_map]; exact hi), List.getElem?_map, h]
  rfl
theorem SR.begin {K : PySem.W.Frag} {H : Hp} {O : Addr → Prop} {b : Option Addr} {args : List Sl} {vs : List V} {N : List Str} (hl : vs.length ≤ N.length) (dom : ∀ a, O a → H a ≠ none) (r : ArgsR K H O b args vs) :
    SR ⟨K, O, H, fun a => b = some a⟩ (args ++ List.replicate (N.length - vs.length) .no) (L2.start N vs) H ∧ args.length = vs.length := by
  have oeq : ∀ c, Ow ⟨K, O, H, fun a => b = some a⟩ (args ++ List.replicate (N.length - vs.length) .no) (L2.start N vs) c → O c := fun c q => by
    rcases q with q | ⟨i, d, q1, q2⟩
    · exact q
    · rcases pad_get q1 with z | q1
      · cases z
      · cases args with
        | nil => simp at q1
        | cons x xs =>
          cases x with
          | bo d0 =>
            simp only [ArgsR] at r
            obtain ⟨a, u, _, _, _, _, ⟨ds, rfl⟩, _⟩ := r
            cases i with
            | zero => simp at q1
            | succ j =>
              simp only [List.getElem?_cons_succ, List.getElem?_map] at q1
              cases e : ds[j]? with
              | none => rw [e] at q1; cases q1
              | some y => rw [e] at q1; cases q1
          | _ =>
            obtain ⟨_, r⟩ := r
            rcases argR_get r q1 with ⟨_, _, z, _⟩ | ⟨_, _, z, _⟩ <;> cases z
  have xx : Ext O H (Ow ⟨K, O, H, fun a => b = some a⟩ (args ++ List.replicate (N.length - vs.length) .no) (L2.start N vs)) H := Ext.sub oeq
  have key : (args.length = vs.length) ∧ ∀ i y, args[i]? = some y → (∃ d v, y = .va d ∧ vs[i]? = some v ∧ RelD K H O d v) ∨ (∃ d a, y = .ro d ∧ vs[i]? = some (.ref a) ∧ O a ∧ b ≠ some a ∧ CRel K H O d a) ∨
      (i = 0 ∧ ∃ d a, y = .bo d ∧ vs[i]? = some (.ref a) ∧ b = some a ∧ O a ∧ CRel K H O d a) := by
    cases args with
    | nil =>
      obtain ⟨_, r⟩ := r
      exact ⟨argR_len r, fun i y h => by simp at h⟩
    | cons x xs =>
      cases x with
      | bo d0 =>
        simp only [ArgsR] at r
        obtain ⟨a, u, rfl, hb, ho, hc, ⟨ds, rfl⟩, r⟩ := r
        refine ⟨by simp only [List.length_cons]; rw [argR_len r], fun i y h => ?_⟩
        cases i with
        | zero => simp at h; subst h; exact .inr (.inr ⟨rfl, d0, a, rfl, rfl, hb, ho, hc⟩)
        | succ j =>
          rcases argR_get (i := j) r (by simpa using h) with ⟨d, v, e, e1, e2⟩ | ⟨d, a', e, _⟩
          · exact .inl ⟨d, v, e, by simpa using e1, e2⟩
          · exfalso
            simp only [List.getElem?_cons_succ, List.getElem?_map] at h
            cases e9 : ds[j]? with
            | none => rw [e9] at h; cases h
            | some w => rw [e9] at h; cases h; cases e
      | _ =>
        obtain ⟨hb, r⟩ := r
        refine ⟨argR_len r, fun i y h => ?_⟩
        rcases argR_get r h with ⟨d, v, e, e1, e2⟩ | ⟨d, a', e, e1, e2, e3⟩
        · exact .inl ⟨d, v, e, e1, e2⟩
        · exact .inr (.inl ⟨d, a', e, e1, e2, (by rw [hb]; intro z; cases z), e3⟩)
  obtain ⟨hlen, key⟩ := key
  have bsub : ∀ a, b = some a → O a := fun a e => by
    cases args with
    | nil => obtain ⟨hb, _⟩ := r; rw [hb] at e; cases e
    | cons x xs =>
      cases x with
      | bo d0 =>
        simp only [ArgsR] at r
        obtain ⟨a', u, _, hb, ho, _⟩ := r
        rw [hb] at e; cases e; exact ho
      | _ => obtain ⟨hb, _⟩ := r; rw [hb] at e; cases e
  refine ⟨⟨fun c o h _ => h, dom, bsub, ?_, fun i d h => ?_, fun i d h => ?_, fun i d h => ?_, fun i d h => ?_, fun i j a d d' h _ => ?_, fun i j a d d' h h' => ?_⟩, hlen⟩
  · rw [List.length_append, List.length_replicate, hlen]
    unfold L2.start
    rw [List.length_append, List.length_map, List.length_replicate]
  · rcases pad_get h with z | h
    · cases z
    · rcases key i _ h with ⟨d', v, e, e1, e2⟩ | ⟨_, _, e, _⟩ | ⟨_, _, _, e, _⟩ <;> cases e
      exact ⟨v, start_get e1, e2.ext xx⟩
  · rcases pad_get h with z | h
    · cases z
    · rcases key i _ h with ⟨d', v, e, e1, e2⟩ | ⟨_, _, e, _⟩ | ⟨_, _, _, e, _⟩ <;> cases e
  · rcases pad_get h with z | h
    · cases z
    · rcases key i _ h with ⟨d', v, e, e1, e2⟩ | ⟨_, _, e, _⟩ | ⟨_, d', a, e, e1, e2, e3, e4⟩ <;> cases e
      exact ⟨a, start_get e1, e2, e4.ext xx rfl⟩
  · rcases pad_get h with z | h
    · cases z
    · rcases key i _ h with ⟨d', v, e, e1, e2⟩ | ⟨d', a, e, e1, e2, e3, e4⟩ | ⟨_, _, _, e, _⟩ <;> cases e
      exact ⟨a, start_get e1, e2, e3, e4.ext xx rfl⟩
  · rcases pad_get h with z | h
    · cases z
    · rcases key i _ h with ⟨d', v, e, e1, e2⟩ | ⟨_, _, e, _⟩ | ⟨_, _, _, e, _⟩ <;> cases e
  · rcases pad_get h with z | h
    · cases z
    · rcases pad_get h' with z | h'
      · cases z
      · rcases key i _ h with ⟨_, _, e, _⟩ | ⟨_, _, e, _⟩ | ⟨e0, _, _, e, _⟩ <;> cases e
        rcases key j _ h' with ⟨_, _, e, _⟩ | ⟨_, _, e, _⟩ | ⟨e0', _, _, e, _⟩ <;> cases e
        intro _ _
        rw [e0, e0']
/-- what stands around a body -/
structure Cxt (P : Program) (w : World) (K : PySem.W.Frag) (mg : Str → Option Value) (base : Heap) (N : List Str) (sc : Scope) (k : Nat) (X : Cx) : Prop where
  prog : X.prog = P
  w : X.w = w
  K : X.K = K
  mg : X.mg = mg
  base : X.base = base
  N : X.N = N
  sc : X.env.scope = sc
  calm : X.calm = true
  room : Room k X.A
theorem end_of {K : PySem.W.Frag} {H : Hp} {O : Addr → Prop} {b : Option Addr} {env : Ev} {σ : St} {H' : Hp} (s : SR ⟨K, O, H, fun a => b = some a⟩ env σ H') : EndF K H O b (outOf env) H' := by
  refine ⟨fun c o h n => s.fr c o h n, fun a h => s.od a h, fun a d hb h => ?_⟩
  unfold outOf at h
  split at h
  · rename_i d' e
    cases h
    obtain ⟨a', e1, e2, c⟩ := s.bo 0 _ e
    have : a = a' := Option.some.inj (hb.symm.trans e2)
    subst this
    exact c.ext (Ext.sub fun c q => .inl q) rfl
  · cases h
section
variable {P : Program} {w : World} {K : PySem.W.Frag} {mg : Str → Option Value} {base : Heap}
/-- THE RULE for a def -/
theorem fn_ok {C : Nat → Value} {x qual : Str} {params : Arguments} {body : List Stmt} {scope : Scope} {f : Addr} {fd : FuncData} {N ps : List Str} {k : Nat} {m : MS} (F : FunD K x qual params body scope [] [] f fd) (S : FnScope N ps scope)
    (h : ∀ (X : Cx) (W : WX), Cxt P w K mg base N scope k X → (∀ x, X.fn x = true) → Takes X W → PassesOwn (model X.prog X.w) X.A X.env X.xe → X.stack = X.env :: X.outer → X.env.frame = some X.env.locals → JB X C W body m) :
    FnOk P w K mg base (L2.CX P w) (k + 1) f fd ps (spU K C ps.length (runF ps.length N.length m)) := by
  refine F.ok S (fun vs H Q E h => ?_) (fun cdv A outer s H vs Q E hr hsp => ?_)
  · obtain ⟨_, _, _, hl, _⟩ := h
    exact hl
  · obtain ⟨O, b, args, hl, dom, ra, z⟩ := hsp
    have hpl : ps.length ≤ N.length := by have := congrArg List.length S.pre; rw [List.length_take] at this; omega
    obtain ⟨s0, hlen⟩ := SR.begin (N := N) (by omega) dom ra
    have tk : Takes (cxOf (L2.CX P w) P w K mg base N qual scope f cdv A outer s H E) (fun cls d _ H => E cls d H) := takes_of rfl rfl rfl rfl
    have po : PassesOwn (model (cxOf (L2.CX P w) P w K mg base N qual scope f cdv A outer s H E).prog (cxOf (L2.CX P w) P w K mg base N qual scope f cdv A outer s H E).w) (cxOf (L2.CX P w) P w K mg base N qual scope f cdv A outer s H E).A (cxOf (L2.CX P w) P w K mg base N qual scope f cdv A outer s H E).env (cxOf (L2.CX P w) P w K mg base N qual scope f cdv A outer s H E).xe := passes_of rfl
    obtain ⟨t, p, q⟩ := (h (cxOf (L2.CX P w) P w K mg base N qual scope f cdv A outer s H E) (fun cls d _ H => E cls d H) ⟨rfl, rfl, rfl, rfl, rfl, rfl, rfl, rfl, hr⟩ (fun _ => rfl) tk po rfl rfl).run
    refine ⟨t, p, q _ _ _ _ _ rfl s0 ?_⟩
    unfold runF at z
    rw [hl] at s0
    rw [hl]
    cases e1 : m (args ++ List.replicate (N.length - ps.length) .no) with
    | nx env1 =>
      rw [e1] at z
      exact fun σ1 H1 s1 x1 => z .non H1 (end_of s1) (by simp only [RelD])
    | rt d env1 =>
      rw [e1] at z
      exact fun v σ1 H1 s1 r => z v H1 (end_of s1) r
    | ex c env1 =>
      rw [e1] at z
      exact fun σ1 H1 s1 _ => z H1 (end_of s1)
    | bk env1 => rw [e1] at z; exact z.elim
    | ct env1 => rw [e1] at z; exact z.elim
    | bad => rw [e1] at z; exact z.elim
end
end MP

set_option Elab.async false
set_option linter.all false
set_option maxRecDepth 100000
set_option maxHeartbeats 4000000
namespace MP
open PySem PySem.Spec L2
open PyProof.Rows hiding St

/-! ### names -/
structure Nm (N : List Str) (sc : Scope) (i : Nat) (x : Str) : Prop where
  at_ : N[i]? = some x
  vis : Vis sc x
  d : (x == ("__debug__" : Str)) = false
  c : (x == ("__classdict__" : Str)) = false
def nmB (N : List Str) (sc : Scope) (i : Nat) (x : Str) : Bool := decide (N[i]? = some x) && ((match sc.names.lookup x with
  | some .local => true
  | some .cell => true
  | some .free => true
  | _ => false) && ((!(x == ("__debug__" : Str))) && (!(x == ("__classdict__" : Str)))))
theorem Nm.by {N : List Str} {sc : Scope} {i : Nat} {x : Str} (h : nmB N sc i x = true) : Nm N sc i x := by
  unfold nmB at h
  simp only [Bool.and_eq_true, decide_eq_true_eq, Bool.not_eq_true'] at h
  obtain ⟨h1, h2, h3, h4⟩ := h
  refine ⟨h1, ?_, h3, h4⟩
  unfold Vis
  split at h2
  · exact .inl ‹_›
  · exact .inr (.inl ‹_›)
  · exact .inr (.inr ‹_›)
  · cases h2
/-- a name that the block binds -/
structure Nl (N : List Str) (sc : Scope) (i : Nat) (x : Str) : Prop where
  at_ : N[i]? = some x
  loc : sc.names.lookup x = some .local
def nlB (N : List Str) (sc : Scope) (i : Nat) (x : Str) : Bool := decide (N[i]? = some x) && (match sc.names.lookup x with
  | some .local => true
  | _ => false)
theorem Nl.by {N : List Str} {sc : Scope} {i : Nat} {x : Str} (h : nlB N sc i x = true) : Nl N sc i x := by
  unfold nlB at h
  simp only [Bool.and_eq_true, decide_eq_true_eq] at h
  obtain ⟨h1, h2⟩ := h
  refine ⟨h1, ?_⟩
  split at h2
  · assumption
  · cases h2
structure Nc (N : List Str) (sc : Scope) (i : Nat) (x : Str) : Prop where
  at_ : N[i]? = some x
  loc : sc.names.lookup x = some .cell
def ncB (N : List Str) (sc : Scope) (i : Nat) (x : Str) : Bool := decide (N[i]? = some x) && (match sc.names.lookup x with
  | some .cell => true
  | _ => false)
theorem Nc.by {N : List Str} {sc : Scope} {i : Nat} {x : Str} (h : ncB N sc i x = true) : Nc N sc i x := by
  unfold ncB at h
  simp only [Bool.and_eq_true, decide_eq_true_eq] at h
  obtain ⟨h1, h2⟩ := h
  refine ⟨h1, ?_⟩
  split at h2
  · assumption
  · cases h2
/-- a name of the module or a built-in -/
structure Ng (sc : Scope) (x : Str) : Prop where
  gl : sc.names.lookup x = some .globalImplicit
  d : (x == ("__debug__" : Str)) = false
  n : x ≠ "__name__"
def ngB (sc : Scope) (x : Str) : Bool := (match sc.names.lookup x with
  | some .globalImplicit => true
  | _ => false) && ((!(x == ("__debug__" : Str))) && decide (x ≠ "__name__"))
theorem Ng.by {sc : Scope} {x : Str} (h : ngB sc x = true) : Ng sc x := by
  unfold ngB at h
  simp only [Bool.and_eq_true, decide_eq_true_eq, Bool.not_eq_true'] at h
  obtain ⟨h1, h2, h3⟩ := h
  refine ⟨?_, h2, h3⟩
  split at h1
  · assumption
  · cases h1
section
variable {P : Program} {w : World} {K : PySem.W.Frag} {mg : Str → Option Value} {base : Heap} {N : List Str} {sc : Scope} {k : Nat} {X : Cx} {C : Nat → Value} {W : WX}
theorem Cxt.gl (c : Cxt P w K mg base N sc k X) {x : Str} (n : Ng sc x) : Gl X x := by
  show X.env.scope.names.lookup x = _
  rw [c.sc]; exact n.gl
theorem Cxt.at_ (c : Cxt P w K mg base N sc k X) {x : Str} {i : Nat} (h : N[i]? = some x) : X.N[i]? = some x := by rw [c.N]; exact h
theorem Cxt.vis (c : Cxt P w K mg base N sc k X) {x : Str} (h : Vis sc x) : Vis X.env.scope x := by rw [c.sc]; exact h
theorem x_var (c : Cxt P w K mg base N sc k X) {x : Str} {i : Nat} {pos : Pos} (n : Nm N sc i x) : JE X C W (.Name x pos) (mVar i) := j_var (c.at_ n.at_) (c.vis n.vis) n.d n.c
theorem x_pk (c : Cxt P w K mg base N sc k X) {x : Str} {i : Nat} {pos : Pos} (n : Nm N sc i x) : JO X C W (.Name x pos) (mPk i) (lPk i) := j_pk (c.at_ n.at_) (c.vis n.vis) n.d n.c
theorem x_tgL (c : Cxt P w K mg base N sc k X) (nd : N.Nodup) {x : Str} {i : Nat} {pos : Pos} (n : Nl N sc i x) : JG X (.Name x pos) (mgName i) [i] :=
  jg_name (by rw [c.N]; exact nd) (c.at_ n.at_) (by rw [c.sc]; exact .inl n.loc) (.inr (by rw [c.sc]; exact n.loc))
theorem x_tgC (c : Cxt P w K mg base N sc k X) (nd : N.Nodup) (fn : ∀ x, X.fn x = true) {x : Str} {i : Nat} {pos : Pos} (n : Nc N sc i x) : JG X (.Name x pos) (mgName i) [i] :=
  jg_name (by rw [c.N]; exact nd) (c.at_ n.at_) (by rw [c.sc]; exact .inr n.loc) (.inl (fn x))
theorem x_setL (c : Cxt P w K mg base N sc k X) (nd : N.Nodup) {x : Str} {i : Nat} {e : Expr} {m : ME} {pos' pos : Pos} (n : Nl N sc i x) (h : JE X C W e m) (hs : swapsWithSole [.Name x pos'] e pos.line X.env = pure false) (hw : swappedStores [.Name x pos'] e X.env = pure none) :
    JS X C W (.Assign [.Name x pos'] e pos) (mSet i m) := js_set (by rw [c.N]; exact nd) (c.at_ n.at_) (by rw [c.sc]; exact .inl n.loc) (.inr (by rw [c.sc]; exact n.loc)) h hs hw
theorem x_setC (c : Cxt P w K mg base N sc k X) (nd : N.Nodup) (fn : ∀ x, X.fn x = true) {x : Str} {i : Nat} {e : Expr} {m : ME} {pos' pos : Pos} (n : Nc N sc i x) (h : JE X C W e m) (hs : swapsWithSole [.Name x pos'] e pos.line X.env = pure false) (hw : swappedStores [.Name x pos'] e X.env = pure none) :
    JS X C W (.Assign [.Name x pos'] e pos) (mSet i m) := js_set (by rw [c.N]; exact nd) (c.at_ n.at_) (by rw [c.sc]; exact .inr n.loc) (.inl (fn x)) h hs hw
theorem x_ownL (c : Cxt P w K mg base N sc k X) (nd : N.Nodup) {x : Str} {i : Nat} {e : Expr} {m : ME} {pos' pos : Pos} (n : Nl N sc i x) (h : JF X C W e m) (hs : swapsWithSole [.Name x pos'] e pos.line X.env = pure false) (hw : swappedStores [.Name x pos'] e X.env = pure none) :
    JS X C W (.Assign [.Name x pos'] e pos) (mOwn i m) := js_own (by rw [c.N]; exact nd) (c.at_ n.at_) (by rw [c.sc]; exact .inl n.loc) (.inr (by rw [c.sc]; exact n.loc)) h hs hw
theorem x_ownC (c : Cxt P w K mg base N sc k X) (nd : N.Nodup) (fn : ∀ x, X.fn x = true) {x : Str} {i : Nat} {e : Expr} {m : ME} {pos' pos : Pos} (n : Nc N sc i x) (h : JF X C W e m) (hs : swapsWithSole [.Name x pos'] e pos.line X.env = pure false) (hw : swappedStores [.Name x pos'] e X.env = pure none) :
    JS X C W (.Assign [.Name x pos'] e pos) (mOwn i m) := js_own (by rw [c.N]; exact nd) (c.at_ n.at_) (by rw [c.sc]; exact .inr n.loc) (.inl (fn x)) h hs hw
/-- a constant of the module -/
theorem x_glob (c : Cxt P w K mg base N sc k X) {x : Str} {d : D} {v : V} {u : Value} {pos : Pos} (n : Ng sc x) (hm : mg x = some u) (r : RelV v u) (h : ∀ H O, RelD K H O d v) : JE X C W (.Name x pos) (mC d) := by
  refine ⟨_, pe_glob (c.gl n) (by rw [c.mg]; exact hm) r n.d, fun F env σ H Q kk s z => z v H s .refl ?_⟩
  rw [kk, c.K]
  exact h _ _
theorem Cxt.blk (c : Cxt P w K mg base N sc k X) (s : Shared) (H : Hp) (scope : Scope) (A : Addr) (cl : List (Str × Addr)) (fp : List Addr) : Cxt P w K mg base N (relS scope sc) k (X.blk s H scope (compEnvC scope cl A X.env) fp) :=
  ⟨c.prog, c.w, c.K, c.mg, c.base, c.N, by show relS scope X.env.scope = _; rw [c.sc], c.calm, c.room⟩
/-- a def of the module, with its promise -/
structure Df (P : Program) (w : World) (K : PySem.W.Frag) (mg : Str → Option Value) (base : Heap) (C : Nat → Value) (x : Str) (n k : Nat) (f : UF) : Prop where
  ex : ∃ (fa : Addr) (fd : FuncData) (ps : List Str), mg x = some (.ref fa) ∧ PySem.W.keepIn K (.ref fa) = true ∧ Binds K fd ps [] ∧ FnOk P w K mg base (L2.CX P w) k fa fd ps (spU K C n f)
theorem Df.mono {x : Str} {n j : Nat} {f : UF} (h : Df P w K mg base C x n j f) (e : j ≤ k) : Df P w K mg base C x n k f := by
  obtain ⟨fa, fd, ps, a, b, c, d⟩ := h.ex
  exact ⟨fa, fd, ps, a, b, c, d.mono e⟩
theorem x_user (c : Cxt P w K mg base N sc k X) {x : Str} {n j : Nat} {f : UF} {e : Expr} {es : List Expr} {ma : MA} {p pos : Pos} (tk : Takes X W) (d : Df P w K mg base C x n j f) (hj : j ≤ k) (g : Ng sc x) (ha : JV X C W (e :: es) ma) (hn : ∀ ds e env, ma env = .ok ds e → ds.length = n)
    (he : starEach (e :: es) X.env = (false, eval e X.env) :: starEach es X.env) (hpl : (backTo pos (starEach es X.env)).any (·.1) = false) : JE X C W (.Call (.Name x p) (e :: es) [] pos) (mUser f ma) := by
  obtain ⟨fa, fd, ps, h1, h2, h3, h4⟩ := d.ex
  have gl := c.gl g
  obtain ⟨rfl, rfl, rfl, rfl, rfl, rfl, rfl, _, r⟩ := c
  exact j_user tk h4 (r.mono hj) gl h1 h2 h3 ha hn g.d he hpl
theorem x_user0 (c : Cxt P w K mg base N sc k X) {x : Str} {j : Nat} {f : UF} {p pos : Pos} (tk : Takes X W) (d : Df P w K mg base C x 0 j f) (hj : j ≤ k) (g : Ng sc x) : JE X C W (.Call (.Name x p) [] [] pos) (mUser0 f) := by
  obtain ⟨fa, fd, ps, h1, h2, h3, h4⟩ := d.ex
  have gl := c.gl g
  obtain ⟨rfl, rfl, rfl, rfl, rfl, rfl, rfl, _, r⟩ := c
  exact j_user0 tk h4 (r.mono hj) gl h1 h2 h3 g.d
/-- f(x, e, ..): the first argument is lent -/
def mUserB (f : UF) (i : Nat) (ma : MA) : ME := fun e => match slotD e[i]? with
  | some _ => (match ma e with
    | .ok ds e1 => (match (e1[i]? : Option Sl) with
      | some (Sl.ow d) => (match f (.bo d :: ds.map Sl.va) with
        | .ok r (some d') => .ok r (e1.set i (.ow d'))
        | .ex c (some d') => .ex c (e1.set i (.ow d'))
        | _ => .bad)
      | some (Sl.bo d) => (match f (.bo d :: ds.map Sl.va) with
        | .ok r (some d') => .ok r (e1.set i (.bo d'))
        | .ex c (some d') => .ex c (e1.set i (.bo d'))
        | _ => .bad)
      | _ => .bad)
    | .ex c e1 => .ex c e1
    | .bad => .bad)
  | none => .bad
theorem lent_end {F : Fx} {env1 : Ev} {σ : St} {H1 H2 : Hp} {i : Nat} {d' : D} {z' : Sl} {a : Addr} (s1 : SR F env1 σ H1) (hz : (∃ d, env1[i]? = some (Sl.ow d) ∧ z' = Sl.ow d') ∨ (∃ d, env1[i]? = some (Sl.bo d) ∧ z' = Sl.bo d')) (ha : σ[i]? = some (some (V.ref a)))
    (en : EndF F.K H1 (Ow F env1 σ) (some a) (some d') H2) : SR F (env1.set i z') σ H2 ∧ (∀ b, Ow F (env1.set i z') σ b ↔ Ow F env1 σ b) ∧ Ext (Ow F env1 σ) H1 (Ow F (env1.set i z') σ) H2 := by
  obtain ⟨g, dom, cc⟩ := en
  have st : ∀ c, c ≠ a → H1 c ≠ none → H2 c = H1 c := fun c hc n => by
    cases e : H1 c with
    | none => exact absurd e n
    | some o => exact g c o e (fun z => hc (Option.some.inj z).symm)
  obtain ⟨s2, oeq⟩ := s1.put hz ha st (cc a d' rfl rfl)
  refine ⟨s2, oeq, fun b o h n => ?_, fun b h => .inl ((oeq b).mp h)⟩
  refine g b o h fun z => n ?_
  cases z
  rcases hz with ⟨d, h1, _⟩ | ⟨d, h1, _⟩
  · exact .inr ⟨i, d, h1, ha⟩
  · obtain ⟨b', e1, e2, _⟩ := s1.bo i d h1
    rw [ha] at e1; cases e1
    exact .inl (s1.bo0 _ e2)
theorem x_lend (c : Cxt P w K mg base N sc k X) {x y : Str} {i n j : Nat} {f : UF} {es : List Expr} {ma : MA} {py p pos : Pos} (tk : Takes X W) (d : Df P w K mg base C x (n + 1) j f) (hj : j ≤ k) (g : Ng sc x) (nm : Nm N sc i y) (ha : JV X C W es ma) (hn : ∀ ds e env, ma env = .ok ds e → ds.length = n)
    (he : starEach (.Name y py :: es) X.env = (false, eval (.Name y py) X.env) :: starEach es X.env) (hpl : (backTo pos (starEach es X.env)).any (·.1) = false) : JE X C W (.Call (.Name x p) (.Name y py :: es) [] pos) (mUserB f i ma) := by
  obtain ⟨fa, fd, ps, h1, h2, h3, h4⟩ := d.ex
  have gl := c.gl g
  have hv : PE X (.Name y py) (tVar i) := pe_var (c.at_ nm.at_) (c.vis nm.vis) nm.d nm.c
  obtain ⟨rfl, rfl, rfl, rfl, rfl, rfl, rfl, _, r⟩ := c
  obtain ⟨t, pa, q⟩ := ha.run
  refine ⟨_, pe_callS h4 (r.mono hj) gl h1 h2 h3 (fun σ => passAt tk σ) (pa_cons hv pa he) g.d he hpl, fun F env σ H Q kk s z => ?_⟩
  unfold mUserB at z
  cases e0 : slotD env[i]? with
  | none => rw [e0] at z; exact z.elim
  | some d0 =>
    rw [e0] at z
    dsimp only at z
    obtain ⟨v, hv, _⟩ := s.slot e0
    refine ⟨v, hv, q F env σ H _ kk s ?_⟩
    cases e1 : ma env with
    | bad => rw [e1] at z; exact z
    | ex c env1 => rw [e1] at z; exact z
    | ok ds env1 =>
      rw [e1] at z
      dsimp only at z
      refine fun vs H1 s1 x1 rl => ?_
      have hl : vs.length = n := by rw [← relL_len rl]; exact hn ds env1 env e1
      split at z
      · rename_i dd e2
        obtain ⟨a, w1, w2, w3, w4⟩ := s1.ow i dd e2
        rw [hv] at w1
        cases w1
        refine ⟨Ow F env1 σ, some a, .bo dd :: ds.map Sl.va, by simp only [List.length_cons, hl], fun a => s1.dom, ?_, ?_⟩
        · simp only [ArgsR]
          rw [← kk]
          exact ⟨a, vs, rfl, rfl, .inr ⟨i, dd, e2, hv⟩, w4, ⟨ds, rfl⟩, argR_map rl⟩
        · split at z
          · rename_i rr d' e3
            rw [e3]
            refine fun v2 H2 en rel => ?_
            rw [← kk] at en rel
            obtain ⟨s2, oeq, x2⟩ := lent_end (z' := Sl.ow d') s1 (.inl ⟨dd, e2, rfl⟩) hv en
            exact z v2 H2 s2 (x1.trans x2) (rel.ext (Ext.sub fun b h => (oeq b).mp h))
          · rename_i cc d' e3
            rw [e3]
            refine fun H2 en => ?_
            rw [← kk] at en
            obtain ⟨s2, oeq, x2⟩ := lent_end (z' := Sl.ow d') s1 (.inl ⟨dd, e2, rfl⟩) hv en
            exact z H2 s2 (x1.trans x2)
          · exact z.elim
      · rename_i dd e2
        obtain ⟨a, w1, w2, w4⟩ := s1.bo i dd e2
        rw [hv] at w1
        cases w1
        refine ⟨Ow F env1 σ, some a, .bo dd :: ds.map Sl.va, by simp only [List.length_cons, hl], fun a => s1.dom, ?_, ?_⟩
        · simp only [ArgsR]
          rw [← kk]
          exact ⟨a, vs, rfl, rfl, .inl (s1.bo0 a w2), w4, ⟨ds, rfl⟩, argR_map rl⟩
        · split at z
          · rename_i rr d' e3
            rw [e3]
            refine fun v2 H2 en rel => ?_
            rw [← kk] at en rel
            obtain ⟨s2, oeq, x2⟩ := lent_end (z' := Sl.bo d') s1 (.inr ⟨dd, e2, rfl⟩) hv en
            exact z v2 H2 s2 (x1.trans x2) (rel.ext (Ext.sub fun b h => (oeq b).mp h))
          · rename_i cc d' e3
            rw [e3]
            refine fun H2 en => ?_
            rw [← kk] at en
            obtain ⟨s2, oeq, x2⟩ := lent_end (z' := Sl.bo d') s1 (.inr ⟨dd, e2, rfl⟩) hv en
            exact z H2 s2 (x1.trans x2)
          · exact z.elim
      · exact z.elim
end
end MP

set_option Elab.async false
set_option linter.all false
set_option maxRecDepth 100000
set_option maxHeartbeats 4000000
namespace MP
open PySem PySem.Spec L2
open PyProof.Rows hiding St

/-! ### changing what is owned -/
def atC (e : Ev) (i : Nat) : Option D := match (e[i]? : Option Sl) with
  | some (Sl.ow d) => some d
  | some (Sl.bo d) => some d
  | _ => none
def kput (e : Ev) (i : Nat) (d : D) : Ev := match (e[i]? : Option Sl) with
  | some (Sl.ow _) => e.set i (Sl.ow d)
  | some (Sl.bo _) => e.set i (Sl.bo d)
  | _ => e
theorem SR.atC {F : Fx} {env : Ev} {σ : St} {H : Hp} (s : SR F env σ H) {i : Nat} {d : D} (h : atC env i = some d) : ∃ a, σ[i]? = some (some (V.ref a)) ∧ CRel F.K H (Ow F env σ) d a ∧ Ow F env σ a := by
  unfold MP.atC at h
  split at h
  · rename_i d' e
    cases h
    obtain ⟨a, e1, _, _, c⟩ := s.ow i _ e
    exact ⟨a, e1, c, .inr ⟨i, _, e, e1⟩⟩
  · rename_i d' e
    cases h
    obtain ⟨a, e1, e2, c⟩ := s.bo i _ e
    exact ⟨a, e1, c, .inl (s.bo0 a e2)⟩
  · cases h
theorem SR.kput {F : Fx} {env : Ev} {σ : St} {H H' : Hp} (s : SR F env σ H) {i : Nat} {a : Addr} {d d' : D} (h : MP.atC env i = some d) (ha : σ[i]? = some (some (V.ref a))) (st : ∀ c, c ≠ a → H c ≠ none → H' c = H c) (c : CRel F.K H' (Ow F env σ) d' a) :
    SR F (kput env i d') σ H' ∧ Ext (Ow F env σ) H (Ow F (MP.kput env i d') σ) H' := by
  have own : Ow F env σ a := by
    obtain ⟨b, e1, _, o⟩ := s.atC h
    rw [ha] at e1; cases e1; exact o
  have ext : ∀ e' : Ev, (∀ b, Ow F e' σ b ↔ Ow F env σ b) → Ext (Ow F env σ) H (Ow F e' σ) H' := fun e' oeq => by
    refine ⟨fun b o e n => ?_, fun b q => .inl ((oeq b).mp q)⟩
    have : b ≠ a := fun z => n (z ▸ own)
    rw [st b this (by rw [e]; intro z; cases z)]
    exact e
  unfold MP.atC at h
  unfold MP.kput
  split at h
  · rename_i d0 e
    obtain ⟨s2, oeq⟩ := s.put (z' := Sl.ow d') (.inl ⟨_, e, rfl⟩) ha st c
    exact ⟨s2, ext _ oeq⟩
  · rename_i d0 e
    obtain ⟨s2, oeq⟩ := s.put (z' := Sl.bo d') (.inr ⟨_, e, rfl⟩) ha st c
    exact ⟨s2, ext _ oeq⟩
  · cases h
theorem upd_else {H : Hp} {a : Addr} {o : HO} : ∀ c, c ≠ a → H c ≠ none → upd H a o c = H c := fun c n _ => upd_ne n
/-- to write at an owned place -/
theorem SR.wr {F : Fx} {env : Ev} {σ : St} {H : Hp} (s : SR F env σ H) {i : Nat} {a : Addr} {d : D} (h : MP.atC env i = some d) (ha : σ[i]? = some (some (V.ref a))) {o : HO} : Ext (Ow F env σ) H (Ow F env σ) (upd H a o) := by
  have own : Ow F env σ a := by
    obtain ⟨b, e1, _, o⟩ := s.atC h
    rw [ha] at e1; cases e1; exact o
  refine ⟨fun b o' e n => ?_, fun b q => .inl q⟩
  have : b ≠ a := fun z => n (z ▸ own)
  rw [upd_ne this]; exact e
theorem relL_appE {K : PySem.W.Frag} {H : Hp} {O : Addr → Prop} : ∀ {xs ys : List D} {vs us : List V}, RelL K H O xs vs → RelL K H O ys us → RelL K H O (xs ++ ys) (vs ++ us)
  | [], ys, vs, us, h, h2 => by
    simp only [RelL] at h
    subst h
    simpa using h2
  | x :: xs, ys, vs, us, h, h2 => by
    simp only [RelL] at h
    obtain ⟨v, r, rfl, h1, h3⟩ := h
    simp only [List.cons_append, RelL]
    exact ⟨v, _, rfl, h1, relL_appE h3 h2⟩
theorem relL_setE {K : PySem.W.Frag} {H : Hp} {O : Addr → Prop} {d : D} {v : V} (r : RelD K H O d v) : ∀ {xs : List D} {vs : List V} (j : Nat), RelL K H O xs vs → RelL K H O (xs.set j d) (vs.set j v)
  | [], vs, j, h => by
    simp only [RelL] at h
    subst h
    simp [RelL]
  | x :: xs, vs, 0, h => by
    simp only [RelL] at h
    obtain ⟨u, w, rfl, h1, h3⟩ := h
    simp only [List.set_cons_zero, RelL]
    exact ⟨v, _, rfl, r, h3⟩
  | x :: xs, vs, j + 1, h => by
    simp only [RelL] at h
    obtain ⟨u, w, rfl, h1, h3⟩ := h
    simp only [List.set_cons_succ, RelL]
    exact ⟨u, _, rfl, h1, relL_setE r j h3⟩
section
variable {X : Cx} {C : Nat → Value} {W : WX}
/-- xs.append(e) -/
def mApp (i : Nat) (m : ME) : MS := fun e => match atC e i with
  | some (.lst _) => (match m e with
    | .ok d e1 => (match atC e1 i with
      | some (.lst xs) => (match Nat.blt xs.length line with
        | true => .nx (kput e1 i (.lst (xs ++ [d])))
        | false => .bad)
      | _ => .bad)
    | .ex c e1 => .ex c e1
    | .bad => .bad)
  | _ => .bad
theorem js_app {i : Nat} {x : Str} {e : Expr} {m : ME} {px apos cpos pos : Pos} (hN : X.N[i]? = some x) (hv : Vis X.env.scope x) (hd : (x == ("__debug__" : Str)) = false) (hcd : (x == ("__classdict__" : Str)) = false) (h : JE X C W e m)
    (hfew : ((backTo cpos (starEach [e] X.env)).all (fun x => !x.1) && (backToKw cpos (keywordEach [] X.env)).all (fun x => x.1.isSome) && decide (([e] : List Expr).length + ([] : List Keyword).length + (if ([] : List Keyword).isEmpty then 0 else 1) < 30)) = true)
    (hline : (apos.endLine == cpos.line) = true) (hs : starEach [e] X.env = (false, eval e X.env) :: starEach [] X.env) :
    JS X C W (.Expr (.Call (.Attribute (.Name x px) "append" apos) [e] [] cpos) pos) (mApp i m) := by
  obtain ⟨t, p, q⟩ := h.run
  refine ⟨_, ps_expr (pe_bm PySem.F.plainAttrs_list PySem.F.slot_list_append PySem.F.type_list_append mt_append (pe_var hN hv hd hcd) (pa_cons p pa_nil hs) rfl hfew hline hs rfl) rfl, fun F env σ H D k s z => ?_⟩
  unfold mApp at z
  split at z
  · rename_i xs0 e0
    obtain ⟨a, ha, c0, o0⟩ := s.atC e0
    simp only [CRel] at c0
    obtain ⟨vs0, h0, _⟩ := c0
    refine ⟨.ref a, ha, .inl ⟨rfl, _, .inl (.inl h0)⟩, ?_⟩
    refine q F env σ H _ k s ?_
    cases e1 : m env with
    | bad => rw [e1] at z; exact z.elim
    | ex c env1 => rw [e1] at z; exact PostS.ex z
    | ok d env1 =>
      rw [e1] at z
      dsimp only at z
      refine fun v H1 s1 x1 r => ?_
      split at z
      · rename_i xs e2
        split at z
        · rename_i hl
          obtain ⟨a', ha', c1, o1⟩ := s1.atC e2
          rw [ha] at ha'
          cases ha'
          simp only [CRel] at c1
          obtain ⟨vs, h1, r1⟩ := c1
          refine ⟨a, vs, v, rfl, rfl, h1, ?_, ?_⟩
          · rw [← relL_len r1]; exact line_lt hl
          · have w := s1.wr e2 ha (o := .lst (vs ++ [v]))
            obtain ⟨s2, x2⟩ := s1.kput (H' := upd H1 a (.lst (vs ++ [v]))) (d' := .lst (xs ++ [d])) e2 ha upd_else (by
              simp only [CRel]
              exact ⟨_, upd_same, relL_appE (RelL.ext w _ _ r1) (by simp only [RelL]; exact ⟨v, [], rfl, r.ext w, rfl⟩)⟩)
            exact z σ _ s2 (x1.trans x2)
        · exact z.elim
      · exact z.elim
  · exact z.elim
/-- xs[i] = e -/
def mSub (i : Nat) (mi mv : ME) : MS := fun e => match mv e with
  | .ok d e1 => (match atC e1 i with
    | some (.lst _) => (match mi e1 with
      | .ok (.int k) e2 => (match atC e2 i with
        | some (.lst xs) => (match ixN xs.length k with
          | some j => .nx (kput e2 i (.lst (xs.set j d)))
          | none => .bad)
        | _ => .bad)
      | .ok _ _ => .bad
      | .ex c e2 => .ex c e2
      | .bad => .bad)
    | _ => .bad)
  | .ex c e1 => .ex c e1
  | .bad => .bad
theorem js_sub {i : Nat} {x : Str} {ix e : Expr} {mi mv : ME} {px sp pos : Pos} (hN : X.N[i]? = some x) (hv : Vis X.env.scope x) (hd : (x == ("__debug__" : Str)) = false) (hcd : (x == ("__classdict__" : Str)) = false) (hi : JE X C W ix mi) (h : JE X C W e mv)
    (ha : ∀ v, assign (.Subscript (.Name x px) ix sp) X.env v = (do
      let ov ← holding [v] (eval (.Name x px) X.env)
      let iv ← holding [v, ov] (eval ix X.env)
      standAt sp
      holding [v, ov, iv] (setItem ov iv v)
      release [v, ov, iv] [])) (hs : swapsWithSole [.Subscript (.Name x px) ix sp] e pos.line X.env = pure false) :
    JS X C W (.Assign [.Subscript (.Name x px) ix sp] e pos) (mSub i mi mv) := by
  obtain ⟨t, p, q⟩ := h.run
  obtain ⟨t2, p2, q2⟩ := hi.run
  refine ⟨_, ps_asg p (pg_sub (pe_var hN hv hd hcd) p2 set_list ha) hs rfl, fun F env σ H D k s z => ?_⟩
  unfold mSub at z
  refine q F env σ H _ k s ?_
  cases e1 : mv env with
  | bad => rw [e1] at z; exact z.elim
  | ex c env1 => rw [e1] at z; exact PostS.ex z
  | ok d env1 =>
    rw [e1] at z
    dsimp only at z
    refine fun v H1 s1 x1 r => ?_
    split at z
    · rename_i xs0 e0
      obtain ⟨a, ha, _, _⟩ := s1.atC e0
      refine ⟨.ref a, ha, q2 F env1 σ H1 _ k s1 ?_⟩
      cases e2 : mi env1 with
      | bad => rw [e2] at z; exact z.elim
      | ex c env2 => rw [e2] at z; exact fun H' s' x' => z σ H' s' (x1.trans x')
      | ok d2 env2 =>
        rw [e2] at z
        refine fun u H2 s2 x2 r2 => ?_
        cases d2 <;> dsimp only at z <;> try exact z.elim
        rename_i kk
        simp only [RelD] at r2
        subst r2
        split at z
        · rename_i xs e3
          split at z
          · rename_i j e4
            obtain ⟨a', ha', c1, o1⟩ := s2.atC e3
            rw [ha] at ha'
            cases ha'
            simp only [CRel] at c1
            obtain ⟨vs, h1, r1⟩ := c1
            refine ⟨a, vs, kk, j, rfl, rfl, h1, by rw [← relL_len r1]; exact e4, ?_⟩
            have w := s2.wr e3 ha (o := .lst (vs.set j v))
            obtain ⟨s3, x3⟩ := s2.kput (H' := upd H2 a (.lst (vs.set j v))) (d' := .lst (xs.set j d)) e3 ha upd_else (by
              simp only [CRel]
              exact ⟨_, upd_same, relL_setE ((r.ext x2).ext w) j (RelL.ext w _ _ r1)⟩)
            exact z σ _ s3 ((x1.trans x2).trans x3)
          · exact z.elim
        · exact z.elim
    · exact z.elim
/-! ### raise -/
def mRaise (c : Nat) : MS := fun e => .ex c e
theorem js_raise {B newId initId : String} {bmB : List Value} {Cl : Addr} {c : Nat} {x m : Str} {j : Nat} {p p2 p3 pos : Pos} (hc : X.calm = true) (tk : Takes X W) (Fb : ExcBaseFacts B newId initId bmB) (q : PySem.W.excIn X.K Cl bmB newId = true) (gC : X.mg x = some (.ref Cl)) (kC : PySem.W.keepIn X.K (.ref Cl) = true)
    (h1 : PySem.W.subIn X.K (.ref Cl) (.type "BaseException") = some true) (h2 : PySem.W.typeIn X.K (.ref Cl) = some (.type "type")) (hg : Gl X x) (hdb : (x == ("__debug__" : Str)) = false) (hC : C c = .ref Cl) :
    JS X C W (.Raise (some (.Call (.Name x p) [.Constant (.str m) j p2] [] p3)) none pos) (mRaise c) := by
  refine ⟨_, ps_raise hc tk (pmk_own Fb q gC kC (raises_own h1 h2) hg hdb), fun F env σ H D k s z => ?_⟩
  unfold mRaise at z
  rw [← hC]
  exact z σ H s .refl
/-- a statement that no run of the law reaches -/
def mNever : MS := fun _ => .bad
theorem js_never {st : Stmt} : JS X C W st mNever := ⟨fun _ _ _ => False, ⟨fun pins s σ H D I h => h.elim⟩, fun F env σ H D k s z => z.elim⟩
theorem je_never {e : Expr} : JE X C W e (fun _ => .bad) := ⟨fun _ _ _ => False, ⟨fun pins s σ H Q I h => h.elim⟩, fun F env σ H D k s z => z.elim⟩
end
end MP

set_option Elab.async false
set_option linter.all false
set_option maxRecDepth 100000
set_option maxHeartbeats 4000000
namespace MP
open PySem PySem.Spec L2
open PyProof.Rows hiding St

/-! ### dicts of int and text keys -/
theorem kyK_inj {a b : Ky} (h : kyK a = kyK b) : a = b := by
  cases a <;> cases b <;> simp only [kyK] at h <;> cases h <;> rfl
theorem kyK_dec (a b : Ky) : decide (kyK a = kyK b) = decide (a = b) := by
  by_cases h : a = b
  · subst h; simp
  · rw [decide_eq_false h, decide_eq_false fun e => h (kyK_inj e)]
def dget : List Ky → List D → Ky → Option D
  | k :: ks, x :: xs, q => (match decide (k = q) with
    | true => some x
    | false => dget ks xs q)
  | _, _, _ => none
def repl {α : Type} : List Ky → List α → Ky → α → List α
  | k :: ks, x :: xs, q, d => (match decide (k = q) with
    | true => d
    | false => x) :: repl ks xs q d
  | _, _, _, _ => []
def hasK (ks : List Ky) (q : Ky) : Bool := ks.any fun k => decide (k = q)
def kyD : D → Option Ky
  | .int i => some (.inl i)
  | .str cs => some (.inr cs)
  | _ => none
theorem kyD_v {K : PySem.W.Frag} {H : Hp} {O : Addr → Prop} {d : D} {v : V} {q : Ky} (r : RelD K H O d v) (e : kyD d = some q) : v = kV (kyK q) := by
  cases d <;> simp only [kyD] at e <;> try (cases e; done)
  · cases e; simp only [RelD] at r; exact r
  · cases e; simp only [RelD] at r; exact r
theorem dget_rel {K : PySem.W.Frag} {H : Hp} {O : Addr → Prop} {q : Ky} : ∀ {ks : List Ky} {xs : List D} {vs : List V}, RelL K H O xs vs → ks.length = vs.length →
    (∀ d, dget ks xs q = some d → ∃ v, valV ((ks.map kyK).zip vs) (kyK q) = some v ∧ RelD K H O d v) ∧ (dget ks xs q = none → valV ((ks.map kyK).zip vs) (kyK q) = none)
  | [], xs, vs, r, l => by
    refine ⟨fun d h => ?_, fun _ => rfl⟩
    simp only [dget] at h
    cases h
  | k :: ks, [], vs, r, l => by
    simp only [RelL] at r
    subst r
    simp at l
  | k :: ks, x :: xs, vs, r, l => by
    simp only [RelL] at r
    obtain ⟨v, u, rfl, r1, r2⟩ := r
    have ih := dget_rel (q := q) r2 (by simpa using l)
    simp only [dget, List.map_cons, List.zip_cons_cons]
    by_cases e : k = q
    · subst e
      simp only [decide_true]
      exact ⟨fun d h => ⟨v, valV_pos rfl, by cases h; exact r1⟩, fun h => by cases h⟩
    · rw [decide_eq_false e]
      rw [valV_neg (by exact fun z => e (kyK_inj z))]
      exact ih
theorem zip_any {q : Ky} : ∀ {ks : List Ky} {vs : List V}, ks.length = vs.length → (((ks.map kyK).zip vs).any fun kv => decide (kv.1 = kyK q)) = hasK ks q
  | [], vs, l => rfl
  | k :: ks, [], l => by simp at l
  | k :: ks, v :: vs, l => by
    have ih := zip_any (q := q) (ks := ks) (vs := vs) (by simpa using l)
    unfold hasK at ih ⊢
    simp only [List.map_cons, List.zip_cons_cons, List.any_cons, ih, kyK_dec]
theorem zip_map {q : Ky} {v0 : V} : ∀ {ks : List Ky} {vs : List V}, ks.length = vs.length → ((ks.map kyK).zip vs).map (fun kv => if kv.1 = kyK q then (kv.1, v0) else kv) = (ks.map kyK).zip (repl ks vs q v0)
  | [], vs, l => rfl
  | k :: ks, [], l => by simp at l
  | k :: ks, v :: vs, l => by
    have ih := zip_map (q := q) (v0 := v0) (ks := ks) (vs := vs) (by simpa using l)
    simp only [List.map_cons, List.zip_cons_cons, repl, ih]
    by_cases e : k = q
    · subst e; simp
    · rw [decide_eq_false e, if_neg fun z => e (kyK_inj z)]
theorem repl_len {α : Type} {q : Ky} {d : α} : ∀ {ks : List Ky} {xs : List α}, ks.length = xs.length → (repl ks xs q d).length = xs.length
  | [], [], l => rfl
  | [], _ :: _, l => by simp at l
  | _ :: _, [], l => by simp at l
  | k :: ks, x :: xs, l => by simp only [repl, List.length_cons]; rw [repl_len (by simpa using l)]
theorem repl_rel {K : PySem.W.Frag} {H : Hp} {O : Addr → Prop} {q : Ky} {d : D} {v : V} (rd : RelD K H O d v) : ∀ {ks : List Ky} {xs : List D} {vs : List V}, RelL K H O xs vs → RelL K H O (repl ks xs q d) (repl ks vs q v)
  | [], xs, vs, r => by simp only [repl, RelL]
  | k :: ks, [], vs, r => by
    simp only [RelL] at r
    subst r
    simp only [repl, RelL]
  | k :: ks, x :: xs, vs, r => by
    simp only [RelL] at r
    obtain ⟨w, u, rfl, r1, r2⟩ := r
    simp only [repl, RelL]
    refine ⟨_, _, rfl, ?_, repl_rel rd r2⟩
    cases decide (k = q) with
    | true => exact rd
    | false => exact r1
def dput (ks : List Ky) (xs : List D) (q : Ky) (d : D) : D := match hasK ks q with
  | true => .dct ks (repl ks xs q d)
  | false => .dct (ks ++ [q]) (xs ++ [d])
theorem dput_rel {K : PySem.W.Frag} {H : Hp} {O : Addr → Prop} {a : Addr} {ks : List Ky} {xs : List D} {vs : List V} {q : Ky} {d : D} {v : V} (r : RelL K (upd H a (.dK (putK ((ks.map kyK).zip vs) (kyK q) v))) O xs vs) (l : ks.length = vs.length) (rd : RelD K (upd H a (.dK (putK ((ks.map kyK).zip vs) (kyK q) v))) O d v) :
    CRel K (upd H a (.dK (putK ((ks.map kyK).zip vs) (kyK q) v))) O (dput ks xs q d) a := by
  have e0 := zip_any (q := q) l
  unfold dput
  cases h : hasK ks q with
  | true =>
    simp only [CRel]
    refine ⟨repl ks vs q v, ?_, by rw [repl_len l]; exact l, repl_rel rd r⟩
    rw [upd_same]
    unfold putK
    rw [e0, h, if_pos rfl, zip_map l]
  | false =>
    simp only [CRel]
    refine ⟨vs ++ [v], ?_, by simp [l], relL_appE r (by simp only [RelL]; exact ⟨v, [], rfl, rd, rfl⟩)⟩
    rw [upd_same]
    unfold putK
    rw [e0, h, if_neg (by simp), List.map_append, List.zip_append (by simpa using l)]
    rfl
/-- the keys of a dict of int keys -/
def intKs : List Ky → Option (List Int)
  | [] => some []
  | .inl i :: r => (match intKs r with
    | some ns => some (i :: ns)
    | none => none)
  | .inr _ :: _ => none
theorem intKs_ok : ∀ {ks : List Ky} {ns : List Int}, intKs ks = some ns → ks.map kyK = ns.map Sum.inl
  | [], ns, h => by simp only [intKs] at h; cases h; rfl
  | .inl i :: r, ns, h => by
    simp only [intKs] at h
    split at h
    · rename_i ms e
      cases h
      simp only [List.map_cons, kyK, intKs_ok e]
    · cases h
  | .inr _ :: _, ns, h => by simp [intKs] at h
section
variable {X : Cx} {C : Nat → Value} {W : WX}
/-- what a slot's dict is -/
def dctAt (e : Ev) (i : Nat) : Option (List Ky × List D) := match slotD (e[i]? : Option Sl) with
  | some (.dct ks xs) => some (ks, xs)
  | _ => none
theorem SR.dct {F : Fx} {env : Ev} {σ : St} {H : Hp} (s : SR F env σ H) {i : Nat} {ks : List Ky} {xs : List D} (h : dctAt env i = some (ks, xs)) :
    ∃ a vs, σ[i]? = some (some (V.ref a)) ∧ H a = some (.dK ((ks.map kyK).zip vs)) ∧ ks.length = vs.length ∧ RelL F.K H (Ow F env σ) xs vs := by
  unfold dctAt at h
  split at h
  · rename_i k1 x1 e
    cases h
    obtain ⟨v, e1, p⟩ := s.slot e
    rcases p with p | ⟨a, rfl, p⟩
    · simp only [RelD] at p
    · simp only [CRel] at p
      obtain ⟨vs, h1, h2, h3⟩ := p
      exact ⟨a, vs, e1, h1, h2, h3⟩
  · cases h
/-- d[k] -/
def mDGet (i : Nat) (mk : ME) : ME := fun e => match dctAt e i with
  | some _ => (match mk e with
    | .ok kd e1 => (match kyD kd with
      | some q => (match dctAt e1 i with
        | some (ks, xs) => (match dget ks xs q with
          | some d => .ok d e1
          | none => .bad)
        | none => .bad)
      | none => .bad)
    | .ex c e1 => .ex c e1
    | .bad => .bad)
  | none => .bad
theorem j_dget {i : Nat} {x : Str} {ix : Expr} {mk : ME} {px pos : Pos} (hu : X.A.units + 1 < cLine) (hN : X.N[i]? = some x) (hv : Vis X.env.scope x) (hd : (x == ("__debug__" : Str)) = false) (hcd : (x == ("__classdict__" : Str)) = false) (hk : JE X C W ix mk) (hs : NoSl ix) :
    JE X C W (.Subscript (.Name x px) ix pos) (mDGet i mk) := by
  obtain ⟨t, p, q⟩ := hk.run
  refine ⟨_, pe_dget hu (pe_var hN hv hd hcd) p hs, fun F env σ H Q k s z => ?_⟩
  unfold mDGet at z
  cases e0 : dctAt env i with
  | none => rw [e0] at z; exact z.elim
  | some kx =>
    obtain ⟨ks0, xs0⟩ := kx
    rw [e0] at z
    dsimp only at z
    obtain ⟨a, vs0, ha, _, _, _⟩ := s.dct e0
    refine ⟨.ref a, ha, q F env σ H _ k s ?_⟩
    cases e1 : mk env with
    | bad => rw [e1] at z; exact z
    | ex c env1 => rw [e1] at z; exact z
    | ok kd env1 =>
      rw [e1] at z
      refine fun v H1 s1 x1 r1 => ?_
      dsimp only at z
      cases e2 : kyD kd with
      | none => rw [e2] at z; exact z.elim
      | some qk =>
        rw [e2] at z
        dsimp only at z
        cases e3 : dctAt env1 i with
        | none => rw [e3] at z; exact z.elim
        | some kx =>
          obtain ⟨ks, xs⟩ := kx
          rw [e3] at z
          dsimp only at z
          cases e4 : dget ks xs qk with
          | none => rw [e4] at z; exact z.elim
          | some d =>
            rw [e4] at z
            obtain ⟨a', vs, ha', h1, l1, rl⟩ := s1.dct e3
            rw [ha] at ha'
            cases ha'
            obtain ⟨w, w1, w2⟩ := (dget_rel (q := qk) rl l1).1 d e4
            refine ⟨a, w, rfl, ?_, z w H1 s1 x1 w2⟩
            rw [kyD_v r1 e2, ← w1]
            exact DGet.k h1
/-- d.get(k, x) -/
def mDGet2 (i : Nat) (mk mx : ME) : ME := fun e => match dctAt e i with
  | some _ => (match mk e with
    | .ok kd e1 => (match mx e1 with
      | .ok dx e2 => (match kyD kd with
        | some q => (match dctAt e2 i with
          | some (ks, xs) => (match dget ks xs q with
            | some d => .ok d e2
            | none => .ok dx e2)
          | none => .bad)
        | none => .bad)
      | .ex c e2 => .ex c e2
      | .bad => .bad)
    | .ex c e1 => .ex c e1
    | .bad => .bad)
  | none => .bad
theorem j_dget2 {i : Nat} {x : Str} {ek ex : Expr} {mk mx : ME} {px apos cpos : Pos} (hu : X.A.units + 1 < cLine) (hN : X.N[i]? = some x) (hv : Vis X.env.scope x) (hd : (x == ("__debug__" : Str)) = false) (hcd : (x == ("__classdict__" : Str)) = false) (hk : JE X C W ek mk) (hx : JE X C W ex mx) (m : M2 X (.Name x px) "get" apos ek ex cpos) :
    JE X C W (.Call (.Attribute (.Name x px) "get" apos) [ek, ex] [] cpos) (mDGet2 i mk mx) := by
  obtain ⟨t, p, q⟩ := hk.run
  obtain ⟨t2, p2, q2⟩ := hx.run
  refine ⟨_, pe_dget2 hu (pe_var hN hv hd hcd) p p2 m, fun F env σ H Q k s z => ?_⟩
  unfold mDGet2 at z
  cases e0 : dctAt env i with
  | none => rw [e0] at z; exact z.elim
  | some kx =>
    obtain ⟨ks0, xs0⟩ := kx
    rw [e0] at z
    dsimp only at z
    obtain ⟨a, vs0, ha, h0, _, _⟩ := s.dct e0
    refine ⟨.ref a, ha, a, rfl, .inl ⟨_, .inl h0⟩, q F env σ H _ k s ?_⟩
    cases e1 : mk env with
    | bad => rw [e1] at z; exact z
    | ex c env1 => rw [e1] at z; exact z
    | ok kd env1 =>
      rw [e1] at z
      refine fun v H1 s1 x1 r1 => q2 F env1 σ H1 _ k s1 ?_
      dsimp only at z
      cases e2 : mx env1 with
      | bad => rw [e2] at z; exact z
      | ex c env2 => rw [e2] at z; exact fun H' s' x' => z H' s' (x1.trans x')
      | ok dx env2 =>
        rw [e2] at z
        refine fun u H2 s2 x2 r2 => ?_
        dsimp only at z
        cases e3 : kyD kd with
        | none => rw [e3] at z; exact z.elim
        | some qk =>
          rw [e3] at z
          dsimp only at z
          cases e4 : dctAt env2 i with
          | none => rw [e4] at z; exact z.elim
          | some kx =>
            obtain ⟨ks, xs⟩ := kx
            rw [e4] at z
            dsimp only at z
            obtain ⟨a', vs, ha', h1, l1, rl⟩ := s2.dct e4
            rw [ha] at ha'
            cases ha'
            rw [kyD_v r1 e3]
            refine ⟨_, DGet.k h1, ?_⟩
            cases e5 : dget ks xs qk with
            | none =>
              rw [e5] at z
              rw [(dget_rel (q := qk) rl l1).2 e5]
              exact z u H2 s2 (x1.trans x2) r2
            | some d =>
              rw [e5] at z
              obtain ⟨w, w1, w2⟩ := (dget_rel (q := qk) rl l1).1 d e5
              rw [w1]
              exact z w H2 s2 (x1.trans x2) w2
def dctC (e : Ev) (i : Nat) : Option (List Ky × List D) := match atC e i with
  | some (.dct ks xs) => some (ks, xs)
  | _ => none
theorem dctC_at {e : Ev} {i : Nat} {ks : List Ky} {xs : List D} (h : dctC e i = some (ks, xs)) : atC e i = some (.dct ks xs) := by
  unfold dctC at h
  split at h
  · rename_i e1
    cases h
    exact e1
  · cases h
/-- d[k] = e -/
def mDPut (i : Nat) (mk mv : ME) : MS := fun e => match mv e with
  | .ok d e1 => (match dctC e1 i with
    | some _ => (match mk e1 with
      | .ok kd e2 => (match kyD kd with
        | some q => (match dctC e2 i with
          | some (ks, xs) => (match Nat.blt ks.length line with
            | true => .nx (kput e2 i (dput ks xs q d))
            | false => .bad)
          | none => .bad)
        | none => .bad)
      | .ex c e2 => .ex c e2
      | .bad => .bad)
    | none => .bad)
  | .ex c e1 => .ex c e1
  | .bad => .bad
theorem js_dput {i : Nat} {x : Str} {ix e : Expr} {mk mv : ME} {px sp pos : Pos} (hu : X.A.units + 1 < cLine) (hN : X.N[i]? = some x) (hv : Vis X.env.scope x) (hd : (x == ("__debug__" : Str)) = false) (hcd : (x == ("__classdict__" : Str)) = false) (hk : JE X C W ix mk) (h : JE X C W e mv)
    (hs : swapsWith e (some (.Subscript (.Name x px) ix sp)) pos.line X.env = pure false) : JS X C W (.Assign [.Subscript (.Name x px) ix sp] e pos) (mDPut i mk mv) := by
  obtain ⟨t, p, q⟩ := h.run
  obtain ⟨t2, p2, q2⟩ := hk.run
  refine ⟨_, ps_dput hu (pe_var hN hv hd hcd) p2 p hs, fun F env σ H D k s z => q F env σ H _ k s ?_⟩
  unfold mDPut at z
  cases e1 : mv env with
  | bad => rw [e1] at z; exact z
  | ex c env1 => rw [e1] at z; exact PostS.ex z
  | ok d env1 =>
    rw [e1] at z
    refine fun v H1 s1 x1 r1 => ?_
    dsimp only at z
    cases e2 : dctC env1 i with
    | none => rw [e2] at z; exact z.elim
    | some kx =>
      obtain ⟨ks0, xs0⟩ := kx
      rw [e2] at z
      dsimp only at z
      obtain ⟨a, ha, _, _⟩ := s1.atC (dctC_at e2)
      refine ⟨.ref a, ha, q2 F env1 σ H1 _ k s1 ?_⟩
      cases e3 : mk env1 with
      | bad => rw [e3] at z; exact z
      | ex c env2 => rw [e3] at z; exact fun H' s' x' => z σ H' s' (x1.trans x')
      | ok kd env2 =>
        rw [e3] at z
        refine fun u H2 s2 x2 r2 => ?_
        dsimp only at z
        cases e4 : kyD kd with
        | none => rw [e4] at z; exact z.elim
        | some qk =>
          rw [e4] at z
          dsimp only at z
          cases e5 : dctC env2 i with
          | none => rw [e5] at z; exact z.elim
          | some kx =>
            obtain ⟨ks, xs⟩ := kx
            rw [e5] at z
            dsimp only at z
            split at z
            · rename_i hl
              obtain ⟨a', ha', c1, _⟩ := s2.atC (dctC_at e5)
              rw [ha] at ha'
              cases ha'
              simp only [CRel] at c1
              obtain ⟨vs, h1, l1, rl⟩ := c1
              have w := s2.wr (dctC_at e5) ha (o := .dK (putK ((ks.map kyK).zip vs) (kyK qk) v))
              obtain ⟨s3, x3⟩ := s2.kput (H' := upd H2 a (.dK (putK ((ks.map kyK).zip vs) (kyK qk) v))) (d' := dput ks xs qk d) (dctC_at e5) ha upd_else (dput_rel (RelL.ext w _ _ rl) l1 ((r1.ext x2).ext w))
              refine ⟨a, _, rfl, ?_, z σ _ s3 ((x1.trans x2).trans x3)⟩
              rw [kyD_v r2 e4]
              refine DPut.k h1 ?_
              rw [List.length_zip, List.length_map, ← l1, Nat.min_self]
              exact line_lt hl
            · exact z.elim
/-- sorted(d) -/
def rSortD : List V → Hp → VK → Prop := fun xs H Q => ∃ (a : Addr) (kvs : List (Key × V)) (ks : List Int), xs = [.ref a] ∧ Rd H a (.dK kvs) ∧ kvs.map (·.1) = ks.map Sum.inl ∧ ks.length < 64 ∧
    ∀ (ys : List Int) (p : Addr), ys.Perm ks → ys.Pairwise (· ≤ ·) → H p = none → Q (.ref p) (upd H p (.lst (ys.map V.int)))
def bSortedD : List D → Option D
  | [.dct ks xs] => (match intKs ks with
    | some ns => (match Nat.blt ns.length 64 with
      | true => some (.lst ((sortI ns).map D.int))
      | false => none)
    | none => none)
  | _ => none
theorem zip_fst {α β : Type} : ∀ {ks : List α} {vs : List β}, ks.length = vs.length → (ks.zip vs).map (·.1) = ks
  | [], vs, l => rfl
  | k :: ks, [], l => by simp at l
  | k :: ks, v :: vs, l => by simp only [List.zip_cons_cons, List.map_cons]; rw [zip_fst (by simpa using l)]
theorem s_sortedD {K : PySem.W.Frag} : CaS K rSortD bSortedD := by
  intro H O xs vs Q d dom pp e q
  match xs, e with
  | [x], e =>
    obtain ⟨v, rfl, px⟩ := pRelL_one pp
    cases x <;> simp only [bSortedD] at e <;> try (cases e; done)
    rename_i ks us
    split at e
    · rename_i ns he
      split at e <;> cases e
      rename_i hl
      rcases px with p | ⟨a, rfl, p⟩
      · simp only [RelD] at p
      · simp only [CRel] at p
        obtain ⟨ws, h1, l1, _⟩ := p
        have i1 := intKs_ok he
        refine ⟨a, _, ns, rfl, .inl h1, ?_, Nat.le_of_ble_eq_true hl, fun ns' p pm pw np => ?_⟩
        · rw [zip_fst (by simpa using l1)]; exact i1
        rw [sorted_one (pm.trans (sortI_perm _).symm) pw (sortI_sorted _)]
        exact q _ _ (same_upd np) (rel_newL np dom (r_ints _))
    · cases e
  | [], e => simp [bSortedD] at e
  | _ :: _ :: _, e => simp [bSortedD] at e
end
end MP

set_option Elab.async false
set_option linter.all false
set_option maxRecDepth 100000
set_option maxHeartbeats 4000000
namespace MP
open PySem PySem.Spec L2
open PyProof.Rows hiding St

section
variable {X : Cx} {C : Nat → Value} {W : WX}
/-! ### xs = [e for ..] on one line -/
theorem lc_parts {elt tg iter : Expr} {ifs : List Expr} {scope : Scope} {own : List (Str × Nat)} {pos spos py : Pos} {y : Str} {i : Nat} {js : List Nat} {mi : MA} {mg : MT} {mt me : ME} (hc : X.calm = true) (hN : X.N.Nodup) (hi : JI X C W tg iter mi) (ok : BlkOk X.N X.env.scope scope own)
    (hg : ∀ (s : Shared) (H : Hp) (A : Addr) (cl : List (Str × Addr)) (fp : List Addr), JG (X.blk s H scope (compEnvC scope cl A X.env) fp) tg mg js)
    (ht : ∀ (s : Shared) (H : Hp) (A : Addr) (cl : List (Str × Addr)) (fp : List Addr), JTs (X.blk s H scope (compEnvC scope cl A X.env) fp) C W0 ifs mt)
    (he : ∀ (s : Shared) (H : Hp) (A : Addr) (cl : List (Str × Addr)) (fp : List Addr), JE (X.blk s H scope (compEnvC scope cl A X.env) fp) C W0 elt me)
    (hj : ∀ j ∈ js, j ∈ own.map (·.2)) (hs : ∀ x, foldedSetIterable iter X.env x = pure x) (hy : X.N[i]? = some y) (hyl : X.env.scope.names.lookup y = some .local)
    (hsw : swapsWith (.ListComp elt [⟨tg, iter, ifs, 0⟩] scope pos) (some (.Name y py)) spos.line X.env = pure true) :
    ∃ te, PS X (.Assign [.Name y py] (.ListComp elt [⟨tg, iter, ifs, 0⟩] scope pos) spos) (tAsg te (gName i)) ∧ ∀ F env σ H Q, F.K = X.K → SR F env σ H → PostF F C W env σ H Q (mLc mi (own.map (·.2)) mg mt me env) → te σ H Q := by
  obtain ⟨wi, pi, qi⟩ := hi.run
  have pg := fun s H A cl fp => (hg s H A cl fp).canon
  have pt := fun s H A cl fp => (ht s H A cl fp).canon
  have pe := fun s H A cl fp => (he s H A cl fp).canon
  have qg : ∀ F env σ H d v env' Q, F.K = X.K → SR F env σ H → RelD F.K H (Ow F env σ) d v → mg d env = some env' → (∀ σ', SR F env' σ' H → (∀ b, Ow F env' σ' b → Ow F env σ b) → (∀ vs : List Nat, (∀ j ∈ js, j ∈ vs) → wipe σ' vs = wipe σ vs) → Q σ' H) → cG X.K mg js v σ H Q :=
    fun F env σ H d v env' Q k sr rel e z => ⟨F, env, d, env', k, sr, rel, e, z⟩
  have qt : ∀ F env σ H Q, F.K = X.K → SR F env σ H → PostT F C W0 env σ H Q (mt env) → cTs X.K C W0 mt σ H Q := fun F env σ H Q k sr z => ⟨F, env, k, sr, z⟩
  have qe : ∀ F env σ H Q, F.K = X.K → SR F env σ H → PostE F C W0 env σ H Q (me env) → cE X.K C W0 me σ H Q := fun F env σ H Q k sr z => ⟨F, env, k, sr, z⟩
  refine ⟨_, ps_setLc hc hN hy hyl hsw pi ok pg pt pe hs, fun F env σ H Q k s z => lc_run k qi qg qt qe hj s ?_⟩
  revert z
  cases e1 : mLc mi (own.map (·.2)) mg mt me env with
  | bad => exact fun z => z
  | ex c env1 => exact fun z => z
  | ok d env1 =>
    intro z
    have hd : ∃ ys, d = .lst ys := by
      unfold mLc at e1
      split at e1 <;> try (cases e1; done)
      split at e1 <;> try (cases e1; done)
      split at e1 <;> cases e1
      exact ⟨_, rfl⟩
    obtain ⟨ys, rfl⟩ := hd
    refine ⟨ys, rfl, fun p H1 H' ws s1 x1 n g hp r => z p H1 H' s1 x1 n g ?_⟩
    simp only [CRel]
    exact ⟨ws, hp, r⟩
theorem as_of {F : Fx} {env : Ev} {σ : St} {H : Hp} {Q : VK} {m : ME} (z : PostE F C W env σ H Q (mAsV m env)) : PostF F C W env σ H Q (m env) := by
  unfold mAsV at z
  cases e1 : m env with
  | ok d env1 =>
    rw [e1] at z
    cases d with
    | lst xs =>
      refine fun p H1 H' s1 x1 n g c => z _ H' (s1.grow g) (x1.trans (Ext.of g)) ?_
      simp only [CRel] at c
      obtain ⟨vs, c1, c2⟩ := c
      simp only [RelD]
      exact ⟨p, vs, rfl, c1, s1.new n, RelL.ext (Ext.sub fun b h => .inl h) _ _ c2⟩
    | _ => exact z.elim
  | ex c env1 => rw [e1] at z; exact z
  | bad => rw [e1] at z; exact z
/-- a value -/
theorem js_setLc {elt tg iter : Expr} {ifs : List Expr} {scope : Scope} {own : List (Str × Nat)} {pos spos py : Pos} {y : Str} {i : Nat} {js : List Nat} {mi : MA} {mg : MT} {mt me : ME} (hc : X.calm = true) (hN : X.N.Nodup) (hi : JI X C W tg iter mi) (ok : BlkOk X.N X.env.scope scope own)
    (hg : ∀ (s : Shared) (H : Hp) (A : Addr) (cl : List (Str × Addr)) (fp : List Addr), JG (X.blk s H scope (compEnvC scope cl A X.env) fp) tg mg js)
    (ht : ∀ (s : Shared) (H : Hp) (A : Addr) (cl : List (Str × Addr)) (fp : List Addr), JTs (X.blk s H scope (compEnvC scope cl A X.env) fp) C W0 ifs mt)
    (he : ∀ (s : Shared) (H : Hp) (A : Addr) (cl : List (Str × Addr)) (fp : List Addr), JE (X.blk s H scope (compEnvC scope cl A X.env) fp) C W0 elt me)
    (hj : ∀ j ∈ js, j ∈ own.map (·.2)) (hs : ∀ x, foldedSetIterable iter X.env x = pure x) (hy : X.N[i]? = some y) (hyl : X.env.scope.names.lookup y = some .local)
    (hsw : swapsWith (.ListComp elt [⟨tg, iter, ifs, 0⟩] scope pos) (some (.Name y py)) spos.line X.env = pure true) :
    JS X C W (.Assign [.Name y py] (.ListComp elt [⟨tg, iter, ifs, 0⟩] scope pos) spos) (mSet i (mAsV (mLc mi (own.map (·.2)) mg mt me))) := by
  obtain ⟨te, p, q⟩ := lc_parts (spos := spos) hc hN hi ok hg ht he hj hs hy hyl hsw
  exact ⟨_, p, fun F env σ H D k s z => set_run k (fun F env σ H Q k s z => q F env σ H Q k s (as_of z)) s z⟩
/-- owned -/
theorem js_ownLc {elt tg iter : Expr} {ifs : List Expr} {scope : Scope} {own : List (Str × Nat)} {pos spos py : Pos} {y : Str} {i : Nat} {js : List Nat} {mi : MA} {mg : MT} {mt me : ME} (hc : X.calm = true) (hN : X.N.Nodup) (hi : JI X C W tg iter mi) (ok : BlkOk X.N X.env.scope scope own)
    (hg : ∀ (s : Shared) (H : Hp) (A : Addr) (cl : List (Str × Addr)) (fp : List Addr), JG (X.blk s H scope (compEnvC scope cl A X.env) fp) tg mg js)
    (ht : ∀ (s : Shared) (H : Hp) (A : Addr) (cl : List (Str × Addr)) (fp : List Addr), JTs (X.blk s H scope (compEnvC scope cl A X.env) fp) C W0 ifs mt)
    (he : ∀ (s : Shared) (H : Hp) (A : Addr) (cl : List (Str × Addr)) (fp : List Addr), JE (X.blk s H scope (compEnvC scope cl A X.env) fp) C W0 elt me)
    (hj : ∀ j ∈ js, j ∈ own.map (·.2)) (hs : ∀ x, foldedSetIterable iter X.env x = pure x) (hy : X.N[i]? = some y) (hyl : X.env.scope.names.lookup y = some .local)
    (hsw : swapsWith (.ListComp elt [⟨tg, iter, ifs, 0⟩] scope pos) (some (.Name y py)) spos.line X.env = pure true) :
    JS X C W (.Assign [.Name y py] (.ListComp elt [⟨tg, iter, ifs, 0⟩] scope pos) spos) (mOwn i (mLc mi (own.map (·.2)) mg mt me)) := by
  obtain ⟨te, p, q⟩ := lc_parts (spos := spos) hc hN hi ok hg ht he hj hs hy hyl hsw
  exact ⟨_, p, fun F env σ H D k s z => own_run k q s z⟩
end
/-! ### try .. except C as e: xs.append(isinstance(e, D)) -/
section
variable {F : Fx} {env : Ev} {σ : St} {H : Hp}
def freeS : Option Sl → Bool
  | some .no => true
  | some (.va _) => true
  | _ => false
theorem ow_no {i : Nat} {x : Option V} (b : Addr) (h : Ow F (env.set i .no) (σ.set i x) b) : Ow F env σ b := by
  rcases h with h | ⟨j, d', h1, h2⟩
  · exact .inl h
  · rcases get_set h1 with ⟨_, z, _⟩ | ⟨e, h1⟩
    · cases z
    · rw [List.getElem?_set_ne e] at h2
      exact .inr ⟨j, d', h1, h2⟩
theorem SR.no (s : SR F env σ H) {i : Nat} {x : Option V} : SR F (env.set i .no) (σ.set i x) H := by
  have x' : Ext (Ow F env σ) H (Ow F (env.set i .no) (σ.set i x)) H := Ext.sub fun b h => ow_no b h
  refine ⟨s.fr, s.od, s.bo0, by rw [List.length_set, List.length_set]; exact s.len, fun j d' q => ?_, fun j d' q => ?_, fun j d' q => ?_, fun j d' q => ?_, fun j k b d1 d2 q1 q2 q3 q4 => ?_, fun j k b d1 d2 q1 q2 q3 q4 => ?_⟩
  · rcases get_set q with ⟨_, z, _⟩ | ⟨e, q⟩
    · cases z
    · obtain ⟨w, w1, w2⟩ := s.va j d' q
      exact ⟨w, by rw [List.getElem?_set_ne e]; exact w1, w2.ext x'⟩
  · rcases get_set q with ⟨_, z, _⟩ | ⟨e, q⟩
    · cases z
    · obtain ⟨w, w1, w2, w3, w4⟩ := s.ow j d' q
      exact ⟨w, by rw [List.getElem?_set_ne e]; exact w1, w2, w3, w4.ext x' rfl⟩
  · rcases get_set q with ⟨_, z, _⟩ | ⟨e, q⟩
    · cases z
    · obtain ⟨w, w1, w2, w4⟩ := s.bo j d' q
      exact ⟨w, by rw [List.getElem?_set_ne e]; exact w1, w2, w4.ext x' rfl⟩
  · rcases get_set q with ⟨_, z, _⟩ | ⟨e, q⟩
    · cases z
    · obtain ⟨w, w1, w2, w3, w4⟩ := s.ro j d' q
      exact ⟨w, by rw [List.getElem?_set_ne e]; exact w1, w2, w3, w4.ext x' rfl⟩
  · rcases get_set q1 with ⟨_, z, _⟩ | ⟨e1, q1⟩
    · cases z
    · rcases get_set q2 with ⟨_, z, _⟩ | ⟨e2, q2⟩
      · cases z
      · rw [List.getElem?_set_ne e1] at q3
        rw [List.getElem?_set_ne e2] at q4
        exact s.dj j k b d1 d2 q1 q2 q3 q4
  · rcases get_set q1 with ⟨_, z, _⟩ | ⟨e1, q1⟩
    · cases z
    · rcases get_set q2 with ⟨_, z, _⟩ | ⟨e2, q2⟩
      · cases z
      · rw [List.getElem?_set_ne e1] at q3
        rw [List.getElem?_set_ne e2] at q4
        exact s.djb j k b d1 d2 q1 q2 q3 q4
end
/-- what is known of the classes: an error of class c is caught, and is of the class asked for or not -/
structure Caught (K : PySem.W.Frag) (C : Nat → Value) (cv jv : Value) (ex : Nat → Option Bool) : Prop where
  ok : ∀ c r, ex c = some r → PySem.W.exmOne K (C c) cv = some true ∧ ∃ D0, C c = .ref D0 ∧ ExcC K D0 ∧ PySem.W.kitOne K (.ref D0) jv = some r
def mTryApp (mb : MS) (ex : Nat → Option Bool) (i j : Nat) : MS := fun e => match mb e with
  | .ex c e1 => (match ex c with
    | some r => (match atC (e1.set i .no) j with
      | some (.lst xs) => (match Nat.blt i e1.length && Nat.blt xs.length line with
        | true => .nx ((kput (e1.set i .no) j (.lst (xs ++ [.bl r]))).set i .no)
        | false => .bad)
      | _ => .bad)
    | none => .bad)
  | r => r
def tSuite (K : PySem.W.Frag) (Ja : Addr) (i j : Nat) (a : Addr) (cls : Value) (d : Option Addr) : TS := fun D σ H => ∃ D0, cls = .ref D0 ∧ d = none ∧ ExcC K D0 ∧ tDrop (tBM K "list" rAppend (tVar j) (tCons (tCB (rIsE K D0 a) (tCons (tVar i) (tCons (tC (.ref Ja)) tNil))) tNil)) D σ H
section
variable {X : Cx} {C : Nat → Value} {W : WX}
theorem js_tryApp {x n y jn : Str} {cv : Value} {Ja : Addr} {i j : Nat} {body : List Stmt} {mb : MS} {ex : Nat → Option Bool} {np pos pos' p1 p2 p3 p4 p5 p6 p7 p8 : Pos} (hs : X.stack = X.env :: X.outer) (hf : X.env.frame = some X.env.locals) (hN : X.N.Nodup) (hi : X.N[i]? = some n) (hj : X.N[j]? = some y)
    (hln : X.env.scope.names.lookup n = some .local) (hvy : Vis X.env.scope y) (hdy : (y == ("__debug__" : Str)) = false) (hcy : (y == ("__classdict__" : Str)) = false) (hdn : (n == ("__debug__" : Str)) = false) (hcn : (n == ("__classdict__" : Str)) = false)
    (hc : Names X x cv) (gJ : Gl X jn) (mJ : X.mg jn = some (.ref Ja)) (dJ : (jn == ("__debug__" : Str)) = false) (gI : Gl X "isinstance") (mI : X.mg "isinstance" = none) (tk : Takes X W)
    (ca : Caught X.K C cv (.ref Ja) ex)
    (hb : ∀ (W : WX) (pn : List (Addr × Obj)) (xe : Value → Shared → Prop), Takes (X.tr pn xe) W → PassesOwn (model X.prog X.w) X.A X.env xe → JB (X.tr pn xe) C W body mb)
    (h1 : ∀ E, attributeBase (.Name y p1) "append" E (eval (.Name y p1) E) = eval (.Name y p1) E)
    (h2 : ∀ E, ((backTo p3 (starEach [.Call (.Name "isinstance" p4) [.Name n p5, .Name jn p6] [] p7] E)).all (fun x => !x.1) && (backToKw p3 (keywordEach [] E)).all (fun x => x.1.isSome) && decide (([.Call (.Name "isinstance" p4) [.Name n p5, .Name jn p6] [] p7] : List Expr).length + ([] : List Keyword).length + (if ([] : List Keyword).isEmpty then 0 else 1) < 30)) = true)
    (h3 : (p2.endLine == p3.line) = true) :
    JS X C W (.Try body [.ExceptHandler (some (.Name x np)) (some n) [.Expr (.Call (.Attribute (.Name y p1) "append" p2) [.Call (.Name "isinstance" p4) [.Name n p5, .Name jn p6] [] p7] [] p3) p8] pos'] [] [] pos) (mTryApp mb ex i j) := by
  have hij : i ≠ j → True := fun _ => trivial
  let tb : WX → TS := fun W' D σ H => ∃ F env, F.K = X.K ∧ SR F env σ H ∧ PostS F C W' env σ H D (mb env)
  have pb : ∀ (W' : WX) (pn : List (Addr × Obj)) (xe : Value → Shared → Prop), Takes (X.tr pn xe) W' → PassesOwn (model X.prog X.w) X.A X.env xe → PSs (X.tr pn xe) body (tb W') := fun W' pn xe t po => by
    obtain ⟨t0, p, q⟩ := (hb W' pn xe t po).run
    refine ⟨fun pins s σ H D I h => ?_⟩
    obtain ⟨F, env, k, sr, z⟩ := h
    exact p.run pins s σ H D I (q F env σ H D k sr z)
  have hsu : ∀ (a : Addr) (oe : Obj) (cls : Value) (d : Option Addr) (pn : List (Addr × Obj)), Zc cls d oe → (∃ vs, oe.data = .fields vs) →
      PSs (X.suite a ((a, oe) :: pn)) [.Expr (.Call (.Attribute (.Name y p1) "append" p2) [.Call (.Name "isinstance" p4) [.Name n p5, .Name jn p6] [] p7] [] p3) p8] (tSuite X.K Ja i j a cls d) := by
    intro a oe cls d pn hz hfl
    refine ⟨fun pins s σ H D I h => ?_⟩
    obtain ⟨D0, rfl, rfl, hE, h⟩ := h
    have pN : PE (X.suite a ((a, oe) :: pn)) (.Name n p5) (tVar i) := pe_var hi (.inl hln) hdn hcn
    have pY : PE (X.suite a ((a, oe) :: pn)) (.Name y p1) (tVar j) := pe_var hj hvy hdy hcy
    have pJ : PE (X.suite a ((a, oe) :: pn)) (.Name jn p6) (tC (.ref Ja)) := pe_glob gJ mJ rfl dJ
    have pI : PE (X.suite a ((a, oe) :: pn)) (.Call (.Name "isinstance" p4) [.Name n p5, .Name jn p6] [] p7) _ := pe_callB (call_isE hE hz hfl) gI mI rfl (pa_cons pN (pa_cons pJ pa_nil rfl) rfl)
    have := pss_one (ps_expr (pos := p8) (pe_bm PySem.F.plainAttrs_list PySem.F.slot_list_append PySem.F.type_list_append mt_append pY (pa_cons pI pa_nil rfl) (h1 _) (h2 _) h3 rfl rfl) rfl)
    exact this.run pins s σ H D I h
  refine ⟨_, ps_try_as hs hf hN hi hln hc tk pb hsu, fun F env σ H D k s z => ?_⟩
  refine ⟨F, env, k, s, ?_⟩
  unfold mTryApp at z
  cases e1 : mb env with
  | nx env1 => rw [e1] at z; exact z
  | rt d env1 => rw [e1] at z; exact z
  | bk env1 => rw [e1] at z; exact z
  | ct env1 => rw [e1] at z; exact z
  | bad => rw [e1] at z; exact z
  | ex c env1 =>
    rw [e1] at z
    dsimp only at z
    cases e2 : ex c with
    | none => rw [e2] at z; exact z.elim
    | some r =>
      rw [e2] at z
      dsimp only at z
      split at z
      · rename_i xs e3
        split at z
        · rename_i hl
          rw [Bool.and_eq_true] at hl
          intro σ1 H1 s1 x1
          obtain ⟨m1, D0, m2, m3, m4⟩ := ca.ok c r e2
          refine ⟨true, m1, fun _ a na => ?_, fun h => by cases h⟩
          have s2 := s1.no (i := i) (x := some (.ref a))
          have x2 : Ext (Ow F env1 σ1) H1 (Ow F (env1.set i .no) (σ1.set i (some (.ref a)))) H1 := Ext.sub fun b h => ow_no b h
          obtain ⟨b, hb', c1, _⟩ := s2.atC e3
          simp only [CRel] at c1
          obtain ⟨vs, h1', r1⟩ := c1
          have hii : (σ1.set i (some (.ref a)))[i]? = some (some (.ref a)) := List.getElem?_set_self (by rw [← s1.len]; exact Nat.le_of_ble_eq_true hl.1)
          refine ⟨D0, m2, rfl, m3, .ref b, hb', .inl ⟨rfl, _, .inl (.inl h1')⟩, .ref a, hii, .ref Ja, .ref Ja, r, rfl, fun u ru => by cases ru; rfl, m4, b, vs, .bl r, rfl, rfl, h1', by rw [← relL_len r1]; exact line_lt hl.2, ?_⟩
          have w := s2.wr e3 hb' (o := .lst (vs ++ [.bl r]))
          obtain ⟨s3, x3⟩ := s2.kput (H' := upd H1 b (.lst (vs ++ [.bl r]))) (d' := .lst (xs ++ [.bl r])) e3 hb' upd_else (by
            simp only [CRel]
            exact ⟨_, upd_same, relL_appE (RelL.ext w _ _ r1) (by simp only [RelL]; exact ⟨.bl r, [], rfl, (by simp only [RelD]), rfl⟩)⟩)
          have s4 := s3.no (i := i) (x := none)
          exact z _ _ s4 (((x1.trans x2).trans x3).trans (Ext.sub fun b h => ow_no b h))
        · exact z.elim
      · exact z.elim
end
end MP

set_option Elab.async false
set_option linter.all false
set_option maxRecDepth 100000
set_option maxHeartbeats 4000000
namespace HT
open PySem PySem.Spec PyProof.Rows L2
section
variable {prog : Program} {w : World} {A : Around} {E : Value → Shared → Prop} {s : Shared}
theorem adjust_rev (n : Nat) : Builtin.Slice.sliceAdjust none none (-1) (n : Int) = ((n : Int) - 1, -1) := by
  unfold Builtin.Slice.sliceAdjust
  have h1 : ((-1 : Int) < 0) := by omega
  simp only [h1, if_true]
theorem places_rev (n : Nat) : Builtin.Slice.slicePlaces ((n : Int) - 1) (-1) (-1) = n := by
  unfold Builtin.Slice.slicePlaces
  have h1 : ¬ ((-1 : Int) > 0) := by omega
  simp only [h1, if_false]
  by_cases h : n = 0
  · subst h; simp
  · have h2 : (-1 : Int) < (n : Int) - 1 := by omega
    simp only [h2, if_true]
    simp
theorem sliceApplied_rev {sl : Addr} {vl vu vs : Value} {n : Nat} {Q : Int × Int × Nat → Shared → Prop} (hs : s.heap.IsSliceOf sl vl vu vs) (pl : IsPart vl none) (pu : IsPart vu none) (ps : IsPart vs (some (-1)))
    (h : Q ((n : Int) - 1, -1, n) s) : wpAny (model prog w) A (Builtin.Slice.sliceApplied (.ref sl) (pure (n : Int))) Q E s := by
  obtain ⟨os, hos, hcs, hds⟩ := id hs
  unfold Builtin.Slice.sliceApplied Builtin.Slice.sliceFields
  refine wpAny_bind (wpAny_bind (wpAny_field hos hds (x := vl) rfl (wpAny_bind (wpAny_field hos hds (x := vu) rfl (wpAny_bind (wpAny_field hos hds (x := vs) rfl (wpAny_pure ?_)))))))
  refine wpAny_bind (slicePart_ ps ?_)
  show wpAny _ _ (if ((-1 : Int) == 0) = true then _ else _) _ _ s
  rw [if_neg (by decide)]
  refine wpAny_bind (slicePart_ pl (wpAny_bind (slicePart_ pu (wpAny_bind (wpAny_pure ?_)))))
  show wpAny _ _ (match Builtin.Slice.sliceAdjust none none (-1) (n : Int) with | (lo, hi) => pure (lo, (-1 : Int), Builtin.Slice.slicePlaces lo hi (-1))) _ _ s
  rw [adjust_rev n]
  show wpAny _ _ (pure ((n : Int) - 1, (-1 : Int), Builtin.Slice.slicePlaces ((n : Int) - 1) (-1) (-1))) _ _ s
  rw [places_rev]
  exact wpAny_pure h
theorem fm_congr {α β : Type} {f g : α → Option β} : ∀ {l : List α}, (∀ m ∈ l, f m = g m) → l.filterMap f = l.filterMap g
  | [], _ => rfl
  | x :: l, h => by
    rw [List.filterMap_cons, List.filterMap_cons, h x List.mem_cons_self, fm_congr fun m hm => h m (List.mem_cons_of_mem _ hm)]
theorem fm_all : ∀ (l : List Value), (List.range l.length).filterMap (fun m => l[m]?) = l
  | [] => rfl
  | a :: r => by
    rw [List.length_cons, List.range_succ_eq_map, List.filterMap_cons]
    simp only [List.getElem?_cons_zero, List.filterMap_map]
    congr 1
    exact fm_all r
theorem pick_rev (xs : Array Value) : ((List.range xs.size).filterMap fun (m : Nat) => xs[((xs.size : Int) - 1 + (m : Int) * -1).toNat]?).toArray = xs.toList.reverse.toArray := by
  have e : (List.range xs.size).filterMap (fun (m : Nat) => xs[((xs.size : Int) - 1 + (m : Int) * -1).toNat]?) = (List.range xs.size).filterMap (fun m => xs.toList.reverse[m]?) := by
    refine fm_congr fun m hm => ?_
    have hm := List.mem_range.mp hm
    rw [List.getElem?_reverse (by simpa using hm)]
    have : ((xs.size : Int) - 1 + (m : Int) * -1).toNat = xs.toList.length - 1 - m := by simp; omega
    rw [this]
    simp
  rw [e]
  have h2 := fm_all xs.toList.reverse
  rw [List.length_reverse, Array.length_toList] at h2
  rw [h2]
theorem getItem_tuple_rev {t sl : Addr} {items : Array Value} {vl vu vs : Value} {Q : Value → Shared → Prop} (ht : IsTup s.heap t items) (hs : s.heap.IsSliceOf sl vl vu vs) (pl : IsPart vl none) (pu : IsPart vu none) (ps : IsPart vs (some (-1)))
    (h : Q (.ref s.heap.objs.size) { s with heap := s.heap.push { cls := .type "tuple", data := .seq items.toList.reverse.toArray } })
    (hsz : items.size ≤ sizeLine) : wpAny (model prog w) A (getItem (.ref t) (.ref sl)) Q E s := by
  have htake : sizeOk (.seq items.toList.reverse.toArray) := by
    show (items.toList.reverse.toArray).size ≤ sizeLine
    rw [List.size_toArray, List.length_reverse, Array.length_toList]
    exact hsz
  obtain ⟨os, hos, hcs, hds⟩ := id hs
  have hTs : s.TypeIs (.ref sl) "slice" := ⟨os, hos, hcs⟩
  unfold getItem
  try with_reducible refine wpAny_holding ?_
  first | refine wpAny_bind (wpAny_pure ?_) | skip
  refine wpAny_bind (wpAny_sequenceKey ht.typeIs (by decide) ?_)
  refine wpAny_bind (wpAny_callSpecial?_slot (name := Str.ofString "__getitem__") ht.typeIs PyProof.Rows.slot_tuple_getitem
    (wpAny_call_entry PyProof.Rows.slot_tuple_getitem ht.typeIs entry_tuple_getitem ?_ (args_tuple_getitem _ _)))
  show wpAny _ _ (Builtin.Tuple.tupleItemsOf (.ref t) >>= _) _ _ s
  refine wpAny_bind (tupleItemsOf_ ht ?_)
  refine wpAny_bind (wpAny_typeOf hTs ?_)
  rw [if_pos (by decide)]
  refine wpAny_bind (sliceApplied_rev hs pl pu ps ?_)
  have hno : ¬ ((((items.size : Int) - 1) == 0 && (-1 : Int) == 1 && items.size == items.size) = true) := by
    intro q
    rw [Bool.and_eq_true, Bool.and_eq_true] at q
    have q1 : ((-1 : Int) == 1) = true := q.1.2
    exact absurd q1 (by decide)
  show wpAny _ _ (if (((items.size : Int) - 1) == 0 && (-1 : Int) == 1 && items.size == items.size) = true then _ else _) _ _ s
  rw [if_neg hno, pick_rev]
  first
    | exact wpAny_bind (m := Builtin.Tuple.tupleExact _) (wpAny_newObj_type (wpAny_pure ⟨_, rfl, wpAny_pure h⟩) htake)
    | exact wpAny_bind (m := Builtin.Tuple.tupleExact _) (wpAny_newObj_type (wpAny_bind (wpAny_pure (wpAny_pure ⟨_, rfl, wpAny_pure h⟩))) htake)
    | exact wpAny_bind (wpAny_bind (m := Builtin.Tuple.tupleExact _) (wpAny_newObj_type (wpAny_pure (wpAny_pure ⟨_, rfl, wpAny_pure h⟩)) htake))
    | exact wpAny_bind (wpAny_bind (m := Builtin.Tuple.tupleExact _) (wpAny_newObj_type (wpAny_pure ⟨_, rfl, wpAny_pure h⟩) htake))
end
end HT
namespace L2
open PySem PySem.Spec PyProof.Rows
variable {X : Cx}
def tRevT (K : PySem.W.Frag) (te : TE) : TE := fun σ H Q => te σ H fun x H1 => ∃ a xs, x = .ref a ∧ SqT K H1 a xs ∧ ∀ p, H1 p = none → Q (.ref p) (upd H1 p (.tup xs.reverse))
theorem pe_revT {e : Expr} {te : TE} {k : Nat} {p1 p2 p3 pos : Pos} (he : PE X e te) : PE X (.Subscript e (.Slice none none (some (.UnaryOp .USub (.Constant (.int 1) k p1) p2)) p3) pos) (tRevT X.K te) := by
  refine ⟨fun pins s σ H Q I h => ?_⟩
  refine Subscript_ (thn (he.run pins s σ H _ I h) fun v s1 ⟨x, H1, I1, r1, q1⟩ => ?_)
  obtain ⟨a, xs, ex, hx, q⟩ := q1
  subst ex
  cases r1
  have hst : PO X (some (.UnaryOp .USub (.Constant (.int 1) k p1) p2)) (tPart (tUn (rU fun i => .int (-i)) (tC (.int 1)))) := po_some (pe_un un_neg pe_int)
  refine wpAny_Slice (thn (po_none.run pins s1 σ H1 (fun o H2 => o = none ∧ H2 = H1) I1 ⟨rfl, rfl⟩) fun vl s2 ⟨l, H2, I2, pl, el, e2⟩ => ?_)
  subst el e2
  refine thn (po_none.run pins s2 σ H2 (fun o H3 => o = none ∧ H3 = H2) I2 ⟨rfl, rfl⟩) fun vu s3 ⟨u, H3, I3, pu, eu, e3⟩ => ?_
  subst eu e3
  refine thn (hst.run pins s3 σ H3 (fun o H4 => o = some (-1) ∧ H4 = H3) I3 ⟨1, rfl, -1, rfl, rfl, rfl⟩) fun vs s4 ⟨o, H4, I4, ps, eo, e4⟩ => ?_
  subst eo e4
  have I5 : Inv X pins σ H4 { s4 with heap := s4.heap.push { cls := .type "slice", data := .fields #[vl, vu, vs] } } := I4.kept (t' := s4.toks) fun b ob q => Heap.get?_push_of_some _ q
  obtain ⟨its, r, ht, hz⟩ := I5.tuple hx
  have hlen := r.length
  show wpAny (model X.prog X.w) X.A (subscriptTail e (.Slice none none (some (.UnaryOp .USub (.Constant (.int 1) k p1) p2)) p3) (.ref a) (.ref s4.heap.objs.size)) (EP X pins σ Q) X.xe { s4 with heap := s4.heap.push { cls := .type "slice", data := .fields #[vl, vu, vs] } }
  refine tail_any (ops := [.ref a, .ref s4.heap.objs.size]) ht.typeIs (PyProof.Rows.slot_tuple_getitem.lookup) ?_ (by with_unfolding_all rfl)
  refine HT.getItem_tuple_rev ht (Heap.IsSliceOf.new _ vl vu vs) pl pu ps ?_ (by rw [List.size_toArray]; omega)
  refine ⟨.ref _, _, I5.laid (t' := s4.toks) (o := .tup xs.reverse) (fun b ob q => Heap.get?_push_of_some _ q) (Nat.le_refl _) ?_, rfl, q _ (I5.hok.fresh (Nat.le_refl _))⟩
  refine ⟨by rw [List.length_reverse]; exact hz, _, r.reverse, IsTup.new _ _⟩
end L2

set_option Elab.async false
set_option linter.all false
set_option maxRecDepth 100000
set_option maxHeartbeats 4000000
namespace MP
open PySem PySem.Spec L2
open PyProof.Rows hiding St

section
variable {X : Cx} {C : Nat → Value} {W : WX}
/-! ### [::-1] of a tuple -/
def fRevT : D → Option D
  | .tup xs => some (.tup xs.reverse)
  | _ => none
theorem j_revT {e : Expr} {m : ME} {l : Ev → D → Option D} {k : Nat} {p1 p2 p3 pos : Pos} (he : JO X C W e m l) : JE X C W (.Subscript e (.Slice none none (some (.UnaryOp .USub (.Constant (.int 1) k p1) p2)) p3) pos) (mU fRevT m l) := by
  obtain ⟨t, p, q⟩ := he.run
  refine ⟨_, pe_revT p, fun F env σ H Q k s z => q F env σ H _ k s ?_⟩
  unfold mU at z
  cases e1 : m env with
  | ok x env1 =>
    rw [e1] at z
    refine fun v H1 s1 x1 lt => ?_
    dsimp only at z
    cases e2 : l env1 x with
    | none => rw [e2] at z; exact z.elim
    | some a1 =>
      rw [e2] at z
      dsimp only at z
      cases a1 with
      | tup xs =>
        obtain ⟨_, a, vs, rfl, q1, r1⟩ := p_tup (lt env1 H1 s1 .refl _ e2)
        rw [k] at q1
        refine ⟨a, vs, rfl, q1, fun p np => ?_⟩
        exact z _ _ (s1.grow (same_upd np)) (x1.trans (Ext.of (same_upd np))) (rel_newT np (fun a => s1.dom) (relL_rev r1))
      | _ => exact z.elim
  | ex c env1 => rw [e1] at z; exact z
  | bad => rw [e1] at z; exact z
/-! ### list(range(..)) -/
def upsD (a b : Int) : List D := (List.range (b - a).toNat).map fun i => D.int (a + (i : Nat))
def mListR1 (m : ME) : ME := fun e => match m e with
  | .ok (.int n) e1 => (match decide (0 ≤ n) && decide (n ≤ 16777216) with
    | true => .ok (.lst (upsD 0 n)) e1
    | false => .bad)
  | .ok _ _ => .bad
  | .ex c e1 => .ex c e1
  | .bad => .bad
def mListR2 (m1 m2 : ME) : ME := fun e => match m1 e with
  | .ok (.int a) e1 => (match m2 e1 with
    | .ok (.int b) e2 => (match (decide (0 ≤ a) && decide (a ≤ 16777216)) && (decide (0 ≤ b) && decide (b ≤ 16777216)) with
      | true => .ok (.lst (upsD a b)) e2
      | false => .bad)
    | .ok _ _ => .bad
    | .ex c e2 => .ex c e2
    | .bad => .bad)
  | .ok _ _ => .bad
  | .ex c e1 => .ex c e1
  | .bad => .bad
theorem rel_ups {K : PySem.W.Frag} {H : Hp} {O : Addr → Prop} (a : Int) : ∀ (l : List Nat), RelL K H O (l.map fun i => D.int (a + (i : Nat))) (l.map fun i => V.int (a + (i : Nat)))
  | [] => by simp [RelL]
  | x :: l => by
    simp only [List.map_cons, RelL]
    exact ⟨_, _, rfl, by simp only [RelD], rel_ups a l⟩
theorem rg_end {F : Fx} {env env1 : Ev} {σ : St} {H H1 : Hp} {Q : VK} {a b : Int} (s1 : SR F env1 σ H1) (x1 : Ext (Ow F env σ) H (Ow F env1 σ) H1) (z : PostE F C W env σ H Q (.ok (.lst (upsD a b)) env1)) :
    ∀ q, H1 q = none → Q (.ref q) (upd H1 q (.lst (rgV a b))) := fun p np => by
  refine z _ _ (s1.grow (same_upd np)) (x1.trans (Ext.of (same_upd np))) (rel_newL np (fun a => s1.dom) ?_)
  exact rel_ups a _
theorem j_listR1 {e : Expr} {m : ME} {p p2 pos pos2 : Pos} (hc : X.calm = true) (hg : Gl X "list") (hm : X.mg "list" = none) (hg2 : Gl X "range") (hm2 : X.mg "range" = none) (he : JE X C W e m) (na : starEach [e] X.env = (false, eval e X.env) :: starEach [] X.env) :
    JE X C W (.Call (.Name "list" p) [.Call (.Name "range" p2) [e] [] pos2] [] pos) (mListR1 m) := by
  obtain ⟨t, pe, q⟩ := he.run
  refine ⟨_, pe_listRg hc hg hm (prg_1 hg2 hm2 pe na) rfl, fun F env σ H Q k s z => q F env σ H _ k s ?_⟩
  unfold mListR1 at z
  cases e1 : m env with
  | ok x env1 =>
    rw [e1] at z
    refine fun v H1 s1 x1 r => ?_
    cases x <;> dsimp only at z <;> try exact z.elim
    simp only [RelD] at r
    split at z
    · rename_i hb
      simp only [Bool.and_eq_true, decide_eq_true_eq] at hb
      exact ⟨_, r, RgOk.of_le (by omega) (by omega) (by omega) (by omega), rg_end s1 x1 z⟩
    · exact z.elim
  | ex c env1 => rw [e1] at z; exact z
  | bad => rw [e1] at z; exact z
theorem j_listR2 {a b : Expr} {m1 m2 : ME} {p p2 pos pos2 : Pos} (hc : X.calm = true) (hg : Gl X "list") (hm : X.mg "list" = none) (hg2 : Gl X "range") (hm2 : X.mg "range" = none) (ha : JE X C W a m1) (hb : JE X C W b m2)
    (na : starEach [a, b] X.env = (false, eval a X.env) :: starEach [b] X.env) (nb : starEach [b] X.env = (false, eval b X.env) :: starEach [] X.env) :
    JE X C W (.Call (.Name "list" p) [.Call (.Name "range" p2) [a, b] [] pos2] [] pos) (mListR2 m1 m2) := by
  obtain ⟨t, pe, q⟩ := ha.run
  obtain ⟨t2, pe2, q2⟩ := hb.run
  refine ⟨_, pe_listRg hc hg hm (prg_2 hg2 hm2 pe pe2 na nb (by rw [nb]; rfl)) rfl, fun F env σ H Q k s z => q F env σ H _ k s ?_⟩
  unfold mListR2 at z
  cases e1 : m1 env with
  | ok x env1 =>
    rw [e1] at z
    refine fun v H1 s1 x1 r => q2 F env1 σ H1 _ k s1 ?_
    cases x <;> dsimp only at z <;> try exact z.elim
    simp only [RelD] at r
    cases e2 : m2 env1 with
    | ok y env2 =>
      rw [e2] at z
      refine fun u H2 s2 x2 r2 => ?_
      cases y <;> dsimp only at z <;> try exact z.elim
      simp only [RelD] at r2
      split at z
      · rename_i hb
        simp only [Bool.and_eq_true, decide_eq_true_eq] at hb
        exact ⟨_, _, r, r2, RgOk.of_le (by omega) (by omega) (by omega) (by omega), rg_end s2 (x1.trans x2) z⟩
      · exact z.elim
    | ex c env2 => rw [e2] at z; exact fun H' s' x' => z H' s' (x1.trans x')
    | bad => rw [e2] at z; exact z
  | ex c env1 => rw [e1] at z; exact z
  | bad => rw [e1] at z; exact z
end
/-! ### a def that returns a new list -/
def PostSF (F : Fx) (C : Nat → Value) (W : WX) (env : Ev) (σ : St) (H : Hp) (D : Ends) : RS → Prop
  | .nx env' => ∀ σ' H', SR F env' σ' H' → Ext (Ow F env σ) H (Ow F env' σ') H' → D.nx σ' H'
  | .rt d env' => ∀ p σ' H1 H', SR F env' σ' H1 → H1 p = none → Same H1 H' → CRel F.K H' (fun a => Ow F env' σ' a ∨ a = p) d p → D.rt (.ref p) H'
  | _ => False
structure JSF (X : Cx) (C : Nat → Value) (W : WX) (st : Stmt) (m : MS) : Prop where
  run : ∃ t, PS X st t ∧ ∀ F env σ H D, F.K = X.K → SR F env σ H → PostSF F C W env σ H D (m env) → t D σ H
structure JBF (X : Cx) (C : Nat → Value) (W : WX) (st : List Stmt) (m : MS) : Prop where
  run : ∃ t, PSs X st t ∧ ∀ F env σ H D, F.K = X.K → SR F env σ H → PostSF F C W env σ H D (m env) → t D σ H
theorem PostSF.after {C : Nat → Value} {W : WX} {F : Fx} {env env1 : Ev} {σ σ1 : St} {H H1 : Hp} {D : Ends} (x : Ext (Ow F env σ) H (Ow F env1 σ1) H1) : ∀ {r : RS}, PostSF F C W env σ H D r → PostSF F C W env1 σ1 H1 D r
  | .nx _, z => fun σ2 H2 s2 x2 => z σ2 H2 s2 (x.trans x2)
  | .rt _ _, z => z
  | .bk _, z => z
  | .ct _, z => z
  | .ex _ _, z => z
  | .bad, z => z
def mNoRt (m : MS) : MS := fun e => match m e with
  | .nx e1 => .nx e1
  | _ => .bad
section
variable {X : Cx} {C : Nat → Value} {W : WX}
theorem JS.f {st : Stmt} {m : MS} (h : JS X C W st m) : JSF X C W st (mNoRt m) := by
  obtain ⟨t, p, q⟩ := h.run
  refine ⟨t, p, fun F env σ H D k s z => q F env σ H D k s ?_⟩
  unfold mNoRt at z
  cases e : m env <;> rw [e] at z <;> first | exact z | exact z.elim
theorem jbf_one {st : Stmt} {m : MS} (h : JSF X C W st m) : JBF X C W [st] m := by
  obtain ⟨t, p, q⟩ := h.run
  exact ⟨_, pss_one p, q⟩
theorem jbf_nil : JBF X C W [] mSkip := ⟨_, pss_nil, fun F env σ H D k s z => z σ H s .refl⟩
theorem jbf_cons {st : Stmt} {sts : List Stmt} {m1 m2 : MS} (h : JSF X C W st m1) (h2 : JBF X C W sts m2) : JBF X C W (st :: sts) (mSeq m1 m2) := by
  obtain ⟨t, p, q⟩ := h.run
  obtain ⟨t2, p2, q2⟩ := h2.run
  refine ⟨_, pss_cons p p2, fun F env σ H D k s z => q F env σ H _ k s ?_⟩
  unfold mSeq at z
  cases e1 : m1 env with
  | nx env1 =>
    rw [e1] at z
    exact fun σ1 H1 s1 x1 => q2 F env1 σ1 H1 D k s1 (PostSF.after x1 z)
  | rt d env1 => rw [e1] at z; exact z
  | bk env1 => rw [e1] at z; exact z
  | ct env1 => rw [e1] at z; exact z
  | ex c env1 => rw [e1] at z; exact z
  | bad => rw [e1] at z; exact z
theorem jsf_if {c : Expr} {a b : List Stmt} {mc : ME} {m1 m2 : MS} {pos : Pos} (hc : JT X C W c mc) (ha : JBF X C W a m1) (hb : JBF X C W b m2) : JSF X C W (.If c a b pos) (mIfS mc m1 m2) := by
  obtain ⟨tc, pc, qc⟩ := hc.run
  obtain ⟨ta, pa, qa⟩ := ha.run
  obtain ⟨tb, pb, qb⟩ := hb.run
  refine ⟨_, ps_if pc pa pb, fun F env σ H D k s z => qc F env σ H _ k s ?_⟩
  unfold mIfS at z
  cases e1 : mc env with
  | ok x env1 =>
    rw [e1] at z
    cases x with
    | bl b =>
      refine ⟨b, rfl, fun H1 s1 x1 => ?_⟩
      cases b with
      | true => exact iteT (qa F env1 σ H1 D k s1 (PostSF.after x1 z))
      | false => exact iteF (qb F env1 σ H1 D k s1 (PostSF.after x1 z))
    | _ => exact z.elim
  | ex c env1 => rw [e1] at z; exact z.elim
  | bad => rw [e1] at z; exact z
theorem jsf_ret {e : Expr} {m : ME} {pos : Pos} (h : JF X C W e m) : JSF X C W (.Return (some e) pos) (mRet m) := by
  obtain ⟨t, p, q⟩ := h.run
  refine ⟨_, ps_ret p, fun F env σ H D k s z => q F env σ H _ k s ?_⟩
  unfold mRet at z
  cases e1 : m env with
  | ok d env1 =>
    rw [e1] at z
    exact fun p H1 H' s1 x1 n g c => z p σ H1 H' s1 n g c
  | ex c env1 => rw [e1] at z; exact z.elim
  | bad => rw [e1] at z; exact z
end
/-- what such a def promises -/
def runN (n tot : Nat) (m : MS) : UF := fun args => match m (args ++ List.replicate (tot - n) .no) with
  | .rt d _ => .ok d none
  | _ => .bad
def spN (K : PySem.W.Frag) (n : Nat) (f : UF) : Sp := fun vs H Q E => ∃ (O : Addr → Prop) (args : List Sl), vs.length = n ∧ (∀ a, O a → H a ≠ none) ∧ ArgsR K H O none args vs ∧ match f args with
  | .ok d _ => ∀ p H1 H', Same H H1 → H1 p = none → Same H1 H' → CRel K H' (fun a => O a ∨ a = p) d p → Q (.ref p) H'
  | _ => False
section
variable {P : Program} {w : World} {K : PySem.W.Frag} {mg : Str → Option Value} {base : Heap}
theorem fn_okN {C : Nat → Value} {x qual : Str} {params : Arguments} {body : List Stmt} {scope : Scope} {f : Addr} {fd : FuncData} {N ps : List Str} {k : Nat} {m : MS} (F : FunD K x qual params body scope [] [] f fd) (S : FnScope N ps scope)
    (h : ∀ (X : Cx) (W : WX), Cxt P w K mg base N scope k X → (∀ x, X.fn x = true) → Takes X W → PassesOwn (model X.prog X.w) X.A X.env X.xe → X.stack = X.env :: X.outer → X.env.frame = some X.env.locals → JBF X C W body m) :
    FnOk P w K mg base (L2.CX P w) (k + 1) f fd ps (spN K ps.length (runN ps.length N.length m)) := by
  refine F.ok S (fun vs H Q E h => ?_) (fun cdv A outer s H vs Q E hr hsp => ?_)
  · obtain ⟨_, _, hl, _⟩ := h
    exact hl
  · obtain ⟨O, args, hl, dom, ra, z⟩ := hsp
    have hpl : ps.length ≤ N.length := by have := congrArg List.length S.pre; rw [List.length_take] at this; omega
    obtain ⟨s0, hlen⟩ := SR.begin (N := N) (by omega) dom ra
    have tk : Takes (cxOf (L2.CX P w) P w K mg base N qual scope f cdv A outer s H E) (fun cls d _ H => E cls d H) := takes_of rfl rfl rfl rfl
    have po : PassesOwn (model (cxOf (L2.CX P w) P w K mg base N qual scope f cdv A outer s H E).prog (cxOf (L2.CX P w) P w K mg base N qual scope f cdv A outer s H E).w) (cxOf (L2.CX P w) P w K mg base N qual scope f cdv A outer s H E).A (cxOf (L2.CX P w) P w K mg base N qual scope f cdv A outer s H E).env (cxOf (L2.CX P w) P w K mg base N qual scope f cdv A outer s H E).xe := passes_of rfl
    obtain ⟨t, p, q⟩ := (h (cxOf (L2.CX P w) P w K mg base N qual scope f cdv A outer s H E) (fun cls d _ H => E cls d H) ⟨rfl, rfl, rfl, rfl, rfl, rfl, rfl, rfl, hr⟩ (fun _ => rfl) tk po rfl rfl).run
    refine ⟨t, p, q _ _ _ _ _ rfl s0 ?_⟩
    unfold runN at z
    rw [hl] at s0
    rw [hl]
    cases e1 : m (args ++ List.replicate (N.length - ps.length) .no) with
    | rt d env1 =>
      rw [e1] at z
      refine fun p σ1 H1 H' s1 n g c => z p H1 H' (fun b o e => s1.fr b o e (fun q => by cases q)) n g (c.ext (Ext.sub fun b q => q.elim (fun q => .inl (.inl q)) .inr) rfl)
    | nx env1 => rw [e1] at z; exact z.elim
    | ex c env1 => rw [e1] at z; exact z.elim
    | bk env1 => rw [e1] at z; exact z.elim
    | ct env1 => rw [e1] at z; exact z.elim
    | bad => rw [e1] at z; exact z.elim
end
end MP

set_option Elab.async false
set_option linter.all false
set_option maxRecDepth 100000
set_option maxHeartbeats 4000000
namespace MP
open PySem PySem.Spec L2
open PyProof.Rows hiding St

/-! ### what stands around an expression, a statement -/
structure Cw (P : Program) (w : World) (K : PySem.W.Frag) (mg : Str → Option Value) (base : Heap) (N : List Str) (sc : Scope) (k : Nat) (X : Cx) (W : WX) : Prop where
  c : Cxt P w K mg base N sc k X
  tk : Takes X W
  nd : N.Nodup
structure Cs (P : Program) (w : World) (K : PySem.W.Frag) (mg : Str → Option Value) (base : Heap) (N : List Str) (sc : Scope) (k : Nat) (X : Cx) (W : WX) : Prop where
  e : Cw P w K mg base N sc k X W
  fn : ∀ x, X.fn x = true
  po : PassesOwn (model X.prog X.w) X.A X.env X.xe
  hs : X.stack = X.env :: X.outer
  hf : X.env.frame = some X.env.locals
/-- the built-ins' names, as they were -/
structure Bts (mg : Str → Option Value) : Prop where
  len : mg "len" = none
  abs : mg "abs" = none
  int : mg "int" = none
  max : mg "max" = none
  min : mg "min" = none
  sum : mg "sum" = none
  all : mg "all" = none
  any : mg "any" = none
  list : mg "list" = none
  tuple : mg "tuple" = none
  sorted : mg "sorted" = none
  range : mg "range" = none
  zip : mg "zip" = none
  isinstance : mg "isinstance" = none
  bool : mg "bool" = none
  str : mg "str" = none
/-- a name that a block may bind -/
structure Nb (N : List Str) (sc : Scope) (i : Nat) (x : Str) : Prop where
  at_ : N[i]? = some x
  loc : sc.names.lookup x = some .local ∨ sc.names.lookup x = some .cell
def nbB (N : List Str) (sc : Scope) (i : Nat) (x : Str) : Bool := decide (N[i]? = some x) && (match sc.names.lookup x with
  | some .local => true
  | some .cell => true
  | _ => false)
theorem Nb.by {N : List Str} {sc : Scope} {i : Nat} {x : Str} (h : nbB N sc i x = true) : Nb N sc i x := by
  unfold nbB at h
  simp only [Bool.and_eq_true, decide_eq_true_eq] at h
  obtain ⟨h1, h2⟩ := h
  refine ⟨h1, ?_⟩
  split at h2
  · exact .inl ‹_›
  · exact .inr ‹_›
  · cases h2
theorem env_eta {env : Env} {sc : Scope} (h : env.scope = sc) : env = { env with scope := sc } := by
  cases env
  cases h
  rfl
theorem sw_by {env : Env} {sc : Scope} {t : List Expr} {v : Expr} {r : Sem (Option (List Str))} (h : env.scope = sc) (e : ∀ env : Env, swappedStores t v { env with scope := sc } = r) : swappedStores t v env = r := by
  rw [env_eta h]
  exact e env
section
variable {P : Program} {w : World} {K : PySem.W.Frag} {mg : Str → Option Value} {base : Heap} {N : List Str} {sc : Scope} {k : Nat} {X : Cx} {C : Nat → Value} {W : WX}
theorem Cw.blk (c : Cw P w K mg base N sc k X W) (s : Shared) (H : Hp) (scope : Scope) (A : Addr) (cl : List (Str × Addr)) (fp : List Addr) : Cw P w K mg base N (relS scope sc) k (X.blk s H scope (compEnvC scope cl A X.env) fp) W0 :=
  ⟨c.c.blk s H scope A cl fp, takes0, c.nd⟩
theorem Cs.tr {pn : List (Addr × Obj)} {xe : Value → Shared → Prop} {W' : WX} (c : Cs P w K mg base N sc k X W) (tk : Takes (X.tr pn xe) W') (po : PassesOwn (model X.prog X.w) X.A X.env xe) : Cs P w K mg base N sc k (X.tr pn xe) W' :=
  ⟨⟨⟨c.e.c.prog, c.e.c.w, c.e.c.K, c.e.c.mg, c.e.c.base, c.e.c.N, c.e.c.sc, c.e.c.calm, c.e.c.room⟩, tk, c.e.nd⟩, c.fn, po, c.hs, c.hf⟩
theorem Cw.mn (c : Cw P w K mg base N sc k X W) {x : Str} (h : mg x = none) : X.mg x = none := by rw [c.c.mg]; exact h
theorem Cw.xnd (c : Cw P w K mg base N sc k X W) : X.N.Nodup := by rw [c.c.N]; exact c.nd
theorem Cw.u64 (c : Cw P w K mg base N sc k X W) : X.A.units + 64 < cLine := by have := c.c.room.un; omega
theorem Cw.u1 (c : Cw P w K mg base N sc k X W) : X.A.units + 1 < cLine := by have := c.c.room.un; omega
theorem Cw.u0 (c : Cw P w K mg base N sc k X W) : X.A.units < cLine := by have := c.c.room.un; omega
theorem v_ (c : Cw P w K mg base N sc k X W) {x : Str} {i : Nat} {pos : Pos} (n : Nm N sc i x) : JE X C W (.Name x pos) (mVar i) := x_var c.c n
theorem p_ (c : Cw P w K mg base N sc k X W) {x : Str} {i : Nat} {pos : Pos} (n : Nm N sc i x) : JO X C W (.Name x pos) (mPk i) (lPk i) := x_pk c.c n
theorem g_int (c : Cw P w K mg base N sc k X W) {x : Str} {i : Int} {pos : Pos} (n : Ng sc x) (h : ∃ t, mg x = some (.int i t)) : JE X C W (.Name x pos) (mC (.int i)) := by
  obtain ⟨t, h⟩ := h
  exact x_glob (v := .int i) c.c n h ⟨t, rfl⟩ fun _ _ => by simp only [RelD]
/-! ### operators -/
section
variable {a b : Expr} {m1 m2 : ME} {l1 l2 : Ev → D → Option D} {pos : Pos} (ha : JO X C W a m1 l1) (hb : JO X C W b m2 l2)
include ha hb
theorem x_add : JE X C W (.BinOp a .Add b pos) (mB fAdd m1 l1 m2 l2) := j_bin o_add s_add ha hb
theorem x_sub : JE X C W (.BinOp a .Sub b pos) (mB fSub m1 l1 m2 l2) := j_bin o_sub s_sub ha hb
theorem x_mul : JE X C W (.BinOp a .Mult b pos) (mB fMul m1 l1 m2 l2) := j_bin o_mul s_mul ha hb
theorem x_div : JE X C W (.BinOp a .FloorDiv b pos) (mB fDiv m1 l1 m2 l2) := j_bin op_fdivW s_div ha hb
theorem x_mod : JE X C W (.BinOp a .Mod b pos) (mB fMod m1 l1 m2 l2) := j_bin o_mod s_mod ha hb
theorem x_pow : JE X C W (.BinOp a .Pow b pos) (mB fPow m1 l1 m2 l2) := j_bin op_pow s_pow ha hb
theorem x_ix (hp : PlainIx b) : JE X C W (.Subscript a b pos) (mB fIx m1 l1 m2 l2) := j_ix ix_seq s_ix ha hb hp
theorem x_lt (c : Cw P w K mg base N sc k X W) (hm : behindInMarks .Lt b = false) : JE X C W (.Compare a [.Lt] [b] pos) (mB fLt m1 l1 m2 l2) := j_cmp (o_lt c.u0) s_lt ha hb hm
theorem x_le (hm : behindInMarks .LtE b = false) : JE X C W (.Compare a [.LtE] [b] pos) (mB fLe m1 l1 m2 l2) := j_cmp op_le s_le ha hb hm
theorem x_gt (hm : behindInMarks .Gt b = false) : JE X C W (.Compare a [.Gt] [b] pos) (mB fGt m1 l1 m2 l2) := j_cmp op_gt s_gt ha hb hm
theorem x_ge (hm : behindInMarks .GtE b = false) : JE X C W (.Compare a [.GtE] [b] pos) (mB fGe m1 l1 m2 l2) := j_cmp op_ge s_ge ha hb hm
theorem x_eq (c : Cw P w K mg base N sc k X W) (hm : behindInMarks .Eq b = false) : JE X C W (.Compare a [.Eq] [b] pos) (mB fEq m1 l1 m2 l2) := j_cmp (op_eqD c.u64) s_eq ha hb hm
theorem x_ne (c : Cw P w K mg base N sc k X W) (hm : behindInMarks .NotEq b = false) : JE X C W (.Compare a [.NotEq] [b] pos) (mB fNe m1 l1 m2 l2) := j_cmp (op_neD c.u64) s_ne ha hb hm
theorem x_is (hm : behindInMarks .Is b = false) : JE X C W (.Compare a [.Is] [b] pos) (mB fIsN m1 l1 m2 l2) := j_cmp op_isN s_isN ha hb hm
theorem x_isnot (hm : behindInMarks .IsNot b = false) : JE X C W (.Compare a [.IsNot] [b] pos) (mB fNotN m1 l1 m2 l2) := j_cmp op_notN s_notN ha hb hm
theorem x_in (hm : behindInMarks .In b = false) : JE X C W (.Compare a [.In] [b] pos) (mB fIn m1 l1 m2 l2) := j_cmp op_in_seq s_in ha hb hm
theorem x_notin (hm : behindInMarks .NotIn b = false) : JE X C W (.Compare a [.NotIn] [b] pos) (mB fNotIn m1 l1 m2 l2) := j_cmp op_notIn_seq s_notIn ha hb hm
theorem t_lt (c : Cw P w K mg base N sc k X W) (hm : behindInMarks .Lt b = false) : JT X C W (.Compare a [.Lt] [b] pos) (mB fLt m1 l1 m2 l2) := jt_cmp (o_lt c.u0) s_lt ha hb hm
theorem t_le (hm : behindInMarks .LtE b = false) : JT X C W (.Compare a [.LtE] [b] pos) (mB fLe m1 l1 m2 l2) := jt_cmp op_le s_le ha hb hm
theorem t_gt (hm : behindInMarks .Gt b = false) : JT X C W (.Compare a [.Gt] [b] pos) (mB fGt m1 l1 m2 l2) := jt_cmp op_gt s_gt ha hb hm
theorem t_ge (hm : behindInMarks .GtE b = false) : JT X C W (.Compare a [.GtE] [b] pos) (mB fGe m1 l1 m2 l2) := jt_cmp op_ge s_ge ha hb hm
theorem t_eq (c : Cw P w K mg base N sc k X W) (hm : behindInMarks .Eq b = false) : JT X C W (.Compare a [.Eq] [b] pos) (mB fEq m1 l1 m2 l2) := jt_cmp (op_eqD c.u64) s_eq ha hb hm
theorem t_ne (c : Cw P w K mg base N sc k X W) (hm : behindInMarks .NotEq b = false) : JT X C W (.Compare a [.NotEq] [b] pos) (mB fNe m1 l1 m2 l2) := jt_cmp (op_neD c.u64) s_ne ha hb hm
theorem t_is (hm : behindInMarks .Is b = false) : JT X C W (.Compare a [.Is] [b] pos) (mB fIsN m1 l1 m2 l2) := jt_cmp op_isN s_isN ha hb hm
theorem t_isnot (hm : behindInMarks .IsNot b = false) : JT X C W (.Compare a [.IsNot] [b] pos) (mB fNotN m1 l1 m2 l2) := jt_cmp op_notN s_notN ha hb hm
theorem t_in (hm : behindInMarks .In b = false) : JT X C W (.Compare a [.In] [b] pos) (mB fIn m1 l1 m2 l2) := jt_cmp op_in_seq s_in ha hb hm
theorem t_notin (hm : behindInMarks .NotIn b = false) : JT X C W (.Compare a [.NotIn] [b] pos) (mB fNotIn m1 l1 m2 l2) := jt_cmp op_notIn_seq s_notIn ha hb hm
end
theorem x_neg {a : Expr} {m : ME} {l : Ev → D → Option D} {pos : Pos} (ha : JO X C W a m l) : JE X C W (.UnaryOp .USub a pos) (mU fNeg m l) := j_un un_neg s_neg ha
theorem x_ch {a b d : Expr} {m1 m2 m3 : ME} {l1 l2 l3 : Ev → D → Option D} {pos : Pos} (ha : JO X C W a m1 l1) (hb : JO X C W b m2 l2) (hd : JO X C W d m3 l3) (hm : lastMarks [.LtE, .LtE] [b, d] = false) :
    JE X C W (.Compare a [.LtE, .LtE] [b, d] pos) (mChain fLe fLe m1 l1 m2 l2 m3 l3) := j_chain op_le s_le op_le s_le ha hb hd hm
def mPrt (m : ME) : ME := fun env => match m env with
  | .ok (.int i) e1 => .ok (.int i) e1
  | .ok _ _ => .bad
  | .ex c e1 => .ex c e1
  | .bad => .bad
theorem jp_of {e : Expr} {m : ME} (h : JE X C W e m) : JP X C W (some e) (mPrt m) := jp_some h
/-! ### built-ins -/
section
variable {e : Expr} {es : List Expr} {ma : MA} {la : Ev → List D → Option (List D)} {p pos : Pos} (c : Cw P w K mg base N sc k X W) (B : Bts mg) (ha : JA X C W (e :: es) ma la) (he : starEach (e :: es) X.env = (false, eval e X.env) :: starEach es X.env) (hpl : (backTo pos (starEach es X.env)).any (·.1) = false)
include c B ha he hpl
theorem x_len (g : Ng sc "len") : JE X C W (.Call (.Name "len" p) (e :: es) [] pos) (mCall bLen ma la) := j_callB call_len s_len (c.c.gl g) (c.mn B.len) rfl (by decide) (by decide) ha he hpl
theorem x_abs (g : Ng sc "abs") : JE X C W (.Call (.Name "abs" p) (e :: es) [] pos) (mCall bAbs ma la) := j_callB call_abs s_abs (c.c.gl g) (c.mn B.abs) rfl (by decide) (by decide) ha he hpl
theorem x_max (g : Ng sc "max") : JE X C W (.Call (.Name "max" p) (e :: es) [] pos) (mCall bMax ma la) := j_callB (c_max c.c.calm) s_max (c.c.gl g) (c.mn B.max) rfl (by decide) (by decide) ha he hpl
theorem x_min (g : Ng sc "min") : JE X C W (.Call (.Name "min" p) (e :: es) [] pos) (mCall bMin ma la) := j_callB (c_min c.c.calm) s_min (c.c.gl g) (c.mn B.min) rfl (by decide) (by decide) ha he hpl
theorem x_sum (g : Ng sc "sum") : JE X C W (.Call (.Name "sum" p) (e :: es) [] pos) (mCall bSum ma la) := j_callB (cr_sum c.c.calm) s_sum (c.c.gl g) (c.mn B.sum) rfl (by decide) (by decide) ha he hpl
theorem x_all (g : Ng sc "all") : JE X C W (.Call (.Name "all" p) (e :: es) [] pos) (mCall bAll ma la) := j_callB (cr_all c.c.calm) s_all (c.c.gl g) (c.mn B.all) rfl (by decide) (by decide) ha he hpl
theorem x_any (g : Ng sc "any") : JE X C W (.Call (.Name "any" p) (e :: es) [] pos) (mCall bAny ma la) := j_callB (cr_any c.c.calm) s_any (c.c.gl g) (c.mn B.any) rfl (by decide) (by decide) ha he hpl
theorem x_sorted (g : Ng sc "sorted") : JE X C W (.Call (.Name "sorted" p) (e :: es) [] pos) (mCall bSorted ma la) := j_callB cr_sorted s_sorted (c.c.gl g) (c.mn B.sorted) rfl (by decide) (by decide) ha he hpl
theorem x_sortedD (g : Ng sc "sorted") : JE X C W (.Call (.Name "sorted" p) (e :: es) [] pos) (mCall bSortedD ma la) := j_callB (call_sortedDI c.c.calm) s_sortedD (c.c.gl g) (c.mn B.sorted) rfl (by decide) (by decide) ha he hpl
theorem x_int (g : Ng sc "int") : JE X C W (.Call (.Name "int" p) (e :: es) [] pos) (mCall bInt ma la) := j_callT call_int1 s_int (c.c.gl g) (c.mn B.int) rfl (by decide) (by decide) ha he hpl
theorem x_list (g : Ng sc "list") : JE X C W (.Call (.Name "list" p) (e :: es) [] pos) (mCall bList ma la) := j_callT call_list_of s_list (c.c.gl g) (c.mn B.list) rfl (by decide) (by decide) ha he hpl
theorem x_tuple (g : Ng sc "tuple") : JE X C W (.Call (.Name "tuple" p) (e :: es) [] pos) (mCall bTuple ma la) := j_callT call_tuple_of s_tuple (c.c.gl g) (c.mn B.tuple) rfl (by decide) (by decide) ha he hpl
end
section
variable {a : Expr} {m : ME} {l : Ev → D → Option D} {p p2 pos : Pos} (c : Cw P w K mg base N sc k X W) (B : Bts mg) (ha : JO X C W a m l) (g : Ng sc "isinstance")
include c B ha g
theorem x_isInt (g2 : Ng sc "int") (hs : starEach [a, .Name "int" p2] X.env = (false, eval a X.env) :: starEach [.Name "int" p2] X.env) : JE X C W (.Call (.Name "isinstance" p) [a, .Name "int" p2] [] pos) (mU isInt m l) :=
  j_isi isi_int ha (c.c.gl g) (c.mn B.isinstance) rfl (by decide) (by decide) (c.c.gl g2) (c.mn B.int) rfl (by decide) (by decide) hs rfl rfl
theorem x_isBool (g2 : Ng sc "bool") (hs : starEach [a, .Name "bool" p2] X.env = (false, eval a X.env) :: starEach [.Name "bool" p2] X.env) : JE X C W (.Call (.Name "isinstance" p) [a, .Name "bool" p2] [] pos) (mU isBool m l) :=
  j_isi isi_bool ha (c.c.gl g) (c.mn B.isinstance) rfl (by decide) (by decide) (c.c.gl g2) (c.mn B.bool) rfl (by decide) (by decide) hs rfl rfl
theorem x_isTup (g2 : Ng sc "tuple") (hs : starEach [a, .Name "tuple" p2] X.env = (false, eval a X.env) :: starEach [.Name "tuple" p2] X.env) : JE X C W (.Call (.Name "isinstance" p) [a, .Name "tuple" p2] [] pos) (mU isTup m l) :=
  j_isi isi_tup ha (c.c.gl g) (c.mn B.isinstance) rfl (by decide) (by decide) (c.c.gl g2) (c.mn B.tuple) rfl (by decide) (by decide) hs rfl rfl
theorem x_isStr (g2 : Ng sc "str") (hs : starEach [a, .Name "str" p2] X.env = (false, eval a X.env) :: starEach [.Name "str" p2] X.env) : JE X C W (.Call (.Name "isinstance" p) [a, .Name "str" p2] [] pos) (mU isStr m l) :=
  j_isi isi_str ha (c.c.gl g) (c.mn B.isinstance) rfl (by decide) (by decide) (c.c.gl g2) (c.mn B.str) rfl (by decide) (by decide) hs rfl rfl
end
theorem x_range1 {tg a : Expr} {ma : MA} {p pos : Pos} (c : Cw P w K mg base N sc k X W) (B : Bts mg) (g : Ng sc "range") (ha : JV X C W [a] ma) (hs : starEach [a] X.env = [(false, eval a X.env)]) : JI X C W tg (.Call (.Name "range" p) [a] [] pos) (mRange1 ma) := j_range1 (c.c.gl g) (c.mn B.range) ha hs
theorem x_range2 {tg a b : Expr} {ma : MA} {p pos : Pos} (c : Cw P w K mg base N sc k X W) (B : Bts mg) (g : Ng sc "range") (ha : JV X C W [a, b] ma) (hs : starEach [a, b] X.env = [(false, eval a X.env), (false, eval b X.env)]) (hs2 : starEach [b] X.env = [(false, eval b X.env)]) :
    JI X C W tg (.Call (.Name "range" p) [a, b] [] pos) (mRange2 ma) := j_range2 (c.c.gl g) (c.mn B.range) ha hs hs2
theorem x_zip {elts : List Expr} {kk : Nat} {tpos : Pos} {a b : Expr} {ma : MA} {p pos : Pos} (c : Cw P w K mg base N sc k X W) (B : Bts mg) (g : Ng sc "zip") (ha : JV X C W [a, b] ma) (hs : starEach [a, b] X.env = (false, eval a X.env) :: starEach [b] X.env) (hpl : (backTo pos (starEach [b] X.env)).any (·.1) = false) :
    JI X C W (.Tuple elts kk tpos) (.Call (.Name "zip" p) [a, b] [] pos) (mZip ma) := j_zip (c.c.gl g) (c.mn B.zip) ha hs hpl
theorem x_listR1 {e : Expr} {m : ME} {p p2 pos pos2 : Pos} (c : Cw P w K mg base N sc k X W) (B : Bts mg) (g : Ng sc "list") (g2 : Ng sc "range") (he : JE X C W e m) (na : starEach [e] X.env = (false, eval e X.env) :: starEach [] X.env) :
    JE X C W (.Call (.Name "list" p) [.Call (.Name "range" p2) [e] [] pos2] [] pos) (mListR1 m) := j_listR1 c.c.calm (c.c.gl g) (c.mn B.list) (c.c.gl g2) (c.mn B.range) he na
theorem x_listR2 {a b : Expr} {m1 m2 : ME} {p p2 pos pos2 : Pos} (c : Cw P w K mg base N sc k X W) (B : Bts mg) (g : Ng sc "list") (g2 : Ng sc "range") (ha : JE X C W a m1) (hb : JE X C W b m2) (na : starEach [a, b] X.env = (false, eval a X.env) :: starEach [b] X.env) (nb : starEach [b] X.env = (false, eval b X.env) :: starEach [] X.env) :
    JE X C W (.Call (.Name "list" p) [.Call (.Name "range" p2) [a, b] [] pos2] [] pos) (mListR2 m1 m2) := j_listR2 c.c.calm (c.c.gl g) (c.mn B.list) (c.c.gl g2) (c.mn B.range) ha hb na nb
/-! ### own defs -/
theorem x_call {x : Str} {n j : Nat} {f : UF} {e : Expr} {es : List Expr} {ma : MA} {p pos : Pos} (c : Cw P w K mg base N sc k X W) (d : Df P w K mg base C x n j f) (hj : j ≤ k) (g : Ng sc x) (ha : JV X C W (e :: es) ma) (hn : ∀ ds e env, ma env = .ok ds e → ds.length = n)
    (he : starEach (e :: es) X.env = (false, eval e X.env) :: starEach es X.env) (hpl : (backTo pos (starEach es X.env)).any (·.1) = false) : JE X C W (.Call (.Name x p) (e :: es) [] pos) (mUser f ma) := x_user c.c c.tk d hj g ha hn he hpl
theorem x_call0 {x : Str} {j : Nat} {f : UF} {p pos : Pos} (c : Cw P w K mg base N sc k X W) (d : Df P w K mg base C x 0 j f) (hj : j ≤ k) (g : Ng sc x) : JE X C W (.Call (.Name x p) [] [] pos) (mUser0 f) := x_user0 c.c c.tk d hj g
theorem x_lent {x y : Str} {i n j : Nat} {f : UF} {es : List Expr} {ma : MA} {py p pos : Pos} (c : Cw P w K mg base N sc k X W) (d : Df P w K mg base C x (n + 1) j f) (hj : j ≤ k) (g : Ng sc x) (nm : Nm N sc i y) (ha : JV X C W es ma) (hn : ∀ ds e env, ma env = .ok ds e → ds.length = n)
    (he : starEach (.Name y py :: es) X.env = (false, eval (.Name y py) X.env) :: starEach es X.env) (hpl : (backTo pos (starEach es X.env)).any (·.1) = false) : JE X C W (.Call (.Name x p) (.Name y py :: es) [] pos) (mUserB f i ma) := x_lend c.c c.tk d hj g nm ha hn he hpl
/-- how many values a row of operands has -/
theorem len0 : ∀ ds e env, maNil env = .ok ds e → ds.length = 0 := fun ds e env h => by
  cases h
  rfl
theorem lenS {m : ME} {ma : MA} {n : Nat} (h : ∀ ds e env, ma env = .ok ds e → ds.length = n) : ∀ ds e env, maCons m ma env = .ok ds e → ds.length = n + 1 := fun ds e env q => by
  unfold maCons at q
  split at q
  · split at q
    · rename_i e2
      cases q
      simp only [List.length_cons]
      rw [h _ _ _ e2]
    · cases q
    · cases q
  · cases q
  · cases q
/-- a def that returns a new list -/
structure DfN (P : Program) (w : World) (K : PySem.W.Frag) (mg : Str → Option Value) (base : Heap) (x : Str) (n k : Nat) (f : UF) : Prop where
  ex : ∃ (fa : Addr) (fd : FuncData) (ps : List Str), mg x = some (.ref fa) ∧ PySem.W.keepIn K (.ref fa) = true ∧ Binds K fd ps [] ∧ FnOk P w K mg base (L2.CX P w) k fa fd ps (spN K n f)
def mUserN (f : UF) (ma : MA) : ME := fun e => match ma e with
  | .ok ds e1 => (match f (ds.map Sl.va) with
    | .ok d _ => .ok d e1
    | _ => .bad)
  | .ex c e1 => .ex c e1
  | .bad => .bad
theorem x_callN {x : Str} {n j : Nat} {f : UF} {e : Expr} {es : List Expr} {ma : MA} {p pos : Pos} (c : Cw P w K mg base N sc k X W) (d : DfN P w K mg base x n j f) (hj : j ≤ k) (g : Ng sc x) (ha : JV X C W (e :: es) ma) (hn : ∀ ds e env, ma env = .ok ds e → ds.length = n)
    (he : starEach (e :: es) X.env = (false, eval e X.env) :: starEach es X.env) (hpl : (backTo pos (starEach es X.env)).any (·.1) = false) : JF X C W (.Call (.Name x p) (e :: es) [] pos) (mUserN f ma) := by
  obtain ⟨fa, fd, ps, h1, h2, h3, h4⟩ := d.ex
  have gl := c.c.gl g
  have tk := c.tk
  obtain ⟨rfl, rfl, rfl, rfl, rfl, rfl, rfl, _, r⟩ := c.c
  obtain ⟨t, pa, q⟩ := ha.run
  refine ⟨_, pe_callS h4 (r.mono hj) gl h1 h2 h3 (fun σ => passAt tk σ) pa g.d he hpl, fun F env σ H Q kk s z => q F env σ H _ kk s ?_⟩
  unfold mUserN at z
  cases e1 : ma env with
  | bad => rw [e1] at z; exact z
  | ex c env1 => rw [e1] at z; exact z
  | ok ds env1 =>
    rw [e1] at z
    dsimp only at z
    refine fun vs H1 s1 x1 rl => ?_
    refine ⟨Ow F env1 σ, ds.map Sl.va, by rw [← relL_len rl]; exact hn ds env1 env e1, fun a => s1.dom, ?_, ?_⟩
    · have := argR_map rl
      rw [← kk]
      cases ds with
      | nil => exact ⟨rfl, this⟩
      | cons d r => exact ⟨rfl, this⟩
    · cases e2 : f (ds.map Sl.va) with
      | bad => rw [e2] at z; exact z
      | ex c out => rw [e2] at z; exact z.elim
      | ok d out =>
        rw [e2] at z
        refine fun p H2 H3 g1 n g2 cr => ?_
        rw [← kk] at cr
        exact z p H2 H3 (s1.grow g1) (x1.trans (Ext.of g1)) n g2 cr
/-! ### comprehensions -/
def blkB (N : List Str) (sc scope : Scope) (own : List (Str × Nat)) : Bool := decide (scope.kind = .function) && ((scope.names.all fun y => decide (scope.names.lookup y.1 = some y.2)) && ((own.all fun p => decide (N[p.2]? = some p.1)) &&
  ((scope.names.all fun y => !decide (y.2 = .free) || (decide (sc.names.lookup y.1 = some .cell) || decide (sc.names.lookup y.1 = some .free))) && (scope.names.all fun y => !(decide (y.2 = .local) || decide (y.2 = .cell)) || (decide (y.1 ∈ own.map (·.1)) || !decide (y.1 ∈ N))))))
theorem blk_by {N : List Str} {sc scope : Scope} {own : List (Str × Nat)} (h : blkB N sc scope own = true) : BlkOk N sc scope own := by
  unfold blkB at h
  simp only [Bool.and_eq_true, List.all_eq_true, decide_eq_true_eq, Bool.or_eq_true, Bool.not_eq_true', decide_eq_false_iff_not, Bool.or_eq_false_iff] at h
  obtain ⟨h1, h2, h3, h4, h5⟩ := h
  refine ⟨h1, h2, h3, fun y hy e => ?_, fun y hy e => ?_⟩
  · rcases h4 y hy with z | z
    · exact absurd e z
    · exact z
  · rcases h5 y hy with z | z
    · rcases e with e | e
      · exact absurd e z.1
      · exact absurd e z.2
    · exact z
theorem Cw.blkOk (c : Cw P w K mg base N sc k X W) {scope : Scope} {own : List (Str × Nat)} (h : BlkOk N sc scope own) : BlkOk X.N X.env.scope scope own := by
  rw [c.c.N, c.c.sc]
  exact h
theorem x_lc {elt tg iter : Expr} {ifs : List Expr} {scope : Scope} {pos : Pos} {js : List Nat} {mi : MA} {mg' : MT} {mt me : ME} (own : List (Str × Nat)) (c : Cw P w K mg base N sc k X W) (hi : JI X C W tg iter mi) (ok : BlkOk N sc scope own)
    (hg : ∀ X' : Cx, Cw P w K mg base N (relS scope sc) k X' W0 → JG X' tg mg' js) (ht : ∀ X' : Cx, Cw P w K mg base N (relS scope sc) k X' W0 → JTs X' C W0 ifs mt) (he : ∀ X' : Cx, Cw P w K mg base N (relS scope sc) k X' W0 → JE X' C W0 elt me)
    (hj : ∀ j ∈ js, j ∈ own.map (·.2)) (hs : ∀ x, foldedSetIterable iter X.env x = pure x) : JF X C W (.ListComp elt [⟨tg, iter, ifs, 0⟩] scope pos) (mLc mi (own.map (·.2)) mg' mt me) :=
  jf_lc c.c.calm c.xnd hi (c.blkOk ok) (fun s H A cl fp => hg _ (c.blk s H scope A cl fp)) (fun s H A cl fp => ht _ (c.blk s H scope A cl fp)) (fun s H A cl fp => he _ (c.blk s H scope A cl fp)) hj hs
theorem x_setLc {elt tg iter : Expr} {ifs : List Expr} {scope : Scope} {pos spos py : Pos} {y : Str} {i : Nat} {js : List Nat} {mi : MA} {mg' : MT} {mt me : ME} (own : List (Str × Nat)) (c : Cw P w K mg base N sc k X W) (hi : JI X C W tg iter mi) (ok : BlkOk N sc scope own)
    (hg : ∀ X' : Cx, Cw P w K mg base N (relS scope sc) k X' W0 → JG X' tg mg' js) (ht : ∀ X' : Cx, Cw P w K mg base N (relS scope sc) k X' W0 → JTs X' C W0 ifs mt) (he : ∀ X' : Cx, Cw P w K mg base N (relS scope sc) k X' W0 → JE X' C W0 elt me)
    (hj : ∀ j ∈ js, j ∈ own.map (·.2)) (hs : ∀ x, foldedSetIterable iter X.env x = pure x) (n : Nl N sc i y) (hk : sc.kind = .function) (hl : (py.line == pos.line) = true) (hn : (scope.names.any fun (n, k) => n == y && (k == .local || k == .cell)) = false) :
    JS X C W (.Assign [.Name y py] (.ListComp elt [⟨tg, iter, ifs, 0⟩] scope pos) spos) (mSet i (mAsV (mLc mi (own.map (·.2)) mg' mt me))) :=
  js_setLc c.c.calm c.xnd hi (c.blkOk ok) (fun s H A cl fp => hg _ (c.blk s H scope A cl fp)) (fun s H A cl fp => ht _ (c.blk s H scope A cl fp)) (fun s H A cl fp => he _ (c.blk s H scope A cl fp)) hj hs (c.c.at_ n.at_) (by rw [c.c.sc]; exact n.loc)
    (sw_true (by rw [c.c.sc]; exact hk) (by rw [c.c.sc]; exact n.loc) hl hn)
/-! ### targets, statements -/
theorem tg_ {x : Str} {i : Nat} {pos : Pos} (c : Cw P w K mg base N sc k X W) (n : Nl N sc i x) : JG X (.Name x pos) (mgName i) [i] := x_tgL c.c c.nd n
theorem tgC (c : Cs P w K mg base N sc k X W) {x : Str} {i : Nat} {pos : Pos} (n : Nb N sc i x) : JG X (.Name x pos) (mgName i) [i] :=
  jg_name c.e.xnd (c.e.c.at_ n.at_) (by unfold L2.Loc; rw [c.e.c.sc]; exact n.loc) (.inl (c.fn x))
theorem tg_cell {x : Str} {i : Nat} {pos : Pos} (c : Cw P w K mg base N sc k X W) (fn : X.fn x = true) (n : Nb N sc i x) : JG X (.Name x pos) (mgName i) [i] :=
  jg_name c.xnd (c.c.at_ n.at_) (by unfold L2.Loc; rw [c.c.sc]; exact n.loc) (.inl fn)
theorem st_set (c : Cs P w K mg base N sc k X W) {x : Str} {i : Nat} {e : Expr} {m : ME} {pos' pos : Pos} (n : Nb N sc i x) (h : JE X C W e m) (hs : swapsWithSole [.Name x pos'] e pos.line X.env = pure false) (hw : swappedStores [.Name x pos'] e X.env = pure none) :
    JS X C W (.Assign [.Name x pos'] e pos) (mSet i m) := js_set c.e.xnd (c.e.c.at_ n.at_) (by unfold L2.Loc; rw [c.e.c.sc]; exact n.loc) (.inl (c.fn x)) h hs hw
theorem st_own (c : Cs P w K mg base N sc k X W) {x : Str} {i : Nat} {e : Expr} {m : ME} {pos' pos : Pos} (n : Nb N sc i x) (h : JF X C W e m) (hs : swapsWithSole [.Name x pos'] e pos.line X.env = pure false) (hw : swappedStores [.Name x pos'] e X.env = pure none) :
    JS X C W (.Assign [.Name x pos'] e pos) (mOwn i m) := js_own c.e.xnd (c.e.c.at_ n.at_) (by unfold L2.Loc; rw [c.e.c.sc]; exact n.loc) (.inl (c.fn x)) h hs hw
theorem st_par (c : Cs P w K mg base N sc k X W) {i j : Nat} {x y : Str} {a b : Expr} {ma : MA} {px py pt pos : Pos} {kt k2 : Nat} {pt2 : Pos} (n1 : Nl N sc i x) (n2 : Nl N sc j y) (hij : i ≠ j) (ha : JV X C W [a, b] ma)
    (hw : ∀ env : Env, swappedStores [.Tuple [.Name x px, .Name y py] kt pt] (.Tuple [a, b] k2 pt2) { env with scope := sc } = pure (some [x, y])) (hs : swapsWithSole [.Tuple [.Name x px, .Name y py] kt pt] (.Tuple [a, b] k2 pt2) pos.line X.env = pure false) :
    JS X C W (.Assign [.Tuple [.Name x px, .Name y py] kt pt] (.Tuple [a, b] k2 pt2) pos) (mPar i j ma) :=
  js_par c.e.c.calm c.e.xnd (c.e.c.at_ n1.at_) (c.e.c.at_ n2.at_) hij (by rw [c.e.c.sc]; exact n1.loc) (by rw [c.e.c.sc]; exact n2.loc) ha (sw_by c.e.c.sc hw) hs
theorem st_for (c : Cs P w K mg base N sc k X W) {tg iter : Expr} {body : List Stmt} {mi : MA} {mg' : MT} {js : List Nat} {mb : MS} {pos : Pos} (hi : JI X C W tg iter mi) (hg : JG X tg mg' js) (hb : JB X C W body mb) (hs : ∀ x, foldedSetIterable iter X.env x = pure x) :
    JS X C W (.For tg iter body [] pos) (mFor mi mg' mb) := js_for c.po c.e.c.calm hi hg hb hs
theorem st_while (c : Cs P w K mg base N sc k X W) {n : Nat} {t : Expr} {body : List Stmt} {mc : ME} {mb : MS} {pos : Pos} (hc : JT X C W t mc) (hb : JB X C W body mb) : JS X C W (.While t body [] pos) (mWhile n mc mb) := js_while c.po hc hb
theorem st_app (c : Cs P w K mg base N sc k X W) {i : Nat} {x : Str} {e : Expr} {m : ME} {px apos cpos pos : Pos} (n : Nm N sc i x) (h : JE X C W e m)
    (hfew : ((backTo cpos (starEach [e] X.env)).all (fun x => !x.1) && (backToKw cpos (keywordEach [] X.env)).all (fun x => x.1.isSome) && decide (([e] : List Expr).length + ([] : List Keyword).length + (if ([] : List Keyword).isEmpty then 0 else 1) < 30)) = true)
    (hline : (apos.endLine == cpos.line) = true) (hs : starEach [e] X.env = (false, eval e X.env) :: starEach [] X.env) :
    JS X C W (.Expr (.Call (.Attribute (.Name x px) "append" apos) [e] [] cpos) pos) (mApp i m) := js_app (c.e.c.at_ n.at_) (c.e.c.vis n.vis) n.d n.c h hfew hline hs
theorem st_sub (c : Cs P w K mg base N sc k X W) {i : Nat} {x : Str} {ix e : Expr} {mi mv : ME} {px sp pos : Pos} (n : Nm N sc i x) (hi : JE X C W ix mi) (h : JE X C W e mv)
    (ha : ∀ v, assign (.Subscript (.Name x px) ix sp) X.env v = (do
      let ov ← holding [v] (eval (.Name x px) X.env)
      let iv ← holding [v, ov] (eval ix X.env)
      standAt sp
      holding [v, ov, iv] (setItem ov iv v)
      release [v, ov, iv] [])) (hs : swapsWithSole [.Subscript (.Name x px) ix sp] e pos.line X.env = pure false) :
    JS X C W (.Assign [.Subscript (.Name x px) ix sp] e pos) (mSub i mi mv) := js_sub (c.e.c.at_ n.at_) (c.e.c.vis n.vis) n.d n.c hi h ha hs
theorem st_dput (c : Cs P w K mg base N sc k X W) {i : Nat} {x : Str} {ix e : Expr} {mk mv : ME} {px sp pos : Pos} (n : Nm N sc i x) (hk : JE X C W ix mk) (h : JE X C W e mv) (hs : swapsWith e (some (.Subscript (.Name x px) ix sp)) pos.line X.env = pure false) :
    JS X C W (.Assign [.Subscript (.Name x px) ix sp] e pos) (mDPut i mk mv) := js_dput c.e.u1 (c.e.c.at_ n.at_) (c.e.c.vis n.vis) n.d n.c hk h hs
theorem x_dget (c : Cw P w K mg base N sc k X W) {i : Nat} {x : Str} {ix : Expr} {mk : ME} {px pos : Pos} (n : Nm N sc i x) (hk : JE X C W ix mk) (hs : NoSl ix) : JE X C W (.Subscript (.Name x px) ix pos) (mDGet i mk) := j_dget c.u1 (c.c.at_ n.at_) (c.c.vis n.vis) n.d n.c hk hs
theorem x_dget2 (c : Cw P w K mg base N sc k X W) {i : Nat} {x : Str} {ek ex : Expr} {mk mx : ME} {px apos cpos : Pos} (n : Nm N sc i x) (hk : JE X C W ek mk) (hx : JE X C W ex mx) (m : M2 X (.Name x px) "get" apos ek ex cpos) :
    JE X C W (.Call (.Attribute (.Name x px) "get" apos) [ek, ex] [] cpos) (mDGet2 i mk mx) := j_dget2 c.u1 (c.c.at_ n.at_) (c.c.vis n.vis) n.d n.c hk hx m
/-- an own error class -/
structure Er (K : PySem.W.Frag) (mg : Str → Option Value) (C : Nat → Value) (x : Str) (c : Nat) : Prop where
  ex : ∃ Cl : Addr, C c = .ref Cl ∧ mg x = some (.ref Cl) ∧ PySem.W.excIn K Cl [.type "ValueError", .type "Exception", .type "BaseException", .type "object"] "ValueError.__new__" = true ∧ PySem.W.keepIn K (.ref Cl) = true ∧ PySem.W.subIn K (.ref Cl) (.type "BaseException") = some true ∧ PySem.W.typeIn K (.ref Cl) = some (.type "type")
theorem st_raise (c : Cs P w K mg base N sc k X W) {n : Nat} {x m : Str} {j : Nat} {p p2 p3 pos : Pos} (e : Er K mg C x n) (g : Ng sc x) : JS X C W (.Raise (some (.Call (.Name x p) [.Constant (.str m) j p2] [] p3)) none pos) (mRaise n) := by
  obtain ⟨Cl, h1, h2, h3, h4, h5, h6⟩ := e.ex
  have hK := c.e.c.K
  exact js_raise c.e.c.calm c.e.tk PySem.F.excBase_ValueError (by rw [hK]; exact h3) (by rw [c.e.c.mg]; exact h2) (by rw [hK]; exact h4) (by rw [hK]; exact h5) (by rw [hK]; exact h6) (c.e.c.gl g) g.d h1
theorem st_tryApp (c : Cs P w K mg base N sc k X W) (B : Bts mg) {x n y jn : Str} {cv : Value} {Ja : Addr} {i j : Nat} {body : List Stmt} {mb : MS} {ex : Nat → Option Bool} {np pos pos' p1 p2 p3 p4 p5 p6 p7 p8 : Pos} (nn : Nl N sc i n) (n2 : Nm N sc i n) (ny : Nm N sc j y)
    (gx : Ng sc x) (mx : mg x = some cv) (gJ : Ng sc jn) (mJ : mg jn = some (.ref Ja)) (gI : Ng sc "isinstance") (ca : Caught K C cv (.ref Ja) ex)
    (hb : ∀ (X' : Cx) (W' : WX), Cs P w K mg base N sc k X' W' → JB X' C W' body mb)
    (h1 : ∀ E, attributeBase (.Name y p1) "append" E (eval (.Name y p1) E) = eval (.Name y p1) E)
    (h2 : ∀ E, ((backTo p3 (starEach [.Call (.Name "isinstance" p4) [.Name n p5, .Name jn p6] [] p7] E)).all (fun x => !x.1) && (backToKw p3 (keywordEach [] E)).all (fun x => x.1.isSome) && decide (([.Call (.Name "isinstance" p4) [.Name n p5, .Name jn p6] [] p7] : List Expr).length + ([] : List Keyword).length + (if ([] : List Keyword).isEmpty then 0 else 1) < 30)) = true)
    (h3 : (p2.endLine == p3.line) = true) :
    JS X C W (.Try body [.ExceptHandler (some (.Name x np)) (some n) [.Expr (.Call (.Attribute (.Name y p1) "append" p2) [.Call (.Name "isinstance" p4) [.Name n p5, .Name jn p6] [] p7] [] p3) p8] pos'] [] [] pos) (mTryApp mb ex i j) :=
  js_tryApp c.hs c.hf c.e.xnd (c.e.c.at_ nn.at_) (c.e.c.at_ ny.at_) (by rw [c.e.c.sc]; exact nn.loc) (c.e.c.vis ny.vis) ny.d ny.c n2.d n2.c ⟨c.e.c.gl gx, gx.d, .inl (by rw [c.e.c.mg]; exact mx)⟩ (c.e.c.gl gJ) (by rw [c.e.c.mg]; exact mJ) gJ.d (c.e.c.gl gI) (c.e.mn B.isinstance) c.e.tk
    (by rw [c.e.c.K]; exact ca) (fun W' pn xe tk po => hb _ W' (c.tr tk po)) h1 h2 h3
/-! ### defs -/
theorem def_ok {x qual : Str} {params : Arguments} {body : List Stmt} {scope : Scope} {f : Addr} {fd : FuncData} {N ps : List Str} {k : Nat} {m : MS} (F : FunD K x qual params body scope [] [] f fd) (S : FnScope N ps scope) (hm : mg x = some (.ref f)) (kp : PySem.W.keepIn K (.ref f) = true) (b : Binds K fd ps [])
    (h : ∀ (X : Cx) (W : WX), Cs P w K mg base N scope k X W → JB X C W body m) : Df P w K mg base C x ps.length (k + 1) (runF ps.length N.length m) :=
  ⟨f, fd, ps, hm, kp, b, fn_ok F S fun X W c fn tk po hs hf => h X W ⟨⟨c, tk, S.nd⟩, fn, po, hs, hf⟩⟩
theorem def_okN {x qual : Str} {params : Arguments} {body : List Stmt} {scope : Scope} {f : Addr} {fd : FuncData} {N ps : List Str} {k : Nat} {m : MS} (F : FunD K x qual params body scope [] [] f fd) (S : FnScope N ps scope) (hm : mg x = some (.ref f)) (kp : PySem.W.keepIn K (.ref f) = true) (b : Binds K fd ps [])
    (h : ∀ (X : Cx) (W : WX), Cs P w K mg base N scope k X W → JBF X C W body m) : DfN P w K mg base x ps.length (k + 1) (runN ps.length N.length m) :=
  ⟨f, fd, ps, hm, kp, b, fn_okN (C := C) F S fun X W c fn tk po hs hf => h X W ⟨⟨c, tk, S.nd⟩, fn, po, hs, hf⟩⟩
/-- a def that is asked nothing -/
def runBad : UF := fun _ => .bad
theorem def_bad {x qual : Str} {params : Arguments} {body : List Stmt} {scope : Scope} {f : Addr} {fd : FuncData} {N ps : List Str} {k : Nat} (F : FunD K x qual params body scope [] [] f fd) (S : FnScope N ps scope) (hm : mg x = some (.ref f)) (kp : PySem.W.keepIn K (.ref f) = true) (b : Binds K fd ps []) :
    Df P w K mg base C x ps.length (k + 1) runBad := by
  refine ⟨f, fd, ps, hm, kp, b, F.ok S (fun vs H Q E h => ?_) (fun cdv A outer s H vs Q E hr hsp => ?_)⟩
  · obtain ⟨_, _, _, hl, _⟩ := h
    exact hl
  · obtain ⟨O, b, args, hl, dom, ra, z⟩ := hsp
    exact z.elim
end
end MP

set_option Elab.async false
set_option linter.all false
set_option maxRecDepth 100000
set_option maxHeartbeats 4000000
namespace MP
open PySem PySem.Spec L2 He
open PyProof.Rows hiding St

/-! ### the head's facts, with one more Bool -/
abbrev AlE : Type := AlD × Bool
def hookE (n : Nat) (fa : List Fa) (fn : List DefD) (ex : PySem.W.Frag → Bool) : PySem.W.Hook where
  α := AlE
  obs := fun s => (obsDG n fa fn s.heap.get?, ex (frG s.heap.get? (asD s.heap.get? n)))
  val := fun _ => (valD fn, true)
  says := fun _ h => ∃ K : PySem.W.Frag, K.In h ∧ SaysD fa fn K ∧ ex K = true
  of := fun _ _ e => ⟨_, frG_in, congrArg (fun z : AlE => z.1) e, congrArg (fun z : AlE => z.2) e⟩
  keeps := fun _ _ _ ⟨K, hK, c⟩ k => ⟨K, PySem.W.Frag.In.keeps hK k, c⟩
def obsEG (n : Nat) (fa : List Fa) (fn : List DefD) (ex : PySem.W.Frag → Bool) (g : Addr → Option Obj) : AlE := (obsDG n fa fn g, ex (frG g (asD g n)))
theorem obsEG_eq {n : Nat} {fa : List Fa} {fn : List DefD} {ex : PySem.W.Frag → Bool} {g : Addr → Option Obj} {s : Shared} (h : ∀ a, g a = s.heap.get? a) : obsEG n fa fn ex g = (hookE n fa fn ex).obs s := by
  have e : g = s.heap.get? := funext h
  rw [e] <;> rfl
/-! ### caught errors -/
def excB (K : PySem.W.Frag) (D0 : Addr) : Bool := eqO (PySem.W.findIn K (.ref D0) "__getattribute__") (some (some (.builtin "BaseException.__getattribute__"))) && (eqO (PySem.W.findIn K (.ref D0) "__getattr__") (some none) &&
  (decide (PySem.W.subIn K (.ref D0) (.type "BaseException") = some true) && (PySem.W.hasDictIn K D0 && (eqO (PySem.W.findIn K (.ref D0) "__class__") (some (some (.builtin "object.__class__"))) &&
  (eqO (PySem.W.specialIn K (.builtin "object.__class__") "__get__") (some (some (.builtin "getset_descriptor.__get__"))) && (decide (PySem.W.takesIn K (.builtin "object.__class__") = some true) && decide (PySem.W.mroIn K D0 (.type "object") = some true)))))))
theorem excB_ok {K : PySem.W.Frag} {D0 : Addr} (h : excB K D0 = true) : ExcC K D0 := by
  obtain ⟨h1, h⟩ := ba h
  obtain ⟨h2, h⟩ := ba h
  obtain ⟨h3, h⟩ := ba h
  obtain ⟨h4, h⟩ := ba h
  obtain ⟨h5, h⟩ := ba h
  obtain ⟨h6, h⟩ := ba h
  obtain ⟨h7, h8⟩ := ba h
  exact ⟨eqO_ok h1, eqO_ok h2, of_decide_eq_true h3, h4, eqO_ok h5, eqO_ok h6, of_decide_eq_true h7, of_decide_eq_true h8⟩
/-- an error of class x, an except clause of class y, isinstance asked of z -/
def caB (K : PySem.W.Frag) (x y z : Str) (r : Bool) : Bool := decide (PySem.W.exmOne K (.ref (ga K x)) (.ref (ga K y)) = some true) && (excB K (ga K x) && decide (PySem.W.kitOne K (.ref (ga K x)) (.ref (ga K z)) = some r))
theorem caB_ok {K : PySem.W.Frag} {x y z : Str} {r : Bool} (h : caB K x y z r = true) : PySem.W.exmOne K (.ref (ga K x)) (.ref (ga K y)) = some true ∧ ∃ D0, Value.ref (ga K x) = .ref D0 ∧ ExcC K D0 ∧ PySem.W.kitOne K (.ref D0) (.ref (ga K z)) = some r := by
  obtain ⟨h1, h⟩ := ba h
  obtain ⟨h2, h3⟩ := ba h
  exact ⟨of_decide_eq_true h1, _, rfl, excB_ok h2, of_decide_eq_true h3⟩
theorem er_of {K : PySem.W.Frag} {mg : Str → Option Value} {C : Nat → Value} {x : Str} {c : Nat} (hC : C c = .ref (ga K x)) (hm : mg x = some (.ref (ga K x))) (h : (Fa.exc x).ok K = true) : Er K mg C x c := by
  obtain ⟨h1, h2, h3, h4⟩ := exc_ok h
  exact ⟨_, hC, hm, h1, h2, h3, h4⟩
/-! ### the end -/
theorem cx_no {P : Program} {w : World} {H : Hp} {s : Shared} {e : Value} {s' : Shared} (h : L2.CX P w [] H s (fun _ _ _ => False) e s') : False := by
  obtain ⟨a, B, H', cls, d, _, _, _, _, _, _, _, z⟩ := h
  exact z
theorem walk_law {l : PySem.W.OpenLaw} {n k : Nat} {q : Program} {loose : List Str} {XP : (Str → Option Value) → Heap → Prop} {YP : World → Heap → Prop} {d : DefRec} {x : Str} {f : UF}
    (hn : l.most = some n) (hn2 : n ≤ sizeLine) (hdf : d.params.defaults = []) (hr : Room k callerA) (hname : d.name = "law")
    (F : ∀ (w : World) (mg : Str → Option Value) (fa : Addr) (h : Heap), YP w h → h.Ns mainGlobals mg → mg "law" = some (.ref fa) →
      ∃ (K : PySem.W.Frag) (C : Nat → Value) (fd : FuncData), K.In h ∧ (∀ (s : Shared) (u : Value), BindsTo s fd ⟨[u], []⟩ [(x, u)]) ∧
        ∀ base : Heap, K.In base → base.Ns mainGlobals mg → FnOk l.prog w K mg base (L2.CX l.prog w) k fa fd [x] (spU K C 1 f))
    (hf : ∀ ns : List Int, ns.length ≤ n → (∀ z ∈ ns, Builtin.Int.intBits z ≤ 1048576) → ∃ out, f [.va (.scr ns)] = .ok (.bl true) out) :
    PySem.W.WalkO q loose XP YP l.row.toRowW d [] (fun f vs => PySem.call f vs) := by
  refine Att.attach_callB hn hdf fun w s₀ s₁ mg mb fa o pm cd doc a vs ns G Y ho hd hcd hmg hobj hints hlen hbits hg => ?_
  obtain ⟨K, C, fd, KX, hb, hF⟩ := F w mg fa _ Y G.T.g (by rw [← hname]; exact hmg)
  refine law_call KX G.T.g G.T.b G.T.builtins G.T.nolimit hg hobj hints (Nat.le_trans hlen hn2) hr hF hb (fun H hO hS => ?_) fun H e s' => cx_no
  obtain ⟨out, e⟩ := hf ns hlen hbits
  refine ⟨fun _ => False, none, [.va (.scr ns)], rfl, fun _ h => h.elim, ⟨rfl, ?_⟩, ?_⟩
  · simp only [ArgR]
    refine ⟨_, _, rfl, ?_, rfl⟩
    simp only [RelD]
    refine ⟨a, rfl, ?_⟩
    rcases hS with h | h
    · exact .inl ⟨h, fun z => z⟩
    · exact .inr h
  · rw [e]
    intro v H' _ r
    simp only [RelD] at r
    exact r
/-- what the law's def promises, with its parameter's name told -/
structure DfL (P : Program) (w : World) (K : PySem.W.Frag) (mg : Str → Option Value) (base : Heap) (C : Nat → Value) (fa : Addr) (fd : FuncData) (x : Str) (k : Nat) (f : UF) : Prop where
  ok : FnOk P w K mg base (L2.CX P w) k fa fd [x] (spU K C 1 f)
section
variable {P : Program} {w : World} {K : PySem.W.Frag} {mg : Str → Option Value} {base : Heap} {C : Nat → Value}
theorem law_ok {x qual : Str} {params : Arguments} {body : List Stmt} {scope : Scope} {f : Addr} {fd : FuncData} {N : List Str} {p : Str} {k : Nat} {m : MS} (F : FunD K x qual params body scope [] [] f fd) (S : FnScope N [p] scope)
    (h : ∀ (X : Cx) (W : WX), Cs P w K mg base N scope k X W → JB X C W body m) : FnOk P w K mg base (L2.CX P w) (k + 1) f fd [p] (spU K C 1 (runF 1 N.length m)) :=
  fn_ok F S fun X W c fn tk po hs hf => h X W ⟨⟨c, tk, S.nd⟩, fn, po, hs, hf⟩
end
theorem bts_of {K : PySem.W.Frag} {h : Heap} {mg : Str → Option Value} (X : K.In h) (G : h.Ns mainGlobals mg) (F : ∀ x, x ∈ (["len", "abs", "int", "max", "min", "sum", "all", "any", "list", "tuple", "sorted", "range", "zip", "isinstance", "bool", "str"] : List Str) → (Fa.free x).ok K = true) : Bts mg :=
  ⟨free_ok X G (F _ (by simp)), free_ok X G (F _ (by simp)), free_ok X G (F _ (by simp)), free_ok X G (F _ (by simp)), free_ok X G (F _ (by simp)), free_ok X G (F _ (by simp)), free_ok X G (F _ (by simp)), free_ok X G (F _ (by simp)),
   free_ok X G (F _ (by simp)), free_ok X G (F _ (by simp)), free_ok X G (F _ (by simp)), free_ok X G (F _ (by simp)), free_ok X G (F _ (by simp)), free_ok X G (F _ (by simp)), free_ok X G (F _ (by simp)), free_ok X G (F _ (by simp))⟩
end MP

set_option Elab.async false
set_option linter.all false
set_option maxRecDepth 100000
set_option maxHeartbeats 4000000
namespace MP
open PySem PySem.Spec L2
open PyProof.Rows hiding St

@[simp] theorem lId_ap  (v0 : Ev) (d : D) : lId  v0 d = (some d) := rfl
@[simp] theorem lPk_ap (i : Nat) (e : Ev) (v1 : D) : lPk i e v1 = (slotD e[i]?) := rfl
@[simp] theorem mPk_ap (i : Nat) (e : Ev) : mPk i e = (match slotD e[i]? with
  | some _ => .ok .non e
  | none => .bad) := rfl
@[simp] theorem mVar_ap (i : Nat) (e : Ev) : mVar i e = (match e[i]? with
  | some (Sl.va d) => .ok d e
  | some (Sl.ow (.lst xs)) => .ok (.lst xs) (e.set i (.va (.lst xs)))
  | _ => .bad) := rfl
@[simp] theorem mC_ap (d : D) (e : Ev) : mC d e = (.ok d e) := rfl
@[simp] theorem mU_ap (f : D → Option D) (m : ME) (l : Ev → D → Option D) (e : Ev) : mU f m l e = (match m e with
  | .ok x e1 => (match l e1 x with
    | some a => (match f a with
      | some d => .ok d e1
      | none => .bad)
    | none => .bad)
  | .ex c e1 => .ex c e1
  | .bad => .bad) := rfl
@[simp] theorem mB_ap (f : D → D → Option D) (m1 : ME) (l1 : Ev → D → Option D) (m2 : ME) (l2 : Ev → D → Option D) (e : Ev) : mB f m1 l1 m2 l2 e = (match m1 e with
  | .ok x e1 => (match m2 e1 with
    | .ok y e2 => (match l1 e2 x with
      | some a => (match l2 e2 y with
        | some b => (match f a b with
          | some d => .ok d e2
          | none => .bad)
        | none => .bad)
      | none => .bad)
    | .ex c e2 => .ex c e2
    | .bad => .bad)
  | .ex c e1 => .ex c e1
  | .bad => .bad) := rfl
@[simp] theorem maNil_ap  (e : Ev) : maNil  e = (.ok [] e) := rfl
@[simp] theorem laNil_ap  (v0 : Ev) (v1 : List D) : laNil  v0 v1 = (some []) := rfl
@[simp] theorem maCons_ap (m : ME) (ma : MA) (e : Ev) : maCons m ma e = (match m e with
  | .ok x e1 => (match ma e1 with
    | .ok xs e2 => .ok (x :: xs) e2
    | .ex c e2 => .ex c e2
    | .bad => .bad)
  | .ex c e1 => .ex c e1
  | .bad => .bad) := rfl
@[simp] theorem laCons_ap (l : Ev → D → Option D) (la : Ev → List D → Option (List D)) (e : Ev) (ds : List D) : laCons l la e ds = (match ds with
  | x :: xs => (match l e x with
    | some d => (match la e xs with
      | some r => some (d :: r)
      | none => none)
    | none => none)
  | [] => none) := rfl
@[simp] theorem mCall_ap (f : List D → Option D) (ma : MA) (la : Ev → List D → Option (List D)) (e : Ev) : mCall f ma la e = (match ma e with
  | .ok xs e1 => (match la e1 xs with
    | some ds => (match f ds with
      | some d => .ok d e1
      | none => .bad)
    | none => .bad)
  | .ex c e1 => .ex c e1
  | .bad => .bad) := rfl
@[simp] theorem mvNil_ap  (e : Ev) : mvNil  e = (.ok [] e) := rfl
@[simp] theorem mTup_ap (ma : MA) (e : Ev) : mTup ma e = (match ma e with
  | .ok xs e1 => (match Nat.ble xs.length line with
    | true => .ok (.tup xs) e1
    | false => .bad)
  | .ex c e1 => .ex c e1
  | .bad => .bad) := rfl
@[simp] theorem mLst_ap (ma : MA) (e : Ev) : mLst ma e = (match ma e with
  | .ok xs e1 => (match Nat.ble xs.length line with
    | true => .ok (.lst xs) e1
    | false => .bad)
  | .ex c e1 => .ex c e1
  | .bad => .bad) := rfl
@[simp] theorem mAnd_ap (m1 m2 : ME) (e : Ev) : mAnd m1 m2 e = (match m1 e with
  | .ok (.bl true) e1 => m2 e1
  | .ok (.bl false) e1 => .ok (.bl false) e1
  | .ok _ _ => .bad
  | .ex c e1 => .ex c e1
  | .bad => .bad) := rfl
@[simp] theorem mOr_ap (m1 m2 : ME) (e : Ev) : mOr m1 m2 e = (match m1 e with
  | .ok (.bl true) e1 => .ok (.bl true) e1
  | .ok (.bl false) e1 => m2 e1
  | .ok _ _ => .bad
  | .ex c e1 => .ex c e1
  | .bad => .bad) := rfl
@[simp] theorem mNot_ap (m : ME) (e : Ev) : mNot m e = (match m e with
  | .ok (.bl b) e1 => .ok (.bl (!b)) e1
  | .ok _ _ => .bad
  | .ex c e1 => .ex c e1
  | .bad => .bad) := rfl
@[simp] theorem mIf_ap (mc m1 m2 : ME) (e : Ev) : mIf mc m1 m2 e = (match mc e with
  | .ok (.bl true) e1 => m1 e1
  | .ok (.bl false) e1 => m2 e1
  | .ok _ _ => .bad
  | .ex c e1 => .ex c e1
  | .bad => .bad) := rfl
@[simp] theorem mChain_ap (f g : D → D → Option D) (m1 : ME) (l1 : Ev → D → Option D) (m2 : ME) (l2 : Ev → D → Option D) (m3 : ME) (l3 : Ev → D → Option D) (e : Ev) : mChain f g m1 l1 m2 l2 m3 l3 e = (match m1 e with
  | .ok x e1 => (match m2 e1 with
    | .ok y e2 => (match l1 e2 x with
      | some a => (match l2 e2 y with
        | some b => (match f a b with
          | some (.bl true) => (match m3 e2 with
            | .ok w e3 => (match l2 e3 y with
              | some b' => (match l3 e3 w with
                | some c => (match g b' c with
                  | some d => .ok d e3
                  | none => .bad)
                | none => .bad)
              | none => .bad)
            | .ex c e3 => .ex c e3
            | .bad => .bad)
          | some (.bl false) => .ok (.bl false) e2
          | _ => .bad)
        | none => .bad)
      | none => .bad)
    | .ex c e2 => .ex c e2
    | .bad => .bad)
  | .ex c e1 => .ex c e1
  | .bad => .bad) := rfl
@[simp] theorem mSl_ap (m : ME) (l : Ev → D → Option D) (m1 m2 : ME) (e : Ev) : mSl m l m1 m2 e = (match m e with
  | .ok x e1 => (match m1 e1 with
    | .ok a e2 => (match prt a with
      | some lo => (match m2 e2 with
        | .ok b e3 => (match prt b with
          | some hi => (match l e3 x with
            | some y => (match fSl y lo hi with
              | some d => .ok d e3
              | none => .bad)
            | none => .bad)
          | none => .bad)
        | .ex c e3 => .ex c e3
        | .bad => .bad)
      | none => .bad)
    | .ex c e2 => .ex c e2
    | .bad => .bad)
  | .ex c e1 => .ex c e1
  | .bad => .bad) := rfl
@[simp] theorem mIt_ap (m : ME) (e : Ev) : mIt m e = (match m e with
  | .ok (.lst xs) e1 => .ok xs e1
  | .ok (.tup xs) e1 => .ok xs e1
  | .ok _ _ => .bad
  | .ex c e1 => .ex c e1
  | .bad => .bad) := rfl
@[simp] theorem mRange1_ap (ma : MA) (e : Ev) : mRange1 ma e = (match ma e with
  | .ok [.int j] e1 => (match big j with
    | true => .ok (ups 0 j.toNat) e1
    | false => .bad)
  | .ok _ _ => .bad
  | .ex c e1 => .ex c e1
  | .bad => .bad) := rfl
@[simp] theorem mRange2_ap (ma : MA) (e : Ev) : mRange2 ma e = (match ma e with
  | .ok [.int i, .int j] e1 => (match big i && big j with
    | true => .ok (ups i (j - i).toNat) e1
    | false => .bad)
  | .ok _ _ => .bad
  | .ex c e1 => .ex c e1
  | .bad => .bad) := rfl
@[simp] theorem mZip_ap (ma : MA) (e : Ev) : mZip ma e = (match ma e with
  | .ok [.lst xs, .lst ys] e1 => .ok (pairs xs ys) e1
  | .ok [.tup xs, .tup ys] e1 => .ok (pairs xs ys) e1
  | .ok _ _ => .bad
  | .ex c e1 => .ex c e1
  | .bad => .bad) := rfl
@[simp] theorem mgName_ap (i : Nat) (d : D) (env : Ev) : mgName i d env = (match Nat.blt i env.length with
  | true => some (env.set i (.va d))
  | false => none) := rfl
@[simp] theorem mgsNil_ap  (ds : List D) (env : Ev) : mgsNil  ds env = (match ds with
  | [] => some env
  | _ => none) := rfl
@[simp] theorem mgsCons_ap (m : MT) (ms : List D → Ev → Option Ev) (ds : List D) (env : Ev) : mgsCons m ms ds env = (match ds with
  | d :: r => (match m d env with
    | some e1 => ms r e1
    | none => none)
  | [] => none) := rfl
@[simp] theorem mgTup_ap (n : Nat) (ms : List D → Ev → Option Ev) (d : D) (env : Ev) : mgTup n ms d env = (match d with
  | .tup ds => (match Nat.beq ds.length n with
    | true => ms ds env
    | false => none)
  | _ => none) := rfl
@[simp] theorem mLc_ap (mi : MA) (vs : List Nat) (mg : MT) (mt : ME) (me : ME) (env : Ev) : mLc mi vs mg mt me env = (match mi env with
  | .ok ds e1 => (match Nat.blt ds.length line with
    | true => (match lcGo mg mt me (wipeE (e1.map roE) vs) ds [] with
      | some ys => .ok (.lst ys) e1
      | none => .bad)
    | false => .bad)
  | .ex c e1 => .ex c e1
  | .bad => .bad) := rfl
@[simp] theorem mYes_ap  (e : Ev) : mYes  e = (.ok (.bl true) e) := rfl
@[simp] theorem mAsV_ap (m : ME) (e : Ev) : mAsV m e = (match m e with
  | .ok (.lst xs) e1 => .ok (.lst xs) e1
  | .ok _ _ => .bad
  | .ex c e1 => .ex c e1
  | .bad => .bad) := rfl
@[simp] theorem mNewD_ap  (e : Ev) : mNewD  e = (.ok (.dct [] []) e) := rfl
@[simp] theorem mNewT_ap  (e : Ev) : mNewT  e = (.ok (.dtp [] []) e) := rfl
@[simp] theorem mRep_ap (m1 m2 : ME) (e : Ev) : mRep m1 m2 e = (match m1 e with
  | .ok (.lst a) e1 => (match m2 e1 with
    | .ok (.int k) e2 => (match Nat.ble (a.length * k.toNat) line && (decide (-(2 ^ 63) ≤ k) && decide (k < 2 ^ 63)) with
      | true => .ok (.lst (List.replicate k.toNat a).flatten) e2
      | false => .bad)
    | .ok _ _ => .bad
    | .ex c e2 => .ex c e2
    | .bad => .bad)
  | .ok _ _ => .bad
  | .ex c e1 => .ex c e1
  | .bad => .bad) := rfl
@[simp] theorem mUser_ap (f : UF) (ma : MA) (e : Ev) : mUser f ma e = (match ma e with
  | .ok ds e1 => (match f (ds.map Sl.va) with
    | .ok d _ => .ok d e1
    | .ex c _ => .ex c e1
    | .bad => .bad)
  | .ex c e1 => .ex c e1
  | .bad => .bad) := rfl
@[simp] theorem mUser0_ap (f : UF) (e : Ev) : mUser0 f e = (match f [] with
  | .ok d _ => .ok d e
  | _ => .bad) := rfl
@[simp] theorem mSeq_ap (m1 m2 : MS) (e : Ev) : mSeq m1 m2 e = (match m1 e with
  | .nx e1 => m2 e1
  | r => r) := rfl
@[simp] theorem mSkip_ap  (e : Ev) : mSkip  e = (.nx e) := rfl
@[simp] theorem mDoc_ap  (e : Ev) : mDoc  e = (.nx e) := rfl
@[simp] theorem mBrk_ap  (e : Ev) : mBrk  e = (.bk e) := rfl
@[simp] theorem mCnt_ap  (e : Ev) : mCnt  e = (.ct e) := rfl
@[simp] theorem mRet_ap (m : ME) (e : Ev) : mRet m e = (match m e with
  | .ok d e1 => .rt d e1
  | .ex c e1 => .ex c e1
  | .bad => .bad) := rfl
@[simp] theorem mRetN_ap  (e : Ev) : mRetN  e = (.rt .non e) := rfl
@[simp] theorem mDrop_ap (m : ME) (e : Ev) : mDrop m e = (match m e with
  | .ok _ e1 => .nx e1
  | .ex c e1 => .ex c e1
  | .bad => .bad) := rfl
@[simp] theorem mIfS_ap (mc : ME) (m1 m2 : MS) (e : Ev) : mIfS mc m1 m2 e = (match mc e with
  | .ok (.bl true) e1 => m1 e1
  | .ok (.bl false) e1 => m2 e1
  | .ok _ _ => .bad
  | .ex c e1 => .ex c e1
  | .bad => .bad) := rfl
@[simp] theorem mSet_ap (i : Nat) (m : ME) (e : Ev) : mSet i m e = (match m e with
  | .ok d e1 => (match Nat.blt i e1.length with
    | true => .nx (e1.set i (.va d))
    | false => .bad)
  | .ex c e1 => .ex c e1
  | .bad => .bad) := rfl
@[simp] theorem mOwn_ap (i : Nat) (m : ME) (e : Ev) : mOwn i m e = (match m e with
  | .ok d e1 => (match Nat.blt i e1.length with
    | true => .nx (e1.set i (.ow d))
    | false => .bad)
  | .ex c e1 => .ex c e1
  | .bad => .bad) := rfl
@[simp] theorem mAsg_ap (mg : MT) (m : ME) (e : Ev) : mAsg mg m e = (match m e with
  | .ok d e1 => (match mg d e1 with
    | some e2 => .nx e2
    | none => .bad)
  | .ex c e1 => .ex c e1
  | .bad => .bad) := rfl
@[simp] theorem mPar_ap (i j : Nat) (ma : MA) (e : Ev) : mPar i j ma e = (match ma e with
  | .ok [a, b] e1 => (match Nat.blt i e1.length && Nat.blt j e1.length with
    | true => .nx ((e1.set i (.va a)).set j (.va b))
    | false => .bad)
  | .ok _ _ => .bad
  | .ex c e1 => .ex c e1
  | .bad => .bad) := rfl
@[simp] theorem mAug_ap (i : Nat) (f : D → D → Option D) (m : ME) (e : Ev) : mAug i f m e = (match e[i]? with
  | some (.va x) => (match m e with
    | .ok y e1 => (match f x y with
      | some d => (match Nat.blt i e1.length with
        | true => .nx (e1.set i (.va d))
        | false => .bad)
      | none => .bad)
    | .ex c e1 => .ex c e1
    | .bad => .bad)
  | _ => .bad) := rfl
@[simp] theorem mFor_ap (mi : MA) (mg : MT) (mb : MS) (e : Ev) : mFor mi mg mb e = (match mi e with
  | .ok ds e1 => forGo mg mb ds e1
  | .ex c e1 => .ex c e1
  | .bad => .bad) := rfl
@[simp] theorem mWhile_ap (n : Nat) (mc : ME) (mb : MS) (e : Ev) : mWhile n mc mb e = (whileGo mc mb n e) := rfl
@[simp] theorem mUserB_ap (f : UF) (i : Nat) (ma : MA) (e : Ev) : mUserB f i ma e = (match slotD e[i]? with
  | some _ => (match ma e with
    | .ok ds e1 => (match (e1[i]? : Option Sl) with
      | some (Sl.ow d) => (match f (.bo d :: ds.map Sl.va) with
        | .ok r (some d') => .ok r (e1.set i (.ow d'))
        | .ex c (some d') => .ex c (e1.set i (.ow d'))
        | _ => .bad)
      | some (Sl.bo d) => (match f (.bo d :: ds.map Sl.va) with
        | .ok r (some d') => .ok r (e1.set i (.bo d'))
        | .ex c (some d') => .ex c (e1.set i (.bo d'))
        | _ => .bad)
      | _ => .bad)
    | .ex c e1 => .ex c e1
    | .bad => .bad)
  | none => .bad) := rfl
@[simp] theorem mApp_ap (i : Nat) (m : ME) (e : Ev) : mApp i m e = (match atC e i with
  | some (.lst _) => (match m e with
    | .ok d e1 => (match atC e1 i with
      | some (.lst xs) => (match Nat.blt xs.length line with
        | true => .nx (kput e1 i (.lst (xs ++ [d])))
        | false => .bad)
      | _ => .bad)
    | .ex c e1 => .ex c e1
    | .bad => .bad)
  | _ => .bad) := rfl
@[simp] theorem mSub_ap (i : Nat) (mi mv : ME) (e : Ev) : mSub i mi mv e = (match mv e with
  | .ok d e1 => (match atC e1 i with
    | some (.lst _) => (match mi e1 with
      | .ok (.int k) e2 => (match atC e2 i with
        | some (.lst xs) => (match ixN xs.length k with
          | some j => .nx (kput e2 i (.lst (xs.set j d)))
          | none => .bad)
        | _ => .bad)
      | .ok _ _ => .bad
      | .ex c e2 => .ex c e2
      | .bad => .bad)
    | _ => .bad)
  | .ex c e1 => .ex c e1
  | .bad => .bad) := rfl
@[simp] theorem mRaise_ap (c : Nat) (e : Ev) : mRaise c e = (.ex c e) := rfl
@[simp] theorem mNever_ap  (v0 : Ev) : mNever  v0 = (.bad) := rfl
@[simp] theorem mDGet_ap (i : Nat) (mk : ME) (e : Ev) : mDGet i mk e = (match dctAt e i with
  | some _ => (match mk e with
    | .ok kd e1 => (match kyD kd with
      | some q => (match dctAt e1 i with
        | some (ks, xs) => (match dget ks xs q with
          | some d => .ok d e1
          | none => .bad)
        | none => .bad)
      | none => .bad)
    | .ex c e1 => .ex c e1
    | .bad => .bad)
  | none => .bad) := rfl
@[simp] theorem mDGet2_ap (i : Nat) (mk mx : ME) (e : Ev) : mDGet2 i mk mx e = (match dctAt e i with
  | some _ => (match mk e with
    | .ok kd e1 => (match mx e1 with
      | .ok dx e2 => (match kyD kd with
        | some q => (match dctAt e2 i with
          | some (ks, xs) => (match dget ks xs q with
            | some d => .ok d e2
            | none => .ok dx e2)
          | none => .bad)
        | none => .bad)
      | .ex c e2 => .ex c e2
      | .bad => .bad)
    | .ex c e1 => .ex c e1
    | .bad => .bad)
  | none => .bad) := rfl
@[simp] theorem mDPut_ap (i : Nat) (mk mv : ME) (e : Ev) : mDPut i mk mv e = (match mv e with
  | .ok d e1 => (match dctC e1 i with
    | some _ => (match mk e1 with
      | .ok kd e2 => (match kyD kd with
        | some q => (match dctC e2 i with
          | some (ks, xs) => (match Nat.blt ks.length line with
            | true => .nx (kput e2 i (dput ks xs q d))
            | false => .bad)
          | none => .bad)
        | none => .bad)
      | .ex c e2 => .ex c e2
      | .bad => .bad)
    | none => .bad)
  | .ex c e1 => .ex c e1
  | .bad => .bad) := rfl
@[simp] theorem mTryApp_ap (mb : MS) (ex : Nat → Option Bool) (i j : Nat) (e : Ev) : mTryApp mb ex i j e = (match mb e with
  | .ex c e1 => (match ex c with
    | some r => (match atC (e1.set i .no) j with
      | some (.lst xs) => (match Nat.blt i e1.length && Nat.blt xs.length line with
        | true => .nx ((kput (e1.set i .no) j (.lst (xs ++ [.bl r]))).set i .no)
        | false => .bad)
      | _ => .bad)
    | none => .bad)
  | r => r) := rfl
@[simp] theorem mListR1_ap (m : ME) (e : Ev) : mListR1 m e = (match m e with
  | .ok (.int n) e1 => (match decide (0 ≤ n) && decide (n ≤ 16777216) with
    | true => .ok (.lst (upsD 0 n)) e1
    | false => .bad)
  | .ok _ _ => .bad
  | .ex c e1 => .ex c e1
  | .bad => .bad) := rfl
@[simp] theorem mListR2_ap (m1 m2 : ME) (e : Ev) : mListR2 m1 m2 e = (match m1 e with
  | .ok (.int a) e1 => (match m2 e1 with
    | .ok (.int b) e2 => (match (decide (0 ≤ a) && decide (a ≤ 16777216)) && (decide (0 ≤ b) && decide (b ≤ 16777216)) with
      | true => .ok (.lst (upsD a b)) e2
      | false => .bad)
    | .ok _ _ => .bad
    | .ex c e2 => .ex c e2
    | .bad => .bad)
  | .ok _ _ => .bad
  | .ex c e1 => .ex c e1
  | .bad => .bad) := rfl
@[simp] theorem mNoRt_ap (m : MS) (e : Ev) : mNoRt m e = (match m e with
  | .nx e1 => .nx e1
  | _ => .bad) := rfl
@[simp] theorem mPrt_ap (m : ME) (env : Ev) : mPrt m env = (match m env with
  | .ok (.int i) e1 => .ok (.int i) e1
  | .ok _ _ => .bad
  | .ex c e1 => .ex c e1
  | .bad => .bad) := rfl
@[simp] theorem mUserN_ap (f : UF) (ma : MA) (e : Ev) : mUserN f ma e = (match ma e with
  | .ok ds e1 => (match f (ds.map Sl.va) with
    | .ok d _ => .ok d e1
    | _ => .bad)
  | .ex c e1 => .ex c e1
  | .bad => .bad) := rfl
end MP

set_option Elab.async false
set_option linter.all false
set_option maxRecDepth 100000
set_option maxHeartbeats 0
namespace GJ
open PySem PySem.Spec L2 MP
open PyProof.Rows hiding St
def top (i : Nat) : Stmt := PySem.Challenge.pw_growjoins_k01_forms_and_their_signs.main.body.getD i (.Pass ⟨0, 0, 0, 0⟩)
section
variable {P : Program} {w : World} {K : PySem.W.Frag} {mg : Str → Option Value} {base : Heap} {C : Nat → Value} {f : Addr} {fd : FuncData}
def fuel : Nat := 1000000
def ex_InvalidForm : Nat → Option Bool := fun c => match Nat.beq c 1 with
  | true => some true
  | false => none
def ex_InvalidNumber : Nat → Option Bool := fun c => match Nat.beq c 2 with
  | true => some true
  | false => none
abbrev N__law_source : List Str := ["_law_script", "_law_k", "_law_cell"]
def m__law_source : MS :=
  (mSeq (mNoRt (mSet 2 (mC (.int 0))))
  (mSeq (mIfS (mB fLt (mPk 1) (lPk 1) (mCall bLen (maCons (mPk 0) maNil) (laCons (lPk 0) laNil)) lId) (mNoRt (mSet 2 (mCall bAbs (maCons (mCall bInt (maCons (mB fIx (mPk 0) (lPk 0) (mPk 1) (lPk 1)) maNil) (laCons lId laNil)) maNil) (laCons lId laNil)))) mSkip)
  (mSeq (mIfS (mB fLt (mPk 2) (lPk 2) (mB fPow (mC (.int 10)) lId (mC (.int 18)) lId) lId) (mRet (mLst (maCons (mC (.int 0)) (maCons (mB fAdd (mC (.int 1)) lId (mB fMod (mCall bInt (maCons (mB fAdd (mB fMul (mPk 2) (lPk 2) (mC (.int 7919)) lId) lId (mB fMul (mC (.int 104729)) lId (mPk 1) (lPk 1)) lId) maNil) (laCons lId laNil)) lId (mC (.int 2147483646)) lId) lId) maNil)))) mSkip)
  (mRet (mLst (maCons (mVar 2) (maCons (mB fAdd (mC (.int 1)) lId (mB fMod (mCall bInt (maCons (mB fAdd (mPk 2) (lPk 2) (mPk 1) (lPk 1)) maNil) (laCons lId laNil)) lId (mC (.int 2147483646)) lId) lId) maNil)))))))
def run__law_source : UF := runN 2 3 m__law_source
theorem S__law_source : FnScope N__law_source ["_law_script", "_law_k"] (defScope (top 30)) := ⟨rfl, rfl, rfl, by decide +kernel, rfl, by decide +kernel, by decide +kernel⟩
theorem b__law_source (B : Bts mg) : ∀ (X : Cx) (W : WX), Cs P w K mg base N__law_source (defScope (top 30)) 0 X W → JBF X C W (defBody (top 30)) m__law_source := fun _ _ c =>
  (jbf_cons (JS.f (st_set c (Nb.by (by decide +kernel)) j_int rfl rfl))
  (jbf_cons (jsf_if (t_lt (p_ c.e (Nm.by (by decide +kernel))) (JE.o (x_len c.e B (j_acons (p_ c.e (Nm.by (by decide +kernel))) j_anil rfl) rfl rfl (Ng.by (by decide +kernel)))) c.e rfl) (jbf_one (JS.f (st_set c (Nb.by (by decide +kernel)) (x_abs c.e B (j_acons (JE.o (x_int c.e B (j_acons (JE.o (x_ix (p_ c.e (Nm.by (by decide +kernel))) (p_ c.e (Nm.by (by decide +kernel))) (fun _ _ => rfl))) j_anil rfl) rfl rfl (Ng.by (by decide +kernel)))) j_anil rfl) rfl rfl (Ng.by (by decide +kernel))) rfl rfl))) jbf_nil)
  (jbf_cons (jsf_if (t_lt (p_ c.e (Nm.by (by decide +kernel))) (JE.o (x_pow (JE.o j_int) (JE.o j_int))) c.e rfl) (jbf_one (jsf_ret (jf_lst (j_vcons j_int (j_vcons (x_add (JE.o j_int) (JE.o (x_mod (JE.o (x_int c.e B (j_acons (JE.o (x_add (JE.o (x_mul (p_ c.e (Nm.by (by decide +kernel))) (JE.o j_int))) (JE.o (x_mul (JE.o j_int) (p_ c.e (Nm.by (by decide +kernel))))))) j_anil rfl) rfl rfl (Ng.by (by decide +kernel)))) (JE.o j_int)))) j_vnil rfl) rfl)))) jbf_nil)
  (jbf_one (jsf_ret (jf_lst (j_vcons (v_ c.e (Nm.by (by decide +kernel))) (j_vcons (x_add (JE.o j_int) (JE.o (x_mod (JE.o (x_int c.e B (j_acons (JE.o (x_add (p_ c.e (Nm.by (by decide +kernel))) (p_ c.e (Nm.by (by decide +kernel))))) j_anil rfl) rfl rfl (Ng.by (by decide +kernel)))) (JE.o j_int)))) j_vnil rfl) rfl)))))))
theorem D__law_source (B : Bts mg) (F : FunD K "_law_source" "_law_source" (defArgs (top 30)) (defBody (top 30)) (defScope (top 30)) [] [] f fd) (hm : mg "_law_source" = some (.ref f)) : DfN P w K mg base "_law_source" 2 1 run__law_source := def_okN (C := fun _ => Value.none) F S__law_source hm F.kp (F.bindsN fun _ _ _ _ _ _ us hl => match us, hl with | [_, _], _ => rfl) (b__law_source B)
abbrev N_is_tuple : List Str := ["value", "least", "most"]
def m_is_tuple : MS :=
  (mRet (mAnd (mU isTup (mPk 0) (lPk 0)) (mChain fLe fLe (mPk 1) (lPk 1) (mCall bLen (maCons (mPk 0) maNil) (laCons (lPk 0) laNil)) lId (mPk 2) (lPk 2))))
def run_is_tuple : UF := runF 3 3 m_is_tuple
theorem S_is_tuple : FnScope N_is_tuple ["value", "least", "most"] (defScope (top 8)) := ⟨rfl, rfl, rfl, by decide +kernel, rfl, by decide +kernel, by decide +kernel⟩
theorem b_is_tuple (B : Bts mg) : ∀ (X : Cx) (W : WX), Cs P w K mg base N_is_tuple (defScope (top 8)) 0 X W → JB X C W (defBody (top 8)) m_is_tuple := fun _ _ c =>
  (jb_one (js_ret (jv_and (x_isTup c.e B (p_ c.e (Nm.by (by decide +kernel))) (Ng.by (by decide +kernel)) (Ng.by (by decide +kernel)) rfl) (jv_one (x_ch (p_ c.e (Nm.by (by decide +kernel))) (JE.o (x_len c.e B (j_acons (p_ c.e (Nm.by (by decide +kernel))) j_anil rfl) rfl rfl (Ng.by (by decide +kernel)))) (p_ c.e (Nm.by (by decide +kernel))) rfl)))))
theorem D_is_tuple (B : Bts mg) (F : FunD K "is_tuple" "is_tuple" (defArgs (top 8)) (defBody (top 8)) (defScope (top 8)) [] [] f fd) (hm : mg "is_tuple" = some (.ref f)) : Df P w K mg base C "is_tuple" 3 1 run_is_tuple := def_ok F S_is_tuple hm F.kp (F.bindsN fun _ _ _ _ _ _ us hl => match us, hl with | [_, _, _], _ => rfl) (b_is_tuple B)
abbrev N_is_number : List Str := ["value", "least", "most"]
def m_is_number : MS :=
  (mRet (mAnd (mU isInt (mPk 0) (lPk 0)) (mAnd (mNot (mU isBool (mPk 0) (lPk 0))) (mChain fLe fLe (mPk 1) (lPk 1) (mPk 0) (lPk 0) (mPk 2) (lPk 2)))))
def run_is_number : UF := runF 3 3 m_is_number
theorem S_is_number : FnScope N_is_number ["value", "least", "most"] (defScope (top 7)) := ⟨rfl, rfl, rfl, by decide +kernel, rfl, by decide +kernel, by decide +kernel⟩
theorem b_is_number (B : Bts mg) : ∀ (X : Cx) (W : WX), Cs P w K mg base N_is_number (defScope (top 7)) 0 X W → JB X C W (defBody (top 7)) m_is_number := fun _ _ c =>
  (jb_one (js_ret (jv_and (x_isInt c.e B (p_ c.e (Nm.by (by decide +kernel))) (Ng.by (by decide +kernel)) (Ng.by (by decide +kernel)) rfl) (jv_and (jv_not (x_isBool c.e B (p_ c.e (Nm.by (by decide +kernel))) (Ng.by (by decide +kernel)) (Ng.by (by decide +kernel)) rfl)) (jv_one (x_ch (p_ c.e (Nm.by (by decide +kernel))) (p_ c.e (Nm.by (by decide +kernel))) (p_ c.e (Nm.by (by decide +kernel))) rfl))))))
theorem D_is_number (B : Bts mg) (F : FunD K "is_number" "is_number" (defArgs (top 7)) (defBody (top 7)) (defScope (top 7)) [] [] f fd) (hm : mg "is_number" = some (.ref f)) : Df P w K mg base C "is_number" 3 1 run_is_number := def_ok F S_is_number hm F.kp (F.bindsN fun _ _ _ _ _ _ us hl => match us, hl with | [_, _, _], _ => rfl) (b_is_number B)
abbrev N_divisor : List Str := ["one", "other"]
def m_divisor : MS :=
  (mSeq (mWhile fuel (mB fNe (mPk 1) (lPk 1) (mC (.int 0)) lId) (mPar 0 1 (maCons (mVar 1) (maCons (mB fMod (mPk 0) (lPk 0) (mPk 1) (lPk 1)) maNil))))
  (mRet (mCall bAbs (maCons (mPk 0) maNil) (laCons (lPk 0) laNil))))
def run_divisor : UF := runF 2 2 m_divisor
theorem S_divisor : FnScope N_divisor ["one", "other"] (defScope (top 9)) := ⟨rfl, rfl, rfl, by decide +kernel, rfl, by decide +kernel, by decide +kernel⟩
theorem b_divisor (B : Bts mg) : ∀ (X : Cx) (W : WX), Cs P w K mg base N_divisor (defScope (top 9)) 0 X W → JB X C W (defBody (top 9)) m_divisor := fun _ _ c =>
  (jb_cons (st_while c (t_ne (p_ c.e (Nm.by (by decide +kernel))) (JE.o j_int) c.e rfl) (jb_one (st_par c (Nl.by (by decide +kernel)) (Nl.by (by decide +kernel)) (by decide) (j_vcons (v_ c.e (Nm.by (by decide +kernel))) (j_vcons (x_mod (p_ c.e (Nm.by (by decide +kernel))) (p_ c.e (Nm.by (by decide +kernel)))) j_vnil rfl) rfl) (fun _ => rfl) rfl)))
  (jb_one (js_ret (x_abs c.e B (j_acons (p_ c.e (Nm.by (by decide +kernel))) j_anil rfl) rfl rfl (Ng.by (by decide +kernel))))))
theorem D_divisor (B : Bts mg) (F : FunD K "divisor" "divisor" (defArgs (top 9)) (defBody (top 9)) (defScope (top 9)) [] [] f fd) (hm : mg "divisor" = some (.ref f)) : Df P w K mg base C "divisor" 2 1 run_divisor := def_ok F S_divisor hm F.kp (F.bindsN fun _ _ _ _ _ _ us hl => match us, hl with | [_, _], _ => rfl) (b_divisor B)
abbrev N_is_part : List Str := ["value"]
def m_is_part : MS :=
  (mSeq (mIfS (mOr (mNot (mUser run_is_tuple (maCons (mVar 0) (maCons (mC (.int 3)) (maCons (mC (.int 3)) maNil))))) (mOr (mNot (mUser run_is_number (maCons (mB fIx (mPk 0) (lPk 0) (mC (.int 0)) lId) (maCons (mU fNeg (mC (.int 20)) lId) (maCons (mC (.int 20)) maNil))))) (mNot (mUser run_is_number (maCons (mB fIx (mPk 0) (lPk 0) (mC (.int 1)) lId) (maCons (mU fNeg (mC (.int 100000000000000000000)) lId) (maCons (mC (.int 100000000000000000000)) maNil))))))) (mRet (mC (.bl false))) mSkip)
  (mRet (mAnd (mB fNe (mB fIx (mPk 0) (lPk 0) (mC (.int 1)) lId) lId (mC (.int 0)) lId) (mAnd (mUser run_is_number (maCons (mB fIx (mPk 0) (lPk 0) (mC (.int 2)) lId) (maCons (mC (.int 1)) (maCons (mC (.int 100000000000000000000)) maNil)))) (mB fEq (mUser run_divisor (maCons (mB fIx (mPk 0) (lPk 0) (mC (.int 1)) lId) (maCons (mB fIx (mPk 0) (lPk 0) (mC (.int 2)) lId) maNil))) lId (mC (.int 1)) lId)))))
def run_is_part : UF := runF 1 1 m_is_part
theorem S_is_part : FnScope N_is_part ["value"] (defScope (top 11)) := ⟨rfl, rfl, rfl, by decide +kernel, rfl, by decide +kernel, by decide +kernel⟩
theorem b_is_part (B : Bts mg) (h_LARGE : ∃ t, mg "LARGE" = some (.int 100000000000000000000 t)) (d_is_number : Df P w K mg base C "is_number" 3 1 run_is_number) (d_is_tuple : Df P w K mg base C "is_tuple" 3 1 run_is_tuple) (d_divisor : Df P w K mg base C "divisor" 2 1 run_divisor) : ∀ (X : Cx) (W : WX), Cs P w K mg base N_is_part (defScope (top 11)) 1 X W → JB X C W (defBody (top 11)) m_is_part := fun _ _ c =>
  (jb_cons (js_if (JW.t (jw_or (jt_not (jt_val (x_call c.e d_is_tuple (by decide) (Ng.by (by decide +kernel)) (j_vcons (v_ c.e (Nm.by (by decide +kernel))) (j_vcons j_int (j_vcons j_int j_vnil rfl) rfl) rfl) (lenS (lenS (lenS len0))) rfl rfl) (fun _ => rfl))) (jw_or (jt_not (jt_val (x_call c.e d_is_number (by decide) (Ng.by (by decide +kernel)) (j_vcons (x_ix (p_ c.e (Nm.by (by decide +kernel))) (JE.o j_int) (fun _ _ => rfl)) (j_vcons (x_neg (JE.o j_int)) (j_vcons j_int j_vnil rfl) rfl) rfl) (lenS (lenS (lenS len0))) rfl rfl) (fun _ => rfl))) (jw_or1 (jt_not (jt_val (x_call c.e d_is_number (by decide) (Ng.by (by decide +kernel)) (j_vcons (x_ix (p_ c.e (Nm.by (by decide +kernel))) (JE.o j_int) (fun _ _ => rfl)) (j_vcons (x_neg (JE.o (g_int c.e (Ng.by (by decide +kernel)) h_LARGE))) (j_vcons (g_int c.e (Ng.by (by decide +kernel)) h_LARGE) j_vnil rfl) rfl) rfl) (lenS (lenS (lenS len0))) rfl rfl) (fun _ => rfl))))))) (jb_one (js_ret j_bl)) jb_nil)
  (jb_one (js_ret (jv_and (x_ne (JE.o (x_ix (p_ c.e (Nm.by (by decide +kernel))) (JE.o j_int) (fun _ _ => rfl))) (JE.o j_int) c.e rfl) (jv_and (x_call c.e d_is_number (by decide) (Ng.by (by decide +kernel)) (j_vcons (x_ix (p_ c.e (Nm.by (by decide +kernel))) (JE.o j_int) (fun _ _ => rfl)) (j_vcons j_int (j_vcons (g_int c.e (Ng.by (by decide +kernel)) h_LARGE) j_vnil rfl) rfl) rfl) (lenS (lenS (lenS len0))) rfl rfl) (jv_one (x_eq (JE.o (x_call c.e d_divisor (by decide) (Ng.by (by decide +kernel)) (j_vcons (x_ix (p_ c.e (Nm.by (by decide +kernel))) (JE.o j_int) (fun _ _ => rfl)) (j_vcons (x_ix (p_ c.e (Nm.by (by decide +kernel))) (JE.o j_int) (fun _ _ => rfl)) j_vnil rfl) rfl) (lenS (lenS len0)) rfl rfl)) (JE.o j_int) c.e rfl)))))))
theorem D_is_part (B : Bts mg) (h_LARGE : ∃ t, mg "LARGE" = some (.int 100000000000000000000 t)) (d_is_number : Df P w K mg base C "is_number" 3 1 run_is_number) (d_is_tuple : Df P w K mg base C "is_tuple" 3 1 run_is_tuple) (d_divisor : Df P w K mg base C "divisor" 2 1 run_divisor) (F : FunD K "is_part" "is_part" (defArgs (top 11)) (defBody (top 11)) (defScope (top 11)) [] [] f fd) (hm : mg "is_part" = some (.ref f)) : Df P w K mg base C "is_part" 1 2 run_is_part := def_ok F S_is_part hm F.kp (F.bindsN fun _ _ _ _ _ _ us hl => match us, hl with | [_], _ => rfl) (b_is_part B h_LARGE d_is_number d_is_tuple d_divisor)
abbrev N_is_good_form : List Str := ["value", "part", "left", "right"]
def m_is_good_form : MS :=
  (mSeq (mIfS (mOr (mNot (mUser run_is_tuple (maCons (mVar 0) (maCons (mC (.int 0)) (maCons (mC (.int 12)) maNil))))) (mNot (mCall bAll (maCons (mAsV (mLc (mIt (mVar 0)) [1] (mgName 1) mYes (mUser run_is_part (maCons (mVar 1) maNil)))) maNil) (laCons lId laNil)))) (mRet (mC (.bl false))) mSkip)
  (mRet (mCall bAll (maCons (mAsV (mLc (mZip (maCons (mVar 0) (maCons (mSl (mPk 0) (lPk 0) (mPrt (mC (.int 1))) (mC .non)) maNil))) [2, 3] (mgTup 2 (mgsCons (mgName 2) (mgsCons (mgName 3) mgsNil))) mYes (mB fLt (mB fIx (mPk 2) (lPk 2) (mC (.int 0)) lId) lId (mB fIx (mPk 3) (lPk 3) (mC (.int 0)) lId) lId))) maNil) (laCons lId laNil))))
def run_is_good_form : UF := runF 1 4 m_is_good_form
theorem S_is_good_form : FnScope N_is_good_form ["value"] (defScope (top 12)) := ⟨rfl, rfl, rfl, by decide +kernel, rfl, by decide +kernel, by decide +kernel⟩
theorem b_is_good_form (B : Bts mg) (d_is_tuple : Df P w K mg base C "is_tuple" 3 1 run_is_tuple) (d_is_part : Df P w K mg base C "is_part" 1 2 run_is_part) : ∀ (X : Cx) (W : WX), Cs P w K mg base N_is_good_form (defScope (top 12)) 2 X W → JB X C W (defBody (top 12)) m_is_good_form := fun _ _ c =>
  (jb_cons (js_if (JW.t (jw_or (jt_not (jt_val (x_call c.e d_is_tuple (by decide) (Ng.by (by decide +kernel)) (j_vcons (v_ c.e (Nm.by (by decide +kernel))) (j_vcons j_int (j_vcons j_int j_vnil rfl) rfl) rfl) (lenS (lenS (lenS len0))) rfl rfl) (fun _ => rfl))) (jw_or1 (jt_not (jt_val (x_all c.e B (j_acons (JE.o (JF.e (x_lc [("part", 1)] c.e (j_it (v_ c.e (Nm.by (by decide +kernel)))) (blk_by (by decide +kernel)) (fun _ c' => (tg_ c' (Nl.by (by decide +kernel)))) (fun _ c' => jts_nil) (fun _ c' => (x_call c' d_is_part (by decide) (Ng.by (by decide +kernel)) (j_vcons (v_ c' (Nm.by (by decide +kernel))) j_vnil rfl) (lenS len0) rfl rfl)) (by decide) (fun _ => rfl)))) j_anil rfl) rfl rfl (Ng.by (by decide +kernel))) (fun _ => rfl)))))) (jb_one (js_ret j_bl)) jb_nil)
  (jb_one (js_ret (x_all c.e B (j_acons (JE.o (JF.e (x_lc [("left", 2), ("right", 3)] c.e (x_zip c.e B (Ng.by (by decide +kernel)) (j_vcons (v_ c.e (Nm.by (by decide +kernel))) (j_vcons (j_sl (p_ c.e (Nm.by (by decide +kernel))) (jp_of j_int) jp_none) j_vnil rfl) rfl) rfl rfl) (blk_by (by decide +kernel)) (fun _ c' => (jg_tup c'.c.calm (jgs_cons (tg_ c' (Nl.by (by decide +kernel))) (jgs_cons (tg_ c' (Nl.by (by decide +kernel))) jgs_nil rfl) rfl) rfl rfl)) (fun _ c' => jts_nil) (fun _ c' => (x_lt (JE.o (x_ix (p_ c' (Nm.by (by decide +kernel))) (JE.o j_int) (fun _ _ => rfl))) (JE.o (x_ix (p_ c' (Nm.by (by decide +kernel))) (JE.o j_int) (fun _ _ => rfl))) c' rfl)) (by decide) (fun _ => rfl)))) j_anil rfl) rfl rfl (Ng.by (by decide +kernel))))))
theorem D_is_good_form (B : Bts mg) (d_is_tuple : Df P w K mg base C "is_tuple" 3 1 run_is_tuple) (d_is_part : Df P w K mg base C "is_part" 1 2 run_is_part) (F : FunD K "is_good_form" "is_good_form" (defArgs (top 12)) (defBody (top 12)) (defScope (top 12)) [] [] f fd) (hm : mg "is_good_form" = some (.ref f)) : Df P w K mg base C "is_good_form" 1 3 run_is_good_form := def_ok F S_is_good_form hm F.kp (F.bindsN fun _ _ _ _ _ _ us hl => match us, hl with | [_], _ => rfl) (b_is_good_form B d_is_tuple d_is_part)
abbrev N_is_form : List Str := ["value"]
def m_is_form : MS :=
  (mRet (mUser run_is_good_form (maCons (mVar 0) maNil)))
def run_is_form : UF := runF 1 1 m_is_form
theorem S_is_form : FnScope N_is_form ["value"] (defScope (top 26)) := ⟨rfl, rfl, rfl, by decide +kernel, rfl, by decide +kernel, by decide +kernel⟩
theorem b_is_form (B : Bts mg) (d_is_good_form : Df P w K mg base C "is_good_form" 1 3 run_is_good_form) : ∀ (X : Cx) (W : WX), Cs P w K mg base N_is_form (defScope (top 26)) 3 X W → JB X C W (defBody (top 26)) m_is_form := fun _ _ c =>
  (jb_one (js_ret (x_call c.e d_is_good_form (by decide) (Ng.by (by decide +kernel)) (j_vcons (v_ c.e (Nm.by (by decide +kernel))) j_vnil rfl) (lenS len0) rfl rfl)))
theorem D_is_form (B : Bts mg) (d_is_good_form : Df P w K mg base C "is_good_form" 1 3 run_is_good_form) (F : FunD K "is_form" "is_form" (defArgs (top 26)) (defBody (top 26)) (defScope (top 26)) [] [] f fd) (hm : mg "is_form" = some (.ref f)) : Df P w K mg base C "is_form" 1 4 run_is_form := def_ok F S_is_form hm F.kp (F.bindsN fun _ _ _ _ _ _ us hl => match us, hl with | [_], _ => rfl) (b_is_form B d_is_good_form)
abbrev N_need_form : List Str := ["value"]
def m_need_form : MS :=
  (mIfS (mNot (mUser run_is_good_form (maCons (mVar 0) maNil))) (mRaise 1) mSkip)
def run_need_form : UF := runF 1 1 m_need_form
theorem S_need_form : FnScope N_need_form ["value"] (defScope (top 13)) := ⟨rfl, rfl, rfl, by decide +kernel, rfl, by decide +kernel, by decide +kernel⟩
theorem b_need_form (B : Bts mg) (e_InvalidForm : Er K mg C "InvalidForm" 1) (d_is_good_form : Df P w K mg base C "is_good_form" 1 3 run_is_good_form) : ∀ (X : Cx) (W : WX), Cs P w K mg base N_need_form (defScope (top 13)) 3 X W → JB X C W (defBody (top 13)) m_need_form := fun _ _ c =>
  (jb_one (js_if (jt_not (jt_val (x_call c.e d_is_good_form (by decide) (Ng.by (by decide +kernel)) (j_vcons (v_ c.e (Nm.by (by decide +kernel))) j_vnil rfl) (lenS len0) rfl rfl) (fun _ => rfl))) (jb_one (st_raise c e_InvalidForm (Ng.by (by decide +kernel)))) jb_nil))
theorem D_need_form (B : Bts mg) (e_InvalidForm : Er K mg C "InvalidForm" 1) (d_is_good_form : Df P w K mg base C "is_good_form" 1 3 run_is_good_form) (F : FunD K "need_form" "need_form" (defArgs (top 13)) (defBody (top 13)) (defScope (top 13)) [] [] f fd) (hm : mg "need_form" = some (.ref f)) : Df P w K mg base C "need_form" 1 4 run_need_form := def_ok F S_need_form hm F.kp (F.bindsN fun _ _ _ _ _ _ us hl => match us, hl with | [_], _ => rfl) (b_need_form B e_InvalidForm d_is_good_form)
abbrev N_joined : List Str := ["rows", "found", "least", "most", "item"]
def m_joined : MS :=
  (mSeq (mOwn 1 (mLst maNil))
  (mSeq (mFor (mIt (mVar 0)) (mgTup 3 (mgsCons (mgName 2) (mgsCons (mgName 3) (mgsCons (mgName 4) mgsNil)))) (mIfS (mAnd (mB fNe (mPk 1) (lPk 1) (mLst maNil) lId) (mB fEq (mB fIx (mB fIx (mPk 1) (lPk 1) (mU fNeg (mC (.int 1)) lId) lId) lId (mC (.int 2)) lId) lId (mPk 4) (lPk 4))) (mSub 1 (mU fNeg (mC (.int 1)) lId) (mTup (maCons (mB fIx (mB fIx (mPk 1) (lPk 1) (mU fNeg (mC (.int 1)) lId) lId) lId (mC (.int 0)) lId) (maCons (mVar 3) (maCons (mVar 4) maNil))))) (mApp 1 (mTup (maCons (mVar 2) (maCons (mVar 3) (maCons (mVar 4) maNil)))))))
  (mRet (mVar 1))))
def run_joined : UF := runF 1 5 m_joined
theorem S_joined : FnScope N_joined ["rows"] (defScope (top 23)) := ⟨rfl, rfl, rfl, by decide +kernel, rfl, by decide +kernel, by decide +kernel⟩
theorem b_joined (B : Bts mg) : ∀ (X : Cx) (W : WX), Cs P w K mg base N_joined (defScope (top 23)) 0 X W → JB X C W (defBody (top 23)) m_joined := fun _ _ c =>
  (jb_cons (st_own c (Nb.by (by decide +kernel)) (jf_lst j_vnil) rfl rfl)
  (jb_cons (st_for c (j_it (v_ c.e (Nm.by (by decide +kernel)))) (jg_tup c.e.c.calm (jgs_cons (tgC c (Nb.by (by decide +kernel))) (jgs_cons (tgC c (Nb.by (by decide +kernel))) (jgs_cons (tgC c (Nb.by (by decide +kernel))) jgs_nil rfl) rfl) rfl) rfl rfl) (jb_one (js_if (JW.t (jw_and (t_ne (p_ c.e (Nm.by (by decide +kernel))) (JE.o (j_lst j_vnil)) c.e rfl) (jw_and1 (t_eq (JE.o (x_ix (JE.o (x_ix (p_ c.e (Nm.by (by decide +kernel))) (JE.o (x_neg (JE.o j_int))) (fun _ _ => rfl))) (JE.o j_int) (fun _ _ => rfl))) (p_ c.e (Nm.by (by decide +kernel))) c.e rfl)))) (jb_one (st_sub c (Nm.by (by decide +kernel)) (x_neg (JE.o j_int)) (j_tup (j_vcons (x_ix (JE.o (x_ix (p_ c.e (Nm.by (by decide +kernel))) (JE.o (x_neg (JE.o j_int))) (fun _ _ => rfl))) (JE.o j_int) (fun _ _ => rfl)) (j_vcons (v_ c.e (Nm.by (by decide +kernel))) (j_vcons (v_ c.e (Nm.by (by decide +kernel))) j_vnil rfl) rfl) rfl)) (fun _ => rfl) rfl)) (jb_one (st_app c (Nm.by (by decide +kernel)) (j_tup (j_vcons (v_ c.e (Nm.by (by decide +kernel))) (j_vcons (v_ c.e (Nm.by (by decide +kernel))) (j_vcons (v_ c.e (Nm.by (by decide +kernel))) j_vnil rfl) rfl) rfl)) rfl rfl rfl)))) (fun _ => rfl))
  (jb_one (js_ret (v_ c.e (Nm.by (by decide +kernel)))))))
theorem D_joined (B : Bts mg) (F : FunD K "joined" "joined" (defArgs (top 23)) (defBody (top 23)) (defScope (top 23)) [] [] f fd) (hm : mg "joined" = some (.ref f)) : Df P w K mg base C "joined" 1 1 run_joined := def_ok F S_joined hm F.kp (F.bindsN fun _ _ _ _ _ _ us hl => match us, hl with | [_], _ => rfl) (b_joined B)
abbrev N_sign : List Str := ["number"]
def m_sign : MS :=
  (mRet (mB fSub (mB fGt (mPk 0) (lPk 0) (mC (.int 0)) lId) lId (mB fLt (mPk 0) (lPk 0) (mC (.int 0)) lId) lId))
def run_sign : UF := runF 1 1 m_sign
theorem S_sign : FnScope N_sign ["number"] (defScope (top 20)) := ⟨rfl, rfl, rfl, by decide +kernel, rfl, by decide +kernel, by decide +kernel⟩
theorem b_sign (B : Bts mg) : ∀ (X : Cx) (W : WX), Cs P w K mg base N_sign (defScope (top 20)) 0 X W → JB X C W (defBody (top 20)) m_sign := fun _ _ c =>
  (jb_one (js_ret (x_sub (JE.o (x_gt (p_ c.e (Nm.by (by decide +kernel))) (JE.o j_int) rfl)) (JE.o (x_lt (p_ c.e (Nm.by (by decide +kernel))) (JE.o j_int) c.e rfl)))))
theorem D_sign (B : Bts mg) (F : FunD K "sign" "sign" (defArgs (top 20)) (defBody (top 20)) (defScope (top 20)) [] [] f fd) (hm : mg "sign" = some (.ref f)) : Df P w K mg base C "sign" 1 1 run_sign := def_ok F S_sign hm F.kp (F.bindsN fun _ _ _ _ _ _ us hl => match us, hl with | [_], _ => rfl) (b_sign B)
abbrev N_step_of : List Str := ["numbers", "found", "row", "power", "spot", "left", "right"]
def m_step_of : MS :=
  (mSeq (mOwn 1 (mRep (mLst (maCons (mC (.int 0)) maNil)) (mB fSub (mCall bLen (maCons (mPk 0) maNil) (laCons (lPk 0) laNil)) lId (mC (.int 1)) lId)))
  (mSeq (mSet 2 (mLst (maCons (mC (.int 1)) maNil)))
  (mSeq (mFor (mRange2 (maCons (mC (.int 1)) (maCons (mCall bLen (maCons (mPk 0) maNil) (laCons (lPk 0) laNil)) maNil))) (mgName 3) (mSeq (mSet 2 (mB fAdd (mB fAdd (mLst (maCons (mC (.int 1)) maNil)) lId (mAsV (mLc (mZip (maCons (mVar 2) (maCons (mSl (mPk 2) (lPk 2) (mPrt (mC (.int 1))) (mC .non)) maNil))) [5, 6] (mgTup 2 (mgsCons (mgName 5) (mgsCons (mgName 6) mgsNil))) mYes (mB fAdd (mPk 5) (lPk 5) (mPk 6) (lPk 6)))) lId) lId (mLst (maCons (mC (.int 1)) maNil)) lId))
  (mFor (mRange1 (maCons (mVar 3) maNil)) (mgName 4) (mSub 1 (mVar 4) (mB fAdd (mB fIx (mPk 1) (lPk 1) (mPk 4) (lPk 4)) lId (mB fMul (mB fIx (mPk 0) (lPk 0) (mPk 3) (lPk 3)) lId (mB fIx (mPk 2) (lPk 2) (mPk 4) (lPk 4)) lId) lId)))))
  (mRet (mVar 1)))))
def run_step_of : UF := runF 1 7 m_step_of
theorem S_step_of : FnScope N_step_of ["numbers"] (defScope (top 19)) := ⟨rfl, rfl, rfl, by decide +kernel, rfl, by decide +kernel, by decide +kernel⟩
theorem b_step_of (B : Bts mg) : ∀ (X : Cx) (W : WX), Cs P w K mg base N_step_of (defScope (top 19)) 0 X W → JB X C W (defBody (top 19)) m_step_of := fun _ _ c =>
  (jb_cons (st_own c (Nb.by (by decide +kernel)) (jf_rep (j_lst (j_vcons j_int j_vnil rfl)) (x_sub (JE.o (x_len c.e B (j_acons (p_ c.e (Nm.by (by decide +kernel))) j_anil rfl) rfl rfl (Ng.by (by decide +kernel)))) (JE.o j_int))) rfl rfl)
  (jb_cons (st_set c (Nb.by (by decide +kernel)) (j_lst (j_vcons j_int j_vnil rfl)) rfl rfl)
  (jb_cons (st_for c (x_range2 c.e B (Ng.by (by decide +kernel)) (j_vcons j_int (j_vcons (x_len c.e B (j_acons (p_ c.e (Nm.by (by decide +kernel))) j_anil rfl) rfl rfl (Ng.by (by decide +kernel))) j_vnil rfl) rfl) rfl rfl) (tgC c (Nb.by (by decide +kernel))) (jb_cons (st_set c (Nb.by (by decide +kernel)) (x_add (JE.o (x_add (JE.o (j_lst (j_vcons j_int j_vnil rfl))) (JE.o (JF.e (x_lc [("left", 5), ("right", 6)] c.e (x_zip c.e B (Ng.by (by decide +kernel)) (j_vcons (v_ c.e (Nm.by (by decide +kernel))) (j_vcons (j_sl (p_ c.e (Nm.by (by decide +kernel))) (jp_of j_int) jp_none) j_vnil rfl) rfl) rfl rfl) (blk_by (by decide +kernel)) (fun _ c' => (jg_tup c'.c.calm (jgs_cons (tg_ c' (Nl.by (by decide +kernel))) (jgs_cons (tg_ c' (Nl.by (by decide +kernel))) jgs_nil rfl) rfl) rfl rfl)) (fun _ c' => jts_nil) (fun _ c' => (x_add (p_ c' (Nm.by (by decide +kernel))) (p_ c' (Nm.by (by decide +kernel))))) (by decide) (fun _ => rfl)))))) (JE.o (j_lst (j_vcons j_int j_vnil rfl)))) rfl rfl)
  (jb_one (st_for c (x_range1 c.e B (Ng.by (by decide +kernel)) (j_vcons (v_ c.e (Nm.by (by decide +kernel))) j_vnil rfl) rfl) (tgC c (Nb.by (by decide +kernel))) (jb_one (st_sub c (Nm.by (by decide +kernel)) (v_ c.e (Nm.by (by decide +kernel))) (x_add (JE.o (x_ix (p_ c.e (Nm.by (by decide +kernel))) (p_ c.e (Nm.by (by decide +kernel))) (fun _ _ => rfl))) (JE.o (x_mul (JE.o (x_ix (p_ c.e (Nm.by (by decide +kernel))) (p_ c.e (Nm.by (by decide +kernel))) (fun _ _ => rfl))) (JE.o (x_ix (p_ c.e (Nm.by (by decide +kernel))) (p_ c.e (Nm.by (by decide +kernel))) (fun _ _ => rfl)))))) (fun _ => rfl) rfl)) (fun _ => rfl)))) (fun _ => rfl))
  (jb_one (js_ret (v_ c.e (Nm.by (by decide +kernel))))))))
theorem D_step_of (B : Bts mg) (F : FunD K "step_of" "step_of" (defArgs (top 19)) (defBody (top 19)) (defScope (top 19)) [] [] f fd) (hm : mg "step_of" = some (.ref f)) : Df P w K mg base C "step_of" 1 1 run_step_of := def_ok F S_step_of hm F.kp (F.bindsN fun _ _ _ _ _ _ us hl => match us, hl with | [_], _ => rfl) (b_step_of B)
abbrev N_value_at : List Str := ["numbers", "n", "found", "number"]
def m_value_at : MS :=
  (mSeq (mSet 2 (mC (.int 0)))
  (mSeq (mFor (mIt (mU fRev (mPk 0) (lPk 0))) (mgName 3) (mSet 2 (mB fAdd (mB fMul (mPk 2) (lPk 2) (mPk 1) (lPk 1)) lId (mPk 3) (lPk 3))))
  (mRet (mVar 2))))
def run_value_at : UF := runF 2 4 m_value_at
theorem S_value_at : FnScope N_value_at ["numbers", "n"] (defScope (top 18)) := ⟨rfl, rfl, rfl, by decide +kernel, rfl, by decide +kernel, by decide +kernel⟩
theorem b_value_at (B : Bts mg) : ∀ (X : Cx) (W : WX), Cs P w K mg base N_value_at (defScope (top 18)) 0 X W → JB X C W (defBody (top 18)) m_value_at := fun _ _ c =>
  (jb_cons (st_set c (Nb.by (by decide +kernel)) j_int rfl rfl)
  (jb_cons (st_for c (j_it (j_revL (p_ c.e (Nm.by (by decide +kernel))))) (tgC c (Nb.by (by decide +kernel))) (jb_one (st_set c (Nb.by (by decide +kernel)) (x_add (JE.o (x_mul (p_ c.e (Nm.by (by decide +kernel))) (p_ c.e (Nm.by (by decide +kernel))))) (p_ c.e (Nm.by (by decide +kernel)))) rfl rfl)) (fun _ => rfl))
  (jb_one (js_ret (v_ c.e (Nm.by (by decide +kernel)))))))
theorem D_value_at (B : Bts mg) (F : FunD K "value_at" "value_at" (defArgs (top 18)) (defBody (top 18)) (defScope (top 18)) [] [] f fd) (hm : mg "value_at" = some (.ref f)) : Df P w K mg base C "value_at" 2 1 run_value_at := def_ok F S_value_at hm F.kp (F.bindsN fun _ _ _ _ _ _ us hl => match us, hl with | [_, _], _ => rfl) (b_value_at B)
abbrev N_first_from : List Str := ["numbers", "least", "most", "way", "bound", "low", "size", "high", "middle"]
def m_first_from : MS :=
  (mSeq (mPar 5 6 (maCons (mB fSub (mPk 1) (lPk 1) (mC (.int 1)) lId) (maCons (mC (.int 1)) maNil)))
  (mSeq (mWhile fuel (mAnd (mB fIsN (mPk 2) (lPk 2) (mC .non) lId) (mB fLt (mB fMul (mPk 3) (lPk 3) (mUser run_value_at (maCons (mVar 0) (maCons (mB fAdd (mPk 5) (lPk 5) (mPk 6) (lPk 6)) maNil))) lId) lId (mPk 4) (lPk 4))) (mPar 5 6 (maCons (mB fAdd (mPk 5) (lPk 5) (mPk 6) (lPk 6)) (maCons (mB fMul (mPk 6) (lPk 6) (mC (.int 2)) lId) maNil))))
  (mSeq (mSet 7 (mIf (mB fIsN (mPk 2) (lPk 2) (mC .non) lId) (mB fAdd (mPk 5) (lPk 5) (mPk 6) (lPk 6)) (mB fAdd (mPk 2) (lPk 2) (mC (.int 1)) lId)))
  (mSeq (mWhile fuel (mB fGt (mB fSub (mPk 7) (lPk 7) (mPk 5) (lPk 5)) lId (mC (.int 1)) lId) (mSeq (mSet 8 (mB fDiv (mB fAdd (mPk 5) (lPk 5) (mPk 7) (lPk 7)) lId (mC (.int 2)) lId))
  (mIfS (mB fLt (mB fMul (mPk 3) (lPk 3) (mUser run_value_at (maCons (mVar 0) (maCons (mVar 8) maNil))) lId) lId (mPk 4) (lPk 4)) (mSet 5 (mVar 8)) (mSet 7 (mVar 8)))))
  (mRet (mVar 7))))))
def run_first_from : UF := runF 5 9 m_first_from
theorem S_first_from : FnScope N_first_from ["numbers", "least", "most", "way", "bound"] (defScope (top 21)) := ⟨rfl, rfl, rfl, by decide +kernel, rfl, by decide +kernel, by decide +kernel⟩
theorem b_first_from (B : Bts mg) (d_value_at : Df P w K mg base C "value_at" 2 1 run_value_at) : ∀ (X : Cx) (W : WX), Cs P w K mg base N_first_from (defScope (top 21)) 1 X W → JB X C W (defBody (top 21)) m_first_from := fun _ _ c =>
  (jb_cons (st_par c (Nl.by (by decide +kernel)) (Nl.by (by decide +kernel)) (by decide) (j_vcons (x_sub (p_ c.e (Nm.by (by decide +kernel))) (JE.o j_int)) (j_vcons j_int j_vnil rfl) rfl) (fun _ => rfl) rfl)
  (jb_cons (st_while c (JW.t (jw_and (t_is (p_ c.e (Nm.by (by decide +kernel))) (JE.o j_non) rfl) (jw_and1 (t_lt (JE.o (x_mul (p_ c.e (Nm.by (by decide +kernel))) (JE.o (x_call c.e d_value_at (by decide) (Ng.by (by decide +kernel)) (j_vcons (v_ c.e (Nm.by (by decide +kernel))) (j_vcons (x_add (p_ c.e (Nm.by (by decide +kernel))) (p_ c.e (Nm.by (by decide +kernel)))) j_vnil rfl) rfl) (lenS (lenS len0)) rfl rfl)))) (p_ c.e (Nm.by (by decide +kernel))) c.e rfl)))) (jb_one (st_par c (Nl.by (by decide +kernel)) (Nl.by (by decide +kernel)) (by decide) (j_vcons (x_add (p_ c.e (Nm.by (by decide +kernel))) (p_ c.e (Nm.by (by decide +kernel)))) (j_vcons (x_mul (p_ c.e (Nm.by (by decide +kernel))) (JE.o j_int)) j_vnil rfl) rfl) (fun _ => rfl) rfl)))
  (jb_cons (st_set c (Nb.by (by decide +kernel)) (j_if (t_is (p_ c.e (Nm.by (by decide +kernel))) (JE.o j_non) rfl) (x_add (p_ c.e (Nm.by (by decide +kernel))) (p_ c.e (Nm.by (by decide +kernel)))) (x_add (p_ c.e (Nm.by (by decide +kernel))) (JE.o j_int))) rfl rfl)
  (jb_cons (st_while c (t_gt (JE.o (x_sub (p_ c.e (Nm.by (by decide +kernel))) (p_ c.e (Nm.by (by decide +kernel))))) (JE.o j_int) rfl) (jb_cons (st_set c (Nb.by (by decide +kernel)) (x_div (JE.o (x_add (p_ c.e (Nm.by (by decide +kernel))) (p_ c.e (Nm.by (by decide +kernel))))) (JE.o j_int)) rfl rfl)
  (jb_one (js_if (t_lt (JE.o (x_mul (p_ c.e (Nm.by (by decide +kernel))) (JE.o (x_call c.e d_value_at (by decide) (Ng.by (by decide +kernel)) (j_vcons (v_ c.e (Nm.by (by decide +kernel))) (j_vcons (v_ c.e (Nm.by (by decide +kernel))) j_vnil rfl) rfl) (lenS (lenS len0)) rfl rfl)))) (p_ c.e (Nm.by (by decide +kernel))) c.e rfl) (jb_one (st_set c (Nb.by (by decide +kernel)) (v_ c.e (Nm.by (by decide +kernel))) rfl rfl)) (jb_one (st_set c (Nb.by (by decide +kernel)) (v_ c.e (Nm.by (by decide +kernel))) rfl rfl))))))
  (jb_one (js_ret (v_ c.e (Nm.by (by decide +kernel)))))))))
theorem D_first_from (B : Bts mg) (d_value_at : Df P w K mg base C "value_at" 2 1 run_value_at) (F : FunD K "first_from" "first_from" (defArgs (top 21)) (defBody (top 21)) (defScope (top 21)) [] [] f fd) (hm : mg "first_from" = some (.ref f)) : Df P w K mg base C "first_from" 5 2 run_first_from := def_ok F S_first_from hm F.kp (F.bindsN fun _ _ _ _ _ _ us hl => match us, hl with | [_, _, _, _, _], _ => rfl) (b_first_from B d_value_at)
abbrev N_cut_stretch : List Str := ["numbers", "least", "most", "way", "zero", "above", "rows", "row"]
def m_cut_stretch : MS :=
  (mSeq (mIfS (mB fEq (mPk 3) (lPk 3) (mC (.int 0)) lId) (mRet (mLst (maCons (mTup (maCons (mVar 1) (maCons (mVar 2) (maCons (mUser run_sign (maCons (mUser run_value_at (maCons (mVar 0) (maCons (mVar 1) maNil))) maNil)) maNil)))) maNil))) mSkip)
  (mSeq (mSet 4 (mUser run_first_from (maCons (mVar 0) (maCons (mVar 1) (maCons (mVar 2) (maCons (mVar 3) (maCons (mC (.int 0)) maNil)))))))
  (mSeq (mSet 5 (mUser run_first_from (maCons (mVar 0) (maCons (mVar 1) (maCons (mVar 2) (maCons (mVar 3) (maCons (mC (.int 1)) maNil)))))))
  (mSeq (mSet 6 (mLst (maCons (mTup (maCons (mVar 1) (maCons (mB fSub (mPk 4) (lPk 4) (mC (.int 1)) lId) (maCons (mU fNeg (mPk 3) (lPk 3)) maNil)))) (maCons (mTup (maCons (mVar 4) (maCons (mB fSub (mPk 5) (lPk 5) (mC (.int 1)) lId) (maCons (mC (.int 0)) maNil)))) (maCons (mTup (maCons (mVar 5) (maCons (mVar 2) (maCons (mVar 3) maNil)))) maNil)))))
  (mRet (mAsV (mLc (mIt (mVar 6)) [7] (mgName 7) (mOr (mB fIsN (mB fIx (mPk 7) (lPk 7) (mC (.int 1)) lId) lId (mC .non) lId) (mB fLe (mB fIx (mPk 7) (lPk 7) (mC (.int 0)) lId) lId (mB fIx (mPk 7) (lPk 7) (mC (.int 1)) lId) lId)) (mVar 7))))))))
def run_cut_stretch : UF := runF 4 8 m_cut_stretch
theorem S_cut_stretch : FnScope N_cut_stretch ["numbers", "least", "most", "way"] (defScope (top 22)) := ⟨rfl, rfl, rfl, by decide +kernel, rfl, by decide +kernel, by decide +kernel⟩
theorem b_cut_stretch (B : Bts mg) (d_first_from : Df P w K mg base C "first_from" 5 2 run_first_from) (d_sign : Df P w K mg base C "sign" 1 1 run_sign) (d_value_at : Df P w K mg base C "value_at" 2 1 run_value_at) : ∀ (X : Cx) (W : WX), Cs P w K mg base N_cut_stretch (defScope (top 22)) 2 X W → JB X C W (defBody (top 22)) m_cut_stretch := fun _ _ c =>
  (jb_cons (js_if (t_eq (p_ c.e (Nm.by (by decide +kernel))) (JE.o j_int) c.e rfl) (jb_one (js_ret (j_lst (j_vcons (j_tup (j_vcons (v_ c.e (Nm.by (by decide +kernel))) (j_vcons (v_ c.e (Nm.by (by decide +kernel))) (j_vcons (x_call c.e d_sign (by decide) (Ng.by (by decide +kernel)) (j_vcons (x_call c.e d_value_at (by decide) (Ng.by (by decide +kernel)) (j_vcons (v_ c.e (Nm.by (by decide +kernel))) (j_vcons (v_ c.e (Nm.by (by decide +kernel))) j_vnil rfl) rfl) (lenS (lenS len0)) rfl rfl) j_vnil rfl) (lenS len0) rfl rfl) j_vnil rfl) rfl) rfl)) j_vnil rfl)))) jb_nil)
  (jb_cons (st_set c (Nb.by (by decide +kernel)) (x_call c.e d_first_from (by decide) (Ng.by (by decide +kernel)) (j_vcons (v_ c.e (Nm.by (by decide +kernel))) (j_vcons (v_ c.e (Nm.by (by decide +kernel))) (j_vcons (v_ c.e (Nm.by (by decide +kernel))) (j_vcons (v_ c.e (Nm.by (by decide +kernel))) (j_vcons j_int j_vnil rfl) rfl) rfl) rfl) rfl) (lenS (lenS (lenS (lenS (lenS len0))))) rfl rfl) rfl rfl)
  (jb_cons (st_set c (Nb.by (by decide +kernel)) (x_call c.e d_first_from (by decide) (Ng.by (by decide +kernel)) (j_vcons (v_ c.e (Nm.by (by decide +kernel))) (j_vcons (v_ c.e (Nm.by (by decide +kernel))) (j_vcons (v_ c.e (Nm.by (by decide +kernel))) (j_vcons (v_ c.e (Nm.by (by decide +kernel))) (j_vcons j_int j_vnil rfl) rfl) rfl) rfl) rfl) (lenS (lenS (lenS (lenS (lenS len0))))) rfl rfl) rfl rfl)
  (jb_cons (st_set c (Nb.by (by decide +kernel)) (j_lst (j_vcons (j_tup (j_vcons (v_ c.e (Nm.by (by decide +kernel))) (j_vcons (x_sub (p_ c.e (Nm.by (by decide +kernel))) (JE.o j_int)) (j_vcons (x_neg (p_ c.e (Nm.by (by decide +kernel)))) j_vnil rfl) rfl) rfl)) (j_vcons (j_tup (j_vcons (v_ c.e (Nm.by (by decide +kernel))) (j_vcons (x_sub (p_ c.e (Nm.by (by decide +kernel))) (JE.o j_int)) (j_vcons j_int j_vnil rfl) rfl) rfl)) (j_vcons (j_tup (j_vcons (v_ c.e (Nm.by (by decide +kernel))) (j_vcons (v_ c.e (Nm.by (by decide +kernel))) (j_vcons (v_ c.e (Nm.by (by decide +kernel))) j_vnil rfl) rfl) rfl)) j_vnil rfl) rfl) rfl)) rfl rfl)
  (jb_one (js_ret (JF.e (x_lc [("row", 7)] c.e (j_it (v_ c.e (Nm.by (by decide +kernel)))) (blk_by (by decide +kernel)) (fun _ c' => (tg_ c' (Nl.by (by decide +kernel)))) (fun _ c' => (jts_one (JW.t (jw_or (t_is (JE.o (x_ix (p_ c' (Nm.by (by decide +kernel))) (JE.o j_int) (fun _ _ => rfl))) (JE.o j_non) rfl) (jw_or1 (t_le (JE.o (x_ix (p_ c' (Nm.by (by decide +kernel))) (JE.o j_int) (fun _ _ => rfl))) (JE.o (x_ix (p_ c' (Nm.by (by decide +kernel))) (JE.o j_int) (fun _ _ => rfl))) rfl)))))) (fun _ c' => (v_ c' (Nm.by (by decide +kernel)))) (by decide) (fun _ => rfl)))))))))
theorem D_cut_stretch (B : Bts mg) (d_first_from : Df P w K mg base C "first_from" 5 2 run_first_from) (d_sign : Df P w K mg base C "sign" 1 1 run_sign) (d_value_at : Df P w K mg base C "value_at" 2 1 run_value_at) (F : FunD K "cut_stretch" "cut_stretch" (defArgs (top 22)) (defBody (top 22)) (defScope (top 22)) [] [] f fd) (hm : mg "cut_stretch" = some (.ref f)) : Df P w K mg base C "cut_stretch" 4 3 run_cut_stretch := def_ok F S_cut_stretch hm F.kp (F.bindsN fun _ _ _ _ _ _ us hl => match us, hl with | [_, _, _, _], _ => rfl) (b_cut_stretch B d_first_from d_sign d_value_at)
abbrev N_signs_of : List Str := ["numbers", "signs", "found", "least", "most", "way", "number", "one"]
def m_signs_of (self : UF) : MS :=
  (mSeq (mSet 1 (mAsV (mLc (mIt (mVar 0)) [6] (mgName 6) mYes (mUser run_sign (maCons (mVar 6) maNil)))))
  (mSeq (mIfS (mOr (mB fNotIn (mU fNeg (mC (.int 1)) lId) lId (mPk 1) (lPk 1)) (mB fNotIn (mC (.int 1)) lId (mPk 1) (lPk 1))) (mRet (mLst (maCons (mTup (maCons (mC (.int 1)) (maCons (mC .non) (maCons (mB fDiv (mCall bSum (maCons (mPk 1) maNil) (laCons (lPk 1) laNil)) lId (mCall bMax (maCons (mC (.int 1)) (maCons (mCall bLen (maCons (mAsV (mLc (mIt (mVar 1)) [7] (mgName 7) (mB fNe (mPk 7) (lPk 7) (mC (.int 0)) lId) (mVar 7))) maNil) (laCons lId laNil)) maNil)) (laCons lId (laCons lId laNil))) lId) maNil)))) maNil))) mSkip)
  (mSeq (mSet 2 (mLst maNil))
  (mSeq (mFor (mIt (mUser self (maCons (mUser run_step_of (maCons (mVar 0) maNil)) maNil))) (mgTup 3 (mgsCons (mgName 3) (mgsCons (mgName 4) (mgsCons (mgName 5) mgsNil)))) (mSet 2 (mB fAdd (mPk 2) (lPk 2) (mUser run_cut_stretch (maCons (mVar 0) (maCons (mVar 3) (maCons (mVar 4) (maCons (mCall bInt (maCons (mPk 5) maNil) (laCons (lPk 5) laNil)) maNil))))) lId)))
  (mRet (mUser run_joined (maCons (mVar 2) maNil)))))))
def run_signs_of : Nat → UF
  | 0 => runBad
  | n + 1 => runF 1 8 (m_signs_of (run_signs_of n))
theorem S_signs_of : FnScope N_signs_of ["numbers"] (defScope (top 24)) := ⟨rfl, rfl, rfl, by decide +kernel, rfl, by decide +kernel, by decide +kernel⟩
theorem b_signs_of (B : Bts mg) (d_joined : Df P w K mg base C "joined" 1 1 run_joined) (d_sign : Df P w K mg base C "sign" 1 1 run_sign) (d_step_of : Df P w K mg base C "step_of" 1 1 run_step_of) (d_cut_stretch : Df P w K mg base C "cut_stretch" 4 3 run_cut_stretch) {k : Nat} (hk : 3 ≤ k) {self : UF} (dself : Df P w K mg base C "signs_of" 1 k self) : ∀ (X : Cx) (W : WX), Cs P w K mg base N_signs_of (defScope (top 24)) k X W → JB X C W (defBody (top 24)) (m_signs_of self) := fun _ _ c =>
  (jb_cons (x_setLc [("number", 6)] c.e (j_it (v_ c.e (Nm.by (by decide +kernel)))) (blk_by (by decide +kernel)) (fun _ c' => (tg_ c' (Nl.by (by decide +kernel)))) (fun _ c' => jts_nil) (fun _ c' => (x_call c' d_sign (Nat.le_trans (by decide) hk) (Ng.by (by decide +kernel)) (j_vcons (v_ c' (Nm.by (by decide +kernel))) j_vnil rfl) (lenS len0) rfl rfl)) (by decide) (fun _ => rfl) (Nl.by (by decide +kernel)) rfl rfl (by decide +kernel))
  (jb_cons (js_if (JW.t (jw_or (t_notin (JE.o (x_neg (JE.o j_int))) (p_ c.e (Nm.by (by decide +kernel))) rfl) (jw_or1 (t_notin (JE.o j_int) (p_ c.e (Nm.by (by decide +kernel))) rfl)))) (jb_one (js_ret (j_lst (j_vcons (j_tup (j_vcons j_int (j_vcons j_non (j_vcons (x_div (JE.o (x_sum c.e B (j_acons (p_ c.e (Nm.by (by decide +kernel))) j_anil rfl) rfl rfl (Ng.by (by decide +kernel)))) (JE.o (x_max c.e B (j_acons (JE.o j_int) (j_acons (JE.o (x_len c.e B (j_acons (JE.o (JF.e (x_lc [("one", 7)] c.e (j_it (v_ c.e (Nm.by (by decide +kernel)))) (blk_by (by decide +kernel)) (fun _ c' => (tg_ c' (Nl.by (by decide +kernel)))) (fun _ c' => (jts_one (t_ne (p_ c' (Nm.by (by decide +kernel))) (JE.o j_int) c' rfl))) (fun _ c' => (v_ c' (Nm.by (by decide +kernel)))) (by decide) (fun _ => rfl)))) j_anil rfl) rfl rfl (Ng.by (by decide +kernel)))) j_anil rfl) rfl) rfl rfl (Ng.by (by decide +kernel))))) j_vnil rfl) rfl) rfl)) j_vnil rfl)))) jb_nil)
  (jb_cons (st_set c (Nb.by (by decide +kernel)) (j_lst j_vnil) rfl rfl)
  (jb_cons (st_for c (j_it (x_call c.e dself (Nat.le_refl _) (Ng.by (by decide +kernel)) (j_vcons (x_call c.e d_step_of (Nat.le_trans (by decide) hk) (Ng.by (by decide +kernel)) (j_vcons (v_ c.e (Nm.by (by decide +kernel))) j_vnil rfl) (lenS len0) rfl rfl) j_vnil rfl) (lenS len0) rfl rfl)) (jg_tup c.e.c.calm (jgs_cons (tgC c (Nb.by (by decide +kernel))) (jgs_cons (tgC c (Nb.by (by decide +kernel))) (jgs_cons (tgC c (Nb.by (by decide +kernel))) jgs_nil rfl) rfl) rfl) rfl rfl) (jb_one (st_set c (Nb.by (by decide +kernel)) (x_add (p_ c.e (Nm.by (by decide +kernel))) (JE.o (x_call c.e d_cut_stretch (Nat.le_trans (by decide) hk) (Ng.by (by decide +kernel)) (j_vcons (v_ c.e (Nm.by (by decide +kernel))) (j_vcons (v_ c.e (Nm.by (by decide +kernel))) (j_vcons (v_ c.e (Nm.by (by decide +kernel))) (j_vcons (x_int c.e B (j_acons (p_ c.e (Nm.by (by decide +kernel))) j_anil rfl) rfl rfl (Ng.by (by decide +kernel))) j_vnil rfl) rfl) rfl) rfl) (lenS (lenS (lenS (lenS len0)))) rfl rfl))) rfl rfl)) (fun _ => rfl))
  (jb_one (js_ret (x_call c.e d_joined (Nat.le_trans (by decide) hk) (Ng.by (by decide +kernel)) (j_vcons (v_ c.e (Nm.by (by decide +kernel))) j_vnil rfl) (lenS len0) rfl rfl)))))))
theorem D_signs_of (B : Bts mg) (d_joined : Df P w K mg base C "joined" 1 1 run_joined) (d_sign : Df P w K mg base C "sign" 1 1 run_sign) (d_step_of : Df P w K mg base C "step_of" 1 1 run_step_of) (d_cut_stretch : Df P w K mg base C "cut_stretch" 4 3 run_cut_stretch) (F : FunD K "signs_of" "signs_of" (defArgs (top 24)) (defBody (top 24)) (defScope (top 24)) [] [] f fd) (hm : mg "signs_of" = some (.ref f)) : ∀ n : Nat, Df P w K mg base C "signs_of" 1 (4 + n) (run_signs_of n)
  | 0 => def_bad F S_signs_of hm F.kp (F.bindsN fun _ _ _ _ _ _ us hl => match us, hl with | [_], _ => rfl)
  | n + 1 => def_ok F S_signs_of hm F.kp (F.bindsN fun _ _ _ _ _ _ us hl => match us, hl with | [_], _ => rfl) (b_signs_of B d_joined d_sign d_step_of d_cut_stretch (Nat.le_trans (by decide) (Nat.le_add_right 4 n)) (D_signs_of B d_joined d_sign d_step_of d_cut_stretch F hm n))
abbrev N_coefficients : List Str := ["form", "low", "whole", "power", "top", "below", "found"]
def m_coefficients : MS :=
  (mSeq (mPar 1 2 (maCons (mB fIx (mB fIx (mPk 0) (lPk 0) (mC (.int 0)) lId) lId (mC (.int 0)) lId) (maCons (mC (.int 1)) maNil)))
  (mSeq (mFor (mIt (mVar 0)) (mgTup 3 (mgsCons (mgName 3) (mgsCons (mgName 4) (mgsCons (mgName 5) mgsNil)))) (mSet 2 (mB fDiv (mB fMul (mPk 2) (lPk 2) (mPk 5) (lPk 5)) lId (mUser run_divisor (maCons (mVar 2) (maCons (mVar 5) maNil))) lId)))
  (mSeq (mOwn 6 (mRep (mLst (maCons (mC (.int 0)) maNil)) (mB fAdd (mB fSub (mB fIx (mB fIx (mPk 0) (lPk 0) (mU fNeg (mC (.int 1)) lId) lId) lId (mC (.int 0)) lId) lId (mPk 1) (lPk 1)) lId (mC (.int 1)) lId)))
  (mSeq (mFor (mIt (mVar 0)) (mgTup 3 (mgsCons (mgName 3) (mgsCons (mgName 4) (mgsCons (mgName 5) mgsNil)))) (mSub 6 (mB fSub (mPk 3) (lPk 3) (mPk 1) (lPk 1)) (mB fMul (mPk 4) (lPk 4) (mB fDiv (mPk 2) (lPk 2) (mPk 5) (lPk 5)) lId)))
  (mRet (mVar 6))))))
def run_coefficients : UF := runF 1 7 m_coefficients
theorem S_coefficients : FnScope N_coefficients ["form"] (defScope (top 17)) := ⟨rfl, rfl, rfl, by decide +kernel, rfl, by decide +kernel, by decide +kernel⟩
theorem b_coefficients (B : Bts mg) (d_divisor : Df P w K mg base C "divisor" 2 1 run_divisor) : ∀ (X : Cx) (W : WX), Cs P w K mg base N_coefficients (defScope (top 17)) 1 X W → JB X C W (defBody (top 17)) m_coefficients := fun _ _ c =>
  (jb_cons (st_par c (Nl.by (by decide +kernel)) (Nl.by (by decide +kernel)) (by decide) (j_vcons (x_ix (JE.o (x_ix (p_ c.e (Nm.by (by decide +kernel))) (JE.o j_int) (fun _ _ => rfl))) (JE.o j_int) (fun _ _ => rfl)) (j_vcons j_int j_vnil rfl) rfl) (fun _ => rfl) rfl)
  (jb_cons (st_for c (j_it (v_ c.e (Nm.by (by decide +kernel)))) (jg_tup c.e.c.calm (jgs_cons (tgC c (Nb.by (by decide +kernel))) (jgs_cons (tgC c (Nb.by (by decide +kernel))) (jgs_cons (tgC c (Nb.by (by decide +kernel))) jgs_nil rfl) rfl) rfl) rfl rfl) (jb_one (st_set c (Nb.by (by decide +kernel)) (x_div (JE.o (x_mul (p_ c.e (Nm.by (by decide +kernel))) (p_ c.e (Nm.by (by decide +kernel))))) (JE.o (x_call c.e d_divisor (by decide) (Ng.by (by decide +kernel)) (j_vcons (v_ c.e (Nm.by (by decide +kernel))) (j_vcons (v_ c.e (Nm.by (by decide +kernel))) j_vnil rfl) rfl) (lenS (lenS len0)) rfl rfl))) rfl rfl)) (fun _ => rfl))
  (jb_cons (st_own c (Nb.by (by decide +kernel)) (jf_rep (j_lst (j_vcons j_int j_vnil rfl)) (x_add (JE.o (x_sub (JE.o (x_ix (JE.o (x_ix (p_ c.e (Nm.by (by decide +kernel))) (JE.o (x_neg (JE.o j_int))) (fun _ _ => rfl))) (JE.o j_int) (fun _ _ => rfl))) (p_ c.e (Nm.by (by decide +kernel))))) (JE.o j_int))) rfl rfl)
  (jb_cons (st_for c (j_it (v_ c.e (Nm.by (by decide +kernel)))) (jg_tup c.e.c.calm (jgs_cons (tgC c (Nb.by (by decide +kernel))) (jgs_cons (tgC c (Nb.by (by decide +kernel))) (jgs_cons (tgC c (Nb.by (by decide +kernel))) jgs_nil rfl) rfl) rfl) rfl rfl) (jb_one (st_sub c (Nm.by (by decide +kernel)) (x_sub (p_ c.e (Nm.by (by decide +kernel))) (p_ c.e (Nm.by (by decide +kernel)))) (x_mul (p_ c.e (Nm.by (by decide +kernel))) (JE.o (x_div (p_ c.e (Nm.by (by decide +kernel))) (p_ c.e (Nm.by (by decide +kernel)))))) (fun _ => rfl) rfl)) (fun _ => rfl))
  (jb_one (js_ret (v_ c.e (Nm.by (by decide +kernel)))))))))
theorem D_coefficients (B : Bts mg) (d_divisor : Df P w K mg base C "divisor" 2 1 run_divisor) (F : FunD K "coefficients" "coefficients" (defArgs (top 17)) (defBody (top 17)) (defScope (top 17)) [] [] f fd) (hm : mg "coefficients" = some (.ref f)) : Df P w K mg base C "coefficients" 1 2 run_coefficients := def_ok F S_coefficients hm F.kp (F.bindsN fun _ _ _ _ _ _ us hl => match us, hl with | [_], _ => rfl) (b_coefficients B d_divisor)
abbrev N_form_signs : List Str := ["form"]
def m_form_signs : MS :=
  (mRet (mIf (mB fNe (mPk 0) (lPk 0) (mTup maNil) lId) (mUser (run_signs_of 60) (maCons (mUser run_coefficients (maCons (mVar 0) maNil)) maNil)) (mLst (maCons (mTup (maCons (mC (.int 1)) (maCons (mC .non) (maCons (mC (.int 0)) maNil)))) maNil))))
def run_form_signs : UF := runF 1 1 m_form_signs
theorem S_form_signs : FnScope N_form_signs ["form"] (defScope (top 25)) := ⟨rfl, rfl, rfl, by decide +kernel, rfl, by decide +kernel, by decide +kernel⟩
theorem b_form_signs (B : Bts mg) (d_signs_of : Df P w K mg base C "signs_of" 1 64 (run_signs_of 60)) (d_coefficients : Df P w K mg base C "coefficients" 1 2 run_coefficients) : ∀ (X : Cx) (W : WX), Cs P w K mg base N_form_signs (defScope (top 25)) 64 X W → JB X C W (defBody (top 25)) m_form_signs := fun _ _ c =>
  (jb_one (js_ret (j_if (t_ne (p_ c.e (Nm.by (by decide +kernel))) (JE.o (j_tup j_vnil)) c.e rfl) (x_call c.e d_signs_of (by decide) (Ng.by (by decide +kernel)) (j_vcons (x_call c.e d_coefficients (by decide) (Ng.by (by decide +kernel)) (j_vcons (v_ c.e (Nm.by (by decide +kernel))) j_vnil rfl) (lenS len0) rfl rfl) j_vnil rfl) (lenS len0) rfl rfl) (j_lst (j_vcons (j_tup (j_vcons j_int (j_vcons j_non (j_vcons j_int j_vnil rfl) rfl) rfl)) j_vnil rfl)))))
theorem D_form_signs (B : Bts mg) (d_signs_of : Df P w K mg base C "signs_of" 1 64 (run_signs_of 60)) (d_coefficients : Df P w K mg base C "coefficients" 1 2 run_coefficients) (F : FunD K "form_signs" "form_signs" (defArgs (top 25)) (defBody (top 25)) (defScope (top 25)) [] [] f fd) (hm : mg "form_signs" = some (.ref f)) : Df P w K mg base C "form_signs" 1 65 run_form_signs := def_ok F S_form_signs hm F.kp (F.bindsN fun _ _ _ _ _ _ us hl => match us, hl with | [_], _ => rfl) (b_form_signs B d_signs_of d_coefficients)
abbrev N_sign_rows : List Str := ["form"]
def m_sign_rows : MS :=
  (mSeq (mDrop (mUser run_need_form (maCons (mVar 0) maNil)))
  (mRet (mCall bTuple (maCons (mUser run_form_signs (maCons (mVar 0) maNil)) maNil) (laCons lId laNil))))
def run_sign_rows : UF := runF 1 1 m_sign_rows
theorem S_sign_rows : FnScope N_sign_rows ["form"] (defScope (top 28)) := ⟨rfl, rfl, rfl, by decide +kernel, rfl, by decide +kernel, by decide +kernel⟩
theorem b_sign_rows (B : Bts mg) (d_need_form : Df P w K mg base C "need_form" 1 4 run_need_form) (d_form_signs : Df P w K mg base C "form_signs" 1 65 run_form_signs) : ∀ (X : Cx) (W : WX), Cs P w K mg base N_sign_rows (defScope (top 28)) 65 X W → JB X C W (defBody (top 28)) m_sign_rows := fun _ _ c =>
  (jb_cons (js_expr (x_call c.e d_need_form (by decide) (Ng.by (by decide +kernel)) (j_vcons (v_ c.e (Nm.by (by decide +kernel))) j_vnil rfl) (lenS len0) rfl rfl) rfl)
  (jb_one (js_ret (x_tuple c.e B (j_acons (JE.o (x_call c.e d_form_signs (by decide) (Ng.by (by decide +kernel)) (j_vcons (v_ c.e (Nm.by (by decide +kernel))) j_vnil rfl) (lenS len0) rfl rfl)) j_anil rfl) rfl rfl (Ng.by (by decide +kernel))))))
theorem D_sign_rows (B : Bts mg) (d_need_form : Df P w K mg base C "need_form" 1 4 run_need_form) (d_form_signs : Df P w K mg base C "form_signs" 1 65 run_form_signs) (F : FunD K "sign_rows" "sign_rows" (defArgs (top 28)) (defBody (top 28)) (defScope (top 28)) [] [] f fd) (hm : mg "sign_rows" = some (.ref f)) : Df P w K mg base C "sign_rows" 1 66 run_sign_rows := def_ok F S_sign_rows hm F.kp (F.bindsN fun _ _ _ _ _ _ us hl => match us, hl with | [_], _ => rfl) (b_sign_rows B d_need_form d_form_signs)
abbrev N__law_draw : List Str := ["_law_source_here", "_law_many", "_law_found"]
def m__law_draw : MS :=
  (mSeq (mIfS (mB fGt (mB fIx (mPk 0) (lPk 0) (mC (.int 0)) lId) lId (mC (.int 0)) lId) (mSeq (mSet 2 (mB fMod (mCall bInt (maCons (mB fIx (mPk 0) (lPk 0) (mC (.int 0)) lId) maNil) (laCons lId laNil)) lId (mPk 1) (lPk 1)))
  (mSeq (mSub 0 (mC (.int 0)) (mB fDiv (mB fIx (mPk 0) (lPk 0) (mC (.int 0)) lId) lId (mPk 1) (lPk 1)))
  (mRet (mVar 2)))) mSkip)
  (mSeq (mSub 0 (mC (.int 1)) (mB fMod (mCall bInt (maCons (mB fMul (mB fIx (mPk 0) (lPk 0) (mC (.int 1)) lId) lId (mC (.int 48271)) lId) maNil) (laCons lId laNil)) lId (mC (.int 2147483647)) lId))
  (mRet (mB fMod (mCall bInt (maCons (mB fDiv (mB fMod (mCall bInt (maCons (mB fMul (mB fIx (mPk 0) (lPk 0) (mC (.int 1)) lId) lId (mB fIx (mPk 0) (lPk 0) (mC (.int 1)) lId) lId) maNil) (laCons lId laNil)) lId (mC (.int 2147483629)) lId) lId (mC (.int 64)) lId) maNil) (laCons lId laNil)) lId (mPk 1) (lPk 1)))))
def run__law_draw : UF := runF 2 3 m__law_draw
theorem S__law_draw : FnScope N__law_draw ["_law_source_here", "_law_many"] (defScope (top 31)) := ⟨rfl, rfl, rfl, by decide +kernel, rfl, by decide +kernel, by decide +kernel⟩
theorem b__law_draw (B : Bts mg) : ∀ (X : Cx) (W : WX), Cs P w K mg base N__law_draw (defScope (top 31)) 0 X W → JB X C W (defBody (top 31)) m__law_draw := fun _ _ c =>
  (jb_cons (js_if (t_gt (JE.o (x_ix (p_ c.e (Nm.by (by decide +kernel))) (JE.o j_int) (fun _ _ => rfl))) (JE.o j_int) rfl) (jb_cons (st_set c (Nb.by (by decide +kernel)) (x_mod (JE.o (x_int c.e B (j_acons (JE.o (x_ix (p_ c.e (Nm.by (by decide +kernel))) (JE.o j_int) (fun _ _ => rfl))) j_anil rfl) rfl rfl (Ng.by (by decide +kernel)))) (p_ c.e (Nm.by (by decide +kernel)))) rfl rfl)
  (jb_cons (st_sub c (Nm.by (by decide +kernel)) j_int (x_div (JE.o (x_ix (p_ c.e (Nm.by (by decide +kernel))) (JE.o j_int) (fun _ _ => rfl))) (p_ c.e (Nm.by (by decide +kernel)))) (fun _ => rfl) rfl)
  (jb_one (js_ret (v_ c.e (Nm.by (by decide +kernel))))))) jb_nil)
  (jb_cons (st_sub c (Nm.by (by decide +kernel)) j_int (x_mod (JE.o (x_int c.e B (j_acons (JE.o (x_mul (JE.o (x_ix (p_ c.e (Nm.by (by decide +kernel))) (JE.o j_int) (fun _ _ => rfl))) (JE.o j_int))) j_anil rfl) rfl rfl (Ng.by (by decide +kernel)))) (JE.o j_int)) (fun _ => rfl) rfl)
  (jb_one (js_ret (x_mod (JE.o (x_int c.e B (j_acons (JE.o (x_div (JE.o (x_mod (JE.o (x_int c.e B (j_acons (JE.o (x_mul (JE.o (x_ix (p_ c.e (Nm.by (by decide +kernel))) (JE.o j_int) (fun _ _ => rfl))) (JE.o (x_ix (p_ c.e (Nm.by (by decide +kernel))) (JE.o j_int) (fun _ _ => rfl))))) j_anil rfl) rfl rfl (Ng.by (by decide +kernel)))) (JE.o j_int))) (JE.o j_int))) j_anil rfl) rfl rfl (Ng.by (by decide +kernel)))) (p_ c.e (Nm.by (by decide +kernel))))))))
theorem D__law_draw (B : Bts mg) (F : FunD K "_law_draw" "_law_draw" (defArgs (top 31)) (defBody (top 31)) (defScope (top 31)) [] [] f fd) (hm : mg "_law_draw" = some (.ref f)) : Df P w K mg base C "_law_draw" 2 1 run__law_draw := def_ok F S__law_draw hm F.kp (F.bindsN fun _ _ _ _ _ _ us hl => match us, hl with | [_, _], _ => rfl) (b__law_draw B)
abbrev N__law_of : List Str := ["_law_source_here", "_law_items"]
def m__law_of : MS :=
  (mRet (mB fIx (mPk 1) (lPk 1) (mUserB run__law_draw 0 (maCons (mCall bLen (maCons (mPk 1) maNil) (laCons (lPk 1) laNil)) maNil)) lId))
def run__law_of : UF := runF 2 2 m__law_of
theorem S__law_of : FnScope N__law_of ["_law_source_here", "_law_items"] (defScope (top 32)) := ⟨rfl, rfl, rfl, by decide +kernel, rfl, by decide +kernel, by decide +kernel⟩
theorem b__law_of (B : Bts mg) (d__law_draw : Df P w K mg base C "_law_draw" 2 1 run__law_draw) : ∀ (X : Cx) (W : WX), Cs P w K mg base N__law_of (defScope (top 32)) 1 X W → JB X C W (defBody (top 32)) m__law_of := fun _ _ c =>
  (jb_one (js_ret (x_ix (p_ c.e (Nm.by (by decide +kernel))) (JE.o (x_lent c.e d__law_draw (by decide) (Ng.by (by decide +kernel)) (Nm.by (by decide +kernel)) (j_vcons (x_len c.e B (j_acons (p_ c.e (Nm.by (by decide +kernel))) j_anil rfl) rfl rfl (Ng.by (by decide +kernel))) j_vnil rfl) (lenS len0) rfl rfl)) (fun _ _ => rfl))))
theorem D__law_of (B : Bts mg) (d__law_draw : Df P w K mg base C "_law_draw" 2 1 run__law_draw) (F : FunD K "_law_of" "_law_of" (defArgs (top 32)) (defBody (top 32)) (defScope (top 32)) [] [] f fd) (hm : mg "_law_of" = some (.ref f)) : Df P w K mg base C "_law_of" 2 2 run__law_of := def_ok F S__law_of hm F.kp (F.bindsN fun _ _ _ _ _ _ us hl => match us, hl with | [_, _], _ => rfl) (b__law_of B d__law_draw)
abbrev N__law_common : List Str := ["_law_one", "_law_other"]
def m__law_common : MS :=
  (mSeq (mPar 0 1 (maCons (mCall bAbs (maCons (mPk 0) maNil) (laCons (lPk 0) laNil)) (maCons (mCall bAbs (maCons (mPk 1) maNil) (laCons (lPk 1) laNil)) maNil)))
  (mSeq (mWhile fuel (mB fNe (mPk 1) (lPk 1) (mC (.int 0)) lId) (mPar 0 1 (maCons (mVar 1) (maCons (mB fMod (mPk 0) (lPk 0) (mPk 1) (lPk 1)) maNil))))
  (mRet (mVar 0))))
def run__law_common : UF := runF 2 2 m__law_common
theorem S__law_common : FnScope N__law_common ["_law_one", "_law_other"] (defScope (top 33)) := ⟨rfl, rfl, rfl, by decide +kernel, rfl, by decide +kernel, by decide +kernel⟩
theorem b__law_common (B : Bts mg) : ∀ (X : Cx) (W : WX), Cs P w K mg base N__law_common (defScope (top 33)) 0 X W → JB X C W (defBody (top 33)) m__law_common := fun _ _ c =>
  (jb_cons (st_par c (Nl.by (by decide +kernel)) (Nl.by (by decide +kernel)) (by decide) (j_vcons (x_abs c.e B (j_acons (p_ c.e (Nm.by (by decide +kernel))) j_anil rfl) rfl rfl (Ng.by (by decide +kernel))) (j_vcons (x_abs c.e B (j_acons (p_ c.e (Nm.by (by decide +kernel))) j_anil rfl) rfl rfl (Ng.by (by decide +kernel))) j_vnil rfl) rfl) (fun _ => rfl) rfl)
  (jb_cons (st_while c (t_ne (p_ c.e (Nm.by (by decide +kernel))) (JE.o j_int) c.e rfl) (jb_one (st_par c (Nl.by (by decide +kernel)) (Nl.by (by decide +kernel)) (by decide) (j_vcons (v_ c.e (Nm.by (by decide +kernel))) (j_vcons (x_mod (p_ c.e (Nm.by (by decide +kernel))) (p_ c.e (Nm.by (by decide +kernel)))) j_vnil rfl) rfl) (fun _ => rfl) rfl)))
  (jb_one (js_ret (v_ c.e (Nm.by (by decide +kernel)))))))
theorem D__law_common (B : Bts mg) (F : FunD K "_law_common" "_law_common" (defArgs (top 33)) (defBody (top 33)) (defScope (top 33)) [] [] f fd) (hm : mg "_law_common" = some (.ref f)) : Df P w K mg base C "_law_common" 2 1 run__law_common := def_ok F S__law_common hm F.kp (F.bindsN fun _ _ _ _ _ _ us hl => match us, hl with | [_, _], _ => rfl) (b__law_common B)
abbrev N__law_fraction : List Str := ["_law_top", "_law_below", "_law_common_here"]
def m__law_fraction : MS :=
  (mSeq (mSet 2 (mUser run__law_common (maCons (mVar 0) (maCons (mVar 1) maNil))))
  (mRet (mTup (maCons (mB fDiv (mPk 0) (lPk 0) (mPk 2) (lPk 2)) (maCons (mB fDiv (mPk 1) (lPk 1) (mPk 2) (lPk 2)) maNil)))))
def run__law_fraction : UF := runF 2 3 m__law_fraction
theorem S__law_fraction : FnScope N__law_fraction ["_law_top", "_law_below"] (defScope (top 34)) := ⟨rfl, rfl, rfl, by decide +kernel, rfl, by decide +kernel, by decide +kernel⟩
theorem b__law_fraction (B : Bts mg) (d__law_common : Df P w K mg base C "_law_common" 2 1 run__law_common) : ∀ (X : Cx) (W : WX), Cs P w K mg base N__law_fraction (defScope (top 34)) 1 X W → JB X C W (defBody (top 34)) m__law_fraction := fun _ _ c =>
  (jb_cons (st_set c (Nb.by (by decide +kernel)) (x_call c.e d__law_common (by decide) (Ng.by (by decide +kernel)) (j_vcons (v_ c.e (Nm.by (by decide +kernel))) (j_vcons (v_ c.e (Nm.by (by decide +kernel))) j_vnil rfl) rfl) (lenS (lenS len0)) rfl rfl) rfl rfl)
  (jb_one (js_ret (j_tup (j_vcons (x_div (p_ c.e (Nm.by (by decide +kernel))) (p_ c.e (Nm.by (by decide +kernel)))) (j_vcons (x_div (p_ c.e (Nm.by (by decide +kernel))) (p_ c.e (Nm.by (by decide +kernel)))) j_vnil rfl) rfl)))))
theorem D__law_fraction (B : Bts mg) (d__law_common : Df P w K mg base C "_law_common" 2 1 run__law_common) (F : FunD K "_law_fraction" "_law_fraction" (defArgs (top 34)) (defBody (top 34)) (defScope (top 34)) [] [] f fd) (hm : mg "_law_fraction" = some (.ref f)) : Df P w K mg base C "_law_fraction" 2 2 run__law_fraction := def_ok F S__law_fraction hm F.kp (F.bindsN fun _ _ _ _ _ _ us hl => match us, hl with | [_, _], _ => rfl) (b__law_fraction B d__law_common)
abbrev N__law_times : List Str := ["_law_form_here", "_law_zero", "_law_below", "_law_found", "_law_power_here", "_law_top", "_law_under", "_law_more", "_law_many", "_law_old", "_law_up", "_law_every"]
def m__law_times : MS :=
  (mSeq (mOwn 3 mNewD)
  (mSeq (mFor (mIt (mVar 0)) (mgTup 3 (mgsCons (mgName 4) (mgsCons (mgName 5) (mgsCons (mgName 6) mgsNil)))) (mFor (mIt (mLst (maCons (mTup (maCons (mC (.int 1)) (maCons (mC (.int 1)) maNil))) (maCons (mTup (maCons (mC (.int 0)) (maCons (mB fSub (mC (.int 0)) lId (mPk 1) (lPk 1)) maNil))) maNil)))) (mgTup 2 (mgsCons (mgName 7) (mgsCons (mgName 8) mgsNil))) (mSeq (mSet 9 (mDGet2 3 (mB fAdd (mPk 4) (lPk 4) (mPk 7) (lPk 7)) (mTup (maCons (mC (.int 0)) (maCons (mC (.int 1)) maNil)))))
  (mSeq (mSet 10 (mB fAdd (mB fMul (mB fMul (mB fIx (mPk 9) (lPk 9) (mC (.int 0)) lId) lId (mPk 6) (lPk 6)) lId (mPk 2) (lPk 2)) lId (mB fMul (mB fMul (mPk 8) (lPk 8) (mPk 5) (lPk 5)) lId (mB fIx (mPk 9) (lPk 9) (mC (.int 1)) lId) lId) lId))
  (mDPut 3 (mB fAdd (mPk 4) (lPk 4) (mPk 7) (lPk 7)) (mUser run__law_fraction (maCons (mVar 10) (maCons (mB fMul (mB fMul (mB fIx (mPk 9) (lPk 9) (mC (.int 1)) lId) lId (mPk 6) (lPk 6)) lId (mPk 2) (lPk 2)) maNil))))))))
  (mSeq (mSet 11 (mAsV (mLc (mIt (mCall bSortedD (maCons (mPk 3) maNil) (laCons (lPk 3) laNil))) [4] (mgName 4) (mB fNe (mB fIx (mDGet 3 (mVar 4)) lId (mC (.int 0)) lId) lId (mC (.int 0)) lId) (mVar 4))))
  (mRet (mCall bTuple (maCons (mAsV (mLc (mIt (mVar 11)) [4] (mgName 4) mYes (mB fAdd (mTup (maCons (mVar 4) maNil)) lId (mDGet 3 (mVar 4)) lId))) maNil) (laCons lId laNil))))))
def run__law_times : UF := runF 3 12 m__law_times
theorem S__law_times : FnScope N__law_times ["_law_form_here", "_law_zero", "_law_below"] (defScope (top 42)) := ⟨rfl, rfl, rfl, by decide +kernel, rfl, by decide +kernel, by decide +kernel⟩
theorem b__law_times (B : Bts mg) (d__law_fraction : Df P w K mg base C "_law_fraction" 2 2 run__law_fraction) : ∀ (X : Cx) (W : WX), Cs P w K mg base N__law_times (defScope (top 42)) 2 X W → JB X C W (defBody (top 42)) m__law_times := fun _ _ c =>
  (jb_cons (st_own c (Nb.by (by decide +kernel)) jf_dict rfl rfl)
  (jb_cons (st_for c (j_it (v_ c.e (Nm.by (by decide +kernel)))) (jg_tup c.e.c.calm (jgs_cons (tgC c (Nb.by (by decide +kernel))) (jgs_cons (tgC c (Nb.by (by decide +kernel))) (jgs_cons (tgC c (Nb.by (by decide +kernel))) jgs_nil rfl) rfl) rfl) rfl rfl) (jb_one (st_for c (j_it (j_lst (j_vcons (j_tup (j_vcons j_int (j_vcons j_int j_vnil rfl) rfl)) (j_vcons (j_tup (j_vcons j_int (j_vcons (x_sub (JE.o j_int) (p_ c.e (Nm.by (by decide +kernel)))) j_vnil rfl) rfl)) j_vnil rfl) rfl))) (jg_tup c.e.c.calm (jgs_cons (tgC c (Nb.by (by decide +kernel))) (jgs_cons (tgC c (Nb.by (by decide +kernel))) jgs_nil rfl) rfl) rfl rfl) (jb_cons (st_set c (Nb.by (by decide +kernel)) (x_dget2 c.e (Nm.by (by decide +kernel)) (x_add (p_ c.e (Nm.by (by decide +kernel))) (p_ c.e (Nm.by (by decide +kernel)))) (j_tup (j_vcons j_int (j_vcons j_int j_vnil rfl) rfl)) ⟨rfl, rfl, rfl, rfl⟩) rfl rfl)
  (jb_cons (st_set c (Nb.by (by decide +kernel)) (x_add (JE.o (x_mul (JE.o (x_mul (JE.o (x_ix (p_ c.e (Nm.by (by decide +kernel))) (JE.o j_int) (fun _ _ => rfl))) (p_ c.e (Nm.by (by decide +kernel))))) (p_ c.e (Nm.by (by decide +kernel))))) (JE.o (x_mul (JE.o (x_mul (p_ c.e (Nm.by (by decide +kernel))) (p_ c.e (Nm.by (by decide +kernel))))) (JE.o (x_ix (p_ c.e (Nm.by (by decide +kernel))) (JE.o j_int) (fun _ _ => rfl)))))) rfl rfl)
  (jb_one (st_dput c (Nm.by (by decide +kernel)) (x_add (p_ c.e (Nm.by (by decide +kernel))) (p_ c.e (Nm.by (by decide +kernel)))) (x_call c.e d__law_fraction (by decide) (Ng.by (by decide +kernel)) (j_vcons (v_ c.e (Nm.by (by decide +kernel))) (j_vcons (x_mul (JE.o (x_mul (JE.o (x_ix (p_ c.e (Nm.by (by decide +kernel))) (JE.o j_int) (fun _ _ => rfl))) (p_ c.e (Nm.by (by decide +kernel))))) (p_ c.e (Nm.by (by decide +kernel)))) j_vnil rfl) rfl) (lenS (lenS len0)) rfl rfl) rfl)))) (fun _ => rfl))) (fun _ => rfl))
  (jb_cons (x_setLc [("_law_power_here", 4)] c.e (j_it (x_sortedD c.e B (j_acons (p_ c.e (Nm.by (by decide +kernel))) j_anil rfl) rfl rfl (Ng.by (by decide +kernel)))) (blk_by (by decide +kernel)) (fun _ c' => (tg_ c' (Nl.by (by decide +kernel)))) (fun _ c' => (jts_one (t_ne (JE.o (x_ix (JE.o (x_dget c' (Nm.by (by decide +kernel)) (v_ c' (Nm.by (by decide +kernel))) (fun _ _ => rfl))) (JE.o j_int) (fun _ _ => rfl))) (JE.o j_int) c' rfl))) (fun _ c' => (v_ c' (Nm.by (by decide +kernel)))) (by decide) (fun _ => rfl) (Nl.by (by decide +kernel)) rfl rfl (by decide +kernel))
  (jb_one (js_ret (x_tuple c.e B (j_acons (JE.o (JF.e (x_lc [("_law_power_here", 4)] c.e (j_it (v_ c.e (Nm.by (by decide +kernel)))) (blk_by (by decide +kernel)) (fun _ c' => (tg_ c' (Nl.by (by decide +kernel)))) (fun _ c' => jts_nil) (fun _ c' => (x_add (JE.o (j_tup (j_vcons (v_ c' (Nm.by (by decide +kernel))) j_vnil rfl))) (JE.o (x_dget c' (Nm.by (by decide +kernel)) (v_ c' (Nm.by (by decide +kernel))) (fun _ _ => rfl))))) (by decide) (fun _ => rfl)))) j_anil rfl) rfl rfl (Ng.by (by decide +kernel))))))))
theorem D__law_times (B : Bts mg) (d__law_fraction : Df P w K mg base C "_law_fraction" 2 2 run__law_fraction) (F : FunD K "_law_times" "_law_times" (defArgs (top 42)) (defBody (top 42)) (defScope (top 42)) [] [] f fd) (hm : mg "_law_times" = some (.ref f)) : Df P w K mg base C "_law_times" 3 3 run__law_times := def_ok F S__law_times hm F.kp (F.bindsN fun _ _ _ _ _ _ us hl => match us, hl with | [_, _, _], _ => rfl) (b__law_times B d__law_fraction)
abbrev N__law_form : List Str := ["_law_source_here", "_law_found", "_law_turn", "_law_some", "_law_zero", "_law_power_here", "_law_top", "_law_below"]
def m__law_form : MS :=
  (mSeq (mSet 1 (mTup (maCons (mTup (maCons (mB fSub (mUserB run__law_draw 0 (maCons (mC (.int 5)) maNil)) lId (mC (.int 3)) lId) (maCons (mUserB run__law_of 0 (maCons (mLst (maCons (mC (.int 1)) (maCons (mU fNeg (mC (.int 1)) lId) (maCons (mC (.int 2)) (maCons (mU fNeg (mC (.int 3)) lId) maNil))))) maNil)) (maCons (mC (.int 1)) maNil)))) maNil)))
  (mSeq (mFor (mRange1 (maCons (mUserB run__law_draw 0 (maCons (mC (.int 5)) maNil)) maNil)) (mgName 2) (mSeq (mSet 3 (mLst (maCons (mB fAdd (mC (.int 1)) lId (mUserB run__law_draw 0 (maCons (mC (.int 6)) maNil)) lId) (maCons (mUserB run__law_draw 0 (maCons (mC (.int 500)) maNil)) maNil))))
  (mSeq (mSet 4 (mUserB run__law_of 0 (maCons (mB fAdd (mPk 3) (lPk 3) (mLst (maCons (mB fSub (mC (.int 0)) lId (mUserB run__law_draw 0 (maCons (mC (.int 9)) maNil)) lId) (maCons (mB fPow (mC (.int 10)) lId (mC (.int 5)) lId) maNil))) lId) maNil)))
  (mIfS (mB fLt (mCall bMax (maCons (mAsV (mLc (mIt (mVar 1)) [5, 6, 7] (mgTup 3 (mgsCons (mgName 5) (mgsCons (mgName 6) (mgsCons (mgName 7) mgsNil)))) mYes (mCall bAbs (maCons (mPk 6) maNil) (laCons (lPk 6) laNil)))) maNil) (laCons lId laNil)) lId (mB fPow (mC (.int 10)) lId (mC (.int 13)) lId) lId) (mSet 1 (mUser run__law_times (maCons (mVar 1) (maCons (mVar 4) (maCons (mUserB run__law_of 0 (maCons (mLst (maCons (mC (.int 1)) (maCons (mC (.int 1)) (maCons (mC (.int 2)) (maCons (mC (.int 3)) maNil))))) maNil)) maNil))))) mSkip))))
  (mSeq (mIfS (mAnd (mB fEq (mUserB run__law_draw 0 (maCons (mC (.int 3)) maNil)) lId (mC (.int 0)) lId) (mB fGt (mB fIx (mB fIx (mPk 1) (lPk 1) (mC (.int 0)) lId) lId (mC (.int 0)) lId) lId (mU fNeg (mC (.int 9)) lId) lId)) (mSet 1 (mB fAdd (mTup (maCons (mTup (maCons (mB fSub (mB fIx (mB fIx (mPk 1) (lPk 1) (mC (.int 0)) lId) lId (mC (.int 0)) lId) lId (mC (.int 1)) lId) (maCons (mUserB run__law_of 0 (maCons (mLst (maCons (mC (.int 1)) (maCons (mU fNeg (mC (.int 1)) lId) (maCons (mC (.int 7)) (maCons (mU fNeg (mC (.int 100)) lId) maNil))))) maNil)) (maCons (mC (.int 1)) maNil)))) maNil)) lId (mPk 1) (lPk 1))) mSkip)
  (mRet (mVar 1)))))
def run__law_form : UF := runF 1 8 m__law_form
theorem S__law_form : FnScope N__law_form ["_law_source_here"] (defScope (top 43)) := ⟨rfl, rfl, rfl, by decide +kernel, rfl, by decide +kernel, by decide +kernel⟩
theorem b__law_form (B : Bts mg) (d__law_draw : Df P w K mg base C "_law_draw" 2 1 run__law_draw) (d__law_of : Df P w K mg base C "_law_of" 2 2 run__law_of) (d__law_times : Df P w K mg base C "_law_times" 3 3 run__law_times) : ∀ (X : Cx) (W : WX), Cs P w K mg base N__law_form (defScope (top 43)) 3 X W → JB X C W (defBody (top 43)) m__law_form := fun _ _ c =>
  (jb_cons (st_set c (Nb.by (by decide +kernel)) (j_tup (j_vcons (j_tup (j_vcons (x_sub (JE.o (x_lent c.e d__law_draw (by decide) (Ng.by (by decide +kernel)) (Nm.by (by decide +kernel)) (j_vcons j_int j_vnil rfl) (lenS len0) rfl rfl)) (JE.o j_int)) (j_vcons (x_lent c.e d__law_of (by decide) (Ng.by (by decide +kernel)) (Nm.by (by decide +kernel)) (j_vcons (j_lst (j_vcons j_int (j_vcons (x_neg (JE.o j_int)) (j_vcons j_int (j_vcons (x_neg (JE.o j_int)) j_vnil rfl) rfl) rfl) rfl)) j_vnil rfl) (lenS len0) rfl rfl) (j_vcons j_int j_vnil rfl) rfl) rfl)) j_vnil rfl)) rfl rfl)
  (jb_cons (st_for c (x_range1 c.e B (Ng.by (by decide +kernel)) (j_vcons (x_lent c.e d__law_draw (by decide) (Ng.by (by decide +kernel)) (Nm.by (by decide +kernel)) (j_vcons j_int j_vnil rfl) (lenS len0) rfl rfl) j_vnil rfl) rfl) (tgC c (Nb.by (by decide +kernel))) (jb_cons (st_set c (Nb.by (by decide +kernel)) (j_lst (j_vcons (x_add (JE.o j_int) (JE.o (x_lent c.e d__law_draw (by decide) (Ng.by (by decide +kernel)) (Nm.by (by decide +kernel)) (j_vcons j_int j_vnil rfl) (lenS len0) rfl rfl))) (j_vcons (x_lent c.e d__law_draw (by decide) (Ng.by (by decide +kernel)) (Nm.by (by decide +kernel)) (j_vcons j_int j_vnil rfl) (lenS len0) rfl rfl) j_vnil rfl) rfl)) rfl rfl)
  (jb_cons (st_set c (Nb.by (by decide +kernel)) (x_lent c.e d__law_of (by decide) (Ng.by (by decide +kernel)) (Nm.by (by decide +kernel)) (j_vcons (x_add (p_ c.e (Nm.by (by decide +kernel))) (JE.o (j_lst (j_vcons (x_sub (JE.o j_int) (JE.o (x_lent c.e d__law_draw (by decide) (Ng.by (by decide +kernel)) (Nm.by (by decide +kernel)) (j_vcons j_int j_vnil rfl) (lenS len0) rfl rfl))) (j_vcons (x_pow (JE.o j_int) (JE.o j_int)) j_vnil rfl) rfl)))) j_vnil rfl) (lenS len0) rfl rfl) rfl rfl)
  (jb_one (js_if (t_lt (JE.o (x_max c.e B (j_acons (JE.o (JF.e (x_lc [("_law_power_here", 5), ("_law_top", 6), ("_law_below", 7)] c.e (j_it (v_ c.e (Nm.by (by decide +kernel)))) (blk_by (by decide +kernel)) (fun _ c' => (jg_tup c'.c.calm (jgs_cons (tg_ c' (Nl.by (by decide +kernel))) (jgs_cons (tg_ c' (Nl.by (by decide +kernel))) (jgs_cons (tg_ c' (Nl.by (by decide +kernel))) jgs_nil rfl) rfl) rfl) rfl rfl)) (fun _ c' => jts_nil) (fun _ c' => (x_abs c' B (j_acons (p_ c' (Nm.by (by decide +kernel))) j_anil rfl) rfl rfl (Ng.by (by decide +kernel)))) (by decide) (fun _ => rfl)))) j_anil rfl) rfl rfl (Ng.by (by decide +kernel)))) (JE.o (x_pow (JE.o j_int) (JE.o j_int))) c.e rfl) (jb_one (st_set c (Nb.by (by decide +kernel)) (x_call c.e d__law_times (by decide) (Ng.by (by decide +kernel)) (j_vcons (v_ c.e (Nm.by (by decide +kernel))) (j_vcons (v_ c.e (Nm.by (by decide +kernel))) (j_vcons (x_lent c.e d__law_of (by decide) (Ng.by (by decide +kernel)) (Nm.by (by decide +kernel)) (j_vcons (j_lst (j_vcons j_int (j_vcons j_int (j_vcons j_int (j_vcons j_int j_vnil rfl) rfl) rfl) rfl)) j_vnil rfl) (lenS len0) rfl rfl) j_vnil rfl) rfl) rfl) (lenS (lenS (lenS len0))) rfl rfl) rfl rfl)) jb_nil)))) (fun _ => rfl))
  (jb_cons (js_if (JW.t (jw_and (t_eq (JE.o (x_lent c.e d__law_draw (by decide) (Ng.by (by decide +kernel)) (Nm.by (by decide +kernel)) (j_vcons j_int j_vnil rfl) (lenS len0) rfl rfl)) (JE.o j_int) c.e rfl) (jw_and1 (t_gt (JE.o (x_ix (JE.o (x_ix (p_ c.e (Nm.by (by decide +kernel))) (JE.o j_int) (fun _ _ => rfl))) (JE.o j_int) (fun _ _ => rfl))) (JE.o (x_neg (JE.o j_int))) rfl)))) (jb_one (st_set c (Nb.by (by decide +kernel)) (x_add (JE.o (j_tup (j_vcons (j_tup (j_vcons (x_sub (JE.o (x_ix (JE.o (x_ix (p_ c.e (Nm.by (by decide +kernel))) (JE.o j_int) (fun _ _ => rfl))) (JE.o j_int) (fun _ _ => rfl))) (JE.o j_int)) (j_vcons (x_lent c.e d__law_of (by decide) (Ng.by (by decide +kernel)) (Nm.by (by decide +kernel)) (j_vcons (j_lst (j_vcons j_int (j_vcons (x_neg (JE.o j_int)) (j_vcons j_int (j_vcons (x_neg (JE.o j_int)) j_vnil rfl) rfl) rfl) rfl)) j_vnil rfl) (lenS len0) rfl rfl) (j_vcons j_int j_vnil rfl) rfl) rfl)) j_vnil rfl))) (p_ c.e (Nm.by (by decide +kernel)))) rfl rfl)) jb_nil)
  (jb_one (js_ret (v_ c.e (Nm.by (by decide +kernel))))))))
theorem D__law_form (B : Bts mg) (d__law_draw : Df P w K mg base C "_law_draw" 2 1 run__law_draw) (d__law_of : Df P w K mg base C "_law_of" 2 2 run__law_of) (d__law_times : Df P w K mg base C "_law_times" 3 3 run__law_times) (F : FunD K "_law_form" "_law_form" (defArgs (top 43)) (defBody (top 43)) (defScope (top 43)) [] [] f fd) (hm : mg "_law_form" = some (.ref f)) : Df P w K mg base C "_law_form" 1 4 run__law_form := def_ok F S__law_form hm F.kp (F.bindsN fun _ _ _ _ _ _ us hl => match us, hl with | [_], _ => rfl) (b__law_form B d__law_draw d__law_of d__law_times)
abbrev N_need_n : List Str := ["value", "most"]
def m_need_n : MS :=
  (mIfS (mNot (mUser run_is_number (maCons (mVar 0) (maCons (mC (.int 1)) (maCons (mVar 1) maNil))))) (mRaise 2) mSkip)
def run_need_n : UF := runF 2 2 m_need_n
theorem S_need_n : FnScope N_need_n ["value", "most"] (defScope (top 14)) := ⟨rfl, rfl, rfl, by decide +kernel, rfl, by decide +kernel, by decide +kernel⟩
theorem b_need_n (B : Bts mg) (e_InvalidNumber : Er K mg C "InvalidNumber" 2) (d_is_number : Df P w K mg base C "is_number" 3 1 run_is_number) : ∀ (X : Cx) (W : WX), Cs P w K mg base N_need_n (defScope (top 14)) 1 X W → JB X C W (defBody (top 14)) m_need_n := fun _ _ c =>
  (jb_one (js_if (jt_not (jt_val (x_call c.e d_is_number (by decide) (Ng.by (by decide +kernel)) (j_vcons (v_ c.e (Nm.by (by decide +kernel))) (j_vcons j_int (j_vcons (v_ c.e (Nm.by (by decide +kernel))) j_vnil rfl) rfl) rfl) (lenS (lenS (lenS len0))) rfl rfl) (fun _ => rfl))) (jb_one (st_raise c e_InvalidNumber (Ng.by (by decide +kernel)))) jb_nil))
theorem D_need_n (B : Bts mg) (e_InvalidNumber : Er K mg C "InvalidNumber" 2) (d_is_number : Df P w K mg base C "is_number" 3 1 run_is_number) (F : FunD K "need_n" "need_n" (defArgs (top 14)) (defBody (top 14)) (defScope (top 14)) [] [] f fd) (hm : mg "need_n" = some (.ref f)) : Df P w K mg base C "need_n" 2 2 run_need_n := def_ok F S_need_n hm F.kp (F.bindsN fun _ _ _ _ _ _ us hl => match us, hl with | [_, _], _ => rfl) (b_need_n B e_InvalidNumber d_is_number)
abbrev N_reduced : List Str := ["top", "below", "common"]
def m_reduced : MS :=
  (mSeq (mSet 2 (mUser run_divisor (maCons (mVar 0) (maCons (mVar 1) maNil))))
  (mRet (mTup (maCons (mB fDiv (mPk 0) (lPk 0) (mPk 2) (lPk 2)) (maCons (mB fDiv (mPk 1) (lPk 1) (mPk 2) (lPk 2)) maNil)))))
def run_reduced : UF := runF 2 3 m_reduced
theorem S_reduced : FnScope N_reduced ["top", "below"] (defScope (top 10)) := ⟨rfl, rfl, rfl, by decide +kernel, rfl, by decide +kernel, by decide +kernel⟩
theorem b_reduced (B : Bts mg) (d_divisor : Df P w K mg base C "divisor" 2 1 run_divisor) : ∀ (X : Cx) (W : WX), Cs P w K mg base N_reduced (defScope (top 10)) 1 X W → JB X C W (defBody (top 10)) m_reduced := fun _ _ c =>
  (jb_cons (st_set c (Nb.by (by decide +kernel)) (x_call c.e d_divisor (by decide) (Ng.by (by decide +kernel)) (j_vcons (v_ c.e (Nm.by (by decide +kernel))) (j_vcons (v_ c.e (Nm.by (by decide +kernel))) j_vnil rfl) rfl) (lenS (lenS len0)) rfl rfl) rfl rfl)
  (jb_one (js_ret (j_tup (j_vcons (x_div (p_ c.e (Nm.by (by decide +kernel))) (p_ c.e (Nm.by (by decide +kernel)))) (j_vcons (x_div (p_ c.e (Nm.by (by decide +kernel))) (p_ c.e (Nm.by (by decide +kernel)))) j_vnil rfl) rfl)))))
theorem D_reduced (B : Bts mg) (d_divisor : Df P w K mg base C "divisor" 2 1 run_divisor) (F : FunD K "reduced" "reduced" (defArgs (top 10)) (defBody (top 10)) (defScope (top 10)) [] [] f fd) (hm : mg "reduced" = some (.ref f)) : Df P w K mg base C "reduced" 2 2 run_reduced := def_ok F S_reduced hm F.kp (F.bindsN fun _ _ _ _ _ _ us hl => match us, hl with | [_, _], _ => rfl) (b_reduced B d_divisor)
abbrev N_power_of : List Str := ["n", "many", "found", "turn"]
def m_power_of : MS :=
  (mSeq (mSet 2 (mC (.int 1)))
  (mSeq (mFor (mRange1 (maCons (mVar 1) maNil)) (mgName 3) (mSet 2 (mB fMul (mPk 2) (lPk 2) (mPk 0) (lPk 0))))
  (mRet (mVar 2))))
def run_power_of : UF := runF 2 4 m_power_of
theorem S_power_of : FnScope N_power_of ["n", "many"] (defScope (top 15)) := ⟨rfl, rfl, rfl, by decide +kernel, rfl, by decide +kernel, by decide +kernel⟩
theorem b_power_of (B : Bts mg) : ∀ (X : Cx) (W : WX), Cs P w K mg base N_power_of (defScope (top 15)) 0 X W → JB X C W (defBody (top 15)) m_power_of := fun _ _ c =>
  (jb_cons (st_set c (Nb.by (by decide +kernel)) j_int rfl rfl)
  (jb_cons (st_for c (x_range1 c.e B (Ng.by (by decide +kernel)) (j_vcons (v_ c.e (Nm.by (by decide +kernel))) j_vnil rfl) rfl) (tgC c (Nb.by (by decide +kernel))) (jb_one (st_set c (Nb.by (by decide +kernel)) (x_mul (p_ c.e (Nm.by (by decide +kernel))) (p_ c.e (Nm.by (by decide +kernel)))) rfl rfl)) (fun _ => rfl))
  (jb_one (js_ret (v_ c.e (Nm.by (by decide +kernel)))))))
theorem D_power_of (B : Bts mg) (F : FunD K "power_of" "power_of" (defArgs (top 15)) (defBody (top 15)) (defScope (top 15)) [] [] f fd) (hm : mg "power_of" = some (.ref f)) : Df P w K mg base C "power_of" 2 1 run_power_of := def_ok F S_power_of hm F.kp (F.bindsN fun _ _ _ _ _ _ us hl => match us, hl with | [_, _], _ => rfl) (b_power_of B)
abbrev N_worth_of : List Str := ["form", "n", "low", "top", "below", "power", "up", "down"]
def m_worth_of : MS :=
  (mSeq (mIfS (mB fEq (mPk 0) (lPk 0) (mTup maNil) lId) (mRet (mTup (maCons (mC (.int 0)) (maCons (mC (.int 1)) maNil)))) mSkip)
  (mSeq (mSet 2 (mB fIx (mB fIx (mPk 0) (lPk 0) (mC (.int 0)) lId) lId (mC (.int 0)) lId))
  (mSeq (mAsg (mgTup 2 (mgsCons (mgName 3) (mgsCons (mgName 4) mgsNil))) (mTup (maCons (mC (.int 0)) (maCons (mC (.int 1)) maNil))))
  (mSeq (mFor (mIt (mVar 0)) (mgTup 3 (mgsCons (mgName 5) (mgsCons (mgName 6) (mgsCons (mgName 7) mgsNil)))) (mAsg (mgTup 2 (mgsCons (mgName 3) (mgsCons (mgName 4) mgsNil))) (mUser run_reduced (maCons (mB fAdd (mB fMul (mPk 3) (lPk 3) (mPk 7) (lPk 7)) lId (mB fMul (mB fMul (mPk 6) (lPk 6) (mUser run_power_of (maCons (mVar 1) (maCons (mB fSub (mPk 5) (lPk 5) (mPk 2) (lPk 2)) maNil))) lId) lId (mPk 4) (lPk 4)) lId) (maCons (mB fMul (mPk 4) (lPk 4) (mPk 7) (lPk 7)) maNil)))))
  (mRet (mUser run_reduced (maCons (mB fMul (mPk 3) (lPk 3) (mUser run_power_of (maCons (mVar 1) (maCons (mVar 2) maNil))) lId) (maCons (mB fMul (mPk 4) (lPk 4) (mUser run_power_of (maCons (mVar 1) (maCons (mU fNeg (mPk 2) (lPk 2)) maNil))) lId) maNil))))))))
def run_worth_of : UF := runF 2 8 m_worth_of
theorem S_worth_of : FnScope N_worth_of ["form", "n"] (defScope (top 16)) := ⟨rfl, rfl, rfl, by decide +kernel, rfl, by decide +kernel, by decide +kernel⟩
theorem b_worth_of (B : Bts mg) (d_reduced : Df P w K mg base C "reduced" 2 2 run_reduced) (d_power_of : Df P w K mg base C "power_of" 2 1 run_power_of) : ∀ (X : Cx) (W : WX), Cs P w K mg base N_worth_of (defScope (top 16)) 2 X W → JB X C W (defBody (top 16)) m_worth_of := fun _ _ c =>
  (jb_cons (js_if (t_eq (p_ c.e (Nm.by (by decide +kernel))) (JE.o (j_tup j_vnil)) c.e rfl) (jb_one (js_ret (j_tup (j_vcons j_int (j_vcons j_int j_vnil rfl) rfl)))) jb_nil)
  (jb_cons (st_set c (Nb.by (by decide +kernel)) (x_ix (JE.o (x_ix (p_ c.e (Nm.by (by decide +kernel))) (JE.o j_int) (fun _ _ => rfl))) (JE.o j_int) (fun _ _ => rfl)) rfl rfl)
  (jb_cons (js_asg (jg_tup c.e.c.calm (jgs_cons (tgC c (Nb.by (by decide +kernel))) (jgs_cons (tgC c (Nb.by (by decide +kernel))) jgs_nil rfl) rfl) rfl rfl) (j_tup (j_vcons j_int (j_vcons j_int j_vnil rfl) rfl)) rfl (sw_by c.e.c.sc (fun _ => rfl)) rfl)
  (jb_cons (st_for c (j_it (v_ c.e (Nm.by (by decide +kernel)))) (jg_tup c.e.c.calm (jgs_cons (tgC c (Nb.by (by decide +kernel))) (jgs_cons (tgC c (Nb.by (by decide +kernel))) (jgs_cons (tgC c (Nb.by (by decide +kernel))) jgs_nil rfl) rfl) rfl) rfl rfl) (jb_one (js_asg (jg_tup c.e.c.calm (jgs_cons (tgC c (Nb.by (by decide +kernel))) (jgs_cons (tgC c (Nb.by (by decide +kernel))) jgs_nil rfl) rfl) rfl rfl) (x_call c.e d_reduced (by decide) (Ng.by (by decide +kernel)) (j_vcons (x_add (JE.o (x_mul (p_ c.e (Nm.by (by decide +kernel))) (p_ c.e (Nm.by (by decide +kernel))))) (JE.o (x_mul (JE.o (x_mul (p_ c.e (Nm.by (by decide +kernel))) (JE.o (x_call c.e d_power_of (by decide) (Ng.by (by decide +kernel)) (j_vcons (v_ c.e (Nm.by (by decide +kernel))) (j_vcons (x_sub (p_ c.e (Nm.by (by decide +kernel))) (p_ c.e (Nm.by (by decide +kernel)))) j_vnil rfl) rfl) (lenS (lenS len0)) rfl rfl)))) (p_ c.e (Nm.by (by decide +kernel)))))) (j_vcons (x_mul (p_ c.e (Nm.by (by decide +kernel))) (p_ c.e (Nm.by (by decide +kernel)))) j_vnil rfl) rfl) (lenS (lenS len0)) rfl rfl) rfl rfl rfl)) (fun _ => rfl))
  (jb_one (js_ret (x_call c.e d_reduced (by decide) (Ng.by (by decide +kernel)) (j_vcons (x_mul (p_ c.e (Nm.by (by decide +kernel))) (JE.o (x_call c.e d_power_of (by decide) (Ng.by (by decide +kernel)) (j_vcons (v_ c.e (Nm.by (by decide +kernel))) (j_vcons (v_ c.e (Nm.by (by decide +kernel))) j_vnil rfl) rfl) (lenS (lenS len0)) rfl rfl))) (j_vcons (x_mul (p_ c.e (Nm.by (by decide +kernel))) (JE.o (x_call c.e d_power_of (by decide) (Ng.by (by decide +kernel)) (j_vcons (v_ c.e (Nm.by (by decide +kernel))) (j_vcons (x_neg (p_ c.e (Nm.by (by decide +kernel)))) j_vnil rfl) rfl) (lenS (lenS len0)) rfl rfl))) j_vnil rfl) rfl) (lenS (lenS len0)) rfl rfl)))))))
theorem D_worth_of (B : Bts mg) (d_reduced : Df P w K mg base C "reduced" 2 2 run_reduced) (d_power_of : Df P w K mg base C "power_of" 2 1 run_power_of) (F : FunD K "worth_of" "worth_of" (defArgs (top 16)) (defBody (top 16)) (defScope (top 16)) [] [] f fd) (hm : mg "worth_of" = some (.ref f)) : Df P w K mg base C "worth_of" 2 3 run_worth_of := def_ok F S_worth_of hm F.kp (F.bindsN fun _ _ _ _ _ _ us hl => match us, hl with | [_, _], _ => rfl) (b_worth_of B d_reduced d_power_of)
abbrev N_worth : List Str := ["form", "n"]
def m_worth : MS :=
  (mSeq (mDrop (mUser run_need_form (maCons (mVar 0) maNil)))
  (mSeq (mDrop (mUser run_need_n (maCons (mVar 1) (maCons (mC (.int 1000000000000000000000000000000)) maNil))))
  (mRet (mUser run_worth_of (maCons (mVar 0) (maCons (mVar 1) maNil))))))
def run_worth : UF := runF 2 2 m_worth
theorem S_worth : FnScope N_worth ["form", "n"] (defScope (top 27)) := ⟨rfl, rfl, rfl, by decide +kernel, rfl, by decide +kernel, by decide +kernel⟩
theorem b_worth (B : Bts mg) (h_FAR : ∃ t, mg "FAR" = some (.int 1000000000000000000000000000000 t)) (d_need_form : Df P w K mg base C "need_form" 1 4 run_need_form) (d_need_n : Df P w K mg base C "need_n" 2 2 run_need_n) (d_worth_of : Df P w K mg base C "worth_of" 2 3 run_worth_of) : ∀ (X : Cx) (W : WX), Cs P w K mg base N_worth (defScope (top 27)) 4 X W → JB X C W (defBody (top 27)) m_worth := fun _ _ c =>
  (jb_cons (js_expr (x_call c.e d_need_form (by decide) (Ng.by (by decide +kernel)) (j_vcons (v_ c.e (Nm.by (by decide +kernel))) j_vnil rfl) (lenS len0) rfl rfl) rfl)
  (jb_cons (js_expr (x_call c.e d_need_n (by decide) (Ng.by (by decide +kernel)) (j_vcons (v_ c.e (Nm.by (by decide +kernel))) (j_vcons (g_int c.e (Ng.by (by decide +kernel)) h_FAR) j_vnil rfl) rfl) (lenS (lenS len0)) rfl rfl) rfl)
  (jb_one (js_ret (x_call c.e d_worth_of (by decide) (Ng.by (by decide +kernel)) (j_vcons (v_ c.e (Nm.by (by decide +kernel))) (j_vcons (v_ c.e (Nm.by (by decide +kernel))) j_vnil rfl) rfl) (lenS (lenS len0)) rfl rfl)))))
theorem D_worth (B : Bts mg) (h_FAR : ∃ t, mg "FAR" = some (.int 1000000000000000000000000000000 t)) (d_need_form : Df P w K mg base C "need_form" 1 4 run_need_form) (d_need_n : Df P w K mg base C "need_n" 2 2 run_need_n) (d_worth_of : Df P w K mg base C "worth_of" 2 3 run_worth_of) (F : FunD K "worth" "worth" (defArgs (top 27)) (defBody (top 27)) (defScope (top 27)) [] [] f fd) (hm : mg "worth" = some (.ref f)) : Df P w K mg base C "worth" 2 5 run_worth := def_ok F S_worth hm F.kp (F.bindsN fun _ _ _ _ _ _ us hl => match us, hl with | [_, _], _ => rfl) (b_worth B h_FAR d_need_form d_need_n d_worth_of)
abbrev N__law_refused : List Str := ["_law_source_here", "_law_form_here", "_law_words", "_law_odd_here", "e"]
def m__law_refused : MS :=
  (mSeq (mOwn 2 (mLst maNil))
  (mSeq (mFor (mIt (mLst (maCons (mB fAdd (mPk 1) (lPk 1) (mTup (maCons (mTup (maCons (mC (.int 0)) (maCons (mC (.int 0)) (maCons (mC (.int 1)) maNil)))) maNil)) lId) (maCons (mCall bList (maCons (mPk 1) maNil) (laCons (lPk 1) laNil)) (maCons (mC .non) (maCons (mC (.int 5)) maNil)))))) (mgName 3) (mSeq (mTryApp (mSeq (mDrop (mUser run_worth (maCons (mVar 3) (maCons (mC .non) maNil))))
  (mRet (mC (.bl false)))) ex_InvalidForm 4 2)
  (mTryApp (mSeq (mDrop (mUser run_sign_rows (maCons (mVar 3) maNil)))
  (mRet (mC (.bl false)))) ex_InvalidForm 4 2)))
  (mSeq (mFor (mIt (mLst (maCons (mC .non) (maCons (mC (.int 0)) (maCons (mB fAdd (mB fPow (mC (.int 10)) lId (mC (.int 30)) lId) lId (mC (.int 1)) lId) (maCons (mC (.bl true)) (maCons (mC (.str [49])) maNil))))))) (mgName 3) (mTryApp (mSeq (mDrop (mUser run_worth (maCons (mVar 1) (maCons (mVar 3) maNil))))
  (mRet (mC (.bl false)))) ex_InvalidNumber 4 2))
  (mRet (mB fNotIn (mC (.bl false)) lId (mPk 2) (lPk 2))))))
def run__law_refused : UF := runF 2 5 m__law_refused
theorem S__law_refused : FnScope N__law_refused ["_law_source_here", "_law_form_here"] (defScope (top 47)) := ⟨rfl, rfl, rfl, by decide +kernel, rfl, by decide +kernel, by decide +kernel⟩
theorem b__law_refused (B : Bts mg) (g_InvalidForm : mg "InvalidForm" = some (.ref (He.ga K "InvalidForm"))) (g_JoinError : mg "JoinError" = some (.ref (He.ga K "JoinError"))) (ca_InvalidForm : Caught K C (.ref (He.ga K "InvalidForm")) (.ref (He.ga K "JoinError")) ex_InvalidForm) (g_InvalidNumber : mg "InvalidNumber" = some (.ref (He.ga K "InvalidNumber"))) (ca_InvalidNumber : Caught K C (.ref (He.ga K "InvalidNumber")) (.ref (He.ga K "JoinError")) ex_InvalidNumber) (d_worth : Df P w K mg base C "worth" 2 5 run_worth) (d_sign_rows : Df P w K mg base C "sign_rows" 1 66 run_sign_rows) : ∀ (X : Cx) (W : WX), Cs P w K mg base N__law_refused (defScope (top 47)) 66 X W → JB X C W (defBody (top 47)) m__law_refused := fun _ _ c =>
  (jb_cons (st_own c (Nb.by (by decide +kernel)) (jf_lst j_vnil) rfl rfl)
  (jb_cons (st_for c (j_it (j_lst (j_vcons (x_add (p_ c.e (Nm.by (by decide +kernel))) (JE.o (j_tup (j_vcons (j_tup (j_vcons j_int (j_vcons j_int (j_vcons j_int j_vnil rfl) rfl) rfl)) j_vnil rfl)))) (j_vcons (x_list c.e B (j_acons (p_ c.e (Nm.by (by decide +kernel))) j_anil rfl) rfl rfl (Ng.by (by decide +kernel))) (j_vcons j_non (j_vcons j_int j_vnil rfl) rfl) rfl) rfl))) (tgC c (Nb.by (by decide +kernel))) (jb_cons (st_tryApp c B (Nl.by (by decide +kernel)) (Nm.by (by decide +kernel)) (Nm.by (by decide +kernel)) (Ng.by (by decide +kernel)) g_InvalidForm (Ng.by (by decide +kernel)) g_JoinError (Ng.by (by decide +kernel)) ca_InvalidForm (fun _ _ c => (jb_cons (js_expr (x_call c.e d_worth (by decide) (Ng.by (by decide +kernel)) (j_vcons (v_ c.e (Nm.by (by decide +kernel))) (j_vcons j_non j_vnil rfl) rfl) (lenS (lenS len0)) rfl rfl) rfl)
  (jb_one (js_ret j_bl)))) (fun _ => rfl) (fun _ => rfl) rfl)
  (jb_one (st_tryApp c B (Nl.by (by decide +kernel)) (Nm.by (by decide +kernel)) (Nm.by (by decide +kernel)) (Ng.by (by decide +kernel)) g_InvalidForm (Ng.by (by decide +kernel)) g_JoinError (Ng.by (by decide +kernel)) ca_InvalidForm (fun _ _ c => (jb_cons (js_expr (x_call c.e d_sign_rows (by decide) (Ng.by (by decide +kernel)) (j_vcons (v_ c.e (Nm.by (by decide +kernel))) j_vnil rfl) (lenS len0) rfl rfl) rfl)
  (jb_one (js_ret j_bl)))) (fun _ => rfl) (fun _ => rfl) rfl))) (fun _ => rfl))
  (jb_cons (st_for c (j_it (j_lst (j_vcons j_non (j_vcons j_int (j_vcons (x_add (JE.o (x_pow (JE.o j_int) (JE.o j_int))) (JE.o j_int)) (j_vcons j_bl (j_vcons (j_str rfl) j_vnil rfl) rfl) rfl) rfl) rfl))) (tgC c (Nb.by (by decide +kernel))) (jb_one (st_tryApp c B (Nl.by (by decide +kernel)) (Nm.by (by decide +kernel)) (Nm.by (by decide +kernel)) (Ng.by (by decide +kernel)) g_InvalidNumber (Ng.by (by decide +kernel)) g_JoinError (Ng.by (by decide +kernel)) ca_InvalidNumber (fun _ _ c => (jb_cons (js_expr (x_call c.e d_worth (by decide) (Ng.by (by decide +kernel)) (j_vcons (v_ c.e (Nm.by (by decide +kernel))) (j_vcons (v_ c.e (Nm.by (by decide +kernel))) j_vnil rfl) rfl) (lenS (lenS len0)) rfl rfl) rfl)
  (jb_one (js_ret j_bl)))) (fun _ => rfl) (fun _ => rfl) rfl)) (fun _ => rfl))
  (jb_one (js_ret (x_notin (JE.o j_bl) (p_ c.e (Nm.by (by decide +kernel))) rfl))))))
theorem D__law_refused (B : Bts mg) (g_InvalidForm : mg "InvalidForm" = some (.ref (He.ga K "InvalidForm"))) (g_JoinError : mg "JoinError" = some (.ref (He.ga K "JoinError"))) (ca_InvalidForm : Caught K C (.ref (He.ga K "InvalidForm")) (.ref (He.ga K "JoinError")) ex_InvalidForm) (g_InvalidNumber : mg "InvalidNumber" = some (.ref (He.ga K "InvalidNumber"))) (ca_InvalidNumber : Caught K C (.ref (He.ga K "InvalidNumber")) (.ref (He.ga K "JoinError")) ex_InvalidNumber) (d_worth : Df P w K mg base C "worth" 2 5 run_worth) (d_sign_rows : Df P w K mg base C "sign_rows" 1 66 run_sign_rows) (F : FunD K "_law_refused" "_law_refused" (defArgs (top 47)) (defBody (top 47)) (defScope (top 47)) [] [] f fd) (hm : mg "_law_refused" = some (.ref f)) : Df P w K mg base C "_law_refused" 2 67 run__law_refused := def_ok F S__law_refused hm F.kp (F.bindsN fun _ _ _ _ _ _ us hl => match us, hl with | [_, _], _ => rfl) (b__law_refused B g_InvalidForm g_JoinError ca_InvalidForm g_InvalidNumber ca_InvalidNumber d_worth d_sign_rows)
abbrev N__law_odd : List Str := ["_law_source_here", "_law_items"]
def m__law_odd : MS :=
  (mSeq (mSet 1 (mLst (maCons (mC .non) (maCons (mC (.bl true)) (maCons (mC (.bl false)) (maCons (mC (.int 0)) (maCons (mC (.int 1)) (maCons (mU fNeg (mC (.int 20)) lId) (maCons (mC (.int 21)) (maCons (mB fAdd (mB fPow (mC (.int 10)) lId (mC (.int 20)) lId) lId (mC (.int 1)) lId) (maCons (mC (.str [])) (maCons (mTup maNil) (maCons (mLst maNil) (maCons (mTup (maCons (mC (.int 0)) (maCons (mC (.int 1)) maNil))) maNil))))))))))))))
  (mRet (mUserB run__law_of 0 (maCons (mB fAdd (mPk 1) (lPk 1) (mLst (maCons (mTup (maCons (mC (.int 0)) (maCons (mC (.int 1)) (maCons (mC (.int 1)) maNil)))) (maCons (mTup (maCons (mC (.int 1)) (maCons (mC (.int 2)) (maCons (mC (.int 4)) maNil)))) (maCons (mTup (maCons (mC (.int 0)) (maCons (mC (.int 0)) (maCons (mC (.int 1)) maNil)))) (maCons (mC (.int 7)) maNil))))) lId) maNil))))
def run__law_odd : UF := runF 1 2 m__law_odd
theorem S__law_odd : FnScope N__law_odd ["_law_source_here"] (defScope (top 44)) := ⟨rfl, rfl, rfl, by decide +kernel, rfl, by decide +kernel, by decide +kernel⟩
theorem b__law_odd (B : Bts mg) (d__law_of : Df P w K mg base C "_law_of" 2 2 run__law_of) : ∀ (X : Cx) (W : WX), Cs P w K mg base N__law_odd (defScope (top 44)) 2 X W → JB X C W (defBody (top 44)) m__law_odd := fun _ _ c =>
  (jb_cons (st_set c (Nb.by (by decide +kernel)) (j_lst (j_vcons j_non (j_vcons j_bl (j_vcons j_bl (j_vcons j_int (j_vcons j_int (j_vcons (x_neg (JE.o j_int)) (j_vcons j_int (j_vcons (x_add (JE.o (x_pow (JE.o j_int) (JE.o j_int))) (JE.o j_int)) (j_vcons (j_str rfl) (j_vcons (j_tup j_vnil) (j_vcons (j_lst j_vnil) (j_vcons (j_tup (j_vcons j_int (j_vcons j_int j_vnil rfl) rfl)) j_vnil rfl) rfl) rfl) rfl) rfl) rfl) rfl) rfl) rfl) rfl) rfl) rfl)) rfl rfl)
  (jb_one (js_ret (x_lent c.e d__law_of (by decide) (Ng.by (by decide +kernel)) (Nm.by (by decide +kernel)) (j_vcons (x_add (p_ c.e (Nm.by (by decide +kernel))) (JE.o (j_lst (j_vcons (j_tup (j_vcons j_int (j_vcons j_int (j_vcons j_int j_vnil rfl) rfl) rfl)) (j_vcons (j_tup (j_vcons j_int (j_vcons j_int (j_vcons j_int j_vnil rfl) rfl) rfl)) (j_vcons (j_tup (j_vcons j_int (j_vcons j_int (j_vcons j_int j_vnil rfl) rfl) rfl)) (j_vcons j_int j_vnil rfl) rfl) rfl) rfl)))) j_vnil rfl) (lenS len0) rfl rfl))))
theorem D__law_odd (B : Bts mg) (d__law_of : Df P w K mg base C "_law_of" 2 2 run__law_of) (F : FunD K "_law_odd" "_law_odd" (defArgs (top 44)) (defBody (top 44)) (defScope (top 44)) [] [] f fd) (hm : mg "_law_odd" = some (.ref f)) : Df P w K mg base C "_law_odd" 1 3 run__law_odd := def_ok F S__law_odd hm F.kp (F.bindsN fun _ _ _ _ _ _ us hl => match us, hl with | [_], _ => rfl) (b__law_odd B d__law_of)
abbrev N__law_spoilt : List Str := ["_law_source_here", "_law_value", "_law_at_here", "_law_mode"]
def m__law_spoilt (self : UF) : MS :=
  (mSeq (mIfS (mOr (mNot (mU isTup (mPk 1) (lPk 1))) (mOr (mB fEq (mPk 1) (lPk 1) (mTup maNil) lId) (mB fEq (mUserB run__law_draw 0 (maCons (mC (.int 6)) maNil)) lId (mC (.int 0)) lId))) (mRet (mUserB run__law_odd 0 maNil)) mSkip)
  (mSeq (mPar 2 3 (maCons (mUserB run__law_draw 0 (maCons (mCall bLen (maCons (mPk 1) maNil) (laCons (lPk 1) laNil)) maNil)) (maCons (mUserB run__law_draw 0 (maCons (mC (.int 8)) maNil)) maNil)))
  (mSeq (mIfS (mB fEq (mPk 3) (lPk 3) (mC (.int 0)) lId) (mRet (mB fAdd (mSl (mPk 1) (lPk 1) (mC .non) (mPrt (mVar 2))) lId (mSl (mPk 1) (lPk 1) (mPrt (mB fAdd (mPk 2) (lPk 2) (mC (.int 1)) lId)) (mC .non)) lId)) mSkip)
  (mSeq (mIfS (mB fEq (mPk 3) (lPk 3) (mC (.int 1)) lId) (mRet (mB fAdd (mSl (mPk 1) (lPk 1) (mC .non) (mPrt (mB fAdd (mPk 2) (lPk 2) (mC (.int 1)) lId))) lId (mSl (mPk 1) (lPk 1) (mPrt (mVar 2)) (mC .non)) lId)) mSkip)
  (mSeq (mIfS (mB fEq (mPk 3) (lPk 3) (mC (.int 2)) lId) (mRet (mCall bList (maCons (mPk 1) maNil) (laCons (lPk 1) laNil))) mSkip)
  (mSeq (mIfS (mB fEq (mPk 3) (lPk 3) (mC (.int 3)) lId) (mRet (mU fRevT (mPk 1) (lPk 1))) mSkip)
  (mRet (mB fAdd (mB fAdd (mSl (mPk 1) (lPk 1) (mC .non) (mPrt (mVar 2))) lId (mTup (maCons (mUserB self 0 (maCons (mB fIx (mPk 1) (lPk 1) (mPk 2) (lPk 2)) maNil)) maNil)) lId) lId (mSl (mPk 1) (lPk 1) (mPrt (mB fAdd (mPk 2) (lPk 2) (mC (.int 1)) lId)) (mC .non)) lId))))))))
def run__law_spoilt : Nat → UF
  | 0 => runBad
  | n + 1 => runF 2 4 (m__law_spoilt (run__law_spoilt n))
theorem S__law_spoilt : FnScope N__law_spoilt ["_law_source_here", "_law_value"] (defScope (top 45)) := ⟨rfl, rfl, rfl, by decide +kernel, rfl, by decide +kernel, by decide +kernel⟩
theorem b__law_spoilt (B : Bts mg) (d__law_odd : Df P w K mg base C "_law_odd" 1 3 run__law_odd) (d__law_draw : Df P w K mg base C "_law_draw" 2 1 run__law_draw) {k : Nat} (hk : 3 ≤ k) {self : UF} (dself : Df P w K mg base C "_law_spoilt" 2 k self) : ∀ (X : Cx) (W : WX), Cs P w K mg base N__law_spoilt (defScope (top 45)) k X W → JB X C W (defBody (top 45)) (m__law_spoilt self) := fun _ _ c =>
  (jb_cons (js_if (JW.t (jw_or (jt_not (jt_val (x_isTup c.e B (p_ c.e (Nm.by (by decide +kernel))) (Ng.by (by decide +kernel)) (Ng.by (by decide +kernel)) rfl) (fun _ => rfl))) (jw_or (t_eq (p_ c.e (Nm.by (by decide +kernel))) (JE.o (j_tup j_vnil)) c.e rfl) (jw_or1 (t_eq (JE.o (x_lent c.e d__law_draw (Nat.le_trans (by decide) hk) (Ng.by (by decide +kernel)) (Nm.by (by decide +kernel)) (j_vcons j_int j_vnil rfl) (lenS len0) rfl rfl)) (JE.o j_int) c.e rfl))))) (jb_one (js_ret (x_lent c.e d__law_odd (Nat.le_trans (by decide) hk) (Ng.by (by decide +kernel)) (Nm.by (by decide +kernel)) j_vnil len0 rfl rfl))) jb_nil)
  (jb_cons (st_par c (Nl.by (by decide +kernel)) (Nl.by (by decide +kernel)) (by decide) (j_vcons (x_lent c.e d__law_draw (Nat.le_trans (by decide) hk) (Ng.by (by decide +kernel)) (Nm.by (by decide +kernel)) (j_vcons (x_len c.e B (j_acons (p_ c.e (Nm.by (by decide +kernel))) j_anil rfl) rfl rfl (Ng.by (by decide +kernel))) j_vnil rfl) (lenS len0) rfl rfl) (j_vcons (x_lent c.e d__law_draw (Nat.le_trans (by decide) hk) (Ng.by (by decide +kernel)) (Nm.by (by decide +kernel)) (j_vcons j_int j_vnil rfl) (lenS len0) rfl rfl) j_vnil rfl) rfl) (fun _ => rfl) rfl)
  (jb_cons (js_if (t_eq (p_ c.e (Nm.by (by decide +kernel))) (JE.o j_int) c.e rfl) (jb_one (js_ret (x_add (JE.o (j_sl (p_ c.e (Nm.by (by decide +kernel))) jp_none (jp_of (v_ c.e (Nm.by (by decide +kernel)))))) (JE.o (j_sl (p_ c.e (Nm.by (by decide +kernel))) (jp_of (x_add (p_ c.e (Nm.by (by decide +kernel))) (JE.o j_int))) jp_none))))) jb_nil)
  (jb_cons (js_if (t_eq (p_ c.e (Nm.by (by decide +kernel))) (JE.o j_int) c.e rfl) (jb_one (js_ret (x_add (JE.o (j_sl (p_ c.e (Nm.by (by decide +kernel))) jp_none (jp_of (x_add (p_ c.e (Nm.by (by decide +kernel))) (JE.o j_int))))) (JE.o (j_sl (p_ c.e (Nm.by (by decide +kernel))) (jp_of (v_ c.e (Nm.by (by decide +kernel)))) jp_none))))) jb_nil)
  (jb_cons (js_if (t_eq (p_ c.e (Nm.by (by decide +kernel))) (JE.o j_int) c.e rfl) (jb_one (js_ret (x_list c.e B (j_acons (p_ c.e (Nm.by (by decide +kernel))) j_anil rfl) rfl rfl (Ng.by (by decide +kernel))))) jb_nil)
  (jb_cons (js_if (t_eq (p_ c.e (Nm.by (by decide +kernel))) (JE.o j_int) c.e rfl) (jb_one (js_ret (j_revT (p_ c.e (Nm.by (by decide +kernel)))))) jb_nil)
  (jb_one (js_ret (x_add (JE.o (x_add (JE.o (j_sl (p_ c.e (Nm.by (by decide +kernel))) jp_none (jp_of (v_ c.e (Nm.by (by decide +kernel)))))) (JE.o (j_tup (j_vcons (x_lent c.e dself (Nat.le_refl _) (Ng.by (by decide +kernel)) (Nm.by (by decide +kernel)) (j_vcons (x_ix (p_ c.e (Nm.by (by decide +kernel))) (p_ c.e (Nm.by (by decide +kernel))) (fun _ _ => rfl)) j_vnil rfl) (lenS len0) rfl rfl) j_vnil rfl))))) (JE.o (j_sl (p_ c.e (Nm.by (by decide +kernel))) (jp_of (x_add (p_ c.e (Nm.by (by decide +kernel))) (JE.o j_int))) jp_none)))))))))))
theorem D__law_spoilt (B : Bts mg) (d__law_odd : Df P w K mg base C "_law_odd" 1 3 run__law_odd) (d__law_draw : Df P w K mg base C "_law_draw" 2 1 run__law_draw) (F : FunD K "_law_spoilt" "_law_spoilt" (defArgs (top 45)) (defBody (top 45)) (defScope (top 45)) [] [] f fd) (hm : mg "_law_spoilt" = some (.ref f)) : ∀ n : Nat, Df P w K mg base C "_law_spoilt" 2 (4 + n) (run__law_spoilt n)
  | 0 => def_bad F S__law_spoilt hm F.kp (F.bindsN fun _ _ _ _ _ _ us hl => match us, hl with | [_, _], _ => rfl)
  | n + 1 => def_ok F S__law_spoilt hm F.kp (F.bindsN fun _ _ _ _ _ _ us hl => match us, hl with | [_, _], _ => rfl) (b__law_spoilt B d__law_odd d__law_draw (Nat.le_trans (by decide) (Nat.le_add_right 4 n)) (D__law_spoilt B d__law_odd d__law_draw F hm n))
abbrev N__law_is_int : List Str := ["_law_value", "_law_least", "_law_top"]
def m__law_is_int : MS :=
  (mRet (mAnd (mU isInt (mPk 0) (lPk 0)) (mAnd (mNot (mU isBool (mPk 0) (lPk 0))) (mChain fLe fLe (mPk 1) (lPk 1) (mPk 0) (lPk 0) (mPk 2) (lPk 2)))))
def run__law_is_int : UF := runF 3 3 m__law_is_int
theorem S__law_is_int : FnScope N__law_is_int ["_law_value", "_law_least", "_law_top"] (defScope (top 40)) := ⟨rfl, rfl, rfl, by decide +kernel, rfl, by decide +kernel, by decide +kernel⟩
theorem b__law_is_int (B : Bts mg) : ∀ (X : Cx) (W : WX), Cs P w K mg base N__law_is_int (defScope (top 40)) 0 X W → JB X C W (defBody (top 40)) m__law_is_int := fun _ _ c =>
  (jb_one (js_ret (jv_and (x_isInt c.e B (p_ c.e (Nm.by (by decide +kernel))) (Ng.by (by decide +kernel)) (Ng.by (by decide +kernel)) rfl) (jv_and (jv_not (x_isBool c.e B (p_ c.e (Nm.by (by decide +kernel))) (Ng.by (by decide +kernel)) (Ng.by (by decide +kernel)) rfl)) (jv_one (x_ch (p_ c.e (Nm.by (by decide +kernel))) (p_ c.e (Nm.by (by decide +kernel))) (p_ c.e (Nm.by (by decide +kernel))) rfl))))))
theorem D__law_is_int (B : Bts mg) (F : FunD K "_law_is_int" "_law_is_int" (defArgs (top 40)) (defBody (top 40)) (defScope (top 40)) [] [] f fd) (hm : mg "_law_is_int" = some (.ref f)) : Df P w K mg base C "_law_is_int" 3 1 run__law_is_int := def_ok F S__law_is_int hm F.kp (F.bindsN fun _ _ _ _ _ _ us hl => match us, hl with | [_, _, _], _ => rfl) (b__law_is_int B)
abbrev N__law_is_form : List Str := ["_law_value", "_law_last", "_law_part"]
def m__law_is_form : MS :=
  (mSeq (mIfS (mOr (mNot (mU isTup (mPk 0) (lPk 0))) (mB fGt (mCall bLen (maCons (mPk 0) maNil) (laCons (lPk 0) laNil)) lId (mC (.int 12)) lId)) (mRet (mC (.bl false))) mSkip)
  (mSeq (mSet 1 (mU fNeg (mC (.int 21)) lId))
  (mSeq (mFor (mIt (mVar 0)) (mgName 2) (mSeq (mIfS (mOr (mNot (mU isTup (mPk 2) (lPk 2))) (mOr (mB fNe (mCall bLen (maCons (mPk 2) maNil) (laCons (lPk 2) laNil)) lId (mC (.int 3)) lId) (mNot (mUser run__law_is_int (maCons (mB fIx (mPk 2) (lPk 2) (mC (.int 0)) lId) (maCons (mB fAdd (mPk 1) (lPk 1) (mC (.int 1)) lId) (maCons (mC (.int 20)) maNil))))))) (mRet (mC (.bl false))) mSkip)
  (mSeq (mIfS (mOr (mNot (mUser run__law_is_int (maCons (mB fIx (mPk 2) (lPk 2) (mC (.int 1)) lId) (maCons (mU fNeg (mB fPow (mC (.int 10)) lId (mC (.int 20)) lId) lId) (maCons (mB fPow (mC (.int 10)) lId (mC (.int 20)) lId) maNil))))) (mNot (mUser run__law_is_int (maCons (mB fIx (mPk 2) (lPk 2) (mC (.int 2)) lId) (maCons (mC (.int 1)) (maCons (mB fPow (mC (.int 10)) lId (mC (.int 20)) lId) maNil)))))) (mRet (mC (.bl false))) mSkip)
  (mSeq (mIfS (mOr (mB fEq (mB fIx (mPk 2) (lPk 2) (mC (.int 1)) lId) lId (mC (.int 0)) lId) (mB fNe (mUser run__law_common (maCons (mB fIx (mPk 2) (lPk 2) (mC (.int 1)) lId) (maCons (mB fIx (mPk 2) (lPk 2) (mC (.int 2)) lId) maNil))) lId (mC (.int 1)) lId)) (mRet (mC (.bl false))) mSkip)
  (mSet 1 (mB fIx (mPk 2) (lPk 2) (mC (.int 0)) lId))))))
  (mRet (mC (.bl true))))))
def run__law_is_form : UF := runF 1 3 m__law_is_form
theorem S__law_is_form : FnScope N__law_is_form ["_law_value"] (defScope (top 41)) := ⟨rfl, rfl, rfl, by decide +kernel, rfl, by decide +kernel, by decide +kernel⟩
theorem b__law_is_form (B : Bts mg) (d__law_is_int : Df P w K mg base C "_law_is_int" 3 1 run__law_is_int) (d__law_common : Df P w K mg base C "_law_common" 2 1 run__law_common) : ∀ (X : Cx) (W : WX), Cs P w K mg base N__law_is_form (defScope (top 41)) 1 X W → JB X C W (defBody (top 41)) m__law_is_form := fun _ _ c =>
  (jb_cons (js_if (JW.t (jw_or (jt_not (jt_val (x_isTup c.e B (p_ c.e (Nm.by (by decide +kernel))) (Ng.by (by decide +kernel)) (Ng.by (by decide +kernel)) rfl) (fun _ => rfl))) (jw_or1 (t_gt (JE.o (x_len c.e B (j_acons (p_ c.e (Nm.by (by decide +kernel))) j_anil rfl) rfl rfl (Ng.by (by decide +kernel)))) (JE.o j_int) rfl)))) (jb_one (js_ret j_bl)) jb_nil)
  (jb_cons (st_set c (Nb.by (by decide +kernel)) (x_neg (JE.o j_int)) rfl rfl)
  (jb_cons (st_for c (j_it (v_ c.e (Nm.by (by decide +kernel)))) (tgC c (Nb.by (by decide +kernel))) (jb_cons (js_if (JW.t (jw_or (jt_not (jt_val (x_isTup c.e B (p_ c.e (Nm.by (by decide +kernel))) (Ng.by (by decide +kernel)) (Ng.by (by decide +kernel)) rfl) (fun _ => rfl))) (jw_or (t_ne (JE.o (x_len c.e B (j_acons (p_ c.e (Nm.by (by decide +kernel))) j_anil rfl) rfl rfl (Ng.by (by decide +kernel)))) (JE.o j_int) c.e rfl) (jw_or1 (jt_not (jt_val (x_call c.e d__law_is_int (by decide) (Ng.by (by decide +kernel)) (j_vcons (x_ix (p_ c.e (Nm.by (by decide +kernel))) (JE.o j_int) (fun _ _ => rfl)) (j_vcons (x_add (p_ c.e (Nm.by (by decide +kernel))) (JE.o j_int)) (j_vcons j_int j_vnil rfl) rfl) rfl) (lenS (lenS (lenS len0))) rfl rfl) (fun _ => rfl))))))) (jb_one (js_ret j_bl)) jb_nil)
  (jb_cons (js_if (JW.t (jw_or (jt_not (jt_val (x_call c.e d__law_is_int (by decide) (Ng.by (by decide +kernel)) (j_vcons (x_ix (p_ c.e (Nm.by (by decide +kernel))) (JE.o j_int) (fun _ _ => rfl)) (j_vcons (x_neg (JE.o (x_pow (JE.o j_int) (JE.o j_int)))) (j_vcons (x_pow (JE.o j_int) (JE.o j_int)) j_vnil rfl) rfl) rfl) (lenS (lenS (lenS len0))) rfl rfl) (fun _ => rfl))) (jw_or1 (jt_not (jt_val (x_call c.e d__law_is_int (by decide) (Ng.by (by decide +kernel)) (j_vcons (x_ix (p_ c.e (Nm.by (by decide +kernel))) (JE.o j_int) (fun _ _ => rfl)) (j_vcons j_int (j_vcons (x_pow (JE.o j_int) (JE.o j_int)) j_vnil rfl) rfl) rfl) (lenS (lenS (lenS len0))) rfl rfl) (fun _ => rfl)))))) (jb_one (js_ret j_bl)) jb_nil)
  (jb_cons (js_if (JW.t (jw_or (t_eq (JE.o (x_ix (p_ c.e (Nm.by (by decide +kernel))) (JE.o j_int) (fun _ _ => rfl))) (JE.o j_int) c.e rfl) (jw_or1 (t_ne (JE.o (x_call c.e d__law_common (by decide) (Ng.by (by decide +kernel)) (j_vcons (x_ix (p_ c.e (Nm.by (by decide +kernel))) (JE.o j_int) (fun _ _ => rfl)) (j_vcons (x_ix (p_ c.e (Nm.by (by decide +kernel))) (JE.o j_int) (fun _ _ => rfl)) j_vnil rfl) rfl) (lenS (lenS len0)) rfl rfl)) (JE.o j_int) c.e rfl)))) (jb_one (js_ret j_bl)) jb_nil)
  (jb_one (st_set c (Nb.by (by decide +kernel)) (x_ix (p_ c.e (Nm.by (by decide +kernel))) (JE.o j_int) (fun _ _ => rfl)) rfl rfl))))) (fun _ => rfl))
  (jb_one (js_ret j_bl)))))
theorem D__law_is_form (B : Bts mg) (d__law_is_int : Df P w K mg base C "_law_is_int" 3 1 run__law_is_int) (d__law_common : Df P w K mg base C "_law_common" 2 1 run__law_common) (F : FunD K "_law_is_form" "_law_is_form" (defArgs (top 41)) (defBody (top 41)) (defScope (top 41)) [] [] f fd) (hm : mg "_law_is_form" = some (.ref f)) : Df P w K mg base C "_law_is_form" 1 2 run__law_is_form := def_ok F S__law_is_form hm F.kp (F.bindsN fun _ _ _ _ _ _ us hl => match us, hl with | [_], _ => rfl) (b__law_is_form B d__law_is_int d__law_common)
abbrev N__law_rows_good : List Str := ["_law_rows", "_law_one", "_law_other"]
def m__law_rows_good : MS :=
  (mSeq (mIfS (mOr (mNot (mU isTup (mPk 0) (lPk 0))) (mB fEq (mPk 0) (lPk 0) (mTup maNil) lId)) (mRet (mC (.bl false))) mSkip)
  (mSeq (mIfS (mOr (mB fNe (mB fIx (mB fIx (mPk 0) (lPk 0) (mC (.int 0)) lId) lId (mC (.int 0)) lId) lId (mC (.int 1)) lId) (mB fNotN (mB fIx (mB fIx (mPk 0) (lPk 0) (mU fNeg (mC (.int 1)) lId) lId) lId (mC (.int 1)) lId) lId (mC .non) lId)) (mRet (mC (.bl false))) mSkip)
  (mSeq (mFor (mZip (maCons (mVar 0) (maCons (mSl (mPk 0) (lPk 0) (mPrt (mC (.int 1))) (mC .non)) maNil))) (mgTup 2 (mgsCons (mgName 1) (mgsCons (mgName 2) mgsNil))) (mSeq (mIfS (mOr (mB fIsN (mB fIx (mPk 1) (lPk 1) (mC (.int 1)) lId) lId (mC .non) lId) (mOr (mB fLt (mB fIx (mPk 1) (lPk 1) (mC (.int 1)) lId) lId (mB fIx (mPk 1) (lPk 1) (mC (.int 0)) lId) lId) (mB fEq (mB fIx (mPk 1) (lPk 1) (mC (.int 2)) lId) lId (mB fIx (mPk 2) (lPk 2) (mC (.int 2)) lId) lId))) (mRet (mC (.bl false))) mSkip)
  (mIfS (mB fNe (mB fIx (mPk 2) (lPk 2) (mC (.int 0)) lId) lId (mB fAdd (mB fIx (mPk 1) (lPk 1) (mC (.int 1)) lId) lId (mC (.int 1)) lId) lId) (mRet (mC (.bl false))) mSkip)))
  (mRet (mC (.bl true))))))
def run__law_rows_good : UF := runF 1 3 m__law_rows_good
theorem S__law_rows_good : FnScope N__law_rows_good ["_law_rows"] (defScope (top 38)) := ⟨rfl, rfl, rfl, by decide +kernel, rfl, by decide +kernel, by decide +kernel⟩
theorem b__law_rows_good (B : Bts mg) : ∀ (X : Cx) (W : WX), Cs P w K mg base N__law_rows_good (defScope (top 38)) 0 X W → JB X C W (defBody (top 38)) m__law_rows_good := fun _ _ c =>
  (jb_cons (js_if (JW.t (jw_or (jt_not (jt_val (x_isTup c.e B (p_ c.e (Nm.by (by decide +kernel))) (Ng.by (by decide +kernel)) (Ng.by (by decide +kernel)) rfl) (fun _ => rfl))) (jw_or1 (t_eq (p_ c.e (Nm.by (by decide +kernel))) (JE.o (j_tup j_vnil)) c.e rfl)))) (jb_one (js_ret j_bl)) jb_nil)
  (jb_cons (js_if (JW.t (jw_or (t_ne (JE.o (x_ix (JE.o (x_ix (p_ c.e (Nm.by (by decide +kernel))) (JE.o j_int) (fun _ _ => rfl))) (JE.o j_int) (fun _ _ => rfl))) (JE.o j_int) c.e rfl) (jw_or1 (t_isnot (JE.o (x_ix (JE.o (x_ix (p_ c.e (Nm.by (by decide +kernel))) (JE.o (x_neg (JE.o j_int))) (fun _ _ => rfl))) (JE.o j_int) (fun _ _ => rfl))) (JE.o j_non) rfl)))) (jb_one (js_ret j_bl)) jb_nil)
  (jb_cons (st_for c (x_zip c.e B (Ng.by (by decide +kernel)) (j_vcons (v_ c.e (Nm.by (by decide +kernel))) (j_vcons (j_sl (p_ c.e (Nm.by (by decide +kernel))) (jp_of j_int) jp_none) j_vnil rfl) rfl) rfl rfl) (jg_tup c.e.c.calm (jgs_cons (tgC c (Nb.by (by decide +kernel))) (jgs_cons (tgC c (Nb.by (by decide +kernel))) jgs_nil rfl) rfl) rfl rfl) (jb_cons (js_if (JW.t (jw_or (t_is (JE.o (x_ix (p_ c.e (Nm.by (by decide +kernel))) (JE.o j_int) (fun _ _ => rfl))) (JE.o j_non) rfl) (jw_or (t_lt (JE.o (x_ix (p_ c.e (Nm.by (by decide +kernel))) (JE.o j_int) (fun _ _ => rfl))) (JE.o (x_ix (p_ c.e (Nm.by (by decide +kernel))) (JE.o j_int) (fun _ _ => rfl))) c.e rfl) (jw_or1 (t_eq (JE.o (x_ix (p_ c.e (Nm.by (by decide +kernel))) (JE.o j_int) (fun _ _ => rfl))) (JE.o (x_ix (p_ c.e (Nm.by (by decide +kernel))) (JE.o j_int) (fun _ _ => rfl))) c.e rfl))))) (jb_one (js_ret j_bl)) jb_nil)
  (jb_one (js_if (t_ne (JE.o (x_ix (p_ c.e (Nm.by (by decide +kernel))) (JE.o j_int) (fun _ _ => rfl))) (JE.o (x_add (JE.o (x_ix (p_ c.e (Nm.by (by decide +kernel))) (JE.o j_int) (fun _ _ => rfl))) (JE.o j_int))) c.e rfl) (jb_one (js_ret j_bl)) jb_nil))) (fun _ => rfl))
  (jb_one (js_ret j_bl)))))
theorem D__law_rows_good (B : Bts mg) (F : FunD K "_law_rows_good" "_law_rows_good" (defArgs (top 38)) (defBody (top 38)) (defScope (top 38)) [] [] f fd) (hm : mg "_law_rows_good" = some (.ref f)) : Df P w K mg base C "_law_rows_good" 1 1 run__law_rows_good := def_ok F S__law_rows_good hm F.kp (F.bindsN fun _ _ _ _ _ _ us hl => match us, hl with | [_], _ => rfl) (b__law_rows_good B)
abbrev N__law_spots : List Str := ["_law_source_here", "_law_rows", "_law_found", "_law_least", "_law_most", "_law_item"]
def m__law_spots : MS :=
  (mSeq (mSet 2 (mLst (maCons (mC (.int 1)) (maCons (mC (.int 2)) (maCons (mC (.int 3)) (maCons (mC (.int 4)) (maCons (mC (.int 5)) (maCons (mC (.int 6)) (maCons (mC (.int 7)) (maCons (mC (.int 8)) (maCons (mC (.int 9)) (maCons (mC (.int 10)) (maCons (mC (.int 11)) (maCons (mC (.int 12)) (maCons (mC (.int 30)) (maCons (mB fAdd (mC (.int 1)) lId (mUserB run__law_draw 0 (maCons (mC (.int 2000)) maNil)) lId) maNil))))))))))))))))
  (mSeq (mFor (mIt (mVar 1)) (mgTup 3 (mgsCons (mgName 3) (mgsCons (mgName 4) (mgsCons (mgName 5) mgsNil)))) (mSeq (mSet 2 (mB fAdd (mPk 2) (lPk 2) (mLst (maCons (mVar 3) (maCons (mB fAdd (mPk 3) (lPk 3) (mC (.int 1)) lId) maNil))) lId))
  (mIfS (mB fNotN (mPk 4) (lPk 4) (mC .non) lId) (mSet 2 (mB fAdd (mPk 2) (lPk 2) (mLst (maCons (mVar 4) (maCons (mCall bMax (maCons (mC (.int 1)) (maCons (mB fSub (mPk 4) (lPk 4) (mC (.int 1)) lId) maNil)) (laCons lId (laCons lId laNil))) maNil))) lId)) mSkip)))
  (mRet (mB fAdd (mPk 2) (lPk 2) (mLst (maCons (mB fAdd (mB fPow (mC (.int 10)) lId (mC (.int 9)) lId) lId (mUserB run__law_draw 0 (maCons (mB fPow (mC (.int 10)) lId (mC (.int 9)) lId) maNil)) lId) (maCons (mB fPow (mC (.int 10)) lId (mC (.int 30)) lId) maNil))) lId))))
def run__law_spots : UF := runF 2 6 m__law_spots
theorem S__law_spots : FnScope N__law_spots ["_law_source_here", "_law_rows"] (defScope (top 39)) := ⟨rfl, rfl, rfl, by decide +kernel, rfl, by decide +kernel, by decide +kernel⟩
theorem b__law_spots (B : Bts mg) (d__law_draw : Df P w K mg base C "_law_draw" 2 1 run__law_draw) : ∀ (X : Cx) (W : WX), Cs P w K mg base N__law_spots (defScope (top 39)) 1 X W → JB X C W (defBody (top 39)) m__law_spots := fun _ _ c =>
  (jb_cons (st_set c (Nb.by (by decide +kernel)) (j_lst (j_vcons j_int (j_vcons j_int (j_vcons j_int (j_vcons j_int (j_vcons j_int (j_vcons j_int (j_vcons j_int (j_vcons j_int (j_vcons j_int (j_vcons j_int (j_vcons j_int (j_vcons j_int (j_vcons j_int (j_vcons (x_add (JE.o j_int) (JE.o (x_lent c.e d__law_draw (by decide) (Ng.by (by decide +kernel)) (Nm.by (by decide +kernel)) (j_vcons j_int j_vnil rfl) (lenS len0) rfl rfl))) j_vnil rfl) rfl) rfl) rfl) rfl) rfl) rfl) rfl) rfl) rfl) rfl) rfl) rfl) rfl)) rfl rfl)
  (jb_cons (st_for c (j_it (v_ c.e (Nm.by (by decide +kernel)))) (jg_tup c.e.c.calm (jgs_cons (tgC c (Nb.by (by decide +kernel))) (jgs_cons (tgC c (Nb.by (by decide +kernel))) (jgs_cons (tgC c (Nb.by (by decide +kernel))) jgs_nil rfl) rfl) rfl) rfl rfl) (jb_cons (st_set c (Nb.by (by decide +kernel)) (x_add (p_ c.e (Nm.by (by decide +kernel))) (JE.o (j_lst (j_vcons (v_ c.e (Nm.by (by decide +kernel))) (j_vcons (x_add (p_ c.e (Nm.by (by decide +kernel))) (JE.o j_int)) j_vnil rfl) rfl)))) rfl rfl)
  (jb_one (js_if (t_isnot (p_ c.e (Nm.by (by decide +kernel))) (JE.o j_non) rfl) (jb_one (st_set c (Nb.by (by decide +kernel)) (x_add (p_ c.e (Nm.by (by decide +kernel))) (JE.o (j_lst (j_vcons (v_ c.e (Nm.by (by decide +kernel))) (j_vcons (x_max c.e B (j_acons (JE.o j_int) (j_acons (JE.o (x_sub (p_ c.e (Nm.by (by decide +kernel))) (JE.o j_int))) j_anil rfl) rfl) rfl rfl (Ng.by (by decide +kernel))) j_vnil rfl) rfl)))) rfl rfl)) jb_nil))) (fun _ => rfl))
  (jb_one (js_ret (x_add (p_ c.e (Nm.by (by decide +kernel))) (JE.o (j_lst (j_vcons (x_add (JE.o (x_pow (JE.o j_int) (JE.o j_int))) (JE.o (x_lent c.e d__law_draw (by decide) (Ng.by (by decide +kernel)) (Nm.by (by decide +kernel)) (j_vcons (x_pow (JE.o j_int) (JE.o j_int)) j_vnil rfl) (lenS len0) rfl rfl))) (j_vcons (x_pow (JE.o j_int) (JE.o j_int)) j_vnil rfl) rfl))))))))
theorem D__law_spots (B : Bts mg) (d__law_draw : Df P w K mg base C "_law_draw" 2 1 run__law_draw) (F : FunD K "_law_spots" "_law_spots" (defArgs (top 39)) (defBody (top 39)) (defScope (top 39)) [] [] f fd) (hm : mg "_law_spots" = some (.ref f)) : Df P w K mg base C "_law_spots" 2 2 run__law_spots := def_ok F S__law_spots hm F.kp (F.bindsN fun _ _ _ _ _ _ us hl => match us, hl with | [_, _], _ => rfl) (b__law_spots B d__law_draw)
abbrev N__law_power : List Str := ["_law_n", "_law_many", "_law_found", "_law_turn"]
def m__law_power : MS :=
  (mSeq (mSet 2 (mC (.int 1)))
  (mSeq (mFor (mRange1 (maCons (mVar 1) maNil)) (mgName 3) (mSet 2 (mB fMul (mPk 2) (lPk 2) (mPk 0) (lPk 0))))
  (mRet (mVar 2))))
def run__law_power : UF := runF 2 4 m__law_power
theorem S__law_power : FnScope N__law_power ["_law_n", "_law_many"] (defScope (top 35)) := ⟨rfl, rfl, rfl, by decide +kernel, rfl, by decide +kernel, by decide +kernel⟩
theorem b__law_power (B : Bts mg) : ∀ (X : Cx) (W : WX), Cs P w K mg base N__law_power (defScope (top 35)) 0 X W → JB X C W (defBody (top 35)) m__law_power := fun _ _ c =>
  (jb_cons (st_set c (Nb.by (by decide +kernel)) j_int rfl rfl)
  (jb_cons (st_for c (x_range1 c.e B (Ng.by (by decide +kernel)) (j_vcons (v_ c.e (Nm.by (by decide +kernel))) j_vnil rfl) rfl) (tgC c (Nb.by (by decide +kernel))) (jb_one (st_set c (Nb.by (by decide +kernel)) (x_mul (p_ c.e (Nm.by (by decide +kernel))) (p_ c.e (Nm.by (by decide +kernel)))) rfl rfl)) (fun _ => rfl))
  (jb_one (js_ret (v_ c.e (Nm.by (by decide +kernel)))))))
theorem D__law_power (B : Bts mg) (F : FunD K "_law_power" "_law_power" (defArgs (top 35)) (defBody (top 35)) (defScope (top 35)) [] [] f fd) (hm : mg "_law_power" = some (.ref f)) : Df P w K mg base C "_law_power" 2 1 run__law_power := def_ok F S__law_power hm F.kp (F.bindsN fun _ _ _ _ _ _ us hl => match us, hl with | [_, _], _ => rfl) (b__law_power B)
abbrev N__law_worth : List Str := ["_law_form_here", "_law_n", "_law_top", "_law_below", "_law_deep", "_law_power_here", "_law_up", "_law_down", "_law_more"]
def m__law_worth : MS :=
  (mSeq (mAsg (mgTup 3 (mgsCons (mgName 2) (mgsCons (mgName 3) (mgsCons (mgName 4) mgsNil)))) (mTup (maCons (mC (.int 0)) (maCons (mC (.int 1)) (maCons (mC (.int 0)) maNil)))))
  (mSeq (mFor (mIt (mVar 0)) (mgTup 3 (mgsCons (mgName 5) (mgsCons (mgName 6) (mgsCons (mgName 7) mgsNil)))) (mSet 4 (mCall bMax (maCons (mPk 4) (maCons (mB fSub (mC (.int 0)) lId (mPk 5) (lPk 5)) maNil)) (laCons (lPk 4) (laCons lId laNil)))))
  (mSeq (mFor (mIt (mVar 0)) (mgTup 3 (mgsCons (mgName 5) (mgsCons (mgName 6) (mgsCons (mgName 7) mgsNil)))) (mSeq (mSet 8 (mB fMul (mPk 6) (lPk 6) (mUser run__law_power (maCons (mVar 1) (maCons (mB fAdd (mPk 5) (lPk 5) (mPk 4) (lPk 4)) maNil))) lId))
  (mPar 2 3 (maCons (mB fAdd (mB fMul (mPk 2) (lPk 2) (mPk 7) (lPk 7)) lId (mB fMul (mPk 8) (lPk 8) (mPk 3) (lPk 3)) lId) (maCons (mB fMul (mPk 3) (lPk 3) (mPk 7) (lPk 7)) maNil)))))
  (mRet (mUser run__law_fraction (maCons (mVar 2) (maCons (mB fMul (mPk 3) (lPk 3) (mUser run__law_power (maCons (mVar 1) (maCons (mVar 4) maNil))) lId) maNil)))))))
def run__law_worth : UF := runF 2 9 m__law_worth
theorem S__law_worth : FnScope N__law_worth ["_law_form_here", "_law_n"] (defScope (top 36)) := ⟨rfl, rfl, rfl, by decide +kernel, rfl, by decide +kernel, by decide +kernel⟩
theorem b__law_worth (B : Bts mg) (d__law_fraction : Df P w K mg base C "_law_fraction" 2 2 run__law_fraction) (d__law_power : Df P w K mg base C "_law_power" 2 1 run__law_power) : ∀ (X : Cx) (W : WX), Cs P w K mg base N__law_worth (defScope (top 36)) 2 X W → JB X C W (defBody (top 36)) m__law_worth := fun _ _ c =>
  (jb_cons (js_asg (jg_tup c.e.c.calm (jgs_cons (tgC c (Nb.by (by decide +kernel))) (jgs_cons (tgC c (Nb.by (by decide +kernel))) (jgs_cons (tgC c (Nb.by (by decide +kernel))) jgs_nil rfl) rfl) rfl) rfl rfl) (j_tup (j_vcons j_int (j_vcons j_int (j_vcons j_int j_vnil rfl) rfl) rfl)) rfl (sw_by c.e.c.sc (fun _ => rfl)) rfl)
  (jb_cons (st_for c (j_it (v_ c.e (Nm.by (by decide +kernel)))) (jg_tup c.e.c.calm (jgs_cons (tgC c (Nb.by (by decide +kernel))) (jgs_cons (tgC c (Nb.by (by decide +kernel))) (jgs_cons (tgC c (Nb.by (by decide +kernel))) jgs_nil rfl) rfl) rfl) rfl rfl) (jb_one (st_set c (Nb.by (by decide +kernel)) (x_max c.e B (j_acons (p_ c.e (Nm.by (by decide +kernel))) (j_acons (JE.o (x_sub (JE.o j_int) (p_ c.e (Nm.by (by decide +kernel))))) j_anil rfl) rfl) rfl rfl (Ng.by (by decide +kernel))) rfl rfl)) (fun _ => rfl))
  (jb_cons (st_for c (j_it (v_ c.e (Nm.by (by decide +kernel)))) (jg_tup c.e.c.calm (jgs_cons (tgC c (Nb.by (by decide +kernel))) (jgs_cons (tgC c (Nb.by (by decide +kernel))) (jgs_cons (tgC c (Nb.by (by decide +kernel))) jgs_nil rfl) rfl) rfl) rfl rfl) (jb_cons (st_set c (Nb.by (by decide +kernel)) (x_mul (p_ c.e (Nm.by (by decide +kernel))) (JE.o (x_call c.e d__law_power (by decide) (Ng.by (by decide +kernel)) (j_vcons (v_ c.e (Nm.by (by decide +kernel))) (j_vcons (x_add (p_ c.e (Nm.by (by decide +kernel))) (p_ c.e (Nm.by (by decide +kernel)))) j_vnil rfl) rfl) (lenS (lenS len0)) rfl rfl))) rfl rfl)
  (jb_one (st_par c (Nl.by (by decide +kernel)) (Nl.by (by decide +kernel)) (by decide) (j_vcons (x_add (JE.o (x_mul (p_ c.e (Nm.by (by decide +kernel))) (p_ c.e (Nm.by (by decide +kernel))))) (JE.o (x_mul (p_ c.e (Nm.by (by decide +kernel))) (p_ c.e (Nm.by (by decide +kernel)))))) (j_vcons (x_mul (p_ c.e (Nm.by (by decide +kernel))) (p_ c.e (Nm.by (by decide +kernel)))) j_vnil rfl) rfl) (fun _ => rfl) rfl))) (fun _ => rfl))
  (jb_one (js_ret (x_call c.e d__law_fraction (by decide) (Ng.by (by decide +kernel)) (j_vcons (v_ c.e (Nm.by (by decide +kernel))) (j_vcons (x_mul (p_ c.e (Nm.by (by decide +kernel))) (JE.o (x_call c.e d__law_power (by decide) (Ng.by (by decide +kernel)) (j_vcons (v_ c.e (Nm.by (by decide +kernel))) (j_vcons (v_ c.e (Nm.by (by decide +kernel))) j_vnil rfl) rfl) (lenS (lenS len0)) rfl rfl))) j_vnil rfl) rfl) (lenS (lenS len0)) rfl rfl))))))
theorem D__law_worth (B : Bts mg) (d__law_fraction : Df P w K mg base C "_law_fraction" 2 2 run__law_fraction) (d__law_power : Df P w K mg base C "_law_power" 2 1 run__law_power) (F : FunD K "_law_worth" "_law_worth" (defArgs (top 36)) (defBody (top 36)) (defScope (top 36)) [] [] f fd) (hm : mg "_law_worth" = some (.ref f)) : Df P w K mg base C "_law_worth" 2 3 run__law_worth := def_ok F S__law_worth hm F.kp (F.bindsN fun _ _ _ _ _ _ us hl => match us, hl with | [_, _], _ => rfl) (b__law_worth B d__law_fraction d__law_power)
abbrev N__law_at : List Str := ["_law_rows", "_law_n", "_law_least", "_law_most", "_law_item"]
def m__law_at : MS :=
  (mSeq (mFor (mIt (mVar 0)) (mgTup 3 (mgsCons (mgName 2) (mgsCons (mgName 3) (mgsCons (mgName 4) mgsNil)))) (mIfS (mAnd (mB fLe (mPk 2) (lPk 2) (mPk 1) (lPk 1)) (mOr (mB fIsN (mPk 3) (lPk 3) (mC .non) lId) (mB fLe (mPk 1) (lPk 1) (mPk 3) (lPk 3)))) (mRet (mVar 4)) mSkip))
  (mRet (mC .non)))
def run__law_at : UF := runF 2 5 m__law_at
theorem S__law_at : FnScope N__law_at ["_law_rows", "_law_n"] (defScope (top 37)) := ⟨rfl, rfl, rfl, by decide +kernel, rfl, by decide +kernel, by decide +kernel⟩
theorem b__law_at (B : Bts mg) : ∀ (X : Cx) (W : WX), Cs P w K mg base N__law_at (defScope (top 37)) 0 X W → JB X C W (defBody (top 37)) m__law_at := fun _ _ c =>
  (jb_cons (st_for c (j_it (v_ c.e (Nm.by (by decide +kernel)))) (jg_tup c.e.c.calm (jgs_cons (tgC c (Nb.by (by decide +kernel))) (jgs_cons (tgC c (Nb.by (by decide +kernel))) (jgs_cons (tgC c (Nb.by (by decide +kernel))) jgs_nil rfl) rfl) rfl) rfl rfl) (jb_one (js_if (JW.t (jw_and (t_le (p_ c.e (Nm.by (by decide +kernel))) (p_ c.e (Nm.by (by decide +kernel))) rfl) (jw_and1 (JW.t (jw_or (t_is (p_ c.e (Nm.by (by decide +kernel))) (JE.o j_non) rfl) (jw_or1 (t_le (p_ c.e (Nm.by (by decide +kernel))) (p_ c.e (Nm.by (by decide +kernel))) rfl))))))) (jb_one (js_ret (v_ c.e (Nm.by (by decide +kernel))))) jb_nil)) (fun _ => rfl))
  (jb_one (js_ret j_non)))
theorem D__law_at (B : Bts mg) (F : FunD K "_law_at" "_law_at" (defArgs (top 37)) (defBody (top 37)) (defScope (top 37)) [] [] f fd) (hm : mg "_law_at" = some (.ref f)) : Df P w K mg base C "_law_at" 2 1 run__law_at := def_ok F S__law_at hm F.kp (F.bindsN fun _ _ _ _ _ _ us hl => match us, hl with | [_, _], _ => rfl) (b__law_at B)
abbrev N__law_signs_right : List Str := ["_law_source_here", "_law_form_here", "_law_rows", "_law_n", "_law_top", "_law_below", "_law_due"]
def m__law_signs_right : MS :=
  (mSeq (mSet 2 (mUser run_sign_rows (maCons (mVar 1) maNil)))
  (mSeq (mIfS (mNot (mUser run__law_rows_good (maCons (mVar 2) maNil))) (mRet (mC (.bl false))) mSkip)
  (mSeq (mFor (mIt (mB fAdd (mUserB run__law_spots 0 (maCons (mVar 2) maNil)) lId (mListR2 (mC (.int 1)) (mC (.int 60))) lId)) (mgName 3) (mSeq (mAsg (mgTup 2 (mgsCons (mgName 4) (mgsCons (mgName 5) mgsNil))) (mUser run__law_worth (maCons (mVar 1) (maCons (mVar 3) maNil))))
  (mSeq (mSet 6 (mB fSub (mCall bInt (maCons (mB fGt (mPk 4) (lPk 4) (mC (.int 0)) lId) maNil) (laCons lId laNil)) lId (mCall bInt (maCons (mB fLt (mPk 4) (lPk 4) (mC (.int 0)) lId) maNil) (laCons lId laNil)) lId))
  (mIfS (mOr (mB fNe (mUser run__law_at (maCons (mVar 2) (maCons (mVar 3) maNil))) lId (mPk 6) (lPk 6)) (mB fNe (mUser run_worth (maCons (mVar 1) (maCons (mVar 3) maNil))) lId (mTup (maCons (mVar 4) (maCons (mVar 5) maNil))) lId)) (mRet (mC (.bl false))) mSkip))))
  (mRet (mC (.bl true))))))
def run__law_signs_right : UF := runF 2 7 m__law_signs_right
theorem S__law_signs_right : FnScope N__law_signs_right ["_law_source_here", "_law_form_here"] (defScope (top 46)) := ⟨rfl, rfl, rfl, by decide +kernel, rfl, by decide +kernel, by decide +kernel⟩
theorem b__law_signs_right (B : Bts mg) (d_sign_rows : Df P w K mg base C "sign_rows" 1 66 run_sign_rows) (d__law_rows_good : Df P w K mg base C "_law_rows_good" 1 1 run__law_rows_good) (d__law_spots : Df P w K mg base C "_law_spots" 2 2 run__law_spots) (d__law_worth : Df P w K mg base C "_law_worth" 2 3 run__law_worth) (d__law_at : Df P w K mg base C "_law_at" 2 1 run__law_at) (d_worth : Df P w K mg base C "worth" 2 5 run_worth) : ∀ (X : Cx) (W : WX), Cs P w K mg base N__law_signs_right (defScope (top 46)) 66 X W → JB X C W (defBody (top 46)) m__law_signs_right := fun _ _ c =>
  (jb_cons (st_set c (Nb.by (by decide +kernel)) (x_call c.e d_sign_rows (by decide) (Ng.by (by decide +kernel)) (j_vcons (v_ c.e (Nm.by (by decide +kernel))) j_vnil rfl) (lenS len0) rfl rfl) rfl rfl)
  (jb_cons (js_if (jt_not (jt_val (x_call c.e d__law_rows_good (by decide) (Ng.by (by decide +kernel)) (j_vcons (v_ c.e (Nm.by (by decide +kernel))) j_vnil rfl) (lenS len0) rfl rfl) (fun _ => rfl))) (jb_one (js_ret j_bl)) jb_nil)
  (jb_cons (st_for c (j_it (x_add (JE.o (x_lent c.e d__law_spots (by decide) (Ng.by (by decide +kernel)) (Nm.by (by decide +kernel)) (j_vcons (v_ c.e (Nm.by (by decide +kernel))) j_vnil rfl) (lenS len0) rfl rfl)) (JE.o (x_listR2 c.e B (Ng.by (by decide +kernel)) (Ng.by (by decide +kernel)) j_int j_int rfl rfl)))) (tgC c (Nb.by (by decide +kernel))) (jb_cons (js_asg (jg_tup c.e.c.calm (jgs_cons (tgC c (Nb.by (by decide +kernel))) (jgs_cons (tgC c (Nb.by (by decide +kernel))) jgs_nil rfl) rfl) rfl rfl) (x_call c.e d__law_worth (by decide) (Ng.by (by decide +kernel)) (j_vcons (v_ c.e (Nm.by (by decide +kernel))) (j_vcons (v_ c.e (Nm.by (by decide +kernel))) j_vnil rfl) rfl) (lenS (lenS len0)) rfl rfl) rfl rfl rfl)
  (jb_cons (st_set c (Nb.by (by decide +kernel)) (x_sub (JE.o (x_int c.e B (j_acons (JE.o (x_gt (p_ c.e (Nm.by (by decide +kernel))) (JE.o j_int) rfl)) j_anil rfl) rfl rfl (Ng.by (by decide +kernel)))) (JE.o (x_int c.e B (j_acons (JE.o (x_lt (p_ c.e (Nm.by (by decide +kernel))) (JE.o j_int) c.e rfl)) j_anil rfl) rfl rfl (Ng.by (by decide +kernel))))) rfl rfl)
  (jb_one (js_if (JW.t (jw_or (t_ne (JE.o (x_call c.e d__law_at (by decide) (Ng.by (by decide +kernel)) (j_vcons (v_ c.e (Nm.by (by decide +kernel))) (j_vcons (v_ c.e (Nm.by (by decide +kernel))) j_vnil rfl) rfl) (lenS (lenS len0)) rfl rfl)) (p_ c.e (Nm.by (by decide +kernel))) c.e rfl) (jw_or1 (t_ne (JE.o (x_call c.e d_worth (by decide) (Ng.by (by decide +kernel)) (j_vcons (v_ c.e (Nm.by (by decide +kernel))) (j_vcons (v_ c.e (Nm.by (by decide +kernel))) j_vnil rfl) rfl) (lenS (lenS len0)) rfl rfl)) (JE.o (j_tup (j_vcons (v_ c.e (Nm.by (by decide +kernel))) (j_vcons (v_ c.e (Nm.by (by decide +kernel))) j_vnil rfl) rfl))) c.e rfl)))) (jb_one (js_ret j_bl)) jb_nil)))) (fun _ => rfl))
  (jb_one (js_ret j_bl)))))
theorem D__law_signs_right (B : Bts mg) (d_sign_rows : Df P w K mg base C "sign_rows" 1 66 run_sign_rows) (d__law_rows_good : Df P w K mg base C "_law_rows_good" 1 1 run__law_rows_good) (d__law_spots : Df P w K mg base C "_law_spots" 2 2 run__law_spots) (d__law_worth : Df P w K mg base C "_law_worth" 2 3 run__law_worth) (d__law_at : Df P w K mg base C "_law_at" 2 1 run__law_at) (d_worth : Df P w K mg base C "worth" 2 5 run_worth) (F : FunD K "_law_signs_right" "_law_signs_right" (defArgs (top 46)) (defBody (top 46)) (defScope (top 46)) [] [] f fd) (hm : mg "_law_signs_right" = some (.ref f)) : Df P w K mg base C "_law_signs_right" 2 67 run__law_signs_right := def_ok F S__law_signs_right hm F.kp (F.bindsN fun _ _ _ _ _ _ us hl => match us, hl with | [_, _], _ => rfl) (b__law_signs_right B d_sign_rows d__law_rows_good d__law_spots d__law_worth d__law_at d_worth)
abbrev N_law : List Str := ["_law_script", "_law_k", "_law_source_here", "_law_turn", "_law_form_here", "_law_value", "_law_again", "_law_due"]
def m_law : MS :=
  (mSeq (mFor (mRange1 (maCons (mB fAdd (mC (.int 1)) lId (mCall bMin (maCons (mCall bLen (maCons (mPk 0) maNil) (laCons (lPk 0) laNil)) (maCons (mC (.int 8)) maNil)) (laCons lId (laCons lId laNil))) lId) maNil)) (mgName 1) (mSeq (mOwn 2 (mUserN run__law_source (maCons (mVar 0) (maCons (mVar 1) maNil))))
  (mSeq (mFor (mRange1 (maCons (mC (.int 4)) maNil)) (mgName 3) (mSeq (mSet 4 (mUserB run__law_form 2 maNil))
  (mSeq (mIfS (mOr (mNot (mUser run__law_is_form (maCons (mVar 4) maNil))) (mNot (mUserB run__law_signs_right 2 (maCons (mVar 4) maNil)))) (mRet (mC (.bl false))) mSkip)
  (mSeq (mSet 5 (mVar 4))
  (mFor (mRange1 (maCons (mC (.int 5)) maNil)) (mgName 6) (mSeq (mIfS (mB fNe (mUser run_is_form (maCons (mVar 5) maNil)) lId (mUser run__law_is_form (maCons (mVar 5) maNil)) lId) (mRet (mC (.bl false))) mSkip)
  (mSet 5 (mUserB (run__law_spoilt 14) 2 (maCons (mVar 5) maNil)))))))))
  (mIfS (mNot (mUserB run__law_refused 2 (maCons (mVar 4) maNil))) (mRet (mC (.bl false))) mSkip))))
  (mSeq (mIfS (mOr (mUser run_is_form (maCons (mTup (maCons (mTup (maCons (mC (.int 0)) (maCons (mC (.int 2)) (maCons (mC (.int 4)) maNil)))) maNil)) maNil)) (mOr (mUser run_is_form (maCons (mTup (maCons (mTup (maCons (mC (.int 1)) (maCons (mC (.int 1)) (maCons (mC (.int 1)) maNil)))) (maCons (mTup (maCons (mC (.int 0)) (maCons (mC (.int 1)) (maCons (mC (.int 1)) maNil)))) maNil))) maNil)) (mOr (mNot (mUser run_is_form (maCons (mTup maNil) maNil))) (mUser run_is_form (maCons (mTup (maCons (mTup (maCons (mC (.int 21)) (maCons (mC (.int 1)) (maCons (mC (.int 1)) maNil)))) maNil)) maNil))))) (mRet (mC (.bl false))) mSkip)
  (mSeq (mIfS (mOr (mB fNe (mUser run_worth (maCons (mTup (maCons (mTup (maCons (mU fNeg (mC (.int 1)) lId) (maCons (mU fNeg (mC (.int 4)) lId) (maCons (mC (.int 1)) maNil)))) (maCons (mTup (maCons (mC (.int 0)) (maCons (mC (.int 1)) (maCons (mC (.int 2)) maNil)))) maNil))) (maCons (mC (.int 3)) maNil))) lId (mTup (maCons (mU fNeg (mC (.int 5)) lId) (maCons (mC (.int 6)) maNil))) lId) (mB fNe (mUser run_worth (maCons (mTup maNil) (maCons (mC (.int 5)) maNil))) lId (mTup (maCons (mC (.int 0)) (maCons (mC (.int 1)) maNil))) lId)) (mRet (mC (.bl false))) mSkip)
  (mSeq (mIfS (mB fNe (mUser run_sign_rows (maCons (mTup (maCons (mTup (maCons (mC (.int 0)) (maCons (mU fNeg (mC (.int 6)) lId) (maCons (mC (.int 1)) maNil)))) (maCons (mTup (maCons (mC (.int 1)) (maCons (mC (.int 1)) (maCons (mC (.int 1)) maNil)))) maNil))) maNil)) lId (mTup (maCons (mTup (maCons (mC (.int 1)) (maCons (mC (.int 5)) (maCons (mU fNeg (mC (.int 1)) lId) maNil)))) (maCons (mTup (maCons (mC (.int 6)) (maCons (mC (.int 6)) (maCons (mC (.int 0)) maNil)))) (maCons (mTup (maCons (mC (.int 7)) (maCons (mC .non) (maCons (mC (.int 1)) maNil)))) maNil)))) lId) (mRet (mC (.bl false))) mSkip)
  (mSeq (mIfS (mB fNe (mUser run_sign_rows (maCons (mTup (maCons (mTup (maCons (mC (.int 0)) (maCons (mC (.int 2)) (maCons (mC (.int 1)) maNil)))) (maCons (mTup (maCons (mC (.int 1)) (maCons (mU fNeg (mC (.int 3)) lId) (maCons (mC (.int 1)) maNil)))) (maCons (mTup (maCons (mC (.int 2)) (maCons (mC (.int 1)) (maCons (mC (.int 1)) maNil)))) maNil)))) maNil)) lId (mTup (maCons (mTup (maCons (mC (.int 1)) (maCons (mC (.int 2)) (maCons (mC (.int 0)) maNil)))) (maCons (mTup (maCons (mC (.int 3)) (maCons (mC .non) (maCons (mC (.int 1)) maNil)))) maNil))) lId) (mRet (mC (.bl false))) mSkip)
  (mSeq (mSet 7 (mTup (maCons (mTup (maCons (mC (.int 1)) (maCons (mC (.int 2)) (maCons (mC (.int 1)) maNil)))) (maCons (mTup (maCons (mC (.int 3)) (maCons (mC (.int 3)) (maCons (mC (.int 0)) maNil)))) (maCons (mTup (maCons (mC (.int 4)) (maCons (mC (.int 6)) (maCons (mU fNeg (mC (.int 1)) lId) maNil)))) (maCons (mTup (maCons (mC (.int 7)) (maCons (mC (.int 7)) (maCons (mC (.int 0)) maNil)))) (maCons (mTup (maCons (mC (.int 8)) (maCons (mC .non) (maCons (mC (.int 1)) maNil)))) maNil)))))))
  (mSeq (mIfS (mB fNe (mUser run_sign_rows (maCons (mTup (maCons (mTup (maCons (mC (.int 0)) (maCons (mC (.int 21)) (maCons (mC (.int 1)) maNil)))) (maCons (mTup (maCons (mC (.int 1)) (maCons (mU fNeg (mC (.int 10)) lId) (maCons (mC (.int 1)) maNil)))) (maCons (mTup (maCons (mC (.int 2)) (maCons (mC (.int 1)) (maCons (mC (.int 1)) maNil)))) maNil)))) maNil)) lId (mPk 7) (lPk 7)) (mRet (mC (.bl false))) mSkip)
  (mSeq (mIfS (mOr (mB fNe (mUser run_sign_rows (maCons (mTup maNil) maNil)) lId (mTup (maCons (mTup (maCons (mC (.int 1)) (maCons (mC .non) (maCons (mC (.int 0)) maNil)))) maNil)) lId) (mB fNe (mB fIx (mB fIx (mUser run_sign_rows (maCons (mTup (maCons (mTup (maCons (mC (.int 0)) (maCons (mB fPow (mC (.int 10)) lId (mC (.int 20)) lId) (maCons (mC (.int 1)) maNil)))) (maCons (mTup (maCons (mC (.int 1)) (maCons (mU fNeg (mC (.int 1)) lId) (maCons (mC (.int 1)) maNil)))) maNil))) maNil)) lId (mC (.int 1)) lId) lId (mC (.int 0)) lId) lId (mB fPow (mC (.int 10)) lId (mC (.int 20)) lId) lId)) (mRet (mC (.bl false))) mSkip)
  (mRet (mB fEq (mUser run_sign_rows (maCons (mTup (maCons (mTup (maCons (mU fNeg (mC (.int 1)) lId) (maCons (mU fNeg (mC (.int 4)) lId) (maCons (mC (.int 1)) maNil)))) (maCons (mTup (maCons (mC (.int 0)) (maCons (mC (.int 1)) (maCons (mC (.int 2)) maNil)))) maNil))) maNil)) lId (mTup (maCons (mTup (maCons (mC (.int 1)) (maCons (mC (.int 7)) (maCons (mU fNeg (mC (.int 1)) lId) maNil)))) (maCons (mTup (maCons (mC (.int 8)) (maCons (mC (.int 8)) (maCons (mC (.int 0)) maNil)))) (maCons (mTup (maCons (mC (.int 9)) (maCons (mC .non) (maCons (mC (.int 1)) maNil)))) maNil)))) lId))))))))))
def run_law : UF := runF 1 8 m_law
theorem S_law : FnScope N_law ["_law_script"] (defScope (top 48)) := ⟨rfl, rfl, rfl, by decide +kernel, rfl, by decide +kernel, by decide +kernel⟩
theorem b_law (B : Bts mg) (d__law_source : DfN P w K mg base "_law_source" 2 1 run__law_source) (d_is_form : Df P w K mg base C "is_form" 1 4 run_is_form) (d_sign_rows : Df P w K mg base C "sign_rows" 1 66 run_sign_rows) (d__law_form : Df P w K mg base C "_law_form" 1 4 run__law_form) (d__law_refused : Df P w K mg base C "_law_refused" 2 67 run__law_refused) (d_worth : Df P w K mg base C "worth" 2 5 run_worth) (d__law_spoilt : Df P w K mg base C "_law_spoilt" 2 18 (run__law_spoilt 14)) (d__law_is_form : Df P w K mg base C "_law_is_form" 1 2 run__law_is_form) (d__law_signs_right : Df P w K mg base C "_law_signs_right" 2 67 run__law_signs_right) : ∀ (X : Cx) (W : WX), Cs P w K mg base N_law (defScope (top 48)) 67 X W → JB X C W (defBody (top 48)) m_law := fun _ _ c =>
  (jb_cons (st_for c (x_range1 c.e B (Ng.by (by decide +kernel)) (j_vcons (x_add (JE.o j_int) (JE.o (x_min c.e B (j_acons (JE.o (x_len c.e B (j_acons (p_ c.e (Nm.by (by decide +kernel))) j_anil rfl) rfl rfl (Ng.by (by decide +kernel)))) (j_acons (JE.o j_int) j_anil rfl) rfl) rfl rfl (Ng.by (by decide +kernel))))) j_vnil rfl) rfl) (tgC c (Nb.by (by decide +kernel))) (jb_cons (st_own c (Nb.by (by decide +kernel)) (x_callN c.e d__law_source (by decide) (Ng.by (by decide +kernel)) (j_vcons (v_ c.e (Nm.by (by decide +kernel))) (j_vcons (v_ c.e (Nm.by (by decide +kernel))) j_vnil rfl) rfl) (lenS (lenS len0)) rfl rfl) rfl rfl)
  (jb_cons (st_for c (x_range1 c.e B (Ng.by (by decide +kernel)) (j_vcons j_int j_vnil rfl) rfl) (tgC c (Nb.by (by decide +kernel))) (jb_cons (st_set c (Nb.by (by decide +kernel)) (x_lent c.e d__law_form (by decide) (Ng.by (by decide +kernel)) (Nm.by (by decide +kernel)) j_vnil len0 rfl rfl) rfl rfl)
  (jb_cons (js_if (JW.t (jw_or (jt_not (jt_val (x_call c.e d__law_is_form (by decide) (Ng.by (by decide +kernel)) (j_vcons (v_ c.e (Nm.by (by decide +kernel))) j_vnil rfl) (lenS len0) rfl rfl) (fun _ => rfl))) (jw_or1 (jt_not (jt_val (x_lent c.e d__law_signs_right (by decide) (Ng.by (by decide +kernel)) (Nm.by (by decide +kernel)) (j_vcons (v_ c.e (Nm.by (by decide +kernel))) j_vnil rfl) (lenS len0) rfl rfl) (fun _ => rfl)))))) (jb_one (js_ret j_bl)) jb_nil)
  (jb_cons (st_set c (Nb.by (by decide +kernel)) (v_ c.e (Nm.by (by decide +kernel))) rfl rfl)
  (jb_one (st_for c (x_range1 c.e B (Ng.by (by decide +kernel)) (j_vcons j_int j_vnil rfl) rfl) (tgC c (Nb.by (by decide +kernel))) (jb_cons (js_if (t_ne (JE.o (x_call c.e d_is_form (by decide) (Ng.by (by decide +kernel)) (j_vcons (v_ c.e (Nm.by (by decide +kernel))) j_vnil rfl) (lenS len0) rfl rfl)) (JE.o (x_call c.e d__law_is_form (by decide) (Ng.by (by decide +kernel)) (j_vcons (v_ c.e (Nm.by (by decide +kernel))) j_vnil rfl) (lenS len0) rfl rfl)) c.e rfl) (jb_one (js_ret j_bl)) jb_nil)
  (jb_one (st_set c (Nb.by (by decide +kernel)) (x_lent c.e d__law_spoilt (by decide) (Ng.by (by decide +kernel)) (Nm.by (by decide +kernel)) (j_vcons (v_ c.e (Nm.by (by decide +kernel))) j_vnil rfl) (lenS len0) rfl rfl) rfl rfl))) (fun _ => rfl)))))) (fun _ => rfl))
  (jb_one (js_if (jt_not (jt_val (x_lent c.e d__law_refused (by decide) (Ng.by (by decide +kernel)) (Nm.by (by decide +kernel)) (j_vcons (v_ c.e (Nm.by (by decide +kernel))) j_vnil rfl) (lenS len0) rfl rfl) (fun _ => rfl))) (jb_one (js_ret j_bl)) jb_nil)))) (fun _ => rfl))
  (jb_cons (js_if (JW.t (jw_or (jt_val (x_call c.e d_is_form (by decide) (Ng.by (by decide +kernel)) (j_vcons (j_tup (j_vcons (j_tup (j_vcons j_int (j_vcons j_int (j_vcons j_int j_vnil rfl) rfl) rfl)) j_vnil rfl)) j_vnil rfl) (lenS len0) rfl rfl) (fun _ => rfl)) (jw_or (jt_val (x_call c.e d_is_form (by decide) (Ng.by (by decide +kernel)) (j_vcons (j_tup (j_vcons (j_tup (j_vcons j_int (j_vcons j_int (j_vcons j_int j_vnil rfl) rfl) rfl)) (j_vcons (j_tup (j_vcons j_int (j_vcons j_int (j_vcons j_int j_vnil rfl) rfl) rfl)) j_vnil rfl) rfl)) j_vnil rfl) (lenS len0) rfl rfl) (fun _ => rfl)) (jw_or (jt_not (jt_val (x_call c.e d_is_form (by decide) (Ng.by (by decide +kernel)) (j_vcons (j_tup j_vnil) j_vnil rfl) (lenS len0) rfl rfl) (fun _ => rfl))) (jw_or1 (jt_val (x_call c.e d_is_form (by decide) (Ng.by (by decide +kernel)) (j_vcons (j_tup (j_vcons (j_tup (j_vcons j_int (j_vcons j_int (j_vcons j_int j_vnil rfl) rfl) rfl)) j_vnil rfl)) j_vnil rfl) (lenS len0) rfl rfl) (fun _ => rfl))))))) (jb_one (js_ret j_bl)) jb_nil)
  (jb_cons (js_if (JW.t (jw_or (t_ne (JE.o (x_call c.e d_worth (by decide) (Ng.by (by decide +kernel)) (j_vcons (j_tup (j_vcons (j_tup (j_vcons (x_neg (JE.o j_int)) (j_vcons (x_neg (JE.o j_int)) (j_vcons j_int j_vnil rfl) rfl) rfl)) (j_vcons (j_tup (j_vcons j_int (j_vcons j_int (j_vcons j_int j_vnil rfl) rfl) rfl)) j_vnil rfl) rfl)) (j_vcons j_int j_vnil rfl) rfl) (lenS (lenS len0)) rfl rfl)) (JE.o (j_tup (j_vcons (x_neg (JE.o j_int)) (j_vcons j_int j_vnil rfl) rfl))) c.e rfl) (jw_or1 (t_ne (JE.o (x_call c.e d_worth (by decide) (Ng.by (by decide +kernel)) (j_vcons (j_tup j_vnil) (j_vcons j_int j_vnil rfl) rfl) (lenS (lenS len0)) rfl rfl)) (JE.o (j_tup (j_vcons j_int (j_vcons j_int j_vnil rfl) rfl))) c.e rfl)))) (jb_one (js_ret j_bl)) jb_nil)
  (jb_cons (js_if (t_ne (JE.o (x_call c.e d_sign_rows (by decide) (Ng.by (by decide +kernel)) (j_vcons (j_tup (j_vcons (j_tup (j_vcons j_int (j_vcons (x_neg (JE.o j_int)) (j_vcons j_int j_vnil rfl) rfl) rfl)) (j_vcons (j_tup (j_vcons j_int (j_vcons j_int (j_vcons j_int j_vnil rfl) rfl) rfl)) j_vnil rfl) rfl)) j_vnil rfl) (lenS len0) rfl rfl)) (JE.o (j_tup (j_vcons (j_tup (j_vcons j_int (j_vcons j_int (j_vcons (x_neg (JE.o j_int)) j_vnil rfl) rfl) rfl)) (j_vcons (j_tup (j_vcons j_int (j_vcons j_int (j_vcons j_int j_vnil rfl) rfl) rfl)) (j_vcons (j_tup (j_vcons j_int (j_vcons j_non (j_vcons j_int j_vnil rfl) rfl) rfl)) j_vnil rfl) rfl) rfl))) c.e rfl) (jb_one (js_ret j_bl)) jb_nil)
  (jb_cons (js_if (t_ne (JE.o (x_call c.e d_sign_rows (by decide) (Ng.by (by decide +kernel)) (j_vcons (j_tup (j_vcons (j_tup (j_vcons j_int (j_vcons j_int (j_vcons j_int j_vnil rfl) rfl) rfl)) (j_vcons (j_tup (j_vcons j_int (j_vcons (x_neg (JE.o j_int)) (j_vcons j_int j_vnil rfl) rfl) rfl)) (j_vcons (j_tup (j_vcons j_int (j_vcons j_int (j_vcons j_int j_vnil rfl) rfl) rfl)) j_vnil rfl) rfl) rfl)) j_vnil rfl) (lenS len0) rfl rfl)) (JE.o (j_tup (j_vcons (j_tup (j_vcons j_int (j_vcons j_int (j_vcons j_int j_vnil rfl) rfl) rfl)) (j_vcons (j_tup (j_vcons j_int (j_vcons j_non (j_vcons j_int j_vnil rfl) rfl) rfl)) j_vnil rfl) rfl))) c.e rfl) (jb_one (js_ret j_bl)) jb_nil)
  (jb_cons (st_set c (Nb.by (by decide +kernel)) (j_tup (j_vcons (j_tup (j_vcons j_int (j_vcons j_int (j_vcons j_int j_vnil rfl) rfl) rfl)) (j_vcons (j_tup (j_vcons j_int (j_vcons j_int (j_vcons j_int j_vnil rfl) rfl) rfl)) (j_vcons (j_tup (j_vcons j_int (j_vcons j_int (j_vcons (x_neg (JE.o j_int)) j_vnil rfl) rfl) rfl)) (j_vcons (j_tup (j_vcons j_int (j_vcons j_int (j_vcons j_int j_vnil rfl) rfl) rfl)) (j_vcons (j_tup (j_vcons j_int (j_vcons j_non (j_vcons j_int j_vnil rfl) rfl) rfl)) j_vnil rfl) rfl) rfl) rfl) rfl)) rfl rfl)
  (jb_cons (js_if (t_ne (JE.o (x_call c.e d_sign_rows (by decide) (Ng.by (by decide +kernel)) (j_vcons (j_tup (j_vcons (j_tup (j_vcons j_int (j_vcons j_int (j_vcons j_int j_vnil rfl) rfl) rfl)) (j_vcons (j_tup (j_vcons j_int (j_vcons (x_neg (JE.o j_int)) (j_vcons j_int j_vnil rfl) rfl) rfl)) (j_vcons (j_tup (j_vcons j_int (j_vcons j_int (j_vcons j_int j_vnil rfl) rfl) rfl)) j_vnil rfl) rfl) rfl)) j_vnil rfl) (lenS len0) rfl rfl)) (p_ c.e (Nm.by (by decide +kernel))) c.e rfl) (jb_one (js_ret j_bl)) jb_nil)
  (jb_cons (js_if (JW.t (jw_or (t_ne (JE.o (x_call c.e d_sign_rows (by decide) (Ng.by (by decide +kernel)) (j_vcons (j_tup j_vnil) j_vnil rfl) (lenS len0) rfl rfl)) (JE.o (j_tup (j_vcons (j_tup (j_vcons j_int (j_vcons j_non (j_vcons j_int j_vnil rfl) rfl) rfl)) j_vnil rfl))) c.e rfl) (jw_or1 (t_ne (JE.o (x_ix (JE.o (x_ix (JE.o (x_call c.e d_sign_rows (by decide) (Ng.by (by decide +kernel)) (j_vcons (j_tup (j_vcons (j_tup (j_vcons j_int (j_vcons (x_pow (JE.o j_int) (JE.o j_int)) (j_vcons j_int j_vnil rfl) rfl) rfl)) (j_vcons (j_tup (j_vcons j_int (j_vcons (x_neg (JE.o j_int)) (j_vcons j_int j_vnil rfl) rfl) rfl)) j_vnil rfl) rfl)) j_vnil rfl) (lenS len0) rfl rfl)) (JE.o j_int) (fun _ _ => rfl))) (JE.o j_int) (fun _ _ => rfl))) (JE.o (x_pow (JE.o j_int) (JE.o j_int))) c.e rfl)))) (jb_one (js_ret j_bl)) jb_nil)
  (jb_one (js_ret (x_eq (JE.o (x_call c.e d_sign_rows (by decide) (Ng.by (by decide +kernel)) (j_vcons (j_tup (j_vcons (j_tup (j_vcons (x_neg (JE.o j_int)) (j_vcons (x_neg (JE.o j_int)) (j_vcons j_int j_vnil rfl) rfl) rfl)) (j_vcons (j_tup (j_vcons j_int (j_vcons j_int (j_vcons j_int j_vnil rfl) rfl) rfl)) j_vnil rfl) rfl)) j_vnil rfl) (lenS len0) rfl rfl)) (JE.o (j_tup (j_vcons (j_tup (j_vcons j_int (j_vcons j_int (j_vcons (x_neg (JE.o j_int)) j_vnil rfl) rfl) rfl)) (j_vcons (j_tup (j_vcons j_int (j_vcons j_int (j_vcons j_int j_vnil rfl) rfl) rfl)) (j_vcons (j_tup (j_vcons j_int (j_vcons j_non (j_vcons j_int j_vnil rfl) rfl) rfl)) j_vnil rfl) rfl) rfl))) c.e rfl)))))))))))
theorem D_law (B : Bts mg) (d__law_source : DfN P w K mg base "_law_source" 2 1 run__law_source) (d_is_form : Df P w K mg base C "is_form" 1 4 run_is_form) (d_sign_rows : Df P w K mg base C "sign_rows" 1 66 run_sign_rows) (d__law_form : Df P w K mg base C "_law_form" 1 4 run__law_form) (d__law_refused : Df P w K mg base C "_law_refused" 2 67 run__law_refused) (d_worth : Df P w K mg base C "worth" 2 5 run_worth) (d__law_spoilt : Df P w K mg base C "_law_spoilt" 2 18 (run__law_spoilt 14)) (d__law_is_form : Df P w K mg base C "_law_is_form" 1 2 run__law_is_form) (d__law_signs_right : Df P w K mg base C "_law_signs_right" 2 67 run__law_signs_right) (F : FunD K "law" "law" (defArgs (top 48)) (defBody (top 48)) (defScope (top 48)) [] [] f fd) (hm : mg "law" = some (.ref f)) : Df P w K mg base C "law" 1 68 run_law := def_ok F S_law hm F.kp (F.bindsN fun _ _ _ _ _ _ us hl => match us, hl with | [_], _ => rfl) (b_law B d__law_source d_is_form d_sign_rows d__law_form d__law_refused d_worth d__law_spoilt d__law_is_form d__law_signs_right)
end
end GJ

set_option Elab.async false
set_option linter.all false
set_option maxRecDepth 100000
set_option maxHeartbeats 0
namespace GJ
open PySem PySem.Spec L2 MP He
open PyProof.Rows hiding St
def dD (i : Nat) (x : Str) : DefD := ⟨(x, none), x, x, defArgs (top i), defBody (top i), defScope (top i), [], []⟩
def fn : List DefD := [dD 30 "_law_source", dD 8 "is_tuple", dD 7 "is_number", dD 9 "divisor", dD 11 "is_part", dD 12 "is_good_form", dD 26 "is_form", dD 13 "need_form", dD 23 "joined", dD 20 "sign", dD 19 "step_of", dD 18 "value_at", dD 21 "first_from", dD 22 "cut_stretch", dD 24 "signs_of", dD 17 "coefficients", dD 25 "form_signs", dD 28 "sign_rows", dD 31 "_law_draw", dD 32 "_law_of", dD 33 "_law_common", dD 34 "_law_fraction", dD 42 "_law_times", dD 43 "_law_form", dD 14 "need_n", dD 10 "reduced", dD 15 "power_of", dD 16 "worth_of", dD 27 "worth", dD 47 "_law_refused", dD 44 "_law_odd", dD 45 "_law_spoilt", dD 40 "_law_is_int", dD 41 "_law_is_form", dD 38 "_law_rows_good", dD 39 "_law_spots", dD 35 "_law_power", dD 36 "_law_worth", dD 37 "_law_at", dD 46 "_law_signs_right", dD 48 "law"]
def fa : List Fa := ([.free "len", .free "abs", .free "int", .free "max", .free "min", .free "sum", .free "all", .free "any", .free "list", .free "tuple", .free "sorted", .free "range", .free "zip", .free "isinstance", .free "bool", .free "str", .glo "_law_source", .glo "is_tuple", .glo "is_number", .glo "divisor", .glo "is_part", .glo "is_good_form", .glo "is_form", .glo "need_form", .glo "joined"] : List Fa) ++ ([.glo "sign", .glo "step_of", .glo "value_at", .glo "first_from", .glo "cut_stretch", .glo "signs_of", .glo "coefficients", .glo "form_signs", .glo "sign_rows", .glo "_law_draw", .glo "_law_of", .glo "_law_common", .glo "_law_fraction", .glo "_law_times", .glo "_law_form", .glo "need_n", .glo "reduced", .glo "power_of", .glo "worth_of", .glo "worth", .glo "_law_refused", .glo "_law_odd", .glo "_law_spoilt", .glo "_law_is_int", .glo "_law_is_form"] : List Fa) ++ ([.glo "_law_rows_good", .glo "_law_spots", .glo "_law_power", .glo "_law_worth", .glo "_law_at", .glo "_law_signs_right", .glo "law", .glo "JoinError", .glo "InvalidForm", .glo "InvalidNumber", .exc "JoinError", .exc "InvalidForm", .exc "InvalidNumber", .int "FAR" 1000000000000000000000000000000, .int "LARGE" 100000000000000000000] : List Fa)
def exK (K : PySem.W.Frag) : Bool := caB K "InvalidForm" "InvalidForm" "JoinError" true && caB K "InvalidNumber" "InvalidNumber" "JoinError" true
def loose : List Str := (["JoinError", "InvalidForm", "InvalidNumber", "FAR", "LARGE", "is_number", "is_tuple", "divisor", "reduced", "is_part", "is_good_form", "need_form", "need_n", "power_of", "worth_of", "coefficients", "value_at", "step_of", "sign", "first_from", "cut_stretch", "joined", "signs_of", "form_signs", "is_form", "worth", "sign_rows", "_law_source", "_law_draw", "_law_of"] : List Str) ++ (["_law_common", "_law_fraction", "_law_power", "_law_worth", "_law_at", "_law_rows_good", "_law_spots", "_law_is_int", "_law_is_form", "_law_times", "_law_form", "_law_odd", "_law_spoilt", "_law_signs_right", "_law_refused"] : List Str)
abbrev R : PySem.W.OpenRow := PySem.W.OpenLaw.row PySem.Challenge.rw_growjoins_k01_forms_and_their_signs
abbrev hk : PySem.W.Hook := hookE 4 fa fn exK
def ob (s : PySem.W.SharedT) : AlE := obsEG 4 fa fn exK (HandSHeadRun.getT s)
theorem ob_eq (s : PySem.W.SharedT) : ob s = hk.obs s.abs := obsEG_eq (HandSHeadRun.getT_eq s)
theorem run (w : World) : HandSHeadRun.RunEq R (PySem.W.view R.prog [48]) hk ob 3000 loose w := by
  intro os
  kernel_rfl
def CC (K : PySem.W.Frag) : Nat → Value
  | 0 => .ref (ga K "JoinError")
  | 1 => .ref (ga K "InvalidForm")
  | 2 => .ref (ga K "InvalidNumber")
  | _ => .none
theorem facts {P : Program} {w : World} {K : PySem.W.Frag} {h : Heap} {mg : Str → Option Value} {f : Addr} (X : K.In h) (G : h.Ns mainGlobals mg) (hfa : mg "law" = some (.ref f)) (c : SaysD fa fn K) (ce : exK K = true) :
    ∃ fd : FuncData, (∀ (s : Shared) (v : Value), BindsTo s fd ⟨[v], []⟩ [("_law_script", v)]) ∧ ∀ base : Heap, K.In base → base.Ns mainGlobals mg → FnOk P w K mg base (L2.CX P w) 68 f fd ["_law_script"] (spU K (CC K) 1 run_law) := by
  have B : Bts mg := ⟨free_ok X G (c.fact 0 (f := .free "len") rfl), free_ok X G (c.fact 1 (f := .free "abs") rfl), free_ok X G (c.fact 2 (f := .free "int") rfl), free_ok X G (c.fact 3 (f := .free "max") rfl), free_ok X G (c.fact 4 (f := .free "min") rfl), free_ok X G (c.fact 5 (f := .free "sum") rfl), free_ok X G (c.fact 6 (f := .free "all") rfl), free_ok X G (c.fact 7 (f := .free "any") rfl), free_ok X G (c.fact 8 (f := .free "list") rfl), free_ok X G (c.fact 9 (f := .free "tuple") rfl), free_ok X G (c.fact 10 (f := .free "sorted") rfl), free_ok X G (c.fact 11 (f := .free "range") rfl), free_ok X G (c.fact 12 (f := .free "zip") rfl), free_ok X G (c.fact 13 (f := .free "isinstance") rfl), free_ok X G (c.fact 14 (f := .free "bool") rfl), free_ok X G (c.fact 15 (f := .free "str") rfl)⟩
  have g__law_source := glo_ok X G (c.fact 16 (f := .glo "_law_source") rfl)
  have g_is_tuple := glo_ok X G (c.fact 17 (f := .glo "is_tuple") rfl)
  have g_is_number := glo_ok X G (c.fact 18 (f := .glo "is_number") rfl)
  have g_divisor := glo_ok X G (c.fact 19 (f := .glo "divisor") rfl)
  have g_is_part := glo_ok X G (c.fact 20 (f := .glo "is_part") rfl)
  have g_is_good_form := glo_ok X G (c.fact 21 (f := .glo "is_good_form") rfl)
  have g_is_form := glo_ok X G (c.fact 22 (f := .glo "is_form") rfl)
  have g_need_form := glo_ok X G (c.fact 23 (f := .glo "need_form") rfl)
  have g_joined := glo_ok X G (c.fact 24 (f := .glo "joined") rfl)
  have g_sign := glo_ok X G (c.fact 25 (f := .glo "sign") rfl)
  have g_step_of := glo_ok X G (c.fact 26 (f := .glo "step_of") rfl)
  have g_value_at := glo_ok X G (c.fact 27 (f := .glo "value_at") rfl)
  have g_first_from := glo_ok X G (c.fact 28 (f := .glo "first_from") rfl)
  have g_cut_stretch := glo_ok X G (c.fact 29 (f := .glo "cut_stretch") rfl)
  have g_signs_of := glo_ok X G (c.fact 30 (f := .glo "signs_of") rfl)
  have g_coefficients := glo_ok X G (c.fact 31 (f := .glo "coefficients") rfl)
  have g_form_signs := glo_ok X G (c.fact 32 (f := .glo "form_signs") rfl)
  have g_sign_rows := glo_ok X G (c.fact 33 (f := .glo "sign_rows") rfl)
  have g__law_draw := glo_ok X G (c.fact 34 (f := .glo "_law_draw") rfl)
  have g__law_of := glo_ok X G (c.fact 35 (f := .glo "_law_of") rfl)
  have g__law_common := glo_ok X G (c.fact 36 (f := .glo "_law_common") rfl)
  have g__law_fraction := glo_ok X G (c.fact 37 (f := .glo "_law_fraction") rfl)
  have g__law_times := glo_ok X G (c.fact 38 (f := .glo "_law_times") rfl)
  have g__law_form := glo_ok X G (c.fact 39 (f := .glo "_law_form") rfl)
  have g_need_n := glo_ok X G (c.fact 40 (f := .glo "need_n") rfl)
  have g_reduced := glo_ok X G (c.fact 41 (f := .glo "reduced") rfl)
  have g_power_of := glo_ok X G (c.fact 42 (f := .glo "power_of") rfl)
  have g_worth_of := glo_ok X G (c.fact 43 (f := .glo "worth_of") rfl)
  have g_worth := glo_ok X G (c.fact 44 (f := .glo "worth") rfl)
  have g__law_refused := glo_ok X G (c.fact 45 (f := .glo "_law_refused") rfl)
  have g__law_odd := glo_ok X G (c.fact 46 (f := .glo "_law_odd") rfl)
  have g__law_spoilt := glo_ok X G (c.fact 47 (f := .glo "_law_spoilt") rfl)
  have g__law_is_int := glo_ok X G (c.fact 48 (f := .glo "_law_is_int") rfl)
  have g__law_is_form := glo_ok X G (c.fact 49 (f := .glo "_law_is_form") rfl)
  have g__law_rows_good := glo_ok X G (c.fact 50 (f := .glo "_law_rows_good") rfl)
  have g__law_spots := glo_ok X G (c.fact 51 (f := .glo "_law_spots") rfl)
  have g__law_power := glo_ok X G (c.fact 52 (f := .glo "_law_power") rfl)
  have g__law_worth := glo_ok X G (c.fact 53 (f := .glo "_law_worth") rfl)
  have g__law_at := glo_ok X G (c.fact 54 (f := .glo "_law_at") rfl)
  have g__law_signs_right := glo_ok X G (c.fact 55 (f := .glo "_law_signs_right") rfl)
  have g_law := glo_ok X G (c.fact 56 (f := .glo "law") rfl)
  have g_JoinError := glo_ok X G (c.fact 57 (f := .glo "JoinError") rfl)
  have g_InvalidForm := glo_ok X G (c.fact 58 (f := .glo "InvalidForm") rfl)
  have g_InvalidNumber := glo_ok X G (c.fact 59 (f := .glo "InvalidNumber") rfl)
  have h_FAR := int_ok X G (c.fact 63 (f := .int "FAR" 1000000000000000000000000000000) rfl)
  have h_LARGE := int_ok X G (c.fact 64 (f := .int "LARGE" 100000000000000000000) rfl)
  have e_JoinError : Er K mg (CC K) "JoinError" 0 := er_of rfl g_JoinError (c.fact 60 (f := .exc "JoinError") rfl)
  have e_InvalidForm : Er K mg (CC K) "InvalidForm" 1 := er_of rfl g_InvalidForm (c.fact 61 (f := .exc "InvalidForm") rfl)
  have e_InvalidNumber : Er K mg (CC K) "InvalidNumber" 2 := er_of rfl g_InvalidNumber (c.fact 62 (f := .exc "InvalidNumber") rfl)
  unfold exK at ce
  simp only [Bool.and_eq_true] at ce
  have ca_InvalidForm : Caught K (CC K) (.ref (ga K "InvalidForm")) (.ref (ga K "JoinError")) ex_InvalidForm := ⟨fun n r e => by
    unfold ex_InvalidForm at e
    cases q : Nat.beq n 1 with
    | false => rw [q] at e; cases e
    | true =>
      rw [q] at e; cases e
      have := Nat.eq_of_beq_eq_true q
      subst this
      exact caB_ok ce.1⟩
  have ca_InvalidNumber : Caught K (CC K) (.ref (ga K "InvalidNumber")) (.ref (ga K "JoinError")) ex_InvalidNumber := ⟨fun n r e => by
    unfold ex_InvalidNumber at e
    cases q : Nat.beq n 2 with
    | false => rw [q] at e; cases e
    | true =>
      rw [q] at e; cases e
      have := Nat.eq_of_beq_eq_true q
      subst this
      exact caB_ok ce.2⟩
  obtain ⟨fd__law_source, F__law_source⟩ := c.def_ 0 (d := dD 30 "_law_source") rfl
  obtain ⟨fd_is_tuple, F_is_tuple⟩ := c.def_ 1 (d := dD 8 "is_tuple") rfl
  obtain ⟨fd_is_number, F_is_number⟩ := c.def_ 2 (d := dD 7 "is_number") rfl
  obtain ⟨fd_divisor, F_divisor⟩ := c.def_ 3 (d := dD 9 "divisor") rfl
  obtain ⟨fd_is_part, F_is_part⟩ := c.def_ 4 (d := dD 11 "is_part") rfl
  obtain ⟨fd_is_good_form, F_is_good_form⟩ := c.def_ 5 (d := dD 12 "is_good_form") rfl
  obtain ⟨fd_is_form, F_is_form⟩ := c.def_ 6 (d := dD 26 "is_form") rfl
  obtain ⟨fd_need_form, F_need_form⟩ := c.def_ 7 (d := dD 13 "need_form") rfl
  obtain ⟨fd_joined, F_joined⟩ := c.def_ 8 (d := dD 23 "joined") rfl
  obtain ⟨fd_sign, F_sign⟩ := c.def_ 9 (d := dD 20 "sign") rfl
  obtain ⟨fd_step_of, F_step_of⟩ := c.def_ 10 (d := dD 19 "step_of") rfl
  obtain ⟨fd_value_at, F_value_at⟩ := c.def_ 11 (d := dD 18 "value_at") rfl
  obtain ⟨fd_first_from, F_first_from⟩ := c.def_ 12 (d := dD 21 "first_from") rfl
  obtain ⟨fd_cut_stretch, F_cut_stretch⟩ := c.def_ 13 (d := dD 22 "cut_stretch") rfl
  obtain ⟨fd_signs_of, F_signs_of⟩ := c.def_ 14 (d := dD 24 "signs_of") rfl
  obtain ⟨fd_coefficients, F_coefficients⟩ := c.def_ 15 (d := dD 17 "coefficients") rfl
  obtain ⟨fd_form_signs, F_form_signs⟩ := c.def_ 16 (d := dD 25 "form_signs") rfl
  obtain ⟨fd_sign_rows, F_sign_rows⟩ := c.def_ 17 (d := dD 28 "sign_rows") rfl
  obtain ⟨fd__law_draw, F__law_draw⟩ := c.def_ 18 (d := dD 31 "_law_draw") rfl
  obtain ⟨fd__law_of, F__law_of⟩ := c.def_ 19 (d := dD 32 "_law_of") rfl
  obtain ⟨fd__law_common, F__law_common⟩ := c.def_ 20 (d := dD 33 "_law_common") rfl
  obtain ⟨fd__law_fraction, F__law_fraction⟩ := c.def_ 21 (d := dD 34 "_law_fraction") rfl
  obtain ⟨fd__law_times, F__law_times⟩ := c.def_ 22 (d := dD 42 "_law_times") rfl
  obtain ⟨fd__law_form, F__law_form⟩ := c.def_ 23 (d := dD 43 "_law_form") rfl
  obtain ⟨fd_need_n, F_need_n⟩ := c.def_ 24 (d := dD 14 "need_n") rfl
  obtain ⟨fd_reduced, F_reduced⟩ := c.def_ 25 (d := dD 10 "reduced") rfl
  obtain ⟨fd_power_of, F_power_of⟩ := c.def_ 26 (d := dD 15 "power_of") rfl
  obtain ⟨fd_worth_of, F_worth_of⟩ := c.def_ 27 (d := dD 16 "worth_of") rfl
  obtain ⟨fd_worth, F_worth⟩ := c.def_ 28 (d := dD 27 "worth") rfl
  obtain ⟨fd__law_refused, F__law_refused⟩ := c.def_ 29 (d := dD 47 "_law_refused") rfl
  obtain ⟨fd__law_odd, F__law_odd⟩ := c.def_ 30 (d := dD 44 "_law_odd") rfl
  obtain ⟨fd__law_spoilt, F__law_spoilt⟩ := c.def_ 31 (d := dD 45 "_law_spoilt") rfl
  obtain ⟨fd__law_is_int, F__law_is_int⟩ := c.def_ 32 (d := dD 40 "_law_is_int") rfl
  obtain ⟨fd__law_is_form, F__law_is_form⟩ := c.def_ 33 (d := dD 41 "_law_is_form") rfl
  obtain ⟨fd__law_rows_good, F__law_rows_good⟩ := c.def_ 34 (d := dD 38 "_law_rows_good") rfl
  obtain ⟨fd__law_spots, F__law_spots⟩ := c.def_ 35 (d := dD 39 "_law_spots") rfl
  obtain ⟨fd__law_power, F__law_power⟩ := c.def_ 36 (d := dD 35 "_law_power") rfl
  obtain ⟨fd__law_worth, F__law_worth⟩ := c.def_ 37 (d := dD 36 "_law_worth") rfl
  obtain ⟨fd__law_at, F__law_at⟩ := c.def_ 38 (d := dD 37 "_law_at") rfl
  obtain ⟨fd__law_signs_right, F__law_signs_right⟩ := c.def_ 39 (d := dD 46 "_law_signs_right") rfl
  obtain ⟨fd, FL⟩ := c.def_ 40 (d := dD 48 "law") rfl
  have e := hfa.symm.trans g_law
  cases e
  have b := FunD.bindsA (ps := ["_law_script"]) FL fun _ _ _ _ _ _ us hl => match us, hl with | [_], _ => rfl
  refine ⟨fd, fun s v => b s [v] rfl, fun base _ _ => ?_⟩
  have d__law_source : DfN P w K mg base "_law_source" 2 1 run__law_source := D__law_source B F__law_source g__law_source
  have d_is_tuple : Df P w K mg base (CC K) "is_tuple" 3 1 run_is_tuple := D_is_tuple B F_is_tuple g_is_tuple
  have d_is_number : Df P w K mg base (CC K) "is_number" 3 1 run_is_number := D_is_number B F_is_number g_is_number
  have d_divisor : Df P w K mg base (CC K) "divisor" 2 1 run_divisor := D_divisor B F_divisor g_divisor
  have d_is_part : Df P w K mg base (CC K) "is_part" 1 2 run_is_part := D_is_part B h_LARGE d_is_number d_is_tuple d_divisor F_is_part g_is_part
  have d_is_good_form : Df P w K mg base (CC K) "is_good_form" 1 3 run_is_good_form := D_is_good_form B d_is_tuple d_is_part F_is_good_form g_is_good_form
  have d_is_form : Df P w K mg base (CC K) "is_form" 1 4 run_is_form := D_is_form B d_is_good_form F_is_form g_is_form
  have d_need_form : Df P w K mg base (CC K) "need_form" 1 4 run_need_form := D_need_form B e_InvalidForm d_is_good_form F_need_form g_need_form
  have d_joined : Df P w K mg base (CC K) "joined" 1 1 run_joined := D_joined B F_joined g_joined
  have d_sign : Df P w K mg base (CC K) "sign" 1 1 run_sign := D_sign B F_sign g_sign
  have d_step_of : Df P w K mg base (CC K) "step_of" 1 1 run_step_of := D_step_of B F_step_of g_step_of
  have d_value_at : Df P w K mg base (CC K) "value_at" 2 1 run_value_at := D_value_at B F_value_at g_value_at
  have d_first_from : Df P w K mg base (CC K) "first_from" 5 2 run_first_from := D_first_from B d_value_at F_first_from g_first_from
  have d_cut_stretch : Df P w K mg base (CC K) "cut_stretch" 4 3 run_cut_stretch := D_cut_stretch B d_first_from d_sign d_value_at F_cut_stretch g_cut_stretch
  have d_signs_of : Df P w K mg base (CC K) "signs_of" 1 64 (run_signs_of 60) := D_signs_of B d_joined d_sign d_step_of d_cut_stretch F_signs_of g_signs_of 60
  have d_coefficients : Df P w K mg base (CC K) "coefficients" 1 2 run_coefficients := D_coefficients B d_divisor F_coefficients g_coefficients
  have d_form_signs : Df P w K mg base (CC K) "form_signs" 1 65 run_form_signs := D_form_signs B d_signs_of d_coefficients F_form_signs g_form_signs
  have d_sign_rows : Df P w K mg base (CC K) "sign_rows" 1 66 run_sign_rows := D_sign_rows B d_need_form d_form_signs F_sign_rows g_sign_rows
  have d__law_draw : Df P w K mg base (CC K) "_law_draw" 2 1 run__law_draw := D__law_draw B F__law_draw g__law_draw
  have d__law_of : Df P w K mg base (CC K) "_law_of" 2 2 run__law_of := D__law_of B d__law_draw F__law_of g__law_of
  have d__law_common : Df P w K mg base (CC K) "_law_common" 2 1 run__law_common := D__law_common B F__law_common g__law_common
  have d__law_fraction : Df P w K mg base (CC K) "_law_fraction" 2 2 run__law_fraction := D__law_fraction B d__law_common F__law_fraction g__law_fraction
  have d__law_times : Df P w K mg base (CC K) "_law_times" 3 3 run__law_times := D__law_times B d__law_fraction F__law_times g__law_times
  have d__law_form : Df P w K mg base (CC K) "_law_form" 1 4 run__law_form := D__law_form B d__law_draw d__law_of d__law_times F__law_form g__law_form
  have d_need_n : Df P w K mg base (CC K) "need_n" 2 2 run_need_n := D_need_n B e_InvalidNumber d_is_number F_need_n g_need_n
  have d_reduced : Df P w K mg base (CC K) "reduced" 2 2 run_reduced := D_reduced B d_divisor F_reduced g_reduced
  have d_power_of : Df P w K mg base (CC K) "power_of" 2 1 run_power_of := D_power_of B F_power_of g_power_of
  have d_worth_of : Df P w K mg base (CC K) "worth_of" 2 3 run_worth_of := D_worth_of B d_reduced d_power_of F_worth_of g_worth_of
  have d_worth : Df P w K mg base (CC K) "worth" 2 5 run_worth := D_worth B h_FAR d_need_form d_need_n d_worth_of F_worth g_worth
  have d__law_refused : Df P w K mg base (CC K) "_law_refused" 2 67 run__law_refused := D__law_refused B g_InvalidForm g_JoinError ca_InvalidForm g_InvalidNumber ca_InvalidNumber d_worth d_sign_rows F__law_refused g__law_refused
  have d__law_odd : Df P w K mg base (CC K) "_law_odd" 1 3 run__law_odd := D__law_odd B d__law_of F__law_odd g__law_odd
  have d__law_spoilt : Df P w K mg base (CC K) "_law_spoilt" 2 18 (run__law_spoilt 14) := D__law_spoilt B d__law_odd d__law_draw F__law_spoilt g__law_spoilt 14
  have d__law_is_int : Df P w K mg base (CC K) "_law_is_int" 3 1 run__law_is_int := D__law_is_int B F__law_is_int g__law_is_int
  have d__law_is_form : Df P w K mg base (CC K) "_law_is_form" 1 2 run__law_is_form := D__law_is_form B d__law_is_int d__law_common F__law_is_form g__law_is_form
  have d__law_rows_good : Df P w K mg base (CC K) "_law_rows_good" 1 1 run__law_rows_good := D__law_rows_good B F__law_rows_good g__law_rows_good
  have d__law_spots : Df P w K mg base (CC K) "_law_spots" 2 2 run__law_spots := D__law_spots B d__law_draw F__law_spots g__law_spots
  have d__law_power : Df P w K mg base (CC K) "_law_power" 2 1 run__law_power := D__law_power B F__law_power g__law_power
  have d__law_worth : Df P w K mg base (CC K) "_law_worth" 2 3 run__law_worth := D__law_worth B d__law_fraction d__law_power F__law_worth g__law_worth
  have d__law_at : Df P w K mg base (CC K) "_law_at" 2 1 run__law_at := D__law_at B F__law_at g__law_at
  have d__law_signs_right : Df P w K mg base (CC K) "_law_signs_right" 2 67 run__law_signs_right := D__law_signs_right B d_sign_rows d__law_rows_good d__law_spots d__law_worth d__law_at d_worth F__law_signs_right g__law_signs_right
  exact law_ok FL S_law (b_law B d__law_source d_is_form d_sign_rows d__law_form d__law_refused d_worth d__law_spoilt d__law_is_form d__law_signs_right)
end GJ

set_option Elab.async false
set_option linter.all false
set_option maxRecDepth 100000
set_option maxHeartbeats 1000000
namespace GJ
open PySem L2 MP

@[simp] theorem blt_dec (a b : Nat) : Nat.blt a b = decide (a < b) := by
  cases h : Nat.blt a b with
  | true => exact (decide_eq_true (p := a < b) (Nat.le_of_ble_eq_true h)).symm
  | false =>
    by_cases q : a < b
    · have := Nat.ble_eq_true_of_le q
      rw [show Nat.blt a b = Nat.ble (a + 1) b from rfl] at h
      rw [h] at this; cases this
    · rw [decide_eq_false q]
@[simp] theorem ble_dec (a b : Nat) : Nat.ble a b = decide (a ≤ b) := by
  cases h : Nat.ble a b with
  | true => rw [decide_eq_true (Nat.le_of_ble_eq_true h)]
  | false =>
    by_cases q : a ≤ b
    · rw [Nat.ble_eq_true_of_le q] at h; cases h
    · rw [decide_eq_false q]
theorem gcd_step (a b : Int) (h : 0 < b) : Int.gcd b (a % b) = Int.gcd a b := by
  have e := Int.emod_add_mul_ediv a b
  apply Nat.dvd_antisymm
  · apply Int.ofNat_dvd.mp
    apply Int.dvd_coe_gcd
    · have h1 := Int.gcd_dvd_left b (a % b)
      have h2 := Int.gcd_dvd_right b (a % b)
      have := Int.dvd_add h2 (Int.dvd_mul_of_dvd_left (c := a / b) h1)
      rwa [e] at this
    · exact Int.gcd_dvd_left b (a % b)
  · apply Int.ofNat_dvd.mp
    apply Int.dvd_coe_gcd
    · exact Int.gcd_dvd_right a b
    · have h1 := Int.gcd_dvd_left a b
      have h2 := Int.gcd_dvd_right a b
      have := Int.dvd_sub h1 (Int.dvd_mul_of_dvd_left (c := a / b) h2)
      have e2 : a - b * (a / b) = a % b := by omega
      rwa [e2] at this
theorem half_lt {k : Nat} {a b : Int} (hb : 0 < b) (ha : b < a) (h : a < 2 ^ (k + 1)) : a % b < 2 ^ k := by
  have h1 : a % b < b := Int.emod_lt_of_pos a hb
  have h2 : a % b + b ≤ a := by
    have := Int.emod_add_mul_ediv a b
    have h3 : 1 ≤ a / b := by
      apply (Int.le_ediv_iff_mul_le hb).mpr
      omega
    have h4 : b * 1 ≤ b * (a / b) := Int.mul_le_mul_of_nonneg_left h3 (by omega)
    omega
  have h5 : (2 : Int) ^ (k + 1) = 2 * 2 ^ k := by rw [Int.pow_succ]; omega
  omega
/-- Euclid's loop -/
theorem loop_gcd {mc : ME} {mb : MS} (h1 : ∀ a b : Int, mc [.va (.int a), .va (.int b)] = .ok (.bl (!decide (b = 0))) [.va (.int a), .va (.int b)])
    (h2 : ∀ a b : Int, 0 < b → mb [.va (.int a), .va (.int b)] = .nx [.va (.int b), .va (.int (a % b))]) :
    ∀ (k : Nat) (a b : Int), 0 ≤ b → b < 2 ^ k → ∀ n, 2 * k + 1 ≤ n → ∃ g : Int, whileGo mc mb n [.va (.int a), .va (.int b)] = .nx [.va (.int g), .va (.int 0)] ∧ g.natAbs = Int.gcd a b ∧ (0 ≤ a → 0 ≤ g) := by
  intro k
  induction k with
  | zero =>
    intro a b h0 hb n hn
    have : b = 0 := by simp at hb; omega
    subst this
    obtain ⟨m, rfl⟩ : ∃ m, n = m + 1 := ⟨n - 1, by omega⟩
    exact ⟨a, by simp [whileGo, h1], by simp, id⟩
  | succ k ih =>
    intro a b h0 hb n hn
    obtain ⟨m, rfl⟩ : ∃ m, n = m + 2 := ⟨n - 2, by omega⟩
    by_cases hz : b = 0
    · subst hz
      exact ⟨a, by simp [whileGo, h1], by simp, id⟩
    · have hp : 0 < b := by omega
      have hr0 : 0 ≤ a % b := Int.emod_nonneg a hz
      by_cases hr : a % b = 0
      · refine ⟨b, ?_, ?_, fun _ => h0⟩
        · simp [whileGo, h1, h2 a b hp, hz, hr]
        · rw [← gcd_step a b hp, hr]; simp
      · have hrp : 0 < a % b := by omega
        obtain ⟨g, e1, e2, e3⟩ := ih (a % b) (b % (a % b)) (Int.emod_nonneg _ hr) (half_lt hrp (Int.emod_lt_of_pos a hp) hb) m (by omega)
        refine ⟨g, ?_, ?_, fun _ => e3 hr0⟩
        · simp [whileGo, h1, h2 a b hp, h2 b (a % b) hrp, hz, hr]
          exact e1
        · rw [e2, gcd_step _ _ hrp, gcd_step a b hp]
theorem divisor_ok (a b : Int) (h0 : 0 ≤ b) (hb : b < 2 ^ 400000) : run_divisor [.va (.int a), .va (.int b)] = .ok (.int (Int.gcd a b)) none := by
  obtain ⟨g, e1, e2, _⟩ := loop_gcd (mc := mB fNe (mPk 1) (lPk 1) (mC (.int 0)) lId) (mb := mPar 0 1 (maCons (mVar 1) (maCons (mB fMod (mPk 0) (lPk 0) (mPk 1) (lPk 1)) maNil)))
    (fun a b => by simp [slotD, outOf, fAdd, fSub, fMod, fLt, fLe, fGt, fGe, fNeg, fIsN, fNotN, MP.isNon, bAbs, bInt, isInt, isBool, isTup, isStr, bLen, line, fNe, fEq, eqD, eqL, okD, okL]) (fun a b h => by simp [slotD, outOf, fAdd, fSub, fMod, fLt, fLe, fGt, fGe, fNeg, fIsN, fNotN, MP.isNon, bAbs, bInt, isInt, isBool, isTup, isStr, bLen, line, h]) 400000 a b h0 hb fuel (by decide)
  simp [run_divisor, runF, m_divisor, mWhile, e1, slotD, outOf, fAdd, fSub, fMod, fLt, fLe, fGt, fGe, fNeg, fIsN, fNotN, MP.isNon, bAbs, bInt, isInt, isBool, isTup, isStr, bLen, line]
  rw [← e2]
  split <;> omega
theorem common_ok (a b : Int) (hb : b.natAbs < 2 ^ 400000) : run__law_common [.va (.int a), .va (.int b)] = .ok (.int (Int.gcd a b)) none := by
  have h0 : (0 : Int) ≤ (b.natAbs : Int) := by omega
  have h1 : ((b.natAbs : Int)) < 2 ^ 400000 := by
    have := Int.ofNat_lt.mpr hb
    rwa [Int.natCast_pow] at this
  obtain ⟨g, e1, e2, e3⟩ := loop_gcd (mc := mB fNe (mPk 1) (lPk 1) (mC (.int 0)) lId) (mb := mPar 0 1 (maCons (mVar 1) (maCons (mB fMod (mPk 0) (lPk 0) (mPk 1) (lPk 1)) maNil)))
    (fun a b => by simp [slotD, outOf, fAdd, fSub, fMod, fLt, fLe, fGt, fGe, fNeg, fIsN, fNotN, MP.isNon, bAbs, bInt, isInt, isBool, isTup, isStr, bLen, line, fNe, fEq, eqD, eqL, okD, okL]) (fun a b h => by simp [slotD, outOf, fAdd, fSub, fMod, fLt, fLe, fGt, fGe, fNeg, fIsN, fNotN, MP.isNon, bAbs, bInt, isInt, isBool, isTup, isStr, bLen, line, h]) 400000 (a.natAbs : Int) (b.natAbs : Int) h0 h1 fuel (by decide)
  have g1 : (g.natAbs : Int) = g := Int.natAbs_of_nonneg (e3 (by omega))
  have g2 : Int.gcd (a.natAbs : Int) (b.natAbs : Int) = Int.gcd a b := by simp [Int.gcd]
  have x1 : (if a < 0 then -a else a) = (a.natAbs : Int) := by split <;> omega
  have x2 : (if b < 0 then -b else b) = (b.natAbs : Int) := by split <;> omega
  simp only [run__law_common, runF, m__law_common]
  simp [slotD, outOf, fAdd, fSub, fMod, fLt, fLe, fGt, fGe, fNeg, fIsN, fNotN, MP.isNon, bAbs, bInt, isInt, isBool, isTup, isStr, bLen, line, x1, x2]
  rw [e1]
  simp [slotD, outOf, fAdd, fSub, fMod, fLt, fLe, fGt, fGe, fNeg, fIsN, fNotN, MP.isNon, bAbs, bInt, isInt, isBool, isTup, isStr, bLen, line]
  rw [← g1, e2, g2]
end GJ

set_option Elab.async false
set_option linter.all false
set_option maxRecDepth 100000
set_option maxHeartbeats 1000000
namespace GJ
open PySem L2 MP

/-! ### sizes -/
def Bd (x : Int) (k : Nat) : Prop := x.natAbs ≤ 2 ^ k
theorem Bd.mono {x : Int} {a b : Nat} (h : Bd x a) (e : a ≤ b) : Bd x b := Nat.le_trans h (Nat.pow_le_pow_right (by decide) e)
theorem Bd.mul {x y : Int} {a b : Nat} (h : Bd x a) (h' : Bd y b) : Bd (x * y) (a + b) := by
  unfold Bd at *
  rw [Int.natAbs_mul, Nat.pow_add]
  exact Nat.mul_le_mul h h'
theorem Bd.add {x y : Int} {a : Nat} (h : Bd x a) (h' : Bd y a) : Bd (x + y) (a + 1) := by
  unfold Bd at *
  have := Int.natAbs_add_le x y
  rw [Nat.pow_succ]
  omega
theorem Bd.neg {x : Int} {a : Nat} (h : Bd x a) : Bd (-x) a := by
  unfold Bd at *
  rw [Int.natAbs_neg]; exact h
theorem Bd.sub {x y : Int} {a : Nat} (h : Bd x a) (h' : Bd y a) : Bd (x - y) (a + 1) := by
  rw [Int.sub_eq_add_neg]
  exact h.add h'.neg
theorem Bd.pow {x : Int} {a : Nat} (h : Bd x a) : ∀ n : Nat, Bd (x ^ n) (a * n)
  | 0 => by unfold Bd; simp
  | n + 1 => by
    rw [Int.pow_succ, Nat.mul_succ]
    exact (Bd.pow h n).mul h
theorem Bd.of {x : Int} {k : Nat} (h : x.natAbs ≤ 2 ^ k) : Bd x k := h
theorem Bd.log {x : Int} {a : Nat} (h : Bd x a) : x.natAbs.log2 ≤ a := by
  unfold Bd at h
  by_cases h0 : x.natAbs = 0
  · rw [h0]; exact Nat.le_trans (by decide) (Nat.zero_le a)
  · have : x.natAbs < 2 ^ (a + 1) := by rw [Nat.pow_succ]; have := Nat.two_pow_pos a; omega
    have := (Nat.log2_lt h0).mpr this
    omega
theorem fMul_ok {x y : Int} {a b : Nat} (hx : Bd x a) (hy : Bd y b) (h : a + b < 1000000) : fMul (.int x) (.int y) = some (.int (x * y)) := by
  have h1 := hx.log
  have h2 := hy.log
  have : x.natAbs.log2 + y.natAbs.log2 < 1000000 := by omega
  simp only [fMul, blt_dec, decide_eq_true this]
theorem fDiv_ok {x y : Int} {b : Nat} (h0 : 0 < y) (hy : Bd y b) (h : b < 9000) : fDiv (.int x) (.int y) = some (.int (x / y)) := by
  have h2 := hy.log
  have : y.natAbs.log2 < 9000 := by omega
  simp only [fDiv, blt_dec, decide_eq_true this, decide_eq_true h0, Bool.and_self]
/-! ### fractions -/
def qD (q : Rat) : D := .tup [.int q.num, .int (q.den : Int)]
theorem Bd.lt {x : Int} {a k : Nat} (h : Bd x a) (h0 : 0 ≤ x) (e : a < k) : x < 2 ^ k := by
  have h1 : x.natAbs < 2 ^ k := Nat.lt_of_le_of_lt h (Nat.pow_lt_pow_right (by decide) e)
  have h2 : (x.natAbs : Int) = x := Int.natAbs_of_nonneg h0
  have h3 : ((x.natAbs : Int)) < ((2 ^ k : Nat) : Int) := Int.ofNat_lt.mpr h1
  rw [h2] at h3
  rw [Int.natCast_pow] at h3
  exact h3
theorem reduced_ok (t b : Int) (h : 0 < b) {k : Nat} (hs : Bd b k) (hk : k < 9000) : run_reduced [.va (.int t), .va (.int b)] = .ok (qD (Rat.divInt t b)) none := by
  have hd : run_divisor [.va (.int t), .va (.int b)] = .ok (.int (Int.gcd t b)) none := divisor_ok t b (by omega) (hs.lt (by omega) (by omega))
  have g0 : 0 < Int.gcd t b := Int.gcd_pos_of_ne_zero_right t (by omega)
  have gl : Int.gcd t b ≤ b.natAbs := Nat.le_of_dvd (by omega) (by
    have := Int.gcd_dvd_right t b
    exact Int.ofNat_dvd_left.mp this)
  have gB : Bd ((Int.gcd t b : Nat) : Int) k := by
    unfold Bd
    rw [Int.natAbs_natCast]
    exact Nat.le_trans gl hs
  have e1 := fDiv_ok (x := t) (y := (Int.gcd t b : Nat)) (by omega) gB hk
  have e2 := fDiv_ok (x := b) (y := (Int.gcd t b : Nat)) (by omega) gB hk
  have n1 : (Rat.divInt t b).num = t / (Int.gcd t b : Int) := by
    rw [Rat.num_divInt, Int.sign_eq_one_of_pos h, Int.one_mul, Int.gcd_comm]
  have n2 : ((Rat.divInt t b).den : Int) = b / (Int.gcd t b : Int) := by
    rw [Rat.den_divInt, if_neg (by omega), Int.gcd_comm, Int.natCast_ediv, Int.natAbs_of_nonneg (by omega)]
  simp [run_reduced, runF, m_reduced, mUser, hd, e1, e2, mTup, line, qD, n1, n2, slotD, outOf, fAdd, fSub, fMod, fLt, fLe, fGt, fGe, fNeg, fIsN, fNotN, MP.isNon, bAbs, bInt, isInt, isBool, isTup, isStr, bLen, line]
/-! ### powers -/
theorem pow_loop (f0 : UF) (n : Int) (k : Nat) (hn : Bd n k) (m : Int) : ∀ (ds : List D) (f : Int) (l : Nat) (t : Sl), Bd f l → l + k * ds.length < 900000 → ∃ t', forGo (mgName 3) (mSet 2 (mB fMul (mPk 2) (lPk 2) (mPk 0) (lPk 0))) ds [.va (.int n), .va (.int m), .va (.int f), t] = .nx [.va (.int n), .va (.int m), .va (.int (f * n ^ ds.length)), t']
  | [], f, l, t, hf, hl => ⟨t, by simp [forGo]⟩
  | d :: ds, f, l, t, hf, hl => by
    simp only [List.length_cons] at hl
    have hl2 : l + k + k * ds.length < 900000 := by
      have : k * (ds.length + 1) = k * ds.length + k := Nat.mul_succ _ _
      omega
    obtain ⟨t', e⟩ := pow_loop f0 n k hn m ds (f * n) (l + k) (.va d) (hf.mul hn) hl2
    have em := fMul_ok hf hn (by omega)
    refine ⟨t', ?_⟩
    have e3 : f * n ^ (ds.length + 1) = f * n * n ^ ds.length := by rw [Int.pow_succ]; grind
    simp [forGo, mgName, em, slotD, outOf, fAdd, fSub, fMod, fLt, fLe, fGt, fGe, fNeg, fIsN, fNotN, MP.isNon, bAbs, bInt, isInt, isBool, isTup, isStr, bLen, line]
    rw [e3]
    exact e
theorem ups_length : ∀ (lo : Int) (n : Nat), (ups lo n).length = n := fun lo n => ups_len n lo
theorem power_ok (n m : Int) (k : Nat) (hn : Bd n k) (hm : m ≤ 1000) (hm0 : -1000 ≤ m) (hk : k ≤ 800) : run_power_of [.va (.int n), .va (.int m)] = .ok (.int (n ^ m.toNat)) none := by
  obtain ⟨t', e⟩ := pow_loop runBad n k hn m (ups 0 m.toNat) 1 0 .no (by unfold Bd; simp) (by
    rw [ups_length]
    have h1 : m.toNat ≤ 1000 := by omega
    have : k * m.toNat ≤ 800 * 1000 := Nat.mul_le_mul hk h1
    omega)
  rw [ups_length, Int.one_mul] at e
  have hb : big m = true := by simp [big]; omega
  simp [run_power_of, runF, m_power_of, mFor, mRange1, hb, slotD, outOf, fAdd, fSub, fMod, fLt, fLe, fGt, fGe, fNeg, fIsN, fNotN, MP.isNon, bAbs, bInt, isInt, isBool, isTup, isStr, bLen, line]
  rw [e]
  simp [slotD, outOf, fAdd, fSub, fMod, fLt, fLe, fGt, fGe, fNeg, fIsN, fNotN, MP.isNon, bAbs, bInt, isInt, isBool, isTup, isStr, bLen, line]
theorem lpower_ok (n m : Int) (k : Nat) (hn : Bd n k) (hm : m ≤ 1000) (hm0 : -1000 ≤ m) (hk : k ≤ 800) : run__law_power [.va (.int n), .va (.int m)] = .ok (.int (n ^ m.toNat)) none := by
  have e := power_ok n m k hn hm hm0 hk
  exact e
end GJ

set_option Elab.async false
set_option linter.all false
set_option maxRecDepth 100000
set_option maxHeartbeats 1000000
namespace GJ
open PySem L2 MP

abbrev Tr : Type := Int × Int × Int
def trD (x : Tr) : D := .tup [.int x.1, .int x.2.1, .int x.2.2]
def fD (f : List Tr) : D := .tup (f.map trD)
/-- the sum of a form's parts at n, its powers told from s -/
def wS : List Tr → Int → Int → Rat
  | [], _, _ => 0
  | x :: r, n, s => (x.2.1 : Rat) / (x.2.2 : Rat) * (n : Rat) ^ (x.1 - s) + wS r n s
structure Pt (low : Int) (x : Tr) : Prop where
  lo : 0 ≤ x.1 - low
  hi : x.1 - low ≤ 60
  u : Bd x.2.1 67
  d0 : 0 < x.2.2
  d : Bd x.2.2 67
theorem ic0 {b : Int} (h : b ≠ 0) : (b : Rat) ≠ 0 := fun e => h (Rat.intCast_eq_zero_iff.mp e)
theorem q_nd (q : Rat) : (q.num : Rat) = q * ((q.den : Int) : Rat) := by
  have h1 := Rat.num_divInt_den q
  rw [Rat.divInt_eq_div] at h1
  have h2 : ((q.den : Int) : Rat) ≠ 0 := ic0 (by have := q.den_nz; omega)
  have h3 : (q.num : Rat) / ((q.den : Int) : Rat) = q := h1
  grind
theorem zpow_nat (n : Int) (k : Int) (h : 0 ≤ k) : ((n ^ k.toNat : Int) : Rat) = (n : Rat) ^ k := by
  have e : k = ((k.toNat : Nat) : Int) := by omega
  rw [Rat.intCast_pow]
  conv => rhs; rw [e]
  rw [Rat.zpow_natCast]
theorem bd_num {t b : Int} (hb : 0 < b) {a : Nat} (h : Bd t a) : Bd (Rat.divInt t b).num a := by
  rw [Rat.num_divInt, Int.sign_eq_one_of_pos hb, Int.one_mul]
  unfold Bd at *
  exact Nat.le_trans (Int.natAbs_ediv_le_natAbs _ _) h
theorem bd_den {t b : Int} (hb : 0 < b) {a : Nat} (h : Bd b a) : Bd ((Rat.divInt t b).den : Int) a := by
  rw [Rat.den_divInt, if_neg (by omega)]
  unfold Bd at *
  rw [Int.natAbs_natCast]
  exact Nat.le_trans (Nat.div_le_self _ _) h
theorem den_pos (q : Rat) : 0 < (q.den : Int) := by have := q.den_nz; omega
theorem step_q (q : Rat) (u d : Int) (m : Int) (hd : 0 < d) : Rat.divInt (q.num * d + u * m * (q.den : Int)) ((q.den : Int) * d) = q + (u : Rat) / (d : Rat) * (m : Rat) := by
  rw [Rat.divInt_eq_div, Rat.intCast_add, Rat.intCast_mul, Rat.intCast_mul, Rat.intCast_mul, Rat.intCast_mul, q_nd q]
  have h1 : ((q.den : Int) : Rat) ≠ 0 := ic0 (by have := den_pos q; omega)
  have h2 : (d : Rat) ≠ 0 := ic0 (by omega)
  grind
theorem worth_loop (F : D) (n low : Int) (hn : Bd n 100) : ∀ (f : List Tr) (q : Rat) (a b : Nat) (s5 s6 s7 : Sl), (∀ x ∈ f, Pt low x) → Bd q.num a → Bd (q.den : Int) b → 6200 + b ≤ a → a + 70 * f.length ≤ 9000 → b + 70 * f.length ≤ 2000 →
    ∃ s5' s6' s7', forGo (mgTup 3 (mgsCons (mgName 5) (mgsCons (mgName 6) (mgsCons (mgName 7) mgsNil)))) (mAsg (mgTup 2 (mgsCons (mgName 3) (mgsCons (mgName 4) mgsNil))) (mUser run_reduced (maCons (mB fAdd (mB fMul (mPk 3) (lPk 3) (mPk 7) (lPk 7)) lId (mB fMul (mB fMul (mPk 6) (lPk 6) (mUser run_power_of (maCons (mVar 1) (maCons (mB fSub (mPk 5) (lPk 5) (mPk 2) (lPk 2)) maNil))) lId) lId (mPk 4) (lPk 4)) lId) (maCons (mB fMul (mPk 4) (lPk 4) (mPk 7) (lPk 7)) maNil))))
      (f.map trD) [.va F, .va (.int n), .va (.int low), .va (.int q.num), .va (.int (q.den : Int)), s5, s6, s7] = .nx [.va F, .va (.int n), .va (.int low), .va (.int (q + wS f n low).num), .va (.int ((q + wS f n low).den : Int)), s5', s6', s7'] ∧
      Bd (q + wS f n low).num (a + 70 * f.length) ∧ Bd ((q + wS f n low).den : Int) (b + 70 * f.length)
  | [], q, a, b, s5, s6, s7, hf, ha, hb, h1, h2, h3 => by
    have e : q + wS [] n low = q := by unfold wS; grind
    rw [e]
    exact ⟨s5, s6, s7, by simp [forGo], by simpa using ha, by simpa using hb⟩
  | x :: f, q, a, b, s5, s6, s7, hf, ha, hb, h1, h2, h3 => by
    simp only [List.length_cons] at h2 h3
    have hx := hf x List.mem_cons_self
    obtain ⟨p, u, d⟩ := x
    obtain ⟨x1, x2, x3, x4, x5⟩ := hx
    dsimp only at x1 x2 x3 x4 x5
    have hp := power_ok n (p - low) 100 hn (by omega) (by omega) (by omega)
    have bp : Bd (n ^ (p - low).toNat) 6000 := (hn.pow _).mono (by omega)
    have m1 := fMul_ok ha x5 (by omega)
    have m2 := fMul_ok x3 bp (by omega)
    have m3 := fMul_ok (x3.mul bp) hb (by omega)
    have m4 := fMul_ok hb x5 (by omega)
    have dp : 0 < (q.den : Int) * d := Int.mul_pos (den_pos q) x4
    have r := reduced_ok (q.num * d + u * n ^ (p - low).toNat * (q.den : Int)) ((q.den : Int) * d) dp (hb.mul x5) (by omega)
    have eq := step_q q u d (n ^ (p - low).toNat) x4
    rw [zpow_nat n (p - low) x1] at eq
    have bn : Bd (q.num * d + u * n ^ (p - low).toNat * (q.den : Int)) (a + 70) := (((ha.mul x5).mono (by omega : a + 67 ≤ a + 69)).add (((x3.mul bp).mul hb).mono (by omega))).mono (by omega)
    have b1 : Bd (q + (u : Rat) / (d : Rat) * (n : Rat) ^ (p - low)).num (a + 70) := by rw [← eq]; exact bd_num dp bn
    have b2 : Bd ((q + (u : Rat) / (d : Rat) * (n : Rat) ^ (p - low)).den : Int) (b + 70) := by rw [← eq]; exact bd_den dp ((hb.mul x5).mono (by omega))
    obtain ⟨s5', s6', s7', e1, e2, e3⟩ := worth_loop F n low hn f (q + (u : Rat) / (d : Rat) * (n : Rat) ^ (p - low)) (a + 70) (b + 70) (.va (.int p)) (.va (.int u)) (.va (.int d)) (fun y hy => hf y (List.mem_cons_of_mem _ hy)) b1 b2 (by omega) (by omega) (by omega)
    have es : q + (u : Rat) / (d : Rat) * (n : Rat) ^ (p - low) + wS f n low = q + wS ((p, u, d) :: f) n low := by
      conv => rhs; unfold wS
      grind
    rw [es] at e1 e2 e3
    refine ⟨s5', s6', s7', ?_, e2.mono (by simp only [List.length_cons]; omega), e3.mono (by simp only [List.length_cons]; omega)⟩
    rw [eq] at r
    simp [forGo, trD, m1, m2, m3, m4, hp, r, qD, slotD, outOf, fAdd, fSub, fMod, fLt, fLe, fGt, fGe, fNeg, fIsN, fNotN, MP.isNon, bAbs, bInt, isInt, isBool, isTup, isStr, bLen, line]
    exact e1
end GJ

set_option Elab.async false
set_option linter.all false
set_option maxRecDepth 100000
set_option maxHeartbeats 1000000
namespace GJ
open PySem L2 MP

theorem ok_trD (n : Nat) (x : Tr) : okD (n + 1) (trD x) = true := by simp [trD, okD, okL]
theorem ok_fL (n : Nat) : ∀ f : List Tr, okL (n + 1) (f.map trD) = true
  | [] => by simp [okL]
  | x :: f => by simp [okL, ok_trD, ok_fL n f]
theorem ok_fD (f : List Tr) : okD 64 (fD f) = true := by simp [fD, okD, ok_fL]
theorem feq_nil (f : List Tr) : fEq (fD f) (.tup []) = some (.bl f.isEmpty) := by
  cases f with
  | nil => simp [fD, fEq, okD, okL, eqD, eqL]
  | cons x f =>
    have := ok_fD (x :: f)
    simp only [fEq, this]
    simp [fD, okD, okL, eqD, eqL]
theorem wS_shift (n : Int) (hn : n ≠ 0) (s t : Int) : ∀ f : List Tr, wS f n s * (n : Rat) ^ (s - t) = wS f n t
  | [] => by unfold wS; grind
  | x :: f => by
    have ih := wS_shift n hn s t f
    unfold wS
    have h : (n : Rat) ^ (x.1 - t) = (n : Rat) ^ (x.1 - s) * (n : Rat) ^ (s - t) := by
      rw [← Rat.zpow_add (ic0 hn)]
      congr 1
      omega
    rw [h, ← ih]
    grind
def wF (f : List Tr) (n : Int) : Rat := wS f n 0
theorem end_q (q : Rat) (n low : Int) (hn : 0 < n) : Rat.divInt (q.num * n ^ low.toNat) ((q.den : Int) * n ^ (-low).toNat) = q * (n : Rat) ^ low := by
  have h1 : ((q.den : Int) : Rat) ≠ 0 := ic0 (by have := den_pos q; omega)
  have hn0 : (n : Rat) ≠ 0 := ic0 (by omega)
  rw [Rat.divInt_eq_div, Rat.intCast_mul, Rat.intCast_mul, q_nd q]
  by_cases h : 0 ≤ low
  · have e : (-low).toNat = 0 := by omega
    rw [e, zpow_nat n low h]
    simp
    grind
  · have e : low.toNat = 0 := by omega
    have h2 := zpow_nat n (-low) (by omega)
    rw [Rat.zpow_neg] at h2
    rw [e, h2]
    have h3 : (n : Rat) ^ low ≠ 0 := fun z => by
      rw [z] at h2
      have : ((n ^ (-low).toNat : Int) : Rat) ≠ 0 := ic0 (by have := @Int.pow_pos n (-low).toNat hn; omega)
      rw [h2] at this
      exact this (by grind)
    simp
    grind
theorem wS_nil {n s : Int} : wS [] n s = 0 := rfl
theorem worth_of_ok (f : List Tr) (n : Int) (hn : Bd n 100) (hp : 0 < n) (hl : f.length ≤ 12) (low : Int) (h0 : ∀ x, f.head? = some x → x.1 = low) (h1 : -20 ≤ low) (h2 : low ≤ 20) (h : ∀ x ∈ f, Pt low x) :
    run_worth_of [.va (fD f), .va (.int n)] = .ok (qD (wF f n)) none := by
  have fe := feq_nil f
  cases f with
  | nil =>
    simp [run_worth_of, runF, m_worth_of, fe, slotD, outOf, fAdd, fSub, fMod, fLt, fLe, fGt, fGe, fNeg, fIsN, fNotN, MP.isNon, bAbs, bInt, isInt, isBool, isTup, isStr, bLen, line]
    simp [qD, wF, wS]
  | cons x f =>
    have hx := h0 x rfl
    obtain ⟨s5, s6, s7, e1, e2, e3⟩ := worth_loop (fD (x :: f)) n low hn (x :: f) 0 6200 0 .no .no .no h (by unfold Bd; simp) (by unfold Bd; simp) (by omega) (by omega) (by omega)
    have z0 : (0 : Rat) + wS (x :: f) n low = wS (x :: f) n low := by grind
    rw [z0] at e1 e2 e3
    have p1 := power_ok n low 100 hn (by omega) (by omega) (by omega)
    have p2 := power_ok n (-low) 100 hn (by omega) (by omega) (by omega)
    have b1 : Bd (n ^ low.toNat) 2000 := (hn.pow _).mono (by omega)
    have b2 : Bd (n ^ (-low).toNat) 2000 := (hn.pow _).mono (by omega)
    have m1 := fMul_ok e2 b1 (by omega)
    have m2 := fMul_ok e3 b2 (by omega)
    have dp : 0 < ((wS (x :: f) n low).den : Int) * n ^ (-low).toNat := Int.mul_pos (den_pos _) (Int.pow_pos hp)
    have r := reduced_ok ((wS (x :: f) n low).num * n ^ low.toNat) (((wS (x :: f) n low).den : Int) * n ^ (-low).toNat) dp (e3.mul b2) (by omega)
    have sh := wS_shift n (by omega) low 0 (x :: f)
    rw [Int.sub_zero] at sh
    rw [end_q _ _ _ hp, sh] at r
    have ex : fIx (fD (x :: f)) (.int 0) = some (trD x) := by simp [fD, fIx, ixD]
    have ex2 : fIx (trD x) (.int 0) = some (.int low) := by simp [trD, fIx, ixD, hx]
    obtain ⟨L, hL⟩ : ∃ L, L = (x :: f).map trD := ⟨_, rfl⟩
    have hF : fD (x :: f) = .tup L := by rw [hL]; rfl
    rw [← hL] at e1
    rw [hF] at e1 ex fe ⊢
    have z1 : (0 : Rat).num = 0 := rfl
    have z2 : (0 : Rat).den = 1 := rfl
    rw [z1, z2] at e1
    have z3 : ((1 : Nat) : Int) = 1 := rfl
    rw [z3] at e1
    have z4 : (x :: f).isEmpty = false := rfl
    rw [z4] at fe
    simp [run_worth_of, runF, m_worth_of, fe, ex, ex2, slotD, outOf, fAdd, fSub, fMod, fLt, fLe, fGt, fGe, fNeg, fIsN, fNotN, MP.isNon, bAbs, bInt, isInt, isBool, isTup, isStr, bLen, line]
    rw [e1]
    simp [m1, m2, r, p1, p2, wF, slotD, outOf, fAdd, fSub, fMod, fLt, fLe, fGt, fGe, fNeg, fIsN, fNotN, MP.isNon, bAbs, bInt, isInt, isBool, isTup, isStr, bLen, line]
/-! ### the law's own reading -/
theorem lfraction_ok (t b : Int) (h : 0 < b) {k : Nat} (hs : Bd b k) (hk : k < 9000) : run__law_fraction [.va (.int t), .va (.int b)] = .ok (qD (Rat.divInt t b)) none := by
  have hd : run__law_common [.va (.int t), .va (.int b)] = .ok (.int (Int.gcd t b)) none := common_ok t b (Nat.lt_of_le_of_lt hs (Nat.pow_lt_pow_right (by decide) (by omega)))
  have g0 : 0 < Int.gcd t b := Int.gcd_pos_of_ne_zero_right t (by omega)
  have gl : Int.gcd t b ≤ b.natAbs := Nat.le_of_dvd (by omega) (by
    have := Int.gcd_dvd_right t b
    exact Int.ofNat_dvd_left.mp this)
  have gB : Bd ((Int.gcd t b : Nat) : Int) k := by
    unfold Bd
    rw [Int.natAbs_natCast]
    exact Nat.le_trans gl hs
  have e1 := fDiv_ok (x := t) (y := (Int.gcd t b : Nat)) (by omega) gB hk
  have e2 := fDiv_ok (x := b) (y := (Int.gcd t b : Nat)) (by omega) gB hk
  have n1 : (Rat.divInt t b).num = t / (Int.gcd t b : Int) := by
    rw [Rat.num_divInt, Int.sign_eq_one_of_pos h, Int.one_mul, Int.gcd_comm]
  have n2 : ((Rat.divInt t b).den : Int) = b / (Int.gcd t b : Int) := by
    rw [Rat.den_divInt, if_neg (by omega), Int.gcd_comm, Int.natCast_ediv, Int.natAbs_of_nonneg (by omega)]
  simp [run__law_fraction, runF, m__law_fraction, hd, e1, e2, qD, n1, n2, slotD, outOf, fAdd, fSub, fMod, fLt, fLe, fGt, fGe, fNeg, fIsN, fNotN, MP.isNon, bAbs, bInt, isInt, isBool, isTup, isStr, bLen, line]
abbrev tg3 : MT := mgTup 3 (mgsCons (mgName 5) (mgsCons (mgName 6) (mgsCons (mgName 7) mgsNil)))
theorem deep_loop (F : D) (n : Int) (t b s8 : Sl) (d : Int) : ∀ (f : List Tr) (s5 s6 s7 : Sl), (∀ x ∈ f, -x.1 ≤ d) → ∃ s5' s6' s7', forGo tg3 (mSet 4 (mCall bMax (maCons (mPk 4) (maCons (mB fSub (mC (.int 0)) lId (mPk 5) (lPk 5)) maNil)) (laCons (lPk 4) (laCons lId laNil)))) (f.map trD)
    [.va F, .va (.int n), t, b, .va (.int d), s5, s6, s7, s8] = .nx [.va F, .va (.int n), t, b, .va (.int d), s5', s6', s7', s8]
  | [], s5, s6, s7, h => ⟨s5, s6, s7, by simp [forGo]⟩
  | x :: f, s5, s6, s7, h => by
    have hx := h x List.mem_cons_self
    obtain ⟨s5', s6', s7', e⟩ := deep_loop F n t b s8 d f (.va (.int x.1)) (.va (.int x.2.1)) (.va (.int x.2.2)) (fun y hy => h y (List.mem_cons_of_mem _ hy))
    refine ⟨s5', s6', s7', ?_⟩
    have c : (if 0 - x.1 > d then 0 - x.1 else d) = d := by rw [if_neg (by omega)]
    simp only [List.map_cons, forGo]
    simp [trD, bMax, slotD, outOf, fAdd, fSub, fMod, fLt, fLe, fGt, fGe, fNeg, fIsN, fNotN, MP.isNon, bAbs, bInt, isInt, isBool, isTup, isStr, bLen, line]
    have c2 : (if d < -x.1 then -x.1 else d) = d := by rw [if_neg (by omega)]
    rw [c2]
    exact e
theorem lworth_loop (F : D) (n deep : Int) (hn : Bd n 100) : ∀ (f : List Tr) (T B : Int) (a b : Nat) (s5 s6 s7 s8 : Sl), (∀ x ∈ f, Pt (-deep) x) → 0 < B → Bd T a → Bd B b → 6200 + b ≤ a → a + 70 * f.length ≤ 9000 → b + 70 * f.length ≤ 2000 →
    ∃ (T' B' : Int) (s5' s6' s7' s8' : Sl), forGo tg3 (mSeq (mSet 8 (mB fMul (mPk 6) (lPk 6) (mUser run__law_power (maCons (mVar 1) (maCons (mB fAdd (mPk 5) (lPk 5) (mPk 4) (lPk 4)) maNil))) lId))
  (mPar 2 3 (maCons (mB fAdd (mB fMul (mPk 2) (lPk 2) (mPk 7) (lPk 7)) lId (mB fMul (mPk 8) (lPk 8) (mPk 3) (lPk 3)) lId) (maCons (mB fMul (mPk 3) (lPk 3) (mPk 7) (lPk 7)) maNil))))
      (f.map trD) [.va F, .va (.int n), .va (.int T), .va (.int B), .va (.int deep), s5, s6, s7, s8] = .nx [.va F, .va (.int n), .va (.int T'), .va (.int B'), .va (.int deep), s5', s6', s7', s8'] ∧
      0 < B' ∧ Bd B' (b + 70 * f.length) ∧ (T' : Rat) / (B' : Rat) = (T : Rat) / (B : Rat) + wS f n (-deep)
  | [], T, B, a, b, s5, s6, s7, s8, hf, hB, ha, hb, h1, h2, h3 => ⟨T, B, s5, s6, s7, s8, by simp [forGo], hB, by simpa using hb, by unfold wS; grind⟩
  | x :: f, T, B, a, b, s5, s6, s7, s8, hf, hB, ha, hb, h1, h2, h3 => by
    simp only [List.length_cons] at h2 h3
    have hx := hf x List.mem_cons_self
    obtain ⟨p, u, d⟩ := x
    obtain ⟨x1, x2, x3, x4, x5⟩ := hx
    dsimp only at x1 x2 x3 x4 x5
    have hp := lpower_ok n (p + deep) 100 hn (by omega) (by omega) (by omega)
    have bp : Bd (n ^ (p + deep).toNat) 6000 := (hn.pow _).mono (by omega)
    have m1 := fMul_ok ha x5 (by omega)
    have m2 := fMul_ok x3 bp (by omega)
    have m3 := fMul_ok (x3.mul bp) hb (by omega)
    have m4 := fMul_ok hb x5 (by omega)
    have bn : Bd (T * d + u * n ^ (p + deep).toNat * B) (a + 70) := (((ha.mul x5).mono (by omega : a + 67 ≤ a + 69)).add (((x3.mul bp).mul hb).mono (by omega))).mono (by omega)
    obtain ⟨T', B', s5', s6', s7', s8', e1, e2, e3, e4⟩ := lworth_loop F n deep hn f (T * d + u * n ^ (p + deep).toNat * B) (B * d) (a + 70) (b + 70) (.va (.int p)) (.va (.int u)) (.va (.int d)) (.va (.int (u * n ^ (p + deep).toNat)))
      (fun y hy => hf y (List.mem_cons_of_mem _ hy)) (Int.mul_pos hB x4) bn ((hb.mul x5).mono (by omega)) (by omega) (by omega) (by omega)
    refine ⟨T', B', s5', s6', s7', s8', ?_, e2, e3.mono (by simp only [List.length_cons]; omega), ?_⟩
    · simp only [List.map_cons, forGo]
      simp [trD, m1, m2, m3, m4, hp, slotD, outOf, fAdd, fSub, fMod, fLt, fLe, fGt, fGe, fNeg, fIsN, fNotN, MP.isNon, bAbs, bInt, isInt, isBool, isTup, isStr, bLen, line]
      exact e1
    · rw [e4]
      conv => rhs; unfold wS
      have z := zpow_nat n (p + deep) (by omega)
      have hB0 : (B : Rat) ≠ 0 := ic0 (by omega)
      have hd0 : (d : Rat) ≠ 0 := ic0 (by omega)
      have e5 : p - -deep = p + deep := by omega
      dsimp only
      rw [e5, ← z, Rat.intCast_add, Rat.intCast_mul, Rat.intCast_mul, Rat.intCast_mul, Rat.intCast_mul]
      grind
theorem lworth_ok (f : List Tr) (n : Int) (hn : Bd n 100) (hp : 0 < n) (hl : f.length ≤ 12) (low : Int) (h0 : ∀ x, f.head? = some x → x.1 = low) (h1 : -20 ≤ low) (h2 : low ≤ 20) (h : ∀ x ∈ f, 0 ≤ x.1 - low ∧ x.1 - low ≤ 40 ∧ Bd x.2.1 67 ∧ 0 < x.2.2 ∧ Bd x.2.2 67) :
    run__law_worth [.va (fD f), .va (.int n)] = .ok (qD (wF f n)) none := by
  obtain ⟨deep, hd0, hd1, hd2, hdl⟩ : ∃ deep : Int, 0 ≤ deep ∧ deep ≤ 20 ∧ (∀ x ∈ f, Pt (-deep) x) ∧ ∀ (t b s8 : Sl), ∃ s5' s6' s7', forGo tg3 (mSet 4 (mCall bMax (maCons (mPk 4) (maCons (mB fSub (mC (.int 0)) lId (mPk 5) (lPk 5)) maNil)) (laCons (lPk 4) (laCons lId laNil)))) (f.map trD)
    [.va (fD f), .va (.int n), t, b, .va (.int 0), .no, .no, .no, s8] = .nx [.va (fD f), .va (.int n), t, b, .va (.int deep), s5', s6', s7', s8] := by
    cases f with
    | nil => exact ⟨0, by omega, by omega, fun x hx => by simp at hx, fun t b s8 => ⟨.no, .no, .no, by simp [forGo]⟩⟩
    | cons x f =>
      have hx := h0 x rfl
      have ha : ∀ y ∈ f, 0 ≤ y.1 - low := fun y hy => (h y (List.mem_cons_of_mem _ hy)).1
      refine ⟨if 0 < -low then -low else 0, by split <;> omega, by split <;> omega, fun y hy => ?_, fun t b s8 => ?_⟩
      · obtain ⟨y1, y2, y3, y4, y5⟩ := h y hy
        exact ⟨by split <;> omega, by split <;> omega, y3, y4, y5⟩
      · obtain ⟨s5', s6', s7', e⟩ := deep_loop (fD (x :: f)) n t b s8 (if 0 < -low then -low else 0) f (.va (.int x.1)) (.va (.int x.2.1)) (.va (.int x.2.2)) (fun y hy => by have := ha y hy; split <;> omega)
        refine ⟨s5', s6', s7', ?_⟩
        simp only [List.map_cons, forGo]
        rw [← hx] at e ⊢
        generalize fD (x :: f) = FF at e ⊢
        simp [trD, bMax, slotD, outOf, fAdd, fSub, fMod, fLt, fLe, fGt, fGe, fNeg, fIsN, fNotN, MP.isNon, bAbs, bInt, isInt, isBool, isTup, isStr, bLen, line]
        simpa using e
  obtain ⟨t5, t6, t7, e1⟩ := hdl (.va (.int 0)) (.va (.int 1)) .no
  obtain ⟨T', B', s5, s6, s7, s8, e2, e3, e4, e5⟩ := lworth_loop (fD f) n deep hn f 0 1 6200 0 t5 t6 t7 .no hd2 (by decide) (by unfold Bd; simp) (by unfold Bd; simp) (by omega) (by omega) (by omega)
  have p2 := lpower_ok n deep 100 hn (by omega) (by omega) (by omega)
  have b2 : Bd (n ^ deep.toNat) 2000 := (hn.pow _).mono (by omega)
  have m2 := fMul_ok e4 b2 (by omega)
  have dp : 0 < B' * n ^ deep.toNat := Int.mul_pos e3 (Int.pow_pos hp)
  have r := lfraction_ok T' (B' * n ^ deep.toNat) dp (e4.mul b2) (by omega)
  have sh := wS_shift n (by omega) (-deep) 0 f
  have eq : Rat.divInt T' (B' * n ^ deep.toNat) = wF f n := by
    rw [Rat.divInt_eq_div, Rat.intCast_mul, zpow_nat n deep hd0]
    unfold wF
    rw [← sh, Int.sub_zero, Rat.zpow_neg]
    have hB0 : (B' : Rat) ≠ 0 := ic0 (by omega)
    have hz : (n : Rat) ^ deep ≠ 0 := by rw [← zpow_nat n deep hd0]; exact ic0 (by have := @Int.pow_pos n deep.toNat hp; omega)
    simp at e5
    have e6 : (0 : Rat) / 1 + wS f n (-deep) = wS f n (-deep) := by grind
    grind
  rw [eq] at r
  obtain ⟨L, hL⟩ : ∃ L, L = f.map trD := ⟨_, rfl⟩
  have hF : fD f = .tup L := by rw [hL]; rfl
  rw [← hL] at e1 e2
  rw [hF] at e1 e2 ⊢
  simp [run__law_worth, runF, m__law_worth, slotD, outOf, fAdd, fSub, fMod, fLt, fLe, fGt, fGe, fNeg, fIsN, fNotN, MP.isNon, bAbs, bInt, isInt, isBool, isTup, isStr, bLen, line]
  rw [e1]
  simp [slotD, outOf, fAdd, fSub, fMod, fLt, fLe, fGt, fGe, fNeg, fIsN, fNotN, MP.isNon, bAbs, bInt, isInt, isBool, isTup, isStr, bLen, line]
  rw [e2]
  simp [m2, r, p2, slotD, outOf, fAdd, fSub, fMod, fLt, fLe, fGt, fGe, fNeg, fIsN, fNotN, MP.isNon, bAbs, bInt, isInt, isBool, isTup, isStr, bLen, line]
end GJ

set_option Elab.async false
set_option linter.all false
set_option maxRecDepth 100000
set_option maxHeartbeats 2000000
namespace GJ
open PySem L2 MP

/-! ### is it a form? -/
mutual
def Pl : D → Bool
  | .tup xs => PlL xs
  | .lst xs => PlL xs
  | .scr _ => false
  | .dct _ _ => false
  | .dtp _ _ => false
  | _ => true
def PlL : List D → Bool
  | [] => true
  | x :: xs => Pl x && PlL xs
end
theorem PlL_mem : ∀ {xs : List D} {x : D}, PlL xs = true → x ∈ xs → Pl x = true
  | [], x, h, m => by simp at m
  | y :: ys, x, h, m => by
    simp only [PlL, Bool.and_eq_true] at h
    rcases List.mem_cons.mp m with e | m
    · rw [e]; exact h.1
    · exact PlL_mem h.2 m
def numB (v : D) (lo hi : Int) : Bool := match v with
  | .int i => decide (lo ≤ i) && decide (i ≤ hi)
  | _ => false
theorem number_ok (v : D) (lo hi : Int) (h : Pl v = true) : run_is_number [.va v, .va (.int lo), .va (.int hi)] = .ok (.bl (numB v lo hi)) none := by
  cases v <;> simp [Pl] at h <;> simp [run_is_number, runF, m_is_number, numB, slotD, outOf, fAdd, fSub, fMod, fLt, fLe, fGt, fGe, fNeg, fIsN, fNotN, MP.isNon, bAbs, bInt, isInt, isBool, isTup, isStr, bLen, line]
  rename_i i
  by_cases h1 : lo ≤ i <;> simp [h1]
theorem lnumber_ok (v : D) (lo hi : Int) (h : Pl v = true) : run__law_is_int [.va v, .va (.int lo), .va (.int hi)] = .ok (.bl (numB v lo hi)) none := number_ok v lo hi h
def tupB (v : D) (lo hi : Int) : Bool := match v with
  | .tup xs => decide (lo ≤ xs.length) && decide ((xs.length : Int) ≤ hi)
  | _ => false
theorem tuple_ok (v : D) (lo hi : Int) (h : Pl v = true) : run_is_tuple [.va v, .va (.int lo), .va (.int hi)] = .ok (.bl (tupB v lo hi)) none := by
  cases v <;> simp [Pl] at h <;> simp [run_is_tuple, runF, m_is_tuple, tupB, slotD, outOf, fAdd, fSub, fMod, fLt, fLe, fGt, fGe, fNeg, fIsN, fNotN, MP.isNon, bAbs, bInt, isInt, isBool, isTup, isStr, bLen, line]
  rename_i xs
  by_cases h1 : lo ≤ xs.length <;> simp [h1]
abbrev LARGE : Int := 100000000000000000000
def partB : D → Bool
  | .tup [.int a, .int b, .int c] => (decide (-20 ≤ a) && decide (a ≤ 20)) && ((decide (-LARGE ≤ b) && decide (b ≤ LARGE)) && (!decide (b = 0) && ((decide (1 ≤ c) && decide (c ≤ LARGE)) && decide (Int.gcd b c = 1))))
  | _ => false
theorem large_lt (c : Int) (h0 : 1 ≤ c) (h : c ≤ LARGE) : c.natAbs < 2 ^ 400000 := by
  have h1 : c.natAbs < 2 ^ 67 := by simp only [LARGE] at h; omega
  exact Nat.lt_trans h1 (Nat.pow_lt_pow_right (by decide) (by decide))
theorem divisor_large (b c : Int) (h0 : 1 ≤ c) (h : c ≤ LARGE) : run_divisor [.va (.int b), .va (.int c)] = .ok (.int (Int.gcd b c)) none := by
  refine divisor_ok b c (by omega) ?_
  have h1 := large_lt c h0 h
  have h2 : (c.natAbs : Int) = c := Int.natAbs_of_nonneg (by omega)
  have h3 := Int.ofNat_lt.mpr h1
  rw [h2, Int.natCast_pow] at h3
  exact h3
theorem part_ok (v : D) (h : Pl v = true) : run_is_part [.va v] = .ok (.bl (partB v)) none := by
  have ht := tuple_ok v 3 3 h
  cases v with
  | tup xs =>
    have hx := fun (x : D) (m : x ∈ xs) => PlL_mem (by simpa [Pl] using h) m
    by_cases hl : xs.length = 3
    · match xs, hl with
      | [a, b, c], _ =>
        have na := number_ok a (-20) 20 (hx a (by simp))
        have nb := number_ok b (-LARGE) LARGE (hx b (by simp))
        have nc := number_ok c 1 LARGE (hx c (by simp))
        have t3 : tupB (.tup [a, b, c]) 3 3 = true := by simp [tupB]
        rw [t3] at ht
        have i0 : fIx (.tup [a, b, c]) (.int 0) = some a := by simp [fIx, ixD]
        have i1 : fIx (.tup [a, b, c]) (.int 1) = some b := by simp [fIx, ixD]
        have i2 : fIx (.tup [a, b, c]) (.int 2) = some c := by simp [fIx, ixD]
        cases ea : numB a (-20) 20 with
        | false =>
          rw [ea] at na
          have : partB (.tup [a, b, c]) = false := by
            unfold partB; split <;> rename_i q <;> try rfl
            cases q
            simp only [numB] at ea
            simp [ea]
          rw [this]
          simp [run_is_part, runF, m_is_part, ht, i0, i1, i2, na, slotD, outOf, fAdd, fSub, fMod, fLt, fLe, fGt, fGe, fNeg, fIsN, fNotN, MP.isNon, bAbs, bInt, isInt, isBool, isTup, isStr, bLen, line]
        | true =>
          rw [ea] at na
          cases eb : numB b (-LARGE) LARGE with
          | false =>
            rw [eb] at nb
            have : partB (.tup [a, b, c]) = false := by
              unfold partB; split <;> rename_i q <;> try rfl
              cases q
              simp only [numB] at eb
              simp [eb]
            rw [this]
            simp only [LARGE] at nb
            simp [run_is_part, runF, m_is_part, ht, i0, i1, i2, na, nb, slotD, outOf, fAdd, fSub, fMod, fLt, fLe, fGt, fGe, fNeg, fIsN, fNotN, MP.isNon, bAbs, bInt, isInt, isBool, isTup, isStr, bLen, line]
          | true =>
            rw [eb] at nb
            have hb : ∃ j, b = .int j := by
              unfold numB at eb; split at eb
              · exact ⟨_, rfl⟩
              · cases eb
            obtain ⟨j, rfl⟩ := hb
            have ha : ∃ i, a = .int i := by
              unfold numB at ea; split at ea
              · exact ⟨_, rfl⟩
              · cases ea
            obtain ⟨i, rfl⟩ := ha
            simp only [numB] at ea eb
            by_cases hz : j = 0
            · have : partB (.tup [.int i, .int j, c]) = false := by
                unfold partB; split <;> rename_i q <;> try rfl
                cases q
                simp [hz]
              rw [this]
              simp only [LARGE] at nb
              subst hz
              simp [run_is_part, runF, m_is_part, ht, i0, i1, i2, na, nb, slotD, outOf, fAdd, fSub, fMod, fLt, fLe, fGt, fGe, fNeg, fIsN, fNotN, MP.isNon, bAbs, bInt, isInt, isBool, isTup, isStr, bLen, line, fNe, fEq, eqD, eqL, okD, okL]
            · cases ec : numB c 1 LARGE with
              | false =>
                rw [ec] at nc
                have : partB (.tup [.int i, .int j, c]) = false := by
                  unfold partB; split <;> rename_i q <;> try rfl
                  cases q
                  simp only [numB] at ec
                  simp [ec]
                rw [this]
                simp only [LARGE] at nb nc
                simp [run_is_part, runF, m_is_part, ht, i0, i1, i2, na, nb, nc, hz, slotD, outOf, fAdd, fSub, fMod, fLt, fLe, fGt, fGe, fNeg, fIsN, fNotN, MP.isNon, bAbs, bInt, isInt, isBool, isTup, isStr, bLen, line, fNe, fEq, eqD, eqL, okD, okL]
              | true =>
                rw [ec] at nc
                have hc : ∃ k, c = .int k := by
                  unfold numB at ec; split at ec
                  · exact ⟨_, rfl⟩
                  · cases ec
                obtain ⟨k, rfl⟩ := hc
                simp only [numB] at ec
                have ec' := ec
                simp only [Bool.and_eq_true, decide_eq_true_eq] at ec'
                have hd := divisor_large j k ec'.1 ec'.2
                have : partB (.tup [.int i, .int j, .int k]) = decide (Int.gcd j k = 1) := by
                  simp only [partB, ea, eb, ec, hz]
                  simp
                rw [this]
                simp only [LARGE] at nb nc
                simp [run_is_part, runF, m_is_part, ht, i0, i1, i2, na, nb, nc, hz, hd, slotD, outOf, fAdd, fSub, fMod, fLt, fLe, fGt, fGe, fNeg, fIsN, fNotN, MP.isNon, bAbs, bInt, isInt, isBool, isTup, isStr, bLen, line, fNe, fEq, eqD, eqL, okD, okL]
                have : ((Int.gcd j k : Int) = 1) ↔ Int.gcd j k = 1 := by omega
                simp [this]
    · have t3 : tupB (.tup xs) 3 3 = false := by
        simp only [tupB]
        have : ¬ (3 ≤ (xs.length : Int) ∧ (xs.length : Int) ≤ 3) := by omega
        simp; omega
      rw [t3] at ht
      have : partB (.tup xs) = false := by
        unfold partB; split <;> rename_i q <;> try rfl
        cases q
        simp at hl
      rw [this]
      simp [run_is_part, runF, m_is_part, ht, slotD, outOf, fAdd, fSub, fMod, fLt, fLe, fGt, fGe, fNeg, fIsN, fNotN, MP.isNon, bAbs, bInt, isInt, isBool, isTup, isStr, bLen, line]
  | _ =>
    simp only [tupB] at ht
    simp [run_is_part, runF, m_is_part, ht, partB, slotD, outOf, fAdd, fSub, fMod, fLt, fLe, fGt, fGe, fNeg, fIsN, fNotN, MP.isNon, bAbs, bInt, isInt, isBool, isTup, isStr, bLen, line]
end GJ

set_option Elab.async false
set_option linter.all false
set_option maxRecDepth 100000
set_option maxHeartbeats 2000000
namespace GJ
open PySem L2 MP

theorem cutD_from {α : Type} (xs : List α) (k : Nat) : cutD xs (some (k : Int)) none = xs.drop k := by
  unfold cutD
  rw [HT.sIx_nat, HT.sIx_none]
  by_cases h : k ≤ xs.length
  · rw [Nat.min_eq_left h, List.take_of_length_le (by rw [List.length_drop]; omega)]
  · rw [Nat.min_eq_right (by omega), List.drop_eq_nil_of_le (by omega), List.drop_eq_nil_of_le (by omega)]
    simp
theorem cutD_to {α : Type} (xs : List α) (k : Nat) : cutD xs none (some (k : Int)) = xs.take k := by
  unfold cutD
  rw [HT.sIx_nat, HT.sIx_none, List.drop_zero, Nat.sub_zero]
  by_cases h : k ≤ xs.length
  · rw [Nat.min_eq_left h]
  · rw [Nat.min_eq_right (by omega), List.take_of_length_le (by omega), List.take_of_length_le (by omega)]
theorem lc_gen {mg : MT} {mt me : ME} {benv : Ev} {g : D → Bool} {h : D → D} : ∀ {ds : List D} {acc : List D}, (∀ d ∈ ds, ∃ e1 e2 e3, mg d benv = some e1 ∧ mt e1 = .ok (.bl (g d)) e2 ∧ (g d = true → me e2 = .ok (h d) e3)) → lcGo mg mt me benv ds acc = some (acc ++ (ds.filter g).map h)
  | [], acc, _ => by simp [lcGo]
  | d :: ds, acc, q => by
    obtain ⟨e1, e2, e3, h1, h2, h3⟩ := q d List.mem_cons_self
    have ih := fun acc => lc_gen (mg := mg) (mt := mt) (me := me) (benv := benv) (g := g) (h := h) (ds := ds) (acc := acc) (fun x hx => q x (List.mem_cons_of_mem _ hx))
    unfold lcGo
    rw [h1]
    dsimp only
    rw [h2]
    cases hg : g d with
    | true =>
      dsimp only
      rw [h3 hg]
      dsimp only
      rw [ih, List.filter_cons, hg]
      simp
    | false =>
      dsimp only
      rw [ih, List.filter_cons, hg]
      simp
theorem lc_all {mg : MT} {me : ME} {benv : Ev} {h : D → D} {ds : List D} (q : ∀ d ∈ ds, ∃ e1 e3, mg d benv = some e1 ∧ me e1 = .ok (h d) e3) : lcGo mg mYes me benv ds [] = some (ds.map h) := by
  have := lc_gen (mg := mg) (mt := mYes) (me := me) (benv := benv) (g := fun _ => true) (h := h) (ds := ds) (acc := []) (fun d hd => by
    obtain ⟨e1, e3, h1, h2⟩ := q d hd
    exact ⟨e1, e1, e3, h1, rfl, fun _ => h2⟩)
  rw [this, List.filter_eq_self.mpr (by simp)]
  simp
theorem blsOf_map {α : Type} (p : α → Bool) : ∀ xs : List α, blsOf (xs.map fun x => D.bl (p x)) = some (xs.map p)
  | [] => rfl
  | x :: xs => by simp [blsOf, blsOf_map p xs]
theorem bAll_map {α : Type} (p : α → Bool) (xs : List α) : bAll [.lst (xs.map fun x => D.bl (p x))] = some (.bl (xs.all p)) := by
  simp only [bAll, blsOf_map]
  simp [List.all_map]
/-- the law's reading of a form's parts -/
def gB : List D → Int → Bool
  | [], _ => true
  | x :: r, last => (match x with
    | .tup [.int a, .int b, .int c] => (decide (last + 1 ≤ a) && partB (.tup [.int a, .int b, .int c])) && gB r a
    | _ => false)
def goodB (v : D) : Bool := match v with
  | .tup xs => decide (xs.length ≤ 12) && gB xs (-21)
  | _ => false
theorem partB_form {x : D} (h : partB x = true) : ∃ t : Tr, x = trD t := by
  unfold partB at h
  split at h
  · exact ⟨(_, _, _), rfl⟩
  · cases h
theorem parts_form : ∀ {xs : List D}, xs.all partB = true → ∃ f : List Tr, xs = f.map trD
  | [], _ => ⟨[], rfl⟩
  | x :: xs, h => by
    simp only [List.all_cons, Bool.and_eq_true] at h
    obtain ⟨t, rfl⟩ := partB_form h.1
    obtain ⟨f, rfl⟩ := parts_form h.2
    exact ⟨t :: f, rfl⟩
def ordB : List Tr → Bool
  | x :: y :: r => decide (x.1 < y.1) && ordB (y :: r)
  | _ => true
theorem gB_ord : ∀ (f : List Tr) (last : Int), (f.map trD).all partB = true → (∀ x, f.head? = some x → (gB (f.map trD) last = (decide (last < x.1) && ordB f)))
  | [], _, _ => by simp
  | [x], last, h => by
    simp only [List.map_cons, List.map_nil, List.all_cons, List.all_nil, Bool.and_true] at h
    intro y hy
    cases hy
    have h' : partB (.tup [.int x.1, .int x.2.1, .int x.2.2]) = true := h
    simp only [List.map_cons, List.map_nil, trD, gB, h', ordB, Bool.and_true]
    rw [show decide (last + 1 ≤ x.1) = decide (last < x.1) from decide_eq_decide.mpr (by omega)]
  | x :: y :: f, last, h => by
    simp only [List.map_cons, List.all_cons, Bool.and_eq_true] at h
    have ih := gB_ord (y :: f) x.1 (by simp only [List.map_cons, List.all_cons, Bool.and_eq_true]; exact h.2) y rfl
    intro z hz
    cases hz
    have h' : partB (.tup [.int x.1, .int x.2.1, .int x.2.2]) = true := h.1
    simp only [List.map_cons] at ih ⊢
    conv => lhs; unfold gB; simp only [trD]
    rw [h', Bool.and_true]
    rw [show trD y = .tup [.int y.1, .int y.2.1, .int y.2.2] from rfl] at ih
    rw [ih]
    simp only [ordB]
    rw [show decide (last + 1 ≤ x.1) = decide (last < x.1) from decide_eq_decide.mpr (by omega)]
theorem gB_all : ∀ (xs : List D) (last : Int), gB xs last = true → xs.all partB = true
  | [], _, _ => rfl
  | x :: xs, last, h => by
    unfold gB at h
    split at h
    · simp only [Bool.and_eq_true] at h
      simp only [List.all_cons, Bool.and_eq_true]
      exact ⟨h.1.2, gB_all xs _ h.2⟩
    · cases h
theorem pairs_map : ∀ (f g : List Tr), pairs (f.map trD) (g.map trD) = (f.zip g).map fun p => .tup [trD p.1, trD p.2]
  | [], g => by simp [pairs]
  | _ :: _, [] => by simp [pairs]
  | x :: f, y :: g => by simp [pairs, pairs_map f g]
theorem ord_zip : ∀ f : List Tr, ((f.zip (f.drop 1)).all fun p => decide (p.1.1 < p.2.1)) = ordB f
  | [] => rfl
  | [_] => rfl
  | x :: y :: r => by
    have ih := ord_zip (y :: r)
    simp only [List.drop_succ_cons, List.drop_zero, List.zip_cons_cons, List.all_cons, ordB] at ih ⊢
    rw [ih]
theorem good_head (f : List Tr) (h : (f.map trD).all partB = true) : gB (f.map trD) (-21) = ordB f := by
  cases f with
  | nil => rfl
  | cons x f =>
    rw [gB_ord (x :: f) (-21) h x rfl]
    simp only [List.map_cons, List.all_cons, Bool.and_eq_true] at h
    have := h.1
    simp only [partB, trD, Bool.and_eq_true, decide_eq_true_eq] at this
    rw [decide_eq_true (by omega), Bool.true_and]
theorem good_form_ok (v : D) (h : Pl v = true) : run_is_good_form [.va v] = .ok (.bl (goodB v)) none := by
  have ht := tuple_ok v 0 12 h
  cases v with
  | tup xs =>
    by_cases hl : xs.length ≤ 12
    · have t3 : tupB (.tup xs) 0 12 = true := by simp [tupB]; omega
      rw [t3] at ht
      have hx := fun (x : D) (m : x ∈ xs) => PlL_mem (by simpa [Pl] using h) m
      have l1 : lcGo (mgName 1) mYes (mUser run_is_part (maCons (mVar 1) maNil)) [.va (.tup xs), .no, .no, .no] xs [] = some (xs.map fun x => .bl (partB x)) :=
        lc_all fun d hd => ⟨[.va (.tup xs), .va d, .no, .no], _, by simp, by simp [part_ok d (hx d hd), slotD, outOf, fAdd, fSub, fMod, fLt, fLe, fGt, fGe, fNeg, fIsN, fNotN, MP.isNon, bAbs, bInt, isInt, isBool, isTup, isStr, bLen, line]; rfl⟩
      have b1 := bAll_map partB xs
      cases ha : xs.all partB with
      | false =>
        rw [ha] at b1
        have : goodB (.tup xs) = false := by
          simp only [goodB]
          cases hg : gB xs (-21) with
          | false => simp
          | true => rw [gB_all xs _ hg] at ha; cases ha
        rw [this]
        simp [run_is_good_form, runF, m_is_good_form, ht, wipeE, roE, slotD, outOf, fAdd, fSub, fMod, fLt, fLe, fGt, fGe, fNeg, fIsN, fNotN, MP.isNon, bAbs, bInt, isInt, isBool, isTup, isStr, bLen, line]
        rw [l1]
        simp [b1, ht, Nat.lt_of_le_of_lt hl (by decide : 12 < 16777216)]
      | true =>
        rw [ha] at b1
        obtain ⟨f, rfl⟩ := parts_form ha
        have hg := good_head f ha
        have hdrop : cutD (f.map trD) (some 1) none = (f.drop 1).map trD := by
          have := cutD_from (f.map trD) 1
          rw [show ((1 : Nat) : Int) = 1 from rfl] at this
          rw [this, List.map_drop]
        have l2 : lcGo (mgTup 2 (mgsCons (mgName 2) (mgsCons (mgName 3) mgsNil))) mYes (mB fLt (mB fIx (mPk 2) (lPk 2) (mC (.int 0)) lId) lId (mB fIx (mPk 3) (lPk 3) (mC (.int 0)) lId) lId) [.va (.tup (f.map trD)), .no, .no, .no] (pairs (f.map trD) ((f.drop 1).map trD)) [] = some ((f.zip (f.drop 1)).map fun p => .bl (decide (p.1.1 < p.2.1))) := by
          rw [pairs_map]
          have := lc_all (mg := (mgTup 2 (mgsCons (mgName 2) (mgsCons (mgName 3) mgsNil)))) (me := (mB fLt (mB fIx (mPk 2) (lPk 2) (mC (.int 0)) lId) lId (mB fIx (mPk 3) (lPk 3) (mC (.int 0)) lId) lId)) (benv := [.va (.tup (f.map trD)), .no, .no, .no]) (h := fun d => match d with | .tup [.tup (.int a :: _), .tup (.int b :: _)] => .bl (decide (a < b)) | _ => .non) (ds := (f.zip (f.drop 1)).map fun p => .tup [trD p.1, trD p.2]) (fun d hd => by
            obtain ⟨p, _, rfl⟩ := List.mem_map.mp hd
            exact ⟨[.va (.tup (f.map trD)), .no, .va (trD p.1), .va (trD p.2)], [.va (.tup (f.map trD)), .no, .va (trD p.1), .va (trD p.2)], by simp, by simp [trD, fIx, ixD, slotD, outOf, fAdd, fSub, fMod, fLt, fLe, fGt, fGe, fNeg, fIsN, fNotN, MP.isNon, bAbs, bInt, isInt, isBool, isTup, isStr, bLen, line]⟩)
          rw [this, List.map_map]
          rfl
        have b2 := bAll_map (fun p : Tr × Tr => decide (p.1.1 < p.2.1)) (f.zip (f.drop 1))
        rw [ord_zip] at b2
        simp only [List.drop_one] at b2
        have : goodB (.tup (f.map trD)) = ordB f := by
          simp only [goodB, hg, decide_eq_true hl, Bool.true_and]
        rw [this]
        have hl2 : (pairs (f.map trD) ((f.drop 1).map trD)).length < 16777216 := by
          rw [pairs_len]
          simp only [List.length_map] at hl ⊢
          omega
        have hl3 : (f.map trD).length < 16777216 := by omega
        generalize f.map trD = L at *
        generalize (f.drop 1).map trD = L2 at *
        simp [run_is_good_form, runF, m_is_good_form, ht, wipeE, roE, fSl, prt, hdrop, slotD, outOf, fAdd, fSub, fMod, fLt, fLe, fGt, fGe, fNeg, fIsN, fNotN, MP.isNon, bAbs, bInt, isInt, isBool, isTup, isStr, bLen, line]
        rw [l1]
        simp [b1, hl3, fSl, prt, hdrop, roE, wipeE, slotD, outOf, fAdd, fSub, fMod, fLt, fLe, fGt, fGe, fNeg, fIsN, fNotN, MP.isNon, bAbs, bInt, isInt, isBool, isTup, isStr, bLen, line]
        rw [l2]
        simp [b2, hl2]
    · have t3 : tupB (.tup xs) 0 12 = false := by simp [tupB]; omega
      rw [t3] at ht
      have : goodB (.tup xs) = false := by simp [goodB]; omega
      rw [this]
      simp [run_is_good_form, runF, m_is_good_form, ht, slotD, outOf, fAdd, fSub, fMod, fLt, fLe, fGt, fGe, fNeg, fIsN, fNotN, MP.isNon, bAbs, bInt, isInt, isBool, isTup, isStr, bLen, line]
  | _ =>
    simp only [tupB] at ht
    simp [run_is_good_form, runF, m_is_good_form, ht, goodB, slotD, outOf, fAdd, fSub, fMod, fLt, fLe, fGt, fGe, fNeg, fIsN, fNotN, MP.isNon, bAbs, bInt, isInt, isBool, isTup, isStr, bLen, line]
theorem is_form_ok (v : D) (h : Pl v = true) : run_is_form [.va v] = .ok (.bl (goodB v)) none := by
  simp [run_is_form, runF, m_is_form, good_form_ok v h, slotD, outOf, fAdd, fSub, fMod, fLt, fLe, fGt, fGe, fNeg, fIsN, fNotN, MP.isNon, bAbs, bInt, isInt, isBool, isTup, isStr, bLen, line]
theorem common_large (b c : Int) (h0 : 1 ≤ c) (h : c ≤ LARGE) : run__law_common [.va (.int b), .va (.int c)] = .ok (.int (Int.gcd b c)) none := common_ok b c (large_lt c h0 h)
theorem pow20 : fPow (.int 10) (.int 20) = some (.int LARGE) := by simp [fPow, LARGE]
theorem law_form_loop (v : D) : ∀ (xs : List D) (last : Int) (s2 : Sl), -21 ≤ last → PlL xs = true →
    (gB xs last = true → ∃ last' s2', forGo (mgName 2) (mSeq (mIfS (mOr (mNot (mU isTup (mPk 2) (lPk 2))) (mOr (mB fNe (mCall bLen (maCons (mPk 2) maNil) (laCons (lPk 2) laNil)) lId (mC (.int 3)) lId) (mNot (mUser run__law_is_int (maCons (mB fIx (mPk 2) (lPk 2) (mC (.int 0)) lId) (maCons (mB fAdd (mPk 1) (lPk 1) (mC (.int 1)) lId) (maCons (mC (.int 20)) maNil))))))) (mRet (mC (.bl false))) mSkip) (mSeq (mIfS (mOr (mNot (mUser run__law_is_int (maCons (mB fIx (mPk 2) (lPk 2) (mC (.int 1)) lId) (maCons (mU fNeg (mB fPow (mC (.int 10)) lId (mC (.int 20)) lId) lId) (maCons (mB fPow (mC (.int 10)) lId (mC (.int 20)) lId) maNil))))) (mNot (mUser run__law_is_int (maCons (mB fIx (mPk 2) (lPk 2) (mC (.int 2)) lId) (maCons (mC (.int 1)) (maCons (mB fPow (mC (.int 10)) lId (mC (.int 20)) lId) maNil)))))) (mRet (mC (.bl false))) mSkip) (mSeq (mIfS (mOr (mB fEq (mB fIx (mPk 2) (lPk 2) (mC (.int 1)) lId) lId (mC (.int 0)) lId) (mB fNe (mUser run__law_common (maCons (mB fIx (mPk 2) (lPk 2) (mC (.int 1)) lId) (maCons (mB fIx (mPk 2) (lPk 2) (mC (.int 2)) lId) maNil))) lId (mC (.int 1)) lId)) (mRet (mC (.bl false))) mSkip) (mSet 1 (mB fIx (mPk 2) (lPk 2) (mC (.int 0)) lId))))) xs [.va v, .va (.int last), s2] = .nx [.va v, .va (.int last'), s2']) ∧
    (gB xs last = false → ∃ s1 s2', forGo (mgName 2) (mSeq (mIfS (mOr (mNot (mU isTup (mPk 2) (lPk 2))) (mOr (mB fNe (mCall bLen (maCons (mPk 2) maNil) (laCons (lPk 2) laNil)) lId (mC (.int 3)) lId) (mNot (mUser run__law_is_int (maCons (mB fIx (mPk 2) (lPk 2) (mC (.int 0)) lId) (maCons (mB fAdd (mPk 1) (lPk 1) (mC (.int 1)) lId) (maCons (mC (.int 20)) maNil))))))) (mRet (mC (.bl false))) mSkip) (mSeq (mIfS (mOr (mNot (mUser run__law_is_int (maCons (mB fIx (mPk 2) (lPk 2) (mC (.int 1)) lId) (maCons (mU fNeg (mB fPow (mC (.int 10)) lId (mC (.int 20)) lId) lId) (maCons (mB fPow (mC (.int 10)) lId (mC (.int 20)) lId) maNil))))) (mNot (mUser run__law_is_int (maCons (mB fIx (mPk 2) (lPk 2) (mC (.int 2)) lId) (maCons (mC (.int 1)) (maCons (mB fPow (mC (.int 10)) lId (mC (.int 20)) lId) maNil)))))) (mRet (mC (.bl false))) mSkip) (mSeq (mIfS (mOr (mB fEq (mB fIx (mPk 2) (lPk 2) (mC (.int 1)) lId) lId (mC (.int 0)) lId) (mB fNe (mUser run__law_common (maCons (mB fIx (mPk 2) (lPk 2) (mC (.int 1)) lId) (maCons (mB fIx (mPk 2) (lPk 2) (mC (.int 2)) lId) maNil))) lId (mC (.int 1)) lId)) (mRet (mC (.bl false))) mSkip) (mSet 1 (mB fIx (mPk 2) (lPk 2) (mC (.int 0)) lId))))) xs [.va v, .va (.int last), s2] = .rt (.bl false) [.va v, s1, s2'])
  | [], last, s2, h21, h => ⟨fun _ => ⟨last, s2, by simp [forGo]⟩, fun h => by simp [gB] at h⟩
  | x :: xs, last, s2, h21, h => by
    simp only [PlL, Bool.and_eq_true] at h
    obtain ⟨hx, hr⟩ := h
    -- a part that is none
    have stop : ∀ b : Bool, gB (x :: xs) last = b → b = false → (∃ s1 s2', (mSeq (mIfS (mOr (mNot (mU isTup (mPk 2) (lPk 2))) (mOr (mB fNe (mCall bLen (maCons (mPk 2) maNil) (laCons (lPk 2) laNil)) lId (mC (.int 3)) lId) (mNot (mUser run__law_is_int (maCons (mB fIx (mPk 2) (lPk 2) (mC (.int 0)) lId) (maCons (mB fAdd (mPk 1) (lPk 1) (mC (.int 1)) lId) (maCons (mC (.int 20)) maNil))))))) (mRet (mC (.bl false))) mSkip) (mSeq (mIfS (mOr (mNot (mUser run__law_is_int (maCons (mB fIx (mPk 2) (lPk 2) (mC (.int 1)) lId) (maCons (mU fNeg (mB fPow (mC (.int 10)) lId (mC (.int 20)) lId) lId) (maCons (mB fPow (mC (.int 10)) lId (mC (.int 20)) lId) maNil))))) (mNot (mUser run__law_is_int (maCons (mB fIx (mPk 2) (lPk 2) (mC (.int 2)) lId) (maCons (mC (.int 1)) (maCons (mB fPow (mC (.int 10)) lId (mC (.int 20)) lId) maNil)))))) (mRet (mC (.bl false))) mSkip) (mSeq (mIfS (mOr (mB fEq (mB fIx (mPk 2) (lPk 2) (mC (.int 1)) lId) lId (mC (.int 0)) lId) (mB fNe (mUser run__law_common (maCons (mB fIx (mPk 2) (lPk 2) (mC (.int 1)) lId) (maCons (mB fIx (mPk 2) (lPk 2) (mC (.int 2)) lId) maNil))) lId (mC (.int 1)) lId)) (mRet (mC (.bl false))) mSkip) (mSet 1 (mB fIx (mPk 2) (lPk 2) (mC (.int 0)) lId))))) [.va v, .va (.int last), .va x] = .rt (.bl false) [.va v, s1, s2']) → 
        (gB (x :: xs) last = true → ∃ last' s2', forGo (mgName 2) (mSeq (mIfS (mOr (mNot (mU isTup (mPk 2) (lPk 2))) (mOr (mB fNe (mCall bLen (maCons (mPk 2) maNil) (laCons (lPk 2) laNil)) lId (mC (.int 3)) lId) (mNot (mUser run__law_is_int (maCons (mB fIx (mPk 2) (lPk 2) (mC (.int 0)) lId) (maCons (mB fAdd (mPk 1) (lPk 1) (mC (.int 1)) lId) (maCons (mC (.int 20)) maNil))))))) (mRet (mC (.bl false))) mSkip) (mSeq (mIfS (mOr (mNot (mUser run__law_is_int (maCons (mB fIx (mPk 2) (lPk 2) (mC (.int 1)) lId) (maCons (mU fNeg (mB fPow (mC (.int 10)) lId (mC (.int 20)) lId) lId) (maCons (mB fPow (mC (.int 10)) lId (mC (.int 20)) lId) maNil))))) (mNot (mUser run__law_is_int (maCons (mB fIx (mPk 2) (lPk 2) (mC (.int 2)) lId) (maCons (mC (.int 1)) (maCons (mB fPow (mC (.int 10)) lId (mC (.int 20)) lId) maNil)))))) (mRet (mC (.bl false))) mSkip) (mSeq (mIfS (mOr (mB fEq (mB fIx (mPk 2) (lPk 2) (mC (.int 1)) lId) lId (mC (.int 0)) lId) (mB fNe (mUser run__law_common (maCons (mB fIx (mPk 2) (lPk 2) (mC (.int 1)) lId) (maCons (mB fIx (mPk 2) (lPk 2) (mC (.int 2)) lId) maNil))) lId (mC (.int 1)) lId)) (mRet (mC (.bl false))) mSkip) (mSet 1 (mB fIx (mPk 2) (lPk 2) (mC (.int 0)) lId))))) (x :: xs) [.va v, .va (.int last), s2] = .nx [.va v, .va (.int last'), s2']) ∧
        (gB (x :: xs) last = false → ∃ s1 s2', forGo (mgName 2) (mSeq (mIfS (mOr (mNot (mU isTup (mPk 2) (lPk 2))) (mOr (mB fNe (mCall bLen (maCons (mPk 2) maNil) (laCons (lPk 2) laNil)) lId (mC (.int 3)) lId) (mNot (mUser run__law_is_int (maCons (mB fIx (mPk 2) (lPk 2) (mC (.int 0)) lId) (maCons (mB fAdd (mPk 1) (lPk 1) (mC (.int 1)) lId) (maCons (mC (.int 20)) maNil))))))) (mRet (mC (.bl false))) mSkip) (mSeq (mIfS (mOr (mNot (mUser run__law_is_int (maCons (mB fIx (mPk 2) (lPk 2) (mC (.int 1)) lId) (maCons (mU fNeg (mB fPow (mC (.int 10)) lId (mC (.int 20)) lId) lId) (maCons (mB fPow (mC (.int 10)) lId (mC (.int 20)) lId) maNil))))) (mNot (mUser run__law_is_int (maCons (mB fIx (mPk 2) (lPk 2) (mC (.int 2)) lId) (maCons (mC (.int 1)) (maCons (mB fPow (mC (.int 10)) lId (mC (.int 20)) lId) maNil)))))) (mRet (mC (.bl false))) mSkip) (mSeq (mIfS (mOr (mB fEq (mB fIx (mPk 2) (lPk 2) (mC (.int 1)) lId) lId (mC (.int 0)) lId) (mB fNe (mUser run__law_common (maCons (mB fIx (mPk 2) (lPk 2) (mC (.int 1)) lId) (maCons (mB fIx (mPk 2) (lPk 2) (mC (.int 2)) lId) maNil))) lId (mC (.int 1)) lId)) (mRet (mC (.bl false))) mSkip) (mSet 1 (mB fIx (mPk 2) (lPk 2) (mC (.int 0)) lId))))) (x :: xs) [.va v, .va (.int last), s2] = .rt (.bl false) [.va v, s1, s2']) := fun b e1 e2 ⟨s1, s2', e⟩ => by
      rw [e1, e2]
      refine ⟨fun h => (by cases h), fun _ => ⟨s1, s2', ?_⟩⟩
      unfold forGo
      rw [mgName_ap]
      simp only [List.length_cons, List.length_nil, blt_dec]
      simp only [List.set]
      rw [show decide (2 < 0 + 1 + 1 + 1) = true from rfl]
      dsimp only
      rw [e]
    have ht : isTup x = some (.bl (match x with | .tup _ => true | _ => false)) := by
      cases x <;> simp [Pl] at hx <;> rfl
    cases x with
    | tup ys =>
      have hy := fun (y : D) (m : y ∈ ys) => PlL_mem (by simpa [Pl] using hx) m
      by_cases hl : ys.length = 3
      · match ys, hl with
        | [a, b, c], _ =>
          have na := lnumber_ok a (last + 1) 20 (hy a (by simp))
          have nb := lnumber_ok b (-LARGE) LARGE (hy b (by simp))
          have nc := lnumber_ok c 1 LARGE (hy c (by simp))
          have i0 : fIx (.tup [a, b, c]) (.int 0) = some a := by simp [fIx, ixD]
          have i1 : fIx (.tup [a, b, c]) (.int 1) = some b := by simp [fIx, ixD]
          have i2 : fIx (.tup [a, b, c]) (.int 2) = some c := by simp [fIx, ixD]
          cases ea : numB a (last + 1) 20 with
          | false =>
            rw [ea] at na
            refine stop false ?_ rfl ?_
            · unfold gB; split <;> rename_i q <;> try rfl
              cases q
              simp only [numB] at ea
              rename_i i _ _ _
              by_cases e : last + 1 ≤ i
              · have : ¬ i ≤ 20 := by simpa [e] using ea
                simp [partB, this]
              · simp [e]
            · exact ⟨.va (.int last), .va (.tup [a, b, c]), by simp [ht, i0, na, slotD, outOf, fAdd, fSub, fMod, fLt, fLe, fGt, fGe, fNeg, fIsN, fNotN, MP.isNon, bAbs, bInt, isInt, isBool, isTup, isStr, bLen, line, fNe, fEq, eqD, eqL, okD, okL]⟩
          | true =>
            rw [ea] at na
            cases eb : numB b (-LARGE) LARGE with
            | false =>
              rw [eb] at nb
              refine stop false ?_ rfl ?_
              · unfold gB; split <;> rename_i q <;> try rfl
                cases q
                simp only [numB] at eb
                simp [partB, eb]
              · simp only [LARGE] at nb
                exact ⟨.va (.int last), .va (.tup [a, b, c]), by simp [ht, i0, i1, na, nb, pow20, slotD, outOf, fAdd, fSub, fMod, fLt, fLe, fGt, fGe, fNeg, fIsN, fNotN, MP.isNon, bAbs, bInt, isInt, isBool, isTup, isStr, bLen, line, fNe, fEq, eqD, eqL, okD, okL]⟩
            | true =>
              rw [eb] at nb
              cases ec : numB c 1 LARGE with
              | false =>
                rw [ec] at nc
                refine stop false ?_ rfl ?_
                · unfold gB; split <;> rename_i q <;> try rfl
                  cases q
                  simp only [numB] at ec
                  simp [partB, ec]
                · simp only [LARGE] at nb nc
                  exact ⟨.va (.int last), .va (.tup [a, b, c]), by simp [ht, i0, i1, i2, na, nb, nc, pow20, slotD, outOf, fAdd, fSub, fMod, fLt, fLe, fGt, fGe, fNeg, fIsN, fNotN, MP.isNon, bAbs, bInt, isInt, isBool, isTup, isStr, bLen, line, fNe, fEq, eqD, eqL, okD, okL]⟩
              | true =>
                rw [ec] at nc
                have hb : ∃ j, b = .int j := by
                  unfold numB at eb; split at eb
                  · exact ⟨_, rfl⟩
                  · cases eb
                obtain ⟨j, rfl⟩ := hb
                have ha : ∃ i, a = .int i := by
                  unfold numB at ea; split at ea
                  · exact ⟨_, rfl⟩
                  · cases ea
                obtain ⟨i, rfl⟩ := ha
                have hc : ∃ k, c = .int k := by
                  unfold numB at ec; split at ec
                  · exact ⟨_, rfl⟩
                  · cases ec
                obtain ⟨k, rfl⟩ := hc
                simp only [numB] at ea eb ec
                have ec' := ec
                simp only [Bool.and_eq_true, decide_eq_true_eq] at ec'
                have hd := common_large j k ec'.1 ec'.2
                simp only [LARGE] at nb nc
                by_cases hz : j = 0
                · refine stop false ?_ rfl ?_
                  · unfold gB partB
                    simp [hz]
                  · subst hz
                    exact ⟨.va (.int last), .va (.tup [.int i, .int 0, .int k]), by simp [ht, i0, i1, i2, na, nb, nc, pow20, slotD, outOf, fAdd, fSub, fMod, fLt, fLe, fGt, fGe, fNeg, fIsN, fNotN, MP.isNon, bAbs, bInt, isInt, isBool, isTup, isStr, bLen, line, fNe, fEq, eqD, eqL, okD, okL]⟩
                · by_cases hg : Int.gcd j k = 1
                  · have hi : -20 ≤ i := by
                      simp only [Bool.and_eq_true, decide_eq_true_eq] at ea
                      omega
                    obtain ⟨ih1, ih2⟩ := law_form_loop v xs i (.va (.tup [.int i, .int j, .int k])) (by omega) hr
                    have e : gB (.tup [.int i, .int j, .int k] :: xs) last = gB xs i := by
                      simp only [Bool.and_eq_true, decide_eq_true_eq] at ea eb ec
                      conv => lhs; unfold gB
                      have : partB (.tup [.int i, .int j, .int k]) = true := by
                        simp only [partB, hz, hg]
                        simp only [Bool.and_eq_true, decide_eq_true_eq]
                        exact ⟨⟨hi, ea.2⟩, eb, by simp, ec, trivial⟩
                      dsimp only
                      rw [this]
                      simp [ea.1]
                    have st : (mSeq (mIfS (mOr (mNot (mU isTup (mPk 2) (lPk 2))) (mOr (mB fNe (mCall bLen (maCons (mPk 2) maNil) (laCons (lPk 2) laNil)) lId (mC (.int 3)) lId) (mNot (mUser run__law_is_int (maCons (mB fIx (mPk 2) (lPk 2) (mC (.int 0)) lId) (maCons (mB fAdd (mPk 1) (lPk 1) (mC (.int 1)) lId) (maCons (mC (.int 20)) maNil))))))) (mRet (mC (.bl false))) mSkip) (mSeq (mIfS (mOr (mNot (mUser run__law_is_int (maCons (mB fIx (mPk 2) (lPk 2) (mC (.int 1)) lId) (maCons (mU fNeg (mB fPow (mC (.int 10)) lId (mC (.int 20)) lId) lId) (maCons (mB fPow (mC (.int 10)) lId (mC (.int 20)) lId) maNil))))) (mNot (mUser run__law_is_int (maCons (mB fIx (mPk 2) (lPk 2) (mC (.int 2)) lId) (maCons (mC (.int 1)) (maCons (mB fPow (mC (.int 10)) lId (mC (.int 20)) lId) maNil)))))) (mRet (mC (.bl false))) mSkip) (mSeq (mIfS (mOr (mB fEq (mB fIx (mPk 2) (lPk 2) (mC (.int 1)) lId) lId (mC (.int 0)) lId) (mB fNe (mUser run__law_common (maCons (mB fIx (mPk 2) (lPk 2) (mC (.int 1)) lId) (maCons (mB fIx (mPk 2) (lPk 2) (mC (.int 2)) lId) maNil))) lId (mC (.int 1)) lId)) (mRet (mC (.bl false))) mSkip) (mSet 1 (mB fIx (mPk 2) (lPk 2) (mC (.int 0)) lId))))) [.va v, .va (.int last), .va (.tup [.int i, .int j, .int k])] = .nx [.va v, .va (.int i), .va (.tup [.int i, .int j, .int k])] := by
                      simp [ht, i0, i1, i2, na, nb, nc, pow20, hz, hd, hg, slotD, outOf, fAdd, fSub, fMod, fLt, fLe, fGt, fGe, fNeg, fIsN, fNotN, MP.isNon, bAbs, bInt, isInt, isBool, isTup, isStr, bLen, line, fNe, fEq, eqD, eqL, okD, okL]
                    have go : forGo (mgName 2) (mSeq (mIfS (mOr (mNot (mU isTup (mPk 2) (lPk 2))) (mOr (mB fNe (mCall bLen (maCons (mPk 2) maNil) (laCons (lPk 2) laNil)) lId (mC (.int 3)) lId) (mNot (mUser run__law_is_int (maCons (mB fIx (mPk 2) (lPk 2) (mC (.int 0)) lId) (maCons (mB fAdd (mPk 1) (lPk 1) (mC (.int 1)) lId) (maCons (mC (.int 20)) maNil))))))) (mRet (mC (.bl false))) mSkip) (mSeq (mIfS (mOr (mNot (mUser run__law_is_int (maCons (mB fIx (mPk 2) (lPk 2) (mC (.int 1)) lId) (maCons (mU fNeg (mB fPow (mC (.int 10)) lId (mC (.int 20)) lId) lId) (maCons (mB fPow (mC (.int 10)) lId (mC (.int 20)) lId) maNil))))) (mNot (mUser run__law_is_int (maCons (mB fIx (mPk 2) (lPk 2) (mC (.int 2)) lId) (maCons (mC (.int 1)) (maCons (mB fPow (mC (.int 10)) lId (mC (.int 20)) lId) maNil)))))) (mRet (mC (.bl false))) mSkip) (mSeq (mIfS (mOr (mB fEq (mB fIx (mPk 2) (lPk 2) (mC (.int 1)) lId) lId (mC (.int 0)) lId) (mB fNe (mUser run__law_common (maCons (mB fIx (mPk 2) (lPk 2) (mC (.int 1)) lId) (maCons (mB fIx (mPk 2) (lPk 2) (mC (.int 2)) lId) maNil))) lId (mC (.int 1)) lId)) (mRet (mC (.bl false))) mSkip) (mSet 1 (mB fIx (mPk 2) (lPk 2) (mC (.int 0)) lId))))) (.tup [.int i, .int j, .int k] :: xs) [.va v, .va (.int last), s2] = forGo (mgName 2) (mSeq (mIfS (mOr (mNot (mU isTup (mPk 2) (lPk 2))) (mOr (mB fNe (mCall bLen (maCons (mPk 2) maNil) (laCons (lPk 2) laNil)) lId (mC (.int 3)) lId) (mNot (mUser run__law_is_int (maCons (mB fIx (mPk 2) (lPk 2) (mC (.int 0)) lId) (maCons (mB fAdd (mPk 1) (lPk 1) (mC (.int 1)) lId) (maCons (mC (.int 20)) maNil))))))) (mRet (mC (.bl false))) mSkip) (mSeq (mIfS (mOr (mNot (mUser run__law_is_int (maCons (mB fIx (mPk 2) (lPk 2) (mC (.int 1)) lId) (maCons (mU fNeg (mB fPow (mC (.int 10)) lId (mC (.int 20)) lId) lId) (maCons (mB fPow (mC (.int 10)) lId (mC (.int 20)) lId) maNil))))) (mNot (mUser run__law_is_int (maCons (mB fIx (mPk 2) (lPk 2) (mC (.int 2)) lId) (maCons (mC (.int 1)) (maCons (mB fPow (mC (.int 10)) lId (mC (.int 20)) lId) maNil)))))) (mRet (mC (.bl false))) mSkip) (mSeq (mIfS (mOr (mB fEq (mB fIx (mPk 2) (lPk 2) (mC (.int 1)) lId) lId (mC (.int 0)) lId) (mB fNe (mUser run__law_common (maCons (mB fIx (mPk 2) (lPk 2) (mC (.int 1)) lId) (maCons (mB fIx (mPk 2) (lPk 2) (mC (.int 2)) lId) maNil))) lId (mC (.int 1)) lId)) (mRet (mC (.bl false))) mSkip) (mSet 1 (mB fIx (mPk 2) (lPk 2) (mC (.int 0)) lId))))) xs [.va v, .va (.int i), .va (.tup [.int i, .int j, .int k])] := by
                      conv => lhs; unfold forGo
                      rw [mgName_ap]
                      simp only [List.length_cons, List.length_nil, blt_dec]
                      simp only [List.set]
                      rw [show decide (2 < 0 + 1 + 1 + 1) = true from rfl]
                      dsimp only
                      rw [st]
                    rw [e, go]
                    exact ⟨ih1, ih2⟩
                  · refine stop false ?_ rfl ?_
                    · unfold gB partB
                      simp [hg]
                    · have hg' : ¬ ((Int.gcd j k : Int) = 1) := by omega
                      exact ⟨.va (.int last), .va (.tup [.int i, .int j, .int k]), by simp [ht, i0, i1, i2, na, nb, nc, pow20, hz, hd, hg', slotD, outOf, fAdd, fSub, fMod, fLt, fLe, fGt, fGe, fNeg, fIsN, fNotN, MP.isNon, bAbs, bInt, isInt, isBool, isTup, isStr, bLen, line, fNe, fEq, eqD, eqL, okD, okL]⟩
      · refine stop false ?_ rfl ?_
        · unfold gB; split <;> rename_i q <;> try rfl
          cases q
          simp at hl
        · have hl' : ¬ ((ys.length : Int) = 3) := by omega
          exact ⟨.va (.int last), .va (.tup ys), by simp [ht, hl', slotD, outOf, fAdd, fSub, fMod, fLt, fLe, fGt, fGe, fNeg, fIsN, fNotN, MP.isNon, bAbs, bInt, isInt, isBool, isTup, isStr, bLen, line, fNe, fEq, eqD, eqL, okD, okL]⟩
    | non => exact stop false rfl rfl ⟨.va (.int last), .va (.non), by simp [slotD, outOf, fAdd, fSub, fMod, fLt, fLe, fGt, fGe, fNeg, fIsN, fNotN, MP.isNon, bAbs, bInt, isInt, isBool, isTup, isStr, bLen, line, fNe, fEq, eqD, eqL, okD, okL]⟩
    | bl b => exact stop false rfl rfl ⟨.va (.int last), .va (.bl b), by simp [slotD, outOf, fAdd, fSub, fMod, fLt, fLe, fGt, fGe, fNeg, fIsN, fNotN, MP.isNon, bAbs, bInt, isInt, isBool, isTup, isStr, bLen, line, fNe, fEq, eqD, eqL, okD, okL]⟩
    | int i => exact stop false rfl rfl ⟨.va (.int last), .va (.int i), by simp [slotD, outOf, fAdd, fSub, fMod, fLt, fLe, fGt, fGe, fNeg, fIsN, fNotN, MP.isNon, bAbs, bInt, isInt, isBool, isTup, isStr, bLen, line, fNe, fEq, eqD, eqL, okD, okL]⟩
    | str cs => exact stop false rfl rfl ⟨.va (.int last), .va (.str cs), by simp [slotD, outOf, fAdd, fSub, fMod, fLt, fLe, fGt, fGe, fNeg, fIsN, fNotN, MP.isNon, bAbs, bInt, isInt, isBool, isTup, isStr, bLen, line, fNe, fEq, eqD, eqL, okD, okL]⟩
    | lst ys => exact stop false rfl rfl ⟨.va (.int last), .va (.lst ys), by simp [slotD, outOf, fAdd, fSub, fMod, fLt, fLe, fGt, fGe, fNeg, fIsN, fNotN, MP.isNon, bAbs, bInt, isInt, isBool, isTup, isStr, bLen, line, fNe, fEq, eqD, eqL, okD, okL]⟩
    | scr _ => simp [Pl] at hx
    | dct _ _ => simp [Pl] at hx
    | dtp _ _ => simp [Pl] at hx
theorem law_is_form_ok (v : D) (h : Pl v = true) : run__law_is_form [.va v] = .ok (.bl (goodB v)) none := by
  cases v with
  | tup xs =>
    by_cases hl : xs.length ≤ 12
    · have hl' : ¬ (12 < (xs.length : Int)) := by omega
      obtain ⟨h1, h2⟩ := law_form_loop (.tup xs) xs (-21) .no (by omega) (by simpa [Pl] using h)
      cases hg : gB xs (-21) with
      | true =>
        obtain ⟨l', s2', e⟩ := h1 hg
        simp [run__law_is_form, runF, m__law_is_form, goodB, hl, hl', hg, slotD, outOf, fAdd, fSub, fMod, fLt, fLe, fGt, fGe, fNeg, fIsN, fNotN, MP.isNon, bAbs, bInt, isInt, isBool, isTup, isStr, bLen, line]
        rw [e]
        simp
      | false =>
        obtain ⟨s1, s2', e⟩ := h2 hg
        simp [run__law_is_form, runF, m__law_is_form, goodB, hl, hl', hg, slotD, outOf, fAdd, fSub, fMod, fLt, fLe, fGt, fGe, fNeg, fIsN, fNotN, MP.isNon, bAbs, bInt, isInt, isBool, isTup, isStr, bLen, line]
        rw [e]
        simp
    · have hl' : 12 < (xs.length : Int) := by omega
      simp [run__law_is_form, runF, m__law_is_form, goodB, hl, hl', slotD, outOf, fAdd, fSub, fMod, fLt, fLe, fGt, fGe, fNeg, fIsN, fNotN, MP.isNon, bAbs, bInt, isInt, isBool, isTup, isStr, bLen, line]
  | non => simp [run__law_is_form, runF, m__law_is_form, goodB, slotD, outOf, fAdd, fSub, fMod, fLt, fLe, fGt, fGe, fNeg, fIsN, fNotN, MP.isNon, bAbs, bInt, isInt, isBool, isTup, isStr, bLen, line]
  | bl b => simp [run__law_is_form, runF, m__law_is_form, goodB, slotD, outOf, fAdd, fSub, fMod, fLt, fLe, fGt, fGe, fNeg, fIsN, fNotN, MP.isNon, bAbs, bInt, isInt, isBool, isTup, isStr, bLen, line]
  | int i => simp [run__law_is_form, runF, m__law_is_form, goodB, slotD, outOf, fAdd, fSub, fMod, fLt, fLe, fGt, fGe, fNeg, fIsN, fNotN, MP.isNon, bAbs, bInt, isInt, isBool, isTup, isStr, bLen, line]
  | str cs => simp [run__law_is_form, runF, m__law_is_form, goodB, slotD, outOf, fAdd, fSub, fMod, fLt, fLe, fGt, fGe, fNeg, fIsN, fNotN, MP.isNon, bAbs, bInt, isInt, isBool, isTup, isStr, bLen, line]
  | lst ys => simp [run__law_is_form, runF, m__law_is_form, goodB, slotD, outOf, fAdd, fSub, fMod, fLt, fLe, fGt, fGe, fNeg, fIsN, fNotN, MP.isNon, bAbs, bInt, isInt, isBool, isTup, isStr, bLen, line]
  | scr _ => simp [Pl] at h
  | dct _ _ => simp [Pl] at h
  | dtp _ _ => simp [Pl] at h
end GJ

set_option Elab.async false
set_option linter.all false
set_option maxRecDepth 100000
set_option maxHeartbeats 2000000
namespace GJ
open PySem L2 MP
/-! ### the law's last checks -/
def rr (a : Int) (b : D) (c : Int) : D := .tup [.int a, b, .int c]
def due : D := .tup [rr 1 (.int 2) 1, rr 3 (.int 3) 0, rr 4 (.int 6) (-1), rr 7 (.int 7) 0, rr 8 .non 1]
theorem tail_ok (s0 s1 s2 s3 s4 s5 s6 s7 : Sl) : (mSeq (mIfS (mOr (mUser run_is_form (maCons (mTup (maCons (mTup (maCons (mC (.int 0)) (maCons (mC (.int 2)) (maCons (mC (.int 4)) maNil)))) maNil)) maNil)) (mOr (mUser run_is_form (maCons (mTup (maCons (mTup (maCons (mC (.int 1)) (maCons (mC (.int 1)) (maCons (mC (.int 1)) maNil)))) (maCons (mTup (maCons (mC (.int 0)) (maCons (mC (.int 1)) (maCons (mC (.int 1)) maNil)))) maNil))) maNil)) (mOr (mNot (mUser run_is_form (maCons (mTup maNil) maNil))) (mUser run_is_form (maCons (mTup (maCons (mTup (maCons (mC (.int 21)) (maCons (mC (.int 1)) (maCons (mC (.int 1)) maNil)))) maNil)) maNil))))) (mRet (mC (.bl false))) mSkip) (mSeq (mIfS (mOr (mB fNe (mUser run_worth (maCons (mTup (maCons (mTup (maCons (mU fNeg (mC (.int 1)) lId) (maCons (mU fNeg (mC (.int 4)) lId) (maCons (mC (.int 1)) maNil)))) (maCons (mTup (maCons (mC (.int 0)) (maCons (mC (.int 1)) (maCons (mC (.int 2)) maNil)))) maNil))) (maCons (mC (.int 3)) maNil))) lId (mTup (maCons (mU fNeg (mC (.int 5)) lId) (maCons (mC (.int 6)) maNil))) lId) (mB fNe (mUser run_worth (maCons (mTup maNil) (maCons (mC (.int 5)) maNil))) lId (mTup (maCons (mC (.int 0)) (maCons (mC (.int 1)) maNil))) lId)) (mRet (mC (.bl false))) mSkip) (mSeq (mIfS (mB fNe (mUser run_sign_rows (maCons (mTup (maCons (mTup (maCons (mC (.int 0)) (maCons (mU fNeg (mC (.int 6)) lId) (maCons (mC (.int 1)) maNil)))) (maCons (mTup (maCons (mC (.int 1)) (maCons (mC (.int 1)) (maCons (mC (.int 1)) maNil)))) maNil))) maNil)) lId (mTup (maCons (mTup (maCons (mC (.int 1)) (maCons (mC (.int 5)) (maCons (mU fNeg (mC (.int 1)) lId) maNil)))) (maCons (mTup (maCons (mC (.int 6)) (maCons (mC (.int 6)) (maCons (mC (.int 0)) maNil)))) (maCons (mTup (maCons (mC (.int 7)) (maCons (mC .non) (maCons (mC (.int 1)) maNil)))) maNil)))) lId) (mRet (mC (.bl false))) mSkip) (mSeq (mIfS (mB fNe (mUser run_sign_rows (maCons (mTup (maCons (mTup (maCons (mC (.int 0)) (maCons (mC (.int 2)) (maCons (mC (.int 1)) maNil)))) (maCons (mTup (maCons (mC (.int 1)) (maCons (mU fNeg (mC (.int 3)) lId) (maCons (mC (.int 1)) maNil)))) (maCons (mTup (maCons (mC (.int 2)) (maCons (mC (.int 1)) (maCons (mC (.int 1)) maNil)))) maNil)))) maNil)) lId (mTup (maCons (mTup (maCons (mC (.int 1)) (maCons (mC (.int 2)) (maCons (mC (.int 0)) maNil)))) (maCons (mTup (maCons (mC (.int 3)) (maCons (mC .non) (maCons (mC (.int 1)) maNil)))) maNil))) lId) (mRet (mC (.bl false))) mSkip) (mSeq (mSet 7 (mTup (maCons (mTup (maCons (mC (.int 1)) (maCons (mC (.int 2)) (maCons (mC (.int 1)) maNil)))) (maCons (mTup (maCons (mC (.int 3)) (maCons (mC (.int 3)) (maCons (mC (.int 0)) maNil)))) (maCons (mTup (maCons (mC (.int 4)) (maCons (mC (.int 6)) (maCons (mU fNeg (mC (.int 1)) lId) maNil)))) (maCons (mTup (maCons (mC (.int 7)) (maCons (mC (.int 7)) (maCons (mC (.int 0)) maNil)))) (maCons (mTup (maCons (mC (.int 8)) (maCons (mC .non) (maCons (mC (.int 1)) maNil)))) maNil))))))) (mSeq (mIfS (mB fNe (mUser run_sign_rows (maCons (mTup (maCons (mTup (maCons (mC (.int 0)) (maCons (mC (.int 21)) (maCons (mC (.int 1)) maNil)))) (maCons (mTup (maCons (mC (.int 1)) (maCons (mU fNeg (mC (.int 10)) lId) (maCons (mC (.int 1)) maNil)))) (maCons (mTup (maCons (mC (.int 2)) (maCons (mC (.int 1)) (maCons (mC (.int 1)) maNil)))) maNil)))) maNil)) lId (mPk 7) (lPk 7)) (mRet (mC (.bl false))) mSkip) (mSeq (mIfS (mOr (mB fNe (mUser run_sign_rows (maCons (mTup maNil) maNil)) lId (mTup (maCons (mTup (maCons (mC (.int 1)) (maCons (mC .non) (maCons (mC (.int 0)) maNil)))) maNil)) lId) (mB fNe (mB fIx (mB fIx (mUser run_sign_rows (maCons (mTup (maCons (mTup (maCons (mC (.int 0)) (maCons (mB fPow (mC (.int 10)) lId (mC (.int 20)) lId) (maCons (mC (.int 1)) maNil)))) (maCons (mTup (maCons (mC (.int 1)) (maCons (mU fNeg (mC (.int 1)) lId) (maCons (mC (.int 1)) maNil)))) maNil))) maNil)) lId (mC (.int 1)) lId) lId (mC (.int 0)) lId) lId (mB fPow (mC (.int 10)) lId (mC (.int 20)) lId) lId)) (mRet (mC (.bl false))) mSkip) (mRet (mB fEq (mUser run_sign_rows (maCons (mTup (maCons (mTup (maCons (mU fNeg (mC (.int 1)) lId) (maCons (mU fNeg (mC (.int 4)) lId) (maCons (mC (.int 1)) maNil)))) (maCons (mTup (maCons (mC (.int 0)) (maCons (mC (.int 1)) (maCons (mC (.int 2)) maNil)))) maNil))) maNil)) lId (mTup (maCons (mTup (maCons (mC (.int 1)) (maCons (mC (.int 7)) (maCons (mU fNeg (mC (.int 1)) lId) maNil)))) (maCons (mTup (maCons (mC (.int 8)) (maCons (mC (.int 8)) (maCons (mC (.int 0)) maNil)))) (maCons (mTup (maCons (mC (.int 9)) (maCons (mC .non) (maCons (mC (.int 1)) maNil)))) maNil)))) lId))))))))) [s0, s1, s2, s3, s4, s5, s6, s7] = .rt (.bl true) [s0, s1, s2, s3, s4, s5, s6, .va due] := by kernel_rfl
end GJ

set_option Elab.async false
set_option linter.all false
set_option maxRecDepth 100000
set_option maxHeartbeats 2000000
namespace GJ
open PySem L2 MP

/-! ### draws -/
structure Src (x : D) : Prop where
  ex : ∃ a b : Int, x = .lst [.int a, .int b] ∧ 0 ≤ a ∧ 0 ≤ b ∧ b < 2147483647
theorem bd31 {b : Int} (h0 : 0 ≤ b) (h1 : b < 2147483647) : Bd b 31 := by unfold Bd; omega
theorem draw_ok {x : D} (hx : Src x) (m : Int) (hm : 0 < m) (hm2 : m < 2 ^ 40) : ∃ (r : Int) (x' : D), run__law_draw [.bo x, .va (.int m)] = .ok (.int r) (some x') ∧ Src x' ∧ 0 ≤ r ∧ r < m := by
  obtain ⟨a, b, rfl, ha, hb, hb2⟩ := hx.ex
  have bm : Bd m 40 := by
    unfold Bd
    have : (m.natAbs : Int) = m := Int.natAbs_of_nonneg (by omega)
    omega
  by_cases h : 0 < a
  · have dv := fDiv_ok (x := a) hm bm (by decide)
    have md : fMod (.int a) (.int m) = some (.int (a % m)) := by simp [fMod, hm]
    refine ⟨a % m, .lst [.int (a / m), .int b], ?_, ⟨⟨a / m, b, rfl, Int.ediv_nonneg ha (by omega), hb, hb2⟩⟩, Int.emod_nonneg _ (by omega), Int.emod_lt_of_pos _ hm⟩
    simp [run__law_draw, runF, m__law_draw, fIx, ixD, h, dv, fMod, hm, atC, kput, ixN, slotD, outOf, fAdd, fSub, fMod, fLt, fLe, fGt, fGe, fNeg, fIsN, fNotN, MP.isNon, bAbs, bInt, isInt, isBool, isTup, isStr, bLen, line]
  · have b1 := bd31 hb hb2
    have m1 := fMul_ok b1 (y := 48271) (b := 16) (by unfold Bd; decide) (by decide)
    have e0 : 0 ≤ b * 48271 % 2147483647 := Int.emod_nonneg _ (by decide)
    have e1 : b * 48271 % 2147483647 < 2147483647 := Int.emod_lt_of_pos _ (by decide)
    have b2 := bd31 e0 e1
    have m2 := fMul_ok b2 b2 (by decide)
    have dv := fDiv_ok (x := (b * 48271 % 2147483647) * (b * 48271 % 2147483647) % 2147483629) (y := 64) (b := 6) (by decide) (by unfold Bd; decide) (by decide)
    refine ⟨((b * 48271 % 2147483647) * (b * 48271 % 2147483647) % 2147483629 / 64) % m, .lst [.int a, .int (b * 48271 % 2147483647)], ?_, ⟨⟨a, _, rfl, ha, e0, e1⟩⟩, Int.emod_nonneg _ (by omega), Int.emod_lt_of_pos _ hm⟩
    have ix1 : ixN 2 1 = some 1 := rfl
    simp [run__law_draw, runF, m__law_draw, fIx, ixD, h, m1, m2, dv, fMod, hm, atC, kput, ixN, slotD, outOf, fAdd, fSub, fMod, fLt, fLe, fGt, fGe, fNeg, fIsN, fNotN, MP.isNon, bAbs, bInt, isInt, isBool, isTup, isStr, bLen, line]
theorem ixD_natU {α : Type} (xs : List α) (s : Nat) : ixD xs (s : Int) = xs[s]? := by
  unfold ixD
  rw [decide_eq_true (by omega)]
  simp
theorem seq_nxU {a b : MS} {e e1 : Ev} {r : RS} (h : a e = .nx e1) (h2 : b e1 = r) : mSeq a b e = r := by
  unfold mSeq
  rw [h]
  exact h2
theorem seq_rtU {a b : MS} {e e1 : Ev} {d : D} (h : a e = .rt d e1) : mSeq a b e = .rt d e1 := by
  unfold mSeq
  rw [h]
theorem source_ok (ns : List Int) (k : Nat) (hk : k < 100) : ∃ x, run__law_source [.va (.scr ns), .va (.int (k : Int))] = .ok x none ∧ Src x := by
  have p18 : fPow (.int 10) (.int 18) = some (.int 1000000000000000000) := by simp [fPow]
  have s0 : (mNoRt (mSet 2 (mC (.int 0)))) [.va (.scr ns), .va (.int (k : Int)), .no] = .nx [.va (.scr ns), .va (.int (k : Int)), .va (.int 0)] := by simp
  obtain ⟨c, hc, s1⟩ : ∃ c : Int, 0 ≤ c ∧ (mIfS (mB fLt (mPk 1) (lPk 1) (mCall bLen (maCons (mPk 0) maNil) (laCons (lPk 0) laNil)) lId) (mNoRt (mSet 2 (mCall bAbs (maCons (mCall bInt (maCons (mB fIx (mPk 0) (lPk 0) (mPk 1) (lPk 1)) maNil) (laCons lId laNil)) maNil) (laCons lId laNil)))) mSkip) [.va (.scr ns), .va (.int (k : Int)), .va (.int 0)] = .nx [.va (.scr ns), .va (.int (k : Int)), .va (.int c)] := by
    by_cases h : k < ns.length
    · have ix : ixD ns (k : Int) = some ns[k] := by rw [ixD_natU]; exact List.getElem?_eq_getElem h
      refine ⟨if ns[k] < 0 then -ns[k] else ns[k], by split <;> omega, ?_⟩
      simp [h, fIx, ix, slotD, outOf, fAdd, fSub, fMod, fLt, fLe, fGt, fGe, fNeg, fIsN, fNotN, MP.isNon, bAbs, bInt, isInt, isBool, isTup, isStr, bLen, line]
    · exact ⟨0, by omega, by simp [h, slotD, outOf, fAdd, fSub, fMod, fLt, fLe, fGt, fGe, fNeg, fIsN, fNotN, MP.isNon, bAbs, bInt, isInt, isBool, isTup, isStr, bLen, line]⟩
  have runN_rt : ∀ {d : D} {e : Ev}, m__law_source [.va (.scr ns), .va (.int (k : Int)), .no] = .rt d e → run__law_source [.va (.scr ns), .va (.int (k : Int))] = .ok d none := fun {d e} h => by
    show MP.runN 2 3 m__law_source [.va (.scr ns), .va (.int (k : Int))] = .ok d none
    unfold MP.runN
    have e0 : ([.va (.scr ns), .va (.int (k : Int))] ++ List.replicate (3 - 2) Sl.no : Ev) = [.va (.scr ns), .va (.int (k : Int)), .no] := rfl
    rw [e0, h]
  by_cases hb : c < 1000000000000000000
  · have bc : Bd c 60 := by
      unfold Bd
      have : (c.natAbs : Int) = c := Int.natAbs_of_nonneg hc
      omega
    have m1 := fMul_ok bc (y := 7919) (b := 13) (by unfold Bd; decide) (by decide)
    have bk : Bd (k : Int) 7 := by unfold Bd; rw [Int.natAbs_natCast]; omega
    have m2 := fMul_ok (x := 104729) (a := 17) (by unfold Bd; decide) bk (by decide)
    refine ⟨.lst [.int 0, .int (1 + (c * 7919 + 104729 * (k : Int)) % 2147483646)], runN_rt (e := [.va (.scr ns), .va (.int (k : Int)), .va (.int c)]) (seq_nxU s0 (seq_nxU s1 (seq_rtU ?_))), ⟨⟨0, _, rfl, by omega, by omega, by omega⟩⟩⟩
    simp [p18, hb, m1, m2, fMod, slotD, outOf, fAdd, fSub, fMod, fLt, fLe, fGt, fGe, fNeg, fIsN, fNotN, MP.isNon, bAbs, bInt, isInt, isBool, isTup, isStr, bLen, line]
  · refine ⟨.lst [.int c, .int (1 + (c + (k : Int)) % 2147483646)], runN_rt (e := [.va (.scr ns), .va (.int (k : Int)), .va (.int c)]) (seq_nxU s0 (seq_nxU s1 (seq_nxU (e1 := [.va (.scr ns), .va (.int (k : Int)), .va (.int c)]) ?_ ?_))), ⟨⟨c, _, rfl, by omega, by omega, by omega⟩⟩⟩
    · simp [p18, hb, slotD, outOf, fAdd, fSub, fMod, fLt, fLe, fGt, fGe, fNeg, fIsN, fNotN, MP.isNon, bAbs, bInt, isInt, isBool, isTup, isStr, bLen, line]
    · simp [fMod, slotD, outOf, fAdd, fSub, fMod, fLt, fLe, fGt, fGe, fNeg, fIsN, fNotN, MP.isNon, bAbs, bInt, isInt, isBool, isTup, isStr, bLen, line]
/-- to draw of a list -/
theorem of_ok {x : D} (hx : Src x) (ys : List D) (h0 : ys ≠ []) (hl : ys.length ≤ 1000) : ∃ (y x' : D), run__law_of [.bo x, .va (.lst ys)] = .ok y (some x') ∧ Src x' ∧ y ∈ ys := by
  have hp : 0 < ys.length := List.length_pos_iff.mpr h0
  obtain ⟨r, x', e, hs, h1, h2⟩ := draw_ok hx (ys.length : Int) (by omega) (by omega)
  obtain ⟨q, rfl⟩ : ∃ q : Nat, r = (q : Int) := ⟨r.toNat, by omega⟩
  have hr : q < ys.length := by omega
  have ix : fIx (.lst ys) (.int (q : Int)) = some ys[q] := by
    show ixD ys (q : Int) = _
    rw [ixD_natU]
    exact List.getElem?_eq_getElem hr
  refine ⟨ys[q], x', ?_, hs, List.getElem_mem hr⟩
  simp [run__law_of, runF, m__law_of, e, ix, mUserB, slotD, outOf, fAdd, fSub, fMod, fLt, fLe, fGt, fGe, fNeg, fIsN, fNotN, MP.isNon, bAbs, bInt, isInt, isBool, isTup, isStr, bLen, line]
end GJ

set_option Elab.async false
set_option linter.all false
set_option maxRecDepth 100000
set_option maxHeartbeats 2000000
namespace GJ
open PySem L2 MP

/-! ### polynomials: the lowest coefficient first -/
def ev : List Int → Int → Int
  | [], _ => 0
  | c :: cs, n => c + n * ev cs n
def nD (c : List Int) : D := .lst (c.map D.int)
theorem sign_ok (x : Int) : run_sign [.va (.int x)] = .ok (.int x.sign) none := by
  simp [run_sign, runF, m_sign, slotD, outOf, fAdd, fSub, fMod, fLt, fLe, fGt, fGe, fNeg, fIsN, fNotN, MP.isNon, bAbs, bInt, isInt, isBool, isTup, isStr, bLen, line]
  by_cases h : 0 < x
  · rw [Int.sign_eq_one_of_pos h]
    have : ¬ x < 0 := by omega
    simp [h, this, b2iD]
  · by_cases h2 : x < 0
    · rw [Int.sign_eq_neg_one_of_neg h2]
      simp [h, h2, b2iD]
    · have : x = 0 := by omega
      subst this
      simp [b2iD]
def hv : List Int → Int → Int → Int
  | [], _, a => a
  | c :: cs, n, a => hv cs n (a * n + c)
theorem hv_app : ∀ (xs : List Int) (y n a : Int), hv (xs ++ [y]) n a = hv xs n a * n + y
  | [], y, n, a => rfl
  | x :: xs, y, n, a => by
    simp only [List.cons_append, hv]
    rw [hv_app xs y n]
theorem hv_rev : ∀ (c : List Int) (n : Int), hv c.reverse n 0 = ev c n
  | [], n => rfl
  | c :: cs, n => by
    rw [List.reverse_cons, hv_app, hv_rev cs n]
    simp only [ev]
    grind
theorem value_loop (F : D) (n : Int) {B : Nat} (hn : Bd n B) {A : Nat} : ∀ (c : List Int) (a : Int) (k : Nat) (t : Sl), (∀ x ∈ c, Bd x A) → Bd a k → A ≤ k → k + (c.length + 1) * (B + 1) < 1000000 →
    ∃ t', forGo (mgName 3) (mSet 2 (mB fAdd (mB fMul (mPk 2) (lPk 2) (mPk 1) (lPk 1)) lId (mPk 3) (lPk 3))) (c.map D.int) [.va F, .va (.int n), .va (.int a), t] = .nx [.va F, .va (.int n), .va (.int (hv c n a)), t'] ∧ Bd (hv c n a) (k + c.length * (B + 1))
  | [], a, k, t, hc, ha, hk, hs => ⟨t, by simp [forGo, hv], by simpa [hv] using ha⟩
  | c :: cs, a, k, t, hc, ha, hk, hs => by
    simp only [List.length_cons] at hs
    have e9 : (cs.length + 1 + 1) * (B + 1) = (cs.length + 1) * (B + 1) + (B + 1) := Nat.succ_mul _ _
    have m := fMul_ok ha hn (by omega)
    have ba : Bd (a * n + c) (k + (B + 1)) := ((ha.mul hn).add ((hc c List.mem_cons_self).mono (by omega : A ≤ k + B))).mono (by omega)
    obtain ⟨t', e, b⟩ := value_loop F n hn cs (a * n + c) (k + (B + 1)) (.va (.int c)) (fun x hx => hc x (List.mem_cons_of_mem _ hx)) ba (by omega) (by omega)
    refine ⟨t', ?_, b.mono (by simp only [List.length_cons]; rw [Nat.succ_mul]; omega)⟩
    simp only [List.map_cons, forGo]
    simp [m, slotD, outOf, fAdd, fSub, fMod, fLt, fLe, fGt, fGe, fNeg, fIsN, fNotN, MP.isNon, bAbs, bInt, isInt, isBool, isTup, isStr, bLen, line]
    simpa [hv] using e
theorem value_ok (c : List Int) (n : Int) {A B : Nat} (hn : Bd n B) (hc : ∀ x ∈ c, Bd x A) (hs : A + (c.length + 1) * (B + 1) < 1000000) : run_value_at [.va (nD c), .va (.int n)] = .ok (.int (ev c n)) none ∧ Bd (ev c n) (A + c.length * (B + 1)) := by
  obtain ⟨t', e, b⟩ := value_loop (nD c) n hn (A := A) c.reverse 0 A .no (fun x hx => hc x (List.mem_reverse.mp hx)) (by unfold Bd; simp) (Nat.le_refl A) (by rw [List.length_reverse]; exact hs)
  rw [hv_rev] at e b
  rw [List.length_reverse] at b
  refine ⟨?_, b⟩
  rw [List.map_reverse] at e
  simp only [nD] at e ⊢
  generalize c.map D.int = L at e ⊢
  simp [run_value_at, runF, m_value_at, fRev, slotD, outOf, fAdd, fSub, fMod, fLt, fLe, fGt, fGe, fNeg, fIsN, fNotN, MP.isNon, bAbs, bInt, isInt, isBool, isTup, isStr, bLen, line]
  rw [e]
  simp [slotD, outOf, fAdd, fSub, fMod, fLt, fLe, fGt, fGe, fNeg, fIsN, fNotN, MP.isNon, bAbs, bInt, isInt, isBool, isTup, isStr, bLen, line]
/-! ### the step of a polynomial -/
def addTo : List Int → Int → List Int → List Int
  | f :: fs, k, r :: rs => (f + k * r) :: addTo fs k rs
  | fs, _, _ => fs
theorem addTo_nil (fs : List Int) (k : Int) : addTo fs k [] = fs := by cases fs <;> rfl
theorem addTo_len : ∀ (fs : List Int) (k : Int) (rs : List Int), (addTo fs k rs).length = fs.length
  | [], k, rs => by cases rs <;> rfl
  | f :: fs, k, [] => rfl
  | f :: fs, k, r :: rs => by simp only [addTo, List.length_cons, addTo_len fs k rs]
theorem addTo_ev : ∀ (fs : List Int) (k : Int) (rs : List Int) (n : Int), rs.length ≤ fs.length → ev (addTo fs k rs) n = ev fs n + k * ev rs n
  | [], k, [], n, h => by simp [addTo, ev]
  | [], k, r :: rs, n, h => by simp at h
  | f :: fs, k, [], n, h => by simp [addTo, ev]
  | f :: fs, k, r :: rs, n, h => by
    simp only [addTo, ev]
    rw [addTo_ev fs k rs n (by simpa using h)]
    grind
theorem addTo_step : ∀ (fs : List Int) (k : Int) (rs : List Int) (s : Nat) (r f : Int), rs[s]? = some r → (addTo fs k (rs.take s))[s]? = some f → (addTo fs k (rs.take s)).set s (f + k * r) = addTo fs k (rs.take (s + 1))
  | [], k, rs, s, r, f, h1, h2 => by
    have : addTo [] k (rs.take s) = [] := by cases rs.take s <;> rfl
    rw [this] at h2; simp at h2
  | x :: fs, k, [], s, r, f, h1, h2 => by simp at h1
  | x :: fs, k, y :: rs, 0, r, f, h1, h2 => by
    simp only [List.take_zero, addTo_nil] at h2 ⊢
    simp at h1 h2
    subst h1 h2
    simp [addTo, addTo_nil]
  | x :: fs, k, y :: rs, s + 1, r, f, h1, h2 => by
    simp only [List.take_succ_cons, addTo] at h2 ⊢
    simp only [List.getElem?_cons_succ] at h1 h2
    simp only [List.set_cons_succ]
    rw [addTo_step fs k rs s r f h1 h2]
theorem addTo_bd {A : Nat} : ∀ (fs : List Int) (k : Int) (rs : List Int), (∀ x ∈ fs, Bd x A) → (∀ r ∈ rs, Bd (k * r) A) → ∀ x ∈ addTo fs k rs, Bd x (A + 1)
  | [], k, rs, h1, h2, x, hx => by
    have : addTo [] k rs = [] := by cases rs <;> rfl
    rw [this] at hx; simp at hx
  | f :: fs, k, [], h1, h2, x, hx => (h1 x hx).mono (by omega)
  | f :: fs, k, r :: rs, h1, h2, x, hx => by
    simp only [addTo] at hx
    rcases List.mem_cons.mp hx with e | hx
    · rw [e]; exact (h1 f List.mem_cons_self).add (h2 r List.mem_cons_self)
    · exact addTo_bd fs k rs (fun y hy => h1 y (List.mem_cons_of_mem _ hy)) (fun y hy => h2 y (List.mem_cons_of_mem _ hy)) x hx
/-- the next row of the triangle -/
def nxt (row : List Int) : List Int := 1 :: (List.zipWith (· + ·) row (row.drop 1)) ++ [1]
def zadd : List Int → Int → List Int
  | [], p => [p]
  | x :: xs, p => (p + x) :: zadd xs x
theorem zadd_ev : ∀ (xs : List Int) (p n : Int), ev (zadd xs p) n = p + (n + 1) * ev xs n
  | [], p, n => by simp [zadd, ev]
  | x :: xs, p, n => by
    simp only [zadd, ev]
    rw [zadd_ev xs x n]
    grind
theorem zip_zadd : ∀ (xs : List Int) (p : Int), (p :: xs).getLast? = some 1 → List.zipWith (· + ·) (p :: xs) xs ++ [1] = zadd xs p
  | [], p, h => by
    simp at h
    subst h
    rfl
  | x :: xs, p, h => by
    have h' : (x :: xs).getLast? = some 1 := by rw [← h]; simp [List.getLast?_cons]
    simp only [List.zipWith_cons_cons, zadd, List.cons_append]
    rw [zip_zadd xs x h']
theorem nxt_ev (row : List Int) (n : Int) (h1 : row.head? = some 1) (h2 : row.getLast? = some 1) : ev (nxt row) n = (n + 1) * ev row n := by
  cases row with
  | nil => simp at h1
  | cons p xs =>
    simp at h1
    subst h1
    have := zip_zadd xs 1 h2
    simp only [nxt, List.drop_succ_cons, List.drop_zero, List.cons_append]
    rw [this]
    simp only [ev]
    rw [zadd_ev]
    grind
theorem nxt_len (row : List Int) (h : row ≠ []) : (nxt row).length = row.length + 1 := by
  cases row with
  | nil => exact absurd rfl h
  | cons p xs => simp [nxt]
theorem nxt_head (row : List Int) : (nxt row).head? = some 1 := by simp [nxt]
theorem nxt_last (row : List Int) : (nxt row).getLast? = some 1 := by unfold nxt; exact List.getLast?_concat
theorem nxt_bd {A : Nat} (row : List Int) (h : ∀ x ∈ row, Bd x A) : ∀ x ∈ nxt row, Bd x (A + 1) := by
  intro x hx
  have one : Bd 1 (A + 1) := by unfold Bd; simp; exact Nat.one_le_two_pow
  simp only [nxt, List.mem_append, List.mem_cons] at hx
  rcases hx with (e | hx) | e
  · rw [e]; exact one
  · have : ∀ (xs ys : List Int), (∀ x ∈ xs, Bd x A) → (∀ y ∈ ys, Bd y A) → ∀ z ∈ List.zipWith (· + ·) xs ys, Bd z (A + 1) := by
      intro xs
      induction xs with
      | nil => intro ys _ _ z hz; simp at hz
      | cons a xs ih =>
        intro ys ha hy z hz
        cases ys with
        | nil => simp at hz
        | cons b ys =>
          simp only [List.zipWith_cons_cons, List.mem_cons] at hz
          rcases hz with e | hz
          · rw [e]; exact (ha a List.mem_cons_self).add (hy b List.mem_cons_self)
          · exact ih ys (fun x hx => ha x (List.mem_cons_of_mem _ hx)) (fun x hx => hy x (List.mem_cons_of_mem _ hx)) z hz
    exact this row (row.drop 1) h (fun y hy => h y (List.mem_of_mem_drop hy)) x hx
  · simp at e; rw [e]; exact one
end GJ

set_option Elab.async false
set_option linter.all false
set_option maxRecDepth 100000
set_option maxHeartbeats 2000000
namespace GJ
open PySem L2 MP

theorem atC_ow {e : Ev} {i : Nat} {d : D} (h : (e[i]? : Option Sl) = some (.ow d)) : atC e i = some d := by unfold atC; rw [h]
theorem kput_ow {e : Ev} {i : Nat} {d d' : D} (h : (e[i]? : Option Sl) = some (.ow d)) : kput e i d' = e.set i (.ow d') := by unfold kput; rw [h]
theorem ixD_nat {α : Type} (xs : List α) (s : Nat) : ixD xs (s : Int) = xs[s]? := by
  unfold ixD
  rw [decide_eq_true (by omega)]
  simp
theorem ixN_nat (n s : Nat) (h : s < n) : ixN n (s : Int) = some s := by
  unfold ixN
  rw [if_pos (by omega), if_pos (by omega)]
  simp
theorem fIx_nD (c : List Int) (s : Nat) (x : Int) (h : c[s]? = some x) : fIx (nD c) (.int (s : Int)) = some (.int x) := by
  simp only [nD, fIx, ixD_nat, List.getElem?_map, h]
  rfl
/-- found[spot] += numbers[power] * row[spot] -/
theorem inner_loop (c row found : List Int) (p : Nat) (cp : Int) {A R : Nat} (hcp : c[p]? = some cp) (hA : Bd cp A) (hr : ∀ x ∈ row, Bd x R) (hs : A + R < 900000) (hl : p ≤ found.length) (s3 s5 s6 : Sl) :
    ∀ (k s : Nat) (t : Sl), s + k = p → p < row.length → ∃ t', forGo (mgName 4) (mSub 1 (mVar 4) (mB fAdd (mB fIx (mPk 1) (lPk 1) (mPk 4) (lPk 4)) lId (mB fMul (mB fIx (mPk 0) (lPk 0) (mPk 3) (lPk 3)) lId (mB fIx (mPk 2) (lPk 2) (mPk 4) (lPk 4)) lId) lId)) (ups (s : Int) k) [.va (nD c), .ow (nD (addTo found cp (row.take s))), .va (nD row), .va (.int (p : Int)), t, s5, s6] = .nx [.va (nD c), .ow (nD (addTo found cp (row.take p))), .va (nD row), .va (.int (p : Int)), t', s5, s6]
  | 0, s, t, h1, h2 => by
    have : s = p := by omega
    subst this
    exact ⟨t, by simp [ups, forGo]⟩
  | k + 1, s, t, h1, h2 => by
    obtain ⟨t', e⟩ := inner_loop c row found p cp hcp hA hr hs hl s3 s5 s6 k (s + 1) (.va (.int (s : Int))) (by omega) h2
    have hsr : s < row.length := by omega
    obtain ⟨r, hr1⟩ : ∃ r, row[s]? = some r := ⟨row[s], List.getElem?_eq_getElem hsr⟩
    have hsf : s < (addTo found cp (row.take s)).length := by rw [addTo_len]; omega
    obtain ⟨f, hf1⟩ : ∃ f, (addTo found cp (row.take s))[s]? = some f := ⟨_, List.getElem?_eq_getElem hsf⟩
    have st := addTo_step found cp row s r f hr1 hf1
    have i1 := fIx_nD _ _ _ hf1
    have i2 := fIx_nD _ _ _ hcp
    have i3 := fIx_nD _ _ _ hr1
    have m := fMul_ok hA (hr r (List.mem_of_getElem? hr1)) (by omega)
    have ix : ixN (addTo found cp (row.take s)).length (s : Int) = some s := ixN_nat _ _ hsf
    refine ⟨t', ?_⟩
    rw [← st] at e
    simp only [ups, forGo]
    have e2 : ((s : Int) + 1) = ((s + 1 : Nat) : Int) := by omega
    rw [e2]
    generalize addTo found cp (row.take s) = FF at *
    simp [i1, i2, i3, m, atC, kput, ix, slotD, outOf, fAdd, fSub, fMod, fLt, fLe, fGt, fGe, fNeg, fIsN, fNotN, MP.isNon, bAbs, bInt, isInt, isBool, isTup, isStr, bLen, line]
    simp only [nD] at i1 e ⊢
    simp [ix]
    rw [List.map_set] at e
    exact e
theorem pairs_ints : ∀ (f g : List Int), pairs (f.map D.int) (g.map D.int) = (f.zip g).map fun p => .tup [.int p.1, .int p.2]
  | [], g => by simp [pairs]
  | _ :: _, [] => by simp [pairs]
  | x :: f, y :: g => by simp [pairs, pairs_ints f g]
theorem zip_with : ∀ (f g : List Int), (f.zip g).map (fun p => p.1 + p.2) = List.zipWith (· + ·) f g
  | [], g => by simp
  | _ :: _, [] => by simp
  | x :: f, y :: g => by simp [zip_with f g]
theorem ev_app : ∀ (xs : List Int) (y n : Int), ev (xs ++ [y]) n = ev xs n + n ^ xs.length * y
  | [], y, n => by simp [ev]
  | x :: xs, y, n => by
    simp only [List.cons_append, ev, List.length_cons]
    rw [ev_app xs y n, Int.pow_succ]
    grind
theorem row_step (c row : List Int) (F S : Sl) (p : Nat) (s4 s5 s6 : Sl) (hl : row.length < 1000) : (mZip (maCons (mVar 2) (maCons (mSl (mPk 2) (lPk 2) (mPrt (mC (.int 1))) (mC .non)) maNil))) [.va (nD c), F, .va (nD row), S, s4, s5, s6] = .ok (pairs (row.map D.int) ((row.drop 1).map D.int)) [.va (nD c), F, .va (nD row), S, s4, s5, s6] := by
  have hdrop : cutD (row.map D.int) (some 1) none = (row.drop 1).map D.int := by
    have := cutD_from (row.map D.int) 1
    rw [show ((1 : Nat) : Int) = 1 from rfl] at this
    rw [this, List.map_drop]
  simp only [nD]
  generalize row.map D.int = L at *
  simp [fSl, prt, hdrop, slotD, outOf, fAdd, fSub, fMod, fLt, fLe, fGt, fGe, fNeg, fIsN, fNotN, MP.isNon, bAbs, bInt, isInt, isBool, isTup, isStr, bLen, line]
theorem row_lc (c row : List Int) (F S : Sl) (s4 : Sl) : lcGo (mgTup 2 (mgsCons (mgName 5) (mgsCons (mgName 6) mgsNil))) mYes (mB fAdd (mPk 5) (lPk 5) (mPk 6) (lPk 6)) [.va (nD c), F, .va (nD row), S, s4, .no, .no] (pairs (row.map D.int) ((row.drop 1).map D.int)) [] = some ((List.zipWith (· + ·) row (row.drop 1)).map D.int) := by
  rw [pairs_ints]
  have := lc_all (mg := (mgTup 2 (mgsCons (mgName 5) (mgsCons (mgName 6) mgsNil)))) (me := (mB fAdd (mPk 5) (lPk 5) (mPk 6) (lPk 6))) (benv := [.va (nD c), F, .va (nD row), S, s4, .no, .no]) (h := fun d => match d with | .tup [.int a, .int b] => .int (a + b) | _ => .non) (ds := (row.zip (row.drop 1)).map fun p => .tup [.int p.1, .int p.2]) (fun d hd => by
    obtain ⟨p, _, rfl⟩ := List.mem_map.mp hd
    exact ⟨[.va (nD c), F, .va (nD row), S, s4, .va (.int p.1), .va (.int p.2)], [.va (nD c), F, .va (nD row), S, s4, .va (.int p.1), .va (.int p.2)], by simp, by simp [slotD, outOf, fAdd, fSub, fMod, fLt, fLe, fGt, fGe, fNeg, fIsN, fNotN, MP.isNon, bAbs, bInt, isInt, isBool, isTup, isStr, bLen, line]⟩)
  rw [this, List.map_map, ← zip_with, List.map_map]
  rfl
theorem nD_nxt (row : List Int) : nD (nxt row) = .lst (D.int 1 :: (List.zipWith (· + ·) row (row.drop 1)).map D.int ++ [D.int 1]) := by
  simp [nD, nxt]
theorem set_row (c row found : List Int) (S s4 s5 s6 : Sl) (p : Nat) (hl : row.length ≤ 60) : (mSet 2 (mB fAdd (mB fAdd (mLst (maCons (mC (.int 1)) maNil)) lId (mAsV (mLc (mZip (maCons (mVar 2) (maCons (mSl (mPk 2) (lPk 2) (mPrt (mC (.int 1))) (mC .non)) maNil))) [5, 6] (mgTup 2 (mgsCons (mgName 5) (mgsCons (mgName 6) mgsNil))) mYes (mB fAdd (mPk 5) (lPk 5) (mPk 6) (lPk 6)))) lId) lId (mLst (maCons (mC (.int 1)) maNil)) lId)) [.va (nD c), .ow (nD found), .va (nD row), S, s4, s5, s6] = .nx [.va (nD c), .ow (nD found), .va (nD (nxt row)), S, s4, s5, s6] := by
  have r1 := row_step c row (.ow (nD found)) S p s4 s5 s6 (by omega)
  have r2 := row_lc c row (.ro (nD found)) (roE S) (roE s4)
  have lz : (pairs (row.map D.int) ((row.drop 1).map D.int)).length < 16777216 := by
    rw [pairs_len]
    simp only [List.length_map]
    omega
  have lz2 : (List.zipWith (· + ·) row (row.drop 1)).length ≤ 60 := by
    rw [List.length_zipWith]
    omega
  simp only [mSet_ap, mB_ap, mLst_ap, maCons_ap, maNil_ap, mC_ap, mAsV_ap, mLc_ap, lId_ap, r1]
  rw [ble_dec, show decide ([D.int 1].length ≤ line) = true from decide_eq_true (by simp [line])]
  dsimp only
  rw [r1]
  dsimp only
  rw [blt_dec, show decide ((pairs (row.map D.int) ((row.drop 1).map D.int)).length < line) = true from decide_eq_true lz]
  rw [show wipeE (List.map roE [.va (nD c), .ow (nD found), .va (nD row), S, s4, s5, s6]) [5, 6] = [.va (nD c), .ro (nD found), .va (nD row), roE S, roE s4, .no, .no] from rfl, r2]
  rw [nD_nxt]
  generalize List.zipWith (fun x1 x2 => x1 + x2) row (row.drop 1) = Z at lz2 ⊢
  have h1 : 1 + Z.length ≤ 16777216 := by omega
  have h2 : Z.length + 1 + 1 ≤ 16777216 := by omega
  simp [fAdd, line, h1, h2]
theorem range1_ok {ma : MA} {e e1 : Ev} {j : Int} (h : ma e = .ok [.int j] e1) (hb : big j = true) : mRange1 ma e = .ok (ups 0 j.toNat) e1 := by
  unfold mRange1
  rw [h]
  dsimp only
  rw [hb]
theorem for_ok {mi : MA} {mg : MT} {mb : MS} {e e1 : Ev} {ds : List D} {r : RS} (h : mi e = .ok ds e1) (h2 : forGo mg mb ds e1 = r) : mFor mi mg mb e = r := by
  rw [mFor_ap, h]
  exact h2
theorem big_nat {p : Nat} (hp : p < 1000) : big (p : Int) = true := by
  unfold big
  rw [decide_eq_true (by omega), decide_eq_true (by omega)]
  rfl
theorem for_inner (c row found found' : List Int) (s4 s5 s6 t' : Sl) (p : Nat) (hp : p < 1000) (ei : forGo (mgName 4) (mSub 1 (mVar 4) (mB fAdd (mB fIx (mPk 1) (lPk 1) (mPk 4) (lPk 4)) lId (mB fMul (mB fIx (mPk 0) (lPk 0) (mPk 3) (lPk 3)) lId (mB fIx (mPk 2) (lPk 2) (mPk 4) (lPk 4)) lId) lId)) (ups 0 p) [.va (nD c), .ow (nD found), .va (nD row), .va (.int (p : Int)), s4, s5, s6] = .nx [.va (nD c), .ow (nD found'), .va (nD row), .va (.int (p : Int)), t', s5, s6]) :
    (mFor (mRange1 (maCons (mVar 3) maNil)) (mgName 4) (mSub 1 (mVar 4) (mB fAdd (mB fIx (mPk 1) (lPk 1) (mPk 4) (lPk 4)) lId (mB fMul (mB fIx (mPk 0) (lPk 0) (mPk 3) (lPk 3)) lId (mB fIx (mPk 2) (lPk 2) (mPk 4) (lPk 4)) lId) lId))) [.va (nD c), .ow (nD found), .va (nD row), .va (.int (p : Int)), s4, s5, s6] = .nx [.va (nD c), .ow (nD found'), .va (nD row), .va (.int (p : Int)), t', s5, s6] := by
  have h1 : (maCons (mVar 3) maNil) [.va (nD c), .ow (nD found), .va (nD row), .va (.int (p : Int)), s4, s5, s6] = .ok [.int (p : Int)] [.va (nD c), .ow (nD found), .va (nD row), .va (.int (p : Int)), s4, s5, s6] := rfl
  have h2 := range1_ok h1 (big_nat hp)
  rw [show ((p : Int)).toNat = p from Int.toNat_natCast p] at h2
  exact for_ok h2 ei
theorem range2_ok {ma : MA} {e e1 : Ev} {i j : Int} (h : ma e = .ok [.int i, .int j] e1) (hi : big i = true) (hj : big j = true) : mRange2 ma e = .ok (ups i (j - i).toNat) e1 := by
  unfold mRange2
  rw [h]
  dsimp only
  rw [hi, hj]
  rfl
theorem rep_ok {m1 m2 : ME} {e e1 e2 : Ev} {a : List D} {k : Nat} (h1 : m1 e = .ok (.lst a) e1) (h2 : m2 e1 = .ok (.int (k : Int)) e2) (h3 : a.length * k ≤ 1000) (h4 : k < 1000) : mRep m1 m2 e = .ok (.lst (List.replicate k a).flatten) e2 := by
  unfold mRep
  rw [h1]
  dsimp only
  rw [h2]
  dsimp only
  rw [Int.toNat_natCast, ble_dec, decide_eq_true (by unfold line; omega), decide_eq_true (by omega), decide_eq_true (by omega)]
  rfl
structure StI (c found row : List Int) (A p : Nat) : Prop where
  fl : found.length = c.length - 1
  rl : row.length = p
  hd : row.head? = some 1
  lt : row.getLast? = some 1
  rb : ∀ x ∈ row, Bd x p
  fb : ∀ x ∈ found, Bd x (A + 50 + p)
  re : ∀ n, ev row n = (n + 1) ^ (p - 1)
  fe : ∀ n, ev found n = ev (c.take p) (n + 1) - ev (c.take p) n
theorem st_next (c found row : List Int) {A p : Nat} (hA : ∀ x ∈ c, Bd x A) (hc : c.length ≤ 50) (hp1 : 1 ≤ p) (hp : p < c.length) (I : StI c found row A p) {cp : Int} (hcp : c[p]? = some cp) : StI c (addTo found cp ((nxt row).take p)) (nxt row) A (p + 1) := by
  obtain ⟨h3, h4, h5, h6, h7, h8, h9, h10⟩ := I
  have hrne : row ≠ [] := by intro z; rw [z] at h5; simp at h5
  have nl := nxt_len row hrne
  have nb := nxt_bd row h7
  have bcp : Bd cp A := hA cp (List.mem_of_getElem? hcp)
  have htl : (nxt row).take p ++ [1] = nxt row := by
    have e0 : (nxt row).dropLast = (nxt row).take p := by rw [List.dropLast_eq_take, nl, h4]; rfl
    rw [← e0]
    have hne : nxt row ≠ [] := by simp [nxt]
    have e1 := List.dropLast_concat_getLast hne
    have e2 : (nxt row).getLast hne = 1 := by
      have := nxt_last row
      rw [List.getLast?_eq_some_getLast hne] at this
      exact Option.some.inj this
    rw [e2] at e1
    exact e1
  have evn : ∀ n, ev (nxt row) n = (n + 1) ^ p := fun n => by
    rw [nxt_ev row n h5 h6, h9 n]
    obtain ⟨q, rfl⟩ : ∃ q, p = q + 1 := ⟨p - 1, by omega⟩
    rw [Nat.add_sub_cancel, Int.pow_succ]
    grind
  have evt : ∀ n, ev ((nxt row).take p) n = (n + 1) ^ p - n ^ p := fun n => by
    have e1 := ev_app ((nxt row).take p) 1 n
    rw [htl, evn n, List.length_take, nl, h4, Nat.min_eq_left (by omega)] at e1
    omega
  have ctk : c.take (p + 1) = c.take p ++ [cp] := by
    rw [List.take_succ, hcp]
    rfl
  refine ⟨by rw [addTo_len]; exact h3, by omega, nxt_head row, nxt_last row, nb, fun x hx => ?_, fun n => by rw [evn n]; rfl, fun n => ?_⟩
  · have := addTo_bd found cp ((nxt row).take p) h8 (fun r hr => (bcp.mul (nb r (List.mem_of_mem_take hr))).mono (by omega)) x hx
    exact this.mono (by omega)
  · rw [addTo_ev _ _ _ _ (by rw [List.length_take, nl, h4]; omega), evt n, h10 n, ctk, ev_app, ev_app, List.length_take, Nat.min_eq_left (by omega)]
    grind
theorem outer_loop (c : List Int) {A : Nat} (hA : ∀ x ∈ c, Bd x A) (hs : A < 800000) (hc : c.length ≤ 50) (k : Nat) : ∀ (p : Nat) (found row : List Int) (s3 s4 s5 s6 : Sl), p + k = c.length → 1 ≤ p → StI c found row A p →
    ∃ (found' row' : List Int) (t3 t4 : Sl), forGo (mgName 3) (mSeq (mSet 2 (mB fAdd (mB fAdd (mLst (maCons (mC (.int 1)) maNil)) lId (mAsV (mLc (mZip (maCons (mVar 2) (maCons (mSl (mPk 2) (lPk 2) (mPrt (mC (.int 1))) (mC .non)) maNil))) [5, 6] (mgTup 2 (mgsCons (mgName 5) (mgsCons (mgName 6) mgsNil))) mYes (mB fAdd (mPk 5) (lPk 5) (mPk 6) (lPk 6)))) lId) lId (mLst (maCons (mC (.int 1)) maNil)) lId)) (mFor (mRange1 (maCons (mVar 3) maNil)) (mgName 4) (mSub 1 (mVar 4) (mB fAdd (mB fIx (mPk 1) (lPk 1) (mPk 4) (lPk 4)) lId (mB fMul (mB fIx (mPk 0) (lPk 0) (mPk 3) (lPk 3)) lId (mB fIx (mPk 2) (lPk 2) (mPk 4) (lPk 4)) lId) lId)))) (ups (p : Int) k) [.va (nD c), .ow (nD found), .va (nD row), s3, s4, s5, s6] = .nx [.va (nD c), .ow (nD found'), .va (nD row'), t3, t4, s5, s6] ∧ StI c found' row' A c.length := by
  induction k with
  | zero =>
    intro p found row s3 s4 s5 s6 h1 h2 I
    have : p = c.length := by omega
    subst this
    exact ⟨found, row, s3, s4, by simp [ups, forGo], I⟩
  | succ k ih =>
    intro p found row s3 s4 s5 s6 h1 h2 I
    have hp : p < c.length := by omega
    obtain ⟨cp, hcp⟩ : ∃ x, c[p]? = some x := ⟨c[p], List.getElem?_eq_getElem hp⟩
    have I2 := st_next c found row hA hc h2 hp I hcp
    have bcp : Bd cp A := hA cp (List.mem_of_getElem? hcp)
    obtain ⟨t', ei⟩ := inner_loop c (nxt row) found p cp hcp bcp I2.rb (by omega) (by have := I.fl; omega) .no s5 s6 p 0 s4 (by omega) (by have := I2.rl; omega)
    obtain ⟨found', row', t3, t4, e1, I3⟩ := ih (p + 1) (addTo found cp ((nxt row).take p)) (nxt row) (.va (.int (p : Int))) t' s5 s6 (by omega) (by omega) I2
    refine ⟨found', row', t3, t4, ?_, I3⟩
    simp only [List.take_zero, addTo_nil] at ei
    rw [show ((0 : Nat) : Int) = 0 from rfl] at ei
    have st1 := set_row c row found (.va (.int (p : Int))) s4 s5 s6 p (by have := I.rl; omega)
    have st2 := for_inner c (nxt row) found _ s4 s5 s6 t' p (by omega) ei
    have e5 : ((p : Int) + 1) = ((p + 1 : Nat) : Int) := by omega
    have e6 : mgName 3 (.int (p : Int)) [.va (nD c), .ow (nD found), .va (nD row), s3, s4, s5, s6] = some [.va (nD c), .ow (nD found), .va (nD row), .va (.int (p : Int)), s4, s5, s6] := rfl
    simp only [ups, forGo, e6, mSeq_ap, st1, st2, e5]
    exact e1
theorem ups1 : ∀ (k : Nat) (lo : Int), (ups lo k).length = k := fun k lo => ups_len k lo
end GJ

set_option Elab.async false
set_option linter.all false
set_option maxRecDepth 100000
set_option maxHeartbeats 2000000
namespace GJ
open PySem L2 MP

theorem run_rt {n tot : Nat} {m : MS} {args : List Sl} {d : D} {e : Ev} (h : m (args ++ List.replicate (tot - n) .no) = .rt d e) : runF n tot m args = .ok d (outOf e) := by
  unfold runF
  rw [h]
theorem run_nx {n tot : Nat} {m : MS} {args : List Sl} {e : Ev} (h : m (args ++ List.replicate (tot - n) .no) = .nx e) : runF n tot m args = .ok .non (outOf e) := by
  unfold runF
  rw [h]
theorem run_ex {n tot : Nat} {m : MS} {args : List Sl} {c : Nat} {e : Ev} (h : m (args ++ List.replicate (tot - n) .no) = .ex c e) : runF n tot m args = .ex c (outOf e) := by
  unfold runF
  rw [h]
theorem seq_nx {a b : MS} {e e1 : Ev} {r : RS} (h : a e = .nx e1) (h2 : b e1 = r) : mSeq a b e = r := by
  unfold mSeq
  rw [h]
  exact h2
theorem seq_rt {a b : MS} {e e1 : Ev} {d : D} (h : a e = .rt d e1) : mSeq a b e = .rt d e1 := by
  unfold mSeq
  rw [h]
theorem bLen_nD (c : List Int) : bLen [nD c] = some (.int (c.length : Int)) := by simp [bLen, nD]
theorem zeros_rep (k : Nat) : (List.replicate k [D.int 0]).flatten = (List.replicate k (0 : Int)).map D.int := by
  induction k with
  | zero => rfl
  | succ k ih => rw [List.replicate_succ, List.replicate_succ]; simp [ih]
theorem len_less (c : List Int) (k : Nat) (h : c.length = k + 1) (r : Ev) : (mB fSub (mCall bLen (maCons (mPk 0) maNil) (laCons (lPk 0) laNil)) lId (mC (.int 1)) lId) (.va (nD c) :: r) = .ok (.int (k : Int)) (.va (nD c) :: r) := by
  have e1 : (mCall bLen (maCons (mPk 0) maNil) (laCons (lPk 0) laNil)) (.va (nD c) :: r) = .ok (.int (c.length : Int)) (.va (nD c) :: r) := by
    have : slotD ((.va (nD c) :: r : Ev)[0]?) = some (nD c) := rfl
    simp only [mCall_ap, maCons_ap, maNil_ap, mPk_ap, laCons_ap, laNil_ap, lPk_ap, this, bLen_nD]
  have e2 : (c.length : Int) - 1 = (k : Int) := by omega
  simp only [mB_ap, e1, mC_ap, lId_ap, fSub, e2]
theorem st0 (c : List Int) (k : Nat) (h : c.length = k + 1) (hk : k < 100) : (mOwn 1 (mRep (mLst (maCons (mC (.int 0)) maNil)) (mB fSub (mCall bLen (maCons (mPk 0) maNil) (laCons (lPk 0) laNil)) lId (mC (.int 1)) lId))) [.va (nD c), .no, .no, .no, .no, .no, .no] = .nx [.va (nD c), .ow (nD (List.replicate k 0)), .no, .no, .no, .no, .no] := by
  have l0 : (mLst (maCons (mC (.int 0)) maNil)) [.va (nD c), .no, .no, .no, .no, .no, .no] = .ok (.lst [.int 0]) [.va (nD c), .no, .no, .no, .no, .no, .no] := by simp [line]
  have := rep_ok l0 (len_less c k h _) (by simp; omega) (by omega)
  rw [mOwn_ap, this, zeros_rep]
  rfl
theorem st1 (c z : List Int) : (mSet 2 (mLst (maCons (mC (.int 1)) maNil))) [.va (nD c), .ow (nD z), .no, .no, .no, .no, .no] = .nx [.va (nD c), .ow (nD z), .va (nD [1]), .no, .no, .no, .no] := by
  simp [nD, line]
theorem st2 (c z z' row row' : List Int) (t3 t4 : Sl) (k : Nat) (h : c.length = k + 1) (hk : k < 100) (e : forGo (mgName 3) (mSeq (mSet 2 (mB fAdd (mB fAdd (mLst (maCons (mC (.int 1)) maNil)) lId (mAsV (mLc (mZip (maCons (mVar 2) (maCons (mSl (mPk 2) (lPk 2) (mPrt (mC (.int 1))) (mC .non)) maNil))) [5, 6] (mgTup 2 (mgsCons (mgName 5) (mgsCons (mgName 6) mgsNil))) mYes (mB fAdd (mPk 5) (lPk 5) (mPk 6) (lPk 6)))) lId) lId (mLst (maCons (mC (.int 1)) maNil)) lId)) (mFor (mRange1 (maCons (mVar 3) maNil)) (mgName 4) (mSub 1 (mVar 4) (mB fAdd (mB fIx (mPk 1) (lPk 1) (mPk 4) (lPk 4)) lId (mB fMul (mB fIx (mPk 0) (lPk 0) (mPk 3) (lPk 3)) lId (mB fIx (mPk 2) (lPk 2) (mPk 4) (lPk 4)) lId) lId)))) (ups 1 k) [.va (nD c), .ow (nD z), .va (nD row), .no, .no, .no, .no] = .nx [.va (nD c), .ow (nD z'), .va (nD row'), t3, t4, .no, .no]) :
    (mFor (mRange2 (maCons (mC (.int 1)) (maCons (mCall bLen (maCons (mPk 0) maNil) (laCons (lPk 0) laNil)) maNil))) (mgName 3) (mSeq (mSet 2 (mB fAdd (mB fAdd (mLst (maCons (mC (.int 1)) maNil)) lId (mAsV (mLc (mZip (maCons (mVar 2) (maCons (mSl (mPk 2) (lPk 2) (mPrt (mC (.int 1))) (mC .non)) maNil))) [5, 6] (mgTup 2 (mgsCons (mgName 5) (mgsCons (mgName 6) mgsNil))) mYes (mB fAdd (mPk 5) (lPk 5) (mPk 6) (lPk 6)))) lId) lId (mLst (maCons (mC (.int 1)) maNil)) lId)) (mFor (mRange1 (maCons (mVar 3) maNil)) (mgName 4) (mSub 1 (mVar 4) (mB fAdd (mB fIx (mPk 1) (lPk 1) (mPk 4) (lPk 4)) lId (mB fMul (mB fIx (mPk 0) (lPk 0) (mPk 3) (lPk 3)) lId (mB fIx (mPk 2) (lPk 2) (mPk 4) (lPk 4)) lId) lId))))) [.va (nD c), .ow (nD z), .va (nD row), .no, .no, .no, .no] = .nx [.va (nD c), .ow (nD z'), .va (nD row'), t3, t4, .no, .no] := by
  have l2 : (maCons (mC (.int 1)) (maCons (mCall bLen (maCons (mPk 0) maNil) (laCons (lPk 0) laNil)) maNil)) [.va (nD c), .ow (nD z), .va (nD row), .no, .no, .no, .no] = .ok [.int 1, .int (c.length : Int)] [.va (nD c), .ow (nD z), .va (nD row), .no, .no, .no, .no] := by
    have : slotD (([.va (nD c), .ow (nD z), .va (nD row), .no, .no, .no, .no] : Ev)[0]?) = some (nD c) := rfl
    simp only [mCall_ap, maCons_ap, maNil_ap, mPk_ap, laCons_ap, laNil_ap, lPk_ap, this, bLen_nD, mC_ap]
  have b1 : big 1 = true := by decide
  have r := range2_ok l2 b1 (big_nat (by omega))
  have e3 : ((c.length : Int) - 1).toNat = k := by omega
  rw [e3] at r
  exact for_ok r e
/-- step_of -/
theorem step_ok (c : List Int) {A : Nat} (hA : ∀ x ∈ c, Bd x A) (hs : A < 800000) (hc : c.length ≤ 50) (k : Nat) (h : c.length = k + 2) : ∃ c', run_step_of [.va (nD c)] = .ok (nD c') none ∧ c'.length = k + 1 ∧ (∀ x ∈ c', Bd x (A + 100)) ∧ ∀ n, ev c' n = ev c (n + 1) - ev c n := by
  have I0 : StI c (List.replicate (k + 1) 0) [1] A 1 := by
    have ez : ∀ (k : Nat) (n : Int), ev (List.replicate k 0) n = 0 := fun k n => by
      induction k with
      | zero => rfl
      | succ k ih => rw [List.replicate_succ]; simp [ev, ih]
    refine ⟨by simp; omega, rfl, rfl, rfl, fun x hx => ?_, fun x hx => ?_, fun n => by simp [ev], fun n => ?_⟩
    · simp at hx; rw [hx]; unfold Bd; simp
    · rw [List.eq_of_mem_replicate hx]; unfold Bd; simp
    · rw [ez]
      cases c with
      | nil => simp at h
      | cons a r => simp [ev]
  obtain ⟨c', row', t3, t4, e, I⟩ := outer_loop c hA hs hc (k + 1) 1 (List.replicate (k + 1) 0) [1] .no .no .no .no (by omega) (by omega) I0
  refine ⟨c', ?_, by have := I.fl; omega, fun x hx => (I.fb x hx).mono (by omega), fun n => by rw [I.fe n, List.take_of_length_le (Nat.le_refl _)]⟩
  rw [show ((1 : Nat) : Int) = 1 from rfl] at e
  have a3 := st2 c _ c' [1] row' t3 t4 (k + 1) h (by omega) e
  have fin : m_step_of [.va (nD c), .no, .no, .no, .no, .no, .no] = .rt (nD c') [.va (nD c), .va (nD c'), .va (nD row'), t3, t4, .no, .no] := by
    unfold m_step_of
    exact seq_nx (st0 c (k + 1) h (by omega)) (seq_nx (st1 c _) (seq_nx a3 rfl))
  exact run_rt (n := 1) (tot := 7) (m := m_step_of) (args := [.va (nD c)]) fin
end GJ

set_option Elab.async false
set_option linter.all false
set_option maxRecDepth 100000
set_option maxHeartbeats 2000000
namespace GJ
open PySem L2 MP

def oD : Option Int → D
  | none => .non
  | some m => .int m
structure Cf (c : List Int) (A : Nat) : Prop where
  b : ∀ x ∈ c, Bd x A
  l : c.length ≤ 50
  s : A ≤ 9000
theorem Cf.val {c : List Int} {A : Nat} (h : Cf c A) {x : Int} (hx : Bd x 12000) : run_value_at [.va (nD c), .va (.int x)] = .ok (.int (ev c x)) none ∧ Bd (ev c x) 700000 := by
  have h1 : (c.length + 1) * (12000 + 1) ≤ 51 * 12001 := Nat.mul_le_mul (by have := h.l; omega) (by omega)
  have h2 : c.length * (12000 + 1) ≤ 50 * 12001 := Nat.mul_le_mul h.l (by omega)
  obtain ⟨e, b⟩ := value_ok c x hx h.b (by have := h.s; omega)
  exact ⟨e, b.mono (by have := h.s; omega)⟩
theorem Cf.way {c : List Int} {A : Nat} (h : Cf c A) {x w : Int} (hx : Bd x 12000) (hw : Bd w 0) : fMul (.int w) (.int (ev c x)) = some (.int (w * ev c x)) := fMul_ok hw (h.val hx).2 (by omega)
theorem isN_o (o : Option Int) : fIsN (oD o) .non = some (.bl o.isNone) := by cases o <;> rfl
/-- the doubling -/
theorem gallop {c : List Int} {A : Nat} (h : Cf c A) (w b low0 least : Int) (hw : Bd w 0) (K : Nat) (hK : K ≤ 11000) (h0 : 0 ≤ low0) (h1 : low0 ≤ 2 ^ K) (top : ∀ x : Int, 2 ^ K ≤ x → b ≤ w * ev c x) :
    ∀ (d j n : Nat) (low : Int), d + j = K + 1 → d + 1 ≤ n → low = low0 + 2 ^ j - 1 → (low = low0 ∨ w * ev c low < b) →
      ∃ low' size' : Int, whileGo (mAnd (mB fIsN (mPk 2) (lPk 2) (mC .non) lId) (mB fLt (mB fMul (mPk 3) (lPk 3) (mUser run_value_at (maCons (mVar 0) (maCons (mB fAdd (mPk 5) (lPk 5) (mPk 6) (lPk 6)) maNil))) lId) lId (mPk 4) (lPk 4))) (mPar 5 6 (maCons (mB fAdd (mPk 5) (lPk 5) (mPk 6) (lPk 6)) (maCons (mB fMul (mPk 6) (lPk 6) (mC (.int 2)) lId) maNil))) n [.va (nD c), .va (.int least), .va .non, .va (.int w), .va (.int b), .va (.int low), .va (.int (2 ^ j)), .no, .no] = .nx [.va (nD c), .va (.int least), .va .non, .va (.int w), .va (.int b), .va (.int low'), .va (.int size'), .no, .no] ∧
        low0 ≤ low' ∧ 1 ≤ size' ∧ low' + size' ≤ 2 ^ (K + 3) ∧ (low' = low0 ∨ w * ev c low' < b) ∧ b ≤ w * ev c (low' + size') := by
  intro d
  induction d with
  | zero =>
    intro j n low hd hn hl hlow
    have ej : j = K + 1 := by omega
    subst ej
    obtain ⟨m, rfl⟩ : ∃ m, n = m + 1 := ⟨n - 1, by omega⟩
    have p1 : (2 : Int) ^ (K + 1) = 2 * 2 ^ K := by rw [Int.pow_succ]; omega
    have p3 : (2 : Int) ^ (K + 3) = 8 * 2 ^ K := by rw [Int.pow_add]; omega
    have pk : (0 : Int) < 2 ^ K := Int.pow_pos (by decide)
    have t := top (low + 2 ^ (K + 1)) (by omega)
    have bx : Bd (low + 2 ^ (K + 1)) 12000 := by
      have : Bd (low + 2 ^ (K + 1)) (K + 3) := by
        unfold Bd
        have q : (((low + 2 ^ (K + 1)).natAbs : Nat) : Int) ≤ ((2 ^ (K + 3) : Nat) : Int) := by
          rw [Int.natCast_pow, Int.natAbs_of_nonneg (by omega)]
          show low + 2 ^ (K + 1) ≤ 2 ^ (K + 3)
          omega
        exact Int.ofNat_le.mp q
      exact this.mono (by omega)
    have v := (h.val bx).1
    have m := h.way bx hw
    refine ⟨low, 2 ^ (K + 1), ?_, by omega, by omega, by omega, hlow, t⟩
    have nt : ¬ (w * ev c (low + 2 ^ (K + 1)) < b) := by omega
    simp only [whileGo]
    simp [v, m, nt, slotD, outOf, fAdd, fSub, fMod, fLt, fLe, fGt, fGe, fNeg, fIsN, fNotN, MP.isNon, bAbs, bInt, isInt, isBool, isTup, isStr, bLen, line]
  | succ d ih =>
    intro j n low hd hn hl hlow
    obtain ⟨m, rfl⟩ : ∃ m, n = m + 1 := ⟨n - 1, by omega⟩
    have jk : (2 : Int) ^ j ≤ 2 ^ K := by
      have : (2 : Nat) ^ j ≤ 2 ^ K := Nat.pow_le_pow_right (by decide) (by omega)
      have := Int.ofNat_le.mpr this
      rw [Int.natCast_pow, Int.natCast_pow] at this
      exact this
    have p1 : (2 : Int) ^ (j + 1) = 2 * 2 ^ j := by rw [Int.pow_succ]; omega
    have p3 : (2 : Int) ^ (K + 3) = 8 * 2 ^ K := by rw [Int.pow_add]; omega
    have pk : (0 : Int) < 2 ^ j := Int.pow_pos (by decide)
    have bx : Bd (low + 2 ^ j) 12000 := by
      have : Bd (low + 2 ^ j) (K + 3) := by
        unfold Bd
        have q : (((low + 2 ^ j).natAbs : Nat) : Int) ≤ ((2 ^ (K + 3) : Nat) : Int) := by
          rw [Int.natCast_pow, Int.natAbs_of_nonneg (by omega)]
          show low + 2 ^ j ≤ 2 ^ (K + 3)
          omega
        exact Int.ofNat_le.mp q
      exact this.mono (by omega)
    have v := (h.val bx).1
    have mm := h.way bx hw
    by_cases t : w * ev c (low + 2 ^ j) < b
    · have b2 : Bd (2 ^ j) 12000 := by
        have : Bd ((2 : Int) ^ j) (1 * j) := Bd.pow (by unfold Bd; decide) j
        exact this.mono (by omega)
      have m2 := fMul_ok b2 (y := 2) (b := 1) (by unfold Bd; decide) (by omega)
      have e2 : (2 : Int) ^ j * 2 = 2 ^ (j + 1) := by omega
      rw [e2] at m2
      obtain ⟨low', size', e, r⟩ := ih (j + 1) m (low + 2 ^ j) (by omega) (by omega) (by omega) (.inr t)
      refine ⟨low', size', ?_, r⟩
      simp only [whileGo]
      simp [v, mm, t, m2, slotD, outOf, fAdd, fSub, fMod, fLt, fLe, fGt, fGe, fNeg, fIsN, fNotN, MP.isNon, bAbs, bInt, isInt, isBool, isTup, isStr, bLen, line]
      simpa using e
    · refine ⟨low, 2 ^ j, ?_, by omega, by omega, by omega, hlow, by omega⟩
      simp only [whileGo]
      simp [v, mm, t, slotD, outOf, fAdd, fSub, fMod, fLt, fLe, fGt, fGe, fNeg, fIsN, fNotN, MP.isNon, bAbs, bInt, isInt, isBool, isTup, isStr, bLen, line]
theorem no_gallop (c : List Int) (w b least low size m : Int) (n : Nat) : whileGo (mAnd (mB fIsN (mPk 2) (lPk 2) (mC .non) lId) (mB fLt (mB fMul (mPk 3) (lPk 3) (mUser run_value_at (maCons (mVar 0) (maCons (mB fAdd (mPk 5) (lPk 5) (mPk 6) (lPk 6)) maNil))) lId) lId (mPk 4) (lPk 4))) (mPar 5 6 (maCons (mB fAdd (mPk 5) (lPk 5) (mPk 6) (lPk 6)) (maCons (mB fMul (mPk 6) (lPk 6) (mC (.int 2)) lId) maNil))) (n + 1) [.va (nD c), .va (.int least), .va (.int m), .va (.int w), .va (.int b), .va (.int low), .va (.int size), .no, .no] = .nx [.va (nD c), .va (.int least), .va (.int m), .va (.int w), .va (.int b), .va (.int low), .va (.int size), .no, .no] := by
  simp [whileGo, slotD, outOf, fAdd, fSub, fMod, fLt, fLe, fGt, fGe, fNeg, fIsN, fNotN, MP.isNon, bAbs, bInt, isInt, isBool, isTup, isStr, bLen, line]
/-- the halving -/
theorem bisect {c : List Int} {A : Nat} (h : Cf c A) (w b least : Int) (o : Sl) (hw : Bd w 0) (low0 top : Int) (h0 : 0 ≤ low0) (hB : top ≤ 2 ^ 11500) (P : Int → Prop) :
    ∀ (d n : Nat) (low high : Int) (sz s8 : Sl), high - low ≤ 2 ^ d → d + 1 ≤ n → low < high → low0 ≤ low → high ≤ top → (low = low0 ∨ w * ev c low < b) → (high = top ∨ b ≤ w * ev c high) →
      ∃ (low' high' : Int) (s8' : Sl), whileGo (mB fGt (mB fSub (mPk 7) (lPk 7) (mPk 5) (lPk 5)) lId (mC (.int 1)) lId) (mSeq (mSet 8 (mB fDiv (mB fAdd (mPk 5) (lPk 5) (mPk 7) (lPk 7)) lId (mC (.int 2)) lId)) (mIfS (mB fLt (mB fMul (mPk 3) (lPk 3) (mUser run_value_at (maCons (mVar 0) (maCons (mVar 8) maNil))) lId) lId (mPk 4) (lPk 4)) (mSet 5 (mVar 8)) (mSet 7 (mVar 8)))) n [.va (nD c), .va (.int least), o, .va (.int w), .va (.int b), .va (.int low), sz, .va (.int high), s8] = .nx [.va (nD c), .va (.int least), o, .va (.int w), .va (.int b), .va (.int low'), sz, .va (.int high'), s8'] ∧
        high' = low' + 1 ∧ low0 ≤ low' ∧ high' ≤ top ∧ (low' = low0 ∨ w * ev c low' < b) ∧ (high' = top ∨ b ≤ w * ev c high') := by
  intro d
  induction d with
  | zero =>
    intro n low high sz s8 h1 hn h2 h3 h4 h5 h6
    obtain ⟨m, rfl⟩ : ∃ m, n = m + 1 := ⟨n - 1, by omega⟩
    simp at h1
    refine ⟨low, high, s8, ?_, by omega, h3, h4, h5, h6⟩
    have nt : ¬ (1 < high - low) := by omega
    simp [whileGo, nt, slotD, outOf, fAdd, fSub, fMod, fLt, fLe, fGt, fGe, fNeg, fIsN, fNotN, MP.isNon, bAbs, bInt, isInt, isBool, isTup, isStr, bLen, line]
  | succ d ih =>
    intro n low high sz s8 h1 hn h2 h3 h4 h5 h6
    obtain ⟨m, rfl⟩ : ∃ m, n = m + 1 := ⟨n - 1, by omega⟩
    by_cases t : 1 < high - low
    · have p1 : (2 : Int) ^ (d + 1) = 2 * 2 ^ d := by rw [Int.pow_succ]; omega
      have dv := fDiv_ok (x := low + high) (y := 2) (b := 1) (by decide) (by unfold Bd; decide) (by decide)
      have m1 : low < (low + high) / 2 := by omega
      have m2 : (low + high) / 2 < high := by omega
      have bx : Bd ((low + high) / 2) 12000 := by
        have : Bd ((low + high) / 2) 11500 := by
          unfold Bd
          have q : ((((low + high) / 2).natAbs : Nat) : Int) ≤ ((2 ^ 11500 : Nat) : Int) := by
            rw [Int.natCast_pow, Int.natAbs_of_nonneg (by omega)]
            show (low + high) / 2 ≤ 2 ^ 11500
            omega
          exact Int.ofNat_le.mp q
        exact this.mono (by omega)
      have v := (h.val bx).1
      have mm := h.way bx hw
      by_cases t2 : w * ev c ((low + high) / 2) < b
      · obtain ⟨low', high', s8', e, r⟩ := ih m ((low + high) / 2) high sz (.va (.int ((low + high) / 2))) (by omega) (by omega) m2 (by omega) h4 (.inr t2) h6
        refine ⟨low', high', s8', ?_, r⟩
        simp only [whileGo]
        simp [dv, v, mm, t, t2, slotD, outOf, fAdd, fSub, fMod, fLt, fLe, fGt, fGe, fNeg, fIsN, fNotN, MP.isNon, bAbs, bInt, isInt, isBool, isTup, isStr, bLen, line]
        exact e
      · obtain ⟨low', high', s8', e, r⟩ := ih m low ((low + high) / 2) sz (.va (.int ((low + high) / 2))) (by omega) (by omega) m1 h3 (by omega) h5 (.inr (by omega))
        refine ⟨low', high', s8', ?_, r⟩
        simp only [whileGo]
        simp [dv, v, mm, t, t2, slotD, outOf, fAdd, fSub, fMod, fLt, fLe, fGt, fGe, fNeg, fIsN, fNotN, MP.isNon, bAbs, bInt, isInt, isBool, isTup, isStr, bLen, line]
        exact e
    · refine ⟨low, high, s8, ?_, by omega, h3, h4, h5, h6⟩
      simp [whileGo, t, slotD, outOf, fAdd, fSub, fMod, fLt, fLe, fGt, fGe, fNeg, fIsN, fNotN, MP.isNon, bAbs, bInt, isInt, isBool, isTup, isStr, bLen, line]
end GJ

set_option Elab.async false
set_option linter.all false
set_option maxRecDepth 100000
set_option maxHeartbeats 2000000
namespace GJ
open PySem L2 MP

theorem p2 (a b : Nat) (h : a ≤ b) : (2 : Int) ^ a ≤ 2 ^ b := by
  have : (2 : Nat) ^ a ≤ 2 ^ b := Nat.pow_le_pow_right (by decide) h
  have := Int.ofNat_le.mpr this
  rw [Int.natCast_pow, Int.natCast_pow] at this
  exact this
theorem first_ok {c : List Int} {A : Nat} (h : Cf c A) (least : Int) (most : Option Int) (w b : Int) (hw : Bd w 0) (hl : 1 ≤ least) (K : Nat) (hK : K ≤ 11000) (hlK : least ≤ 2 ^ K) (hm : ∀ m, most = some m → least ≤ m ∧ m ≤ 2 ^ K)
    (mono : ∀ x y, least ≤ x → x ≤ y → (∀ m, most = some m → y ≤ m) → w * ev c x ≤ w * ev c y) (top : most = none → ∀ x, 2 ^ K ≤ x → b ≤ w * ev c x) :
    ∃ z : Int, run_first_from [.va (nD c), .va (.int least), .va (oD most), .va (.int w), .va (.int b)] = .ok (.int z) none ∧ least ≤ z ∧ (∀ m, most = some m → z ≤ m + 1) ∧
      (∀ x, least ≤ x → x < z → w * ev c x < b) ∧ (∀ x, z ≤ x → (∀ m, most = some m → x ≤ m) → b ≤ w * ev c x) := by
  have s0 : (mPar 5 6 (maCons (mB fSub (mPk 1) (lPk 1) (mC (.int 1)) lId) (maCons (mC (.int 1)) maNil))) [.va (nD c), .va (.int least), .va (oD most), .va (.int w), .va (.int b), .no, .no, .no, .no] = .nx [.va (nD c), .va (.int least), .va (oD most), .va (.int w), .va (.int b), .va (.int (least - 1)), .va (.int 1), .no, .no] := by
    simp [slotD, outOf, fAdd, fSub, fMod, fLt, fLe, fGt, fGe, fNeg, fIsN, fNotN, MP.isNon, bAbs, bInt, isInt, isBool, isTup, isStr, bLen, line]
  have pk3 := p2 (K + 3) 11500 (by omega)
  have pk0 := p2 K (K + 3) (by omega)
  have e3 : (2 : Int) ^ (K + 3) = 8 * 2 ^ K := by rw [Int.pow_add]; omega
  cases most with
  | none =>
    obtain ⟨low', size', e1, r1, r2, r3, r4, r5⟩ := gallop h w b (least - 1) least hw K hK (by omega) (by omega) (top rfl) (K + 1) 0 fuel (least - 1) (by omega) (by unfold fuel; omega) (by simp) (.inl rfl)
    have s1 : (mWhile fuel (mAnd (mB fIsN (mPk 2) (lPk 2) (mC .non) lId) (mB fLt (mB fMul (mPk 3) (lPk 3) (mUser run_value_at (maCons (mVar 0) (maCons (mB fAdd (mPk 5) (lPk 5) (mPk 6) (lPk 6)) maNil))) lId) lId (mPk 4) (lPk 4))) (mPar 5 6 (maCons (mB fAdd (mPk 5) (lPk 5) (mPk 6) (lPk 6)) (maCons (mB fMul (mPk 6) (lPk 6) (mC (.int 2)) lId) maNil)))) [.va (nD c), .va (.int least), .va .non, .va (.int w), .va (.int b), .va (.int (least - 1)), .va (.int 1), .no, .no] = .nx [.va (nD c), .va (.int least), .va .non, .va (.int w), .va (.int b), .va (.int low'), .va (.int size'), .no, .no] := by
      rw [mWhile_ap]
      exact e1
    have s2 : (mSet 7 (mIf (mB fIsN (mPk 2) (lPk 2) (mC .non) lId) (mB fAdd (mPk 5) (lPk 5) (mPk 6) (lPk 6)) (mB fAdd (mPk 2) (lPk 2) (mC (.int 1)) lId))) [.va (nD c), .va (.int least), .va .non, .va (.int w), .va (.int b), .va (.int low'), .va (.int size'), .no, .no] = .nx [.va (nD c), .va (.int least), .va .non, .va (.int w), .va (.int b), .va (.int low'), .va (.int size'), .va (.int (low' + size')), .no] := by
      simp [slotD, outOf, fAdd, fSub, fMod, fLt, fLe, fGt, fGe, fNeg, fIsN, fNotN, MP.isNon, bAbs, bInt, isInt, isBool, isTup, isStr, bLen, line]
    obtain ⟨low2, high2, s8, e2, q1, q2, q3, q4, q5⟩ := bisect h w b least (.va .non) hw low' (low' + size') (by omega) (by omega) (fun _ => True) (K + 3) fuel low' (low' + size') (.va (.int size')) .no (by omega) (by unfold fuel; omega) (by omega) (by omega) (by omega) (.inl rfl) (.inl rfl)
    have s3 : (mWhile fuel (mB fGt (mB fSub (mPk 7) (lPk 7) (mPk 5) (lPk 5)) lId (mC (.int 1)) lId) (mSeq (mSet 8 (mB fDiv (mB fAdd (mPk 5) (lPk 5) (mPk 7) (lPk 7)) lId (mC (.int 2)) lId)) (mIfS (mB fLt (mB fMul (mPk 3) (lPk 3) (mUser run_value_at (maCons (mVar 0) (maCons (mVar 8) maNil))) lId) lId (mPk 4) (lPk 4)) (mSet 5 (mVar 8)) (mSet 7 (mVar 8))))) [.va (nD c), .va (.int least), .va .non, .va (.int w), .va (.int b), .va (.int low'), .va (.int size'), .va (.int (low' + size')), .no] = .nx [.va (nD c), .va (.int least), .va .non, .va (.int w), .va (.int b), .va (.int low2), .va (.int size'), .va (.int high2), s8] := by
      rw [mWhile_ap]
      exact e2
    have fin : m_first_from [.va (nD c), .va (.int least), .va .non, .va (.int w), .va (.int b), .no, .no, .no, .no] = .rt (.int high2) [.va (nD c), .va (.int least), .va .non, .va (.int w), .va (.int b), .va (.int low2), .va (.int size'), .va (.int high2), s8] := by
      unfold m_first_from
      exact seq_nx s0 (seq_nx s1 (seq_nx s2 (seq_nx s3 rfl)))
    have bh : b ≤ w * ev c high2 := by
      rcases q5 with q | q
      · rw [q]; exact r5
      · exact q
    refine ⟨high2, run_rt (n := 5) (tot := 9) (m := m_first_from) (args := [.va (nD c), .va (.int least), .va .non, .va (.int w), .va (.int b)]) fin, by omega, fun m hm => (by cases hm), fun x h1 h2 => ?_, fun x h1 h2 => ?_⟩
    · have lw : low2 = least - 1 ∨ w * ev c low2 < b := by
        rcases q4 with q | q
        · rw [q]; exact r4
        · exact .inr q
      rcases lw with q | q
      · omega
      · have := mono x low2 h1 (by omega) (fun m hm => by cases hm)
        omega
    · have := mono high2 x (by omega) h1 (fun m hm => by cases hm)
      omega
  | some m =>
    obtain ⟨hm1, hm2⟩ := hm m rfl
    have s1 : (mWhile fuel (mAnd (mB fIsN (mPk 2) (lPk 2) (mC .non) lId) (mB fLt (mB fMul (mPk 3) (lPk 3) (mUser run_value_at (maCons (mVar 0) (maCons (mB fAdd (mPk 5) (lPk 5) (mPk 6) (lPk 6)) maNil))) lId) lId (mPk 4) (lPk 4))) (mPar 5 6 (maCons (mB fAdd (mPk 5) (lPk 5) (mPk 6) (lPk 6)) (maCons (mB fMul (mPk 6) (lPk 6) (mC (.int 2)) lId) maNil)))) [.va (nD c), .va (.int least), .va (.int m), .va (.int w), .va (.int b), .va (.int (least - 1)), .va (.int 1), .no, .no] = .nx [.va (nD c), .va (.int least), .va (.int m), .va (.int w), .va (.int b), .va (.int (least - 1)), .va (.int 1), .no, .no] := by
      rw [mWhile_ap]
      exact no_gallop c w b least (least - 1) 1 m 999999
    have s2 : (mSet 7 (mIf (mB fIsN (mPk 2) (lPk 2) (mC .non) lId) (mB fAdd (mPk 5) (lPk 5) (mPk 6) (lPk 6)) (mB fAdd (mPk 2) (lPk 2) (mC (.int 1)) lId))) [.va (nD c), .va (.int least), .va (.int m), .va (.int w), .va (.int b), .va (.int (least - 1)), .va (.int 1), .no, .no] = .nx [.va (nD c), .va (.int least), .va (.int m), .va (.int w), .va (.int b), .va (.int (least - 1)), .va (.int 1), .va (.int (m + 1)), .no] := by
      simp [slotD, outOf, fAdd, fSub, fMod, fLt, fLe, fGt, fGe, fNeg, fIsN, fNotN, MP.isNon, bAbs, bInt, isInt, isBool, isTup, isStr, bLen, line]
    obtain ⟨low2, high2, s8, e2, q1, q2, q3, q4, q5⟩ := bisect h w b least (.va (.int m)) hw (least - 1) (m + 1) (by omega) (by omega) (fun _ => True) (K + 3) fuel (least - 1) (m + 1) (.va (.int 1)) .no (by omega) (by unfold fuel; omega) (by omega) (by omega) (by omega) (.inl rfl) (.inl rfl)
    have s3 : (mWhile fuel (mB fGt (mB fSub (mPk 7) (lPk 7) (mPk 5) (lPk 5)) lId (mC (.int 1)) lId) (mSeq (mSet 8 (mB fDiv (mB fAdd (mPk 5) (lPk 5) (mPk 7) (lPk 7)) lId (mC (.int 2)) lId)) (mIfS (mB fLt (mB fMul (mPk 3) (lPk 3) (mUser run_value_at (maCons (mVar 0) (maCons (mVar 8) maNil))) lId) lId (mPk 4) (lPk 4)) (mSet 5 (mVar 8)) (mSet 7 (mVar 8))))) [.va (nD c), .va (.int least), .va (.int m), .va (.int w), .va (.int b), .va (.int (least - 1)), .va (.int 1), .va (.int (m + 1)), .no] = .nx [.va (nD c), .va (.int least), .va (.int m), .va (.int w), .va (.int b), .va (.int low2), .va (.int 1), .va (.int high2), s8] := by
      rw [mWhile_ap]
      exact e2
    have fin : m_first_from [.va (nD c), .va (.int least), .va (.int m), .va (.int w), .va (.int b), .no, .no, .no, .no] = .rt (.int high2) [.va (nD c), .va (.int least), .va (.int m), .va (.int w), .va (.int b), .va (.int low2), .va (.int 1), .va (.int high2), s8] := by
      unfold m_first_from
      exact seq_nx s0 (seq_nx s1 (seq_nx s2 (seq_nx s3 rfl)))
    refine ⟨high2, run_rt (n := 5) (tot := 9) (m := m_first_from) (args := [.va (nD c), .va (.int least), .va (.int m), .va (.int w), .va (.int b)]) fin, by omega, fun m' hm' => (by cases hm'; omega), fun x h1 h2 => ?_, fun x h1 h2 => ?_⟩
    · rcases q4 with q | q
      · omega
      · have := mono x low2 h1 (by omega) (fun m' hm' => by cases hm'; omega)
        omega
    · have hx := h2 m rfl
      rcases q5 with q | q
      · omega
      · have := mono high2 x (by omega) h1 (fun m' hm' => by cases hm'; omega)
        omega
/-! ### rows -/
abbrev Rw : Type := Int × Option Int × Int
def rwD (r : Rw) : D := .tup [.int r.1, oD r.2.1, .int r.2.2]
def rsD (rs : List Rw) : D := .lst (rs.map rwD)
/-- the rows tell g from l on, up to ahead of e -/
def Cv (g : Int → Int) : Int → List Rw → Option Int → Prop
  | l, [], e => e = some l
  | l, (a, some m, s) :: r, e => a = l ∧ l ≤ m ∧ (∀ n, l ≤ n → n ≤ m → g n = s) ∧ Cv g (m + 1) r e
  | l, (a, none, s) :: r, e => a = l ∧ (∀ n, l ≤ n → g n = s) ∧ r = [] ∧ e = none
theorem Cv.app {g : Int → Int} : ∀ {xs ys : List Rw} {l k : Int} {e : Option Int}, Cv g l xs (some k) → Cv g k ys e → Cv g l (xs ++ ys) e
  | [], ys, l, k, e, h, h2 => by
    simp only [Cv] at h
    cases h
    exact h2
  | (a, some m, s) :: xs, ys, l, k, e, h, h2 => by
    simp only [Cv] at h
    obtain ⟨h1, h3, h4, h5⟩ := h
    simp only [List.cons_append, Cv]
    exact ⟨h1, h3, h4, h5.app h2⟩
  | (a, none, s) :: xs, ys, l, k, e, h, h2 => by
    simp only [Cv] at h
    obtain ⟨_, _, _, h5⟩ := h
    cases h5
end GJ

set_option Elab.async false
set_option linter.all false
set_option maxRecDepth 100000
set_option maxHeartbeats 2000000
namespace GJ
open PySem L2 MP

theorem mono_of {f : Int → Int} {a : Int} : ∀ (k : Nat) (x y : Int), a ≤ x → y = x + k → (∀ n, a ≤ n → n < y → f n ≤ f (n + 1)) → f x ≤ f y
  | 0, x, y, h1, h2, h3 => by
    have : y = x := by omega
    rw [this]; exact Int.le_refl _
  | k + 1, x, y, h1, h2, h3 => by
    have e1 := mono_of k x (y - 1) h1 (by omega) (fun n hn h => h3 n hn (by omega))
    have e2 := h3 (y - 1) (by omega) (by omega)
    rw [show y - 1 + 1 = y by omega] at e2
    exact Int.le_trans e1 e2
def keep (r : Rw) : Bool := match r.2.1 with
  | none => true
  | some m => decide (r.1 ≤ m)
theorem seg {g : Int → Int} {l m s : Int} (h : l ≤ m + 1) (hv : ∀ n, l ≤ n → n ≤ m → g n = s) : Cv g l ([(l, some m, s)].filter keep) (some (m + 1)) := by
  by_cases e : l ≤ m
  · have : keep (l, some m, s) = true := by simp [keep, e]
    rw [List.filter_cons, this]
    simp only [if_true, List.filter_nil, Cv]
    exact ⟨trivial, e, hv, trivial⟩
  · have : keep (l, some m, s) = false := by simp [keep, e]
    rw [List.filter_cons, this]
    simp only [List.filter_nil]
    have e2 : l = m + 1 := by omega
    simp [Cv, e2]
theorem filt3 (a b c : Rw) : [a, b, c].filter keep = [a].filter keep ++ ([b].filter keep ++ [c].filter keep) := by
  rw [show [a, b, c] = [a] ++ ([b] ++ [c]) from rfl, List.filter_append, List.filter_append]
theorem cut_lc (e0 e1 e2 e3 e4 e5 e6 : Sl) (rs : List Rw) : lcGo (mgName 7) (mOr (mB fIsN (mB fIx (mPk 7) (lPk 7) (mC (.int 1)) lId) lId (mC .non) lId) (mB fLe (mB fIx (mPk 7) (lPk 7) (mC (.int 0)) lId) lId (mB fIx (mPk 7) (lPk 7) (mC (.int 1)) lId) lId)) (mVar 7) [e0, e1, e2, e3, e4, e5, e6, .no] (rs.map rwD) [] = some ((rs.filter keep).map rwD) := by
  have := lc_gen (mg := (mgName 7)) (mt := (mOr (mB fIsN (mB fIx (mPk 7) (lPk 7) (mC (.int 1)) lId) lId (mC .non) lId) (mB fLe (mB fIx (mPk 7) (lPk 7) (mC (.int 0)) lId) lId (mB fIx (mPk 7) (lPk 7) (mC (.int 1)) lId) lId))) (me := (mVar 7)) (benv := [e0, e1, e2, e3, e4, e5, e6, .no]) (h := fun d => d) (g := fun d => match d with | .tup [_, .non, _] => true | .tup [.int a, .int b, _] => decide (a ≤ b) | _ => false) (ds := rs.map rwD) (acc := []) (fun d hd => by
    obtain ⟨r, _, rfl⟩ := List.mem_map.mp hd
    obtain ⟨a, m, s⟩ := r
    refine ⟨[e0, e1, e2, e3, e4, e5, e6, .va (rwD (a, m, s))], [e0, e1, e2, e3, e4, e5, e6, .va (rwD (a, m, s))], [e0, e1, e2, e3, e4, e5, e6, .va (rwD (a, m, s))], by simp, ?_, fun _ => by simp⟩
    cases m <;> simp [rwD, oD, fIx, ixD, slotD, outOf, fAdd, fSub, fMod, fLt, fLe, fGt, fGe, fNeg, fIsN, fNotN, MP.isNon, bAbs, bInt, isInt, isBool, isTup, isStr, bLen, line])
  rw [this, List.nil_append, List.map_id', List.filter_map]
  congr 2
  congr 1
  funext r
  obtain ⟨a, m, s⟩ := r
  cases m <;> simp [keep, rwD, oD]
theorem cut_ok {c : List Int} {A : Nat} (h : Cf c A) (least : Int) (most : Option Int) (w : Int) (hw : w = 1 ∨ w = -1 ∨ w = 0) (hl : 1 ≤ least) (K : Nat) (hK : K ≤ 11000) (hlK : least ≤ 2 ^ K) (hm : ∀ m, most = some m → least ≤ m ∧ m ≤ 2 ^ K)
    (dl : ∀ n, least ≤ n → (∀ m, most = some m → n ≤ m) → (ev c (n + 1) - ev c n).sign = w) (top : most = none → w ≠ 0 → ∀ x, 2 ^ K ≤ x → 1 ≤ w * ev c x) :
    ∃ rows : List Rw, run_cut_stretch [.va (nD c), .va (.int least), .va (oD most), .va (.int w)] = .ok (rsD rows) none ∧ Cv (fun n => (ev c n).sign) least rows (most.map (· + 1)) ∧ rows.length ≤ 3 := by
  have bw : Bd w 0 := by rcases hw with e | e | e <;> rw [e] <;> unfold Bd <;> decide
  have ble : Bd least 12000 := by
    have : Bd least K := by
      unfold Bd
      have q : ((least.natAbs : Nat) : Int) ≤ ((2 ^ K : Nat) : Int) := by
        rw [Int.natCast_pow, Int.natAbs_of_nonneg (by omega)]
        exact hlK
      exact Int.ofNat_le.mp q
    exact this.mono (by omega)
  by_cases hz : w = 0
  · subst hz
    have v := (h.val ble).1
    have sg := sign_ok (ev c least)
    have cst : ∀ n, least ≤ n → (∀ m, most = some m → n ≤ m) → ev c n = ev c least := fun n h1 h2 => by
      have d0 : ∀ x, least ≤ x → x < n → ev c (x + 1) = ev c x := fun x hx hx2 => by
        have := dl x hx (fun m hm' => by have := h2 m hm'; omega)
        have := Int.sign_eq_zero_iff_zero.mp this
        omega
      have a1 := mono_of (f := ev c) (a := least) (n - least).toNat least n (by omega) (by omega) (fun x hx hx2 => by rw [d0 x hx hx2]; exact Int.le_refl _)
      have a2 := mono_of (f := fun x => - ev c x) (a := least) (n - least).toNat least n (by omega) (by omega) (fun x hx hx2 => by rw [d0 x hx hx2]; exact Int.le_refl _)
      omega
    refine ⟨[(least, most, (ev c least).sign)], ?_, ?_, by simp⟩
    · simp [run_cut_stretch, runF, m_cut_stretch, v, sg, rsD, rwD, slotD, outOf, fAdd, fSub, fMod, fLt, fLe, fGt, fGe, fNeg, fIsN, fNotN, MP.isNon, bAbs, bInt, isInt, isBool, isTup, isStr, bLen, line, fNe, fEq, eqD, eqL, okD, okL]
    · cases most with
      | none =>
        simp only [Cv, Option.map_none]
        exact ⟨trivial, fun n hn => by rw [cst n hn (fun m hm' => by cases hm')], trivial, trivial⟩
      | some m =>
        simp only [Cv, Option.map_some]
        exact ⟨trivial, (hm m rfl).1, fun n hn hn2 => by rw [cst n hn (fun m' hm' => by cases hm'; exact hn2)], trivial⟩
  · have hw1 : w = 1 ∨ w = -1 := by rcases hw with e | e | e; exact .inl e; exact .inr e; exact absurd e hz
    have mono : ∀ x y, least ≤ x → x ≤ y → (∀ m, most = some m → y ≤ m) → w * ev c x ≤ w * ev c y := fun x y hx hxy hy => by
      refine mono_of (f := fun n => w * ev c n) (a := least) (y - x).toNat x y hx (by omega) (fun n hn hn2 => ?_)
      have := dl n hn (fun m hm' => by have := hy m hm'; omega)
      rcases hw1 with e | e
      · subst e
        have := Int.sign_eq_one_iff_pos.mp this
        omega
      · subst e
        have := Int.sign_eq_neg_one_iff_neg.mp this
        omega
    obtain ⟨z0, f0, a1, a2, a3, a4⟩ := first_ok h least most w 0 bw hl K hK hlK hm mono (fun hn x hx => by have := top hn hz x hx; omega)
    obtain ⟨z1, f1, b1, b2, b3, b4⟩ := first_ok h least most w 1 bw hl K hK hlK hm mono (fun hn x hx => top hn hz x hx)
    have z01 : z0 ≤ z1 := by
      rcases Int.lt_or_le z1 z0 with q | q
      · have x1 := a3 z1 b1 q
        have x2 := b4 z1 (Int.le_refl _) (fun m hm' => by have := a2 m hm'; omega)
        omega
      · exact q
    refine ⟨[(least, some (z0 - 1), -w), (z0, some (z1 - 1), 0), (z1, most, w)].filter keep, ?_, ?_, List.length_filter_le _ _⟩
    · have lc := cut_lc (.va (nD c)) (.va (.int least)) (.va (oD most)) (.va (.int w)) (.va (.int z0)) (.va (.int z1)) (.va (.lst [rwD (least, some (z0 - 1), -w), rwD (z0, some (z1 - 1), 0), rwD (z1, most, w)])) [(least, some (z0 - 1), -w), (z0, some (z1 - 1), 0), (z1, most, w)]
      simp only [List.map_cons, List.map_nil] at lc
      have s0 : (mIfS (mB fEq (mPk 3) (lPk 3) (mC (.int 0)) lId) (mRet (mLst (maCons (mTup (maCons (mVar 1) (maCons (mVar 2) (maCons (mUser run_sign (maCons (mUser run_value_at (maCons (mVar 0) (maCons (mVar 1) maNil))) maNil)) maNil)))) maNil))) mSkip) [.va (nD c), .va (.int least), .va (oD most), .va (.int w), .no, .no, .no, .no] = .nx [.va (nD c), .va (.int least), .va (oD most), .va (.int w), .no, .no, .no, .no] := by
        simp [hz, slotD, outOf, fAdd, fSub, fMod, fLt, fLe, fGt, fGe, fNeg, fIsN, fNotN, MP.isNon, bAbs, bInt, isInt, isBool, isTup, isStr, bLen, line, fNe, fEq, eqD, eqL, okD, okL]
      have s1 : (mSet 4 (mUser run_first_from (maCons (mVar 0) (maCons (mVar 1) (maCons (mVar 2) (maCons (mVar 3) (maCons (mC (.int 0)) maNil))))))) [.va (nD c), .va (.int least), .va (oD most), .va (.int w), .no, .no, .no, .no] = .nx [.va (nD c), .va (.int least), .va (oD most), .va (.int w), .va (.int z0), .no, .no, .no] := by
        simp [f0, slotD, outOf, fAdd, fSub, fMod, fLt, fLe, fGt, fGe, fNeg, fIsN, fNotN, MP.isNon, bAbs, bInt, isInt, isBool, isTup, isStr, bLen, line]
      have s2 : (mSet 5 (mUser run_first_from (maCons (mVar 0) (maCons (mVar 1) (maCons (mVar 2) (maCons (mVar 3) (maCons (mC (.int 1)) maNil))))))) [.va (nD c), .va (.int least), .va (oD most), .va (.int w), .va (.int z0), .no, .no, .no] = .nx [.va (nD c), .va (.int least), .va (oD most), .va (.int w), .va (.int z0), .va (.int z1), .no, .no] := by
        simp [f1, slotD, outOf, fAdd, fSub, fMod, fLt, fLe, fGt, fGe, fNeg, fIsN, fNotN, MP.isNon, bAbs, bInt, isInt, isBool, isTup, isStr, bLen, line]
      have s3 : (mSet 6 (mLst (maCons (mTup (maCons (mVar 1) (maCons (mB fSub (mPk 4) (lPk 4) (mC (.int 1)) lId) (maCons (mU fNeg (mPk 3) (lPk 3)) maNil)))) (maCons (mTup (maCons (mVar 4) (maCons (mB fSub (mPk 5) (lPk 5) (mC (.int 1)) lId) (maCons (mC (.int 0)) maNil)))) (maCons (mTup (maCons (mVar 5) (maCons (mVar 2) (maCons (mVar 3) maNil)))) maNil))))) [.va (nD c), .va (.int least), .va (oD most), .va (.int w), .va (.int z0), .va (.int z1), .no, .no] = .nx [.va (nD c), .va (.int least), .va (oD most), .va (.int w), .va (.int z0), .va (.int z1), .va (.lst [rwD (least, some (z0 - 1), -w), rwD (z0, some (z1 - 1), 0), rwD (z1, most, w)]), .no] := by
        simp [rwD, oD, slotD, outOf, fAdd, fSub, fMod, fLt, fLe, fGt, fGe, fNeg, fIsN, fNotN, MP.isNon, bAbs, bInt, isInt, isBool, isTup, isStr, bLen, line]
      have s4 : (mRet (mAsV (mLc (mIt (mVar 6)) [7] (mgName 7) (mOr (mB fIsN (mB fIx (mPk 7) (lPk 7) (mC (.int 1)) lId) lId (mC .non) lId) (mB fLe (mB fIx (mPk 7) (lPk 7) (mC (.int 0)) lId) lId (mB fIx (mPk 7) (lPk 7) (mC (.int 1)) lId) lId)) (mVar 7)))) [.va (nD c), .va (.int least), .va (oD most), .va (.int w), .va (.int z0), .va (.int z1), .va (.lst [rwD (least, some (z0 - 1), -w), rwD (z0, some (z1 - 1), 0), rwD (z1, most, w)]), .no] = .rt (rsD ([(least, some (z0 - 1), -w), (z0, some (z1 - 1), 0), (z1, most, w)].filter keep)) [.va (nD c), .va (.int least), .va (oD most), .va (.int w), .va (.int z0), .va (.int z1), .va (.lst [rwD (least, some (z0 - 1), -w), rwD (z0, some (z1 - 1), 0), rwD (z1, most, w)]), .no] := by
        generalize rwD (least, some (z0 - 1), -w) = R0 at *
        generalize rwD (z0, some (z1 - 1), 0) = R1 at *
        generalize rwD (z1, most, w) = R2 at *
        simp [wipeE, roE, line]
        rw [lc]
        simp [rsD]
      have fin := seq_nx s0 (seq_nx s1 (seq_nx s2 (seq_nx s3 s4)))
      exact run_rt (n := 4) (tot := 8) (m := m_cut_stretch) (args := [.va (nD c), .va (.int least), .va (oD most), .va (.int w)]) fin
    · rw [filt3]
      have sgn : ∀ x, (w * ev c x).sign = w.sign * (ev c x).sign := fun x => Int.sign_mul w (ev c x)
      refine Cv.app (k := z0) ?_ (Cv.app (k := z1) ?_ ?_)
      · have := seg (g := fun n => (ev c n).sign) (l := least) (m := z0 - 1) (s := -w) (by omega) (fun n h1 h2 => by
          have x := a3 n h1 (by omega)
          rcases hw1 with e | e
          · subst e; exact Int.sign_eq_neg_one_of_neg (by omega)
          · subst e; exact Int.sign_eq_one_of_pos (by omega))
        rwa [show z0 - 1 + 1 = z0 by omega] at this
      · have := seg (g := fun n => (ev c n).sign) (l := z0) (m := z1 - 1) (s := 0) (by omega) (fun n h1 h2 => by
          have x := b3 n (by omega) (by omega)
          have y := a4 n h1 (fun m hm' => by have := b2 m hm'; omega)
          have : ev c n = 0 := by rcases hw1 with e | e <;> subst e <;> omega
          rw [this]; rfl)
        rwa [show z1 - 1 + 1 = z1 by omega] at this
      · have vv : ∀ n, z1 ≤ n → (∀ m, most = some m → n ≤ m) → (ev c n).sign = w := fun n h1 h2 => by
          have y := b4 n h1 h2
          rcases hw1 with e | e
          · subst e; exact Int.sign_eq_one_of_pos (by omega)
          · subst e; exact Int.sign_eq_neg_one_of_neg (by omega)
        cases most with
        | none =>
          have : keep (z1, none, w) = true := rfl
          rw [List.filter_cons, this]
          simp only [if_true, List.filter_nil, Cv, Option.map_none]
          exact ⟨trivial, fun n hn => vv n hn (fun m hm' => by cases hm'), trivial, trivial⟩
        | some m =>
          exact seg (by have := b2 m rfl; omega) (fun n h1 h2 => vv n h1 (fun m' hm' => by cases hm'; exact h2))
end GJ

set_option Elab.async false
set_option linter.all false
set_option maxRecDepth 100000
set_option maxHeartbeats 2000000
namespace GJ
open PySem L2 MP

/-! ### rows put together -/
def Dst : List Rw → Prop
  | x :: y :: r => x.2.2 ≠ y.2.2 ∧ Dst (y :: r)
  | _ => True
theorem Dst.app1 : ∀ {xs : List Rw} {x y : Rw}, Dst (xs ++ [x]) → x.2.2 ≠ y.2.2 → Dst (xs ++ [x] ++ [y])
  | [], x, y, h, e => ⟨e, trivial⟩
  | [z], x, y, h, e => ⟨h.1, e, trivial⟩
  | z :: z2 :: xs, x, y, h, e => ⟨h.1, Dst.app1 (xs := z2 :: xs) h.2 e⟩
theorem Dst.last : ∀ {xs : List Rw} {x y : Rw}, Dst (xs ++ [x]) → x.2.2 = y.2.2 → Dst (xs ++ [y])
  | [], x, y, h, e => trivial
  | [z], x, y, h, e => ⟨by rw [← e]; exact h.1, trivial⟩
  | z :: z2 :: xs, x, y, h, e => ⟨h.1, Dst.last (xs := z2 :: xs) h.2 e⟩
theorem Cv.split {g : Int → Int} : ∀ {xs ys : List Rw} {l : Int} {e : Option Int}, ys ≠ [] → Cv g l (xs ++ ys) e → ∃ k, Cv g l xs (some k) ∧ Cv g k ys e
  | [], ys, l, e, hy, h => ⟨l, rfl, h⟩
  | (a, some m, s) :: xs, ys, l, e, hy, h => by
    simp only [List.cons_append, Cv] at h
    obtain ⟨h1, h2, h3, h4⟩ := h
    obtain ⟨k, q1, q2⟩ := Cv.split hy h4
    exact ⟨k, ⟨h1, h2, h3, q1⟩, q2⟩
  | (a, none, s) :: xs, ys, l, e, hy, h => by
    simp only [List.cons_append, Cv] at h
    obtain ⟨_, _, h3, _⟩ := h
    simp at h3
    exact absurd h3.2 hy
theorem eq_int (a b : Int) : fEq (.int a) (.int b) = some (.bl (decide (a = b))) := by simp [fEq, okD, eqD]
theorem okD_row (n : Nat) (r : Rw) : okD (n + 1) (rwD r) = true := by
  obtain ⟨a, m, s⟩ := r
  cases m <;> simp [rwD, oD, okD, okL]
theorem okL_rows (n : Nat) : ∀ rs : List Rw, okL (n + 1) (rs.map rwD) = true
  | [] => by simp [okL]
  | r :: rs => by simp [okL, okD_row, okL_rows n rs]
theorem ne_nil (rs : List Rw) : fNe (rsD rs) (.lst []) = some (.bl (!rs.isEmpty)) := by
  have h : okD 64 (rsD rs) = true := by simp [rsD, okD, okL_rows]
  unfold fNe
  rw [h]
  cases rs <;> simp [rsD, okD, okL, eqD, eqL]
theorem ix_last (xs : List Rw) (x : Rw) : fIx (rsD (xs ++ [x])) (.int (-1)) = some (rwD x) := by
  have h1 : ¬ ((0 : Int) ≤ -1) := by decide
  have h2 : (-(((xs ++ [x]).map rwD).length : Int) ≤ -1) := by simp; omega
  have h3 : (((-1 : Int) + (((xs ++ [x]).map rwD).length : Int)).toNat) = xs.length := by simp; omega
  show ixD ((xs ++ [x]).map rwD) (-1) = some (rwD x)
  unfold ixD
  rw [decide_eq_false h1, decide_eq_true h2, h3]
  simp
theorem ixN_last (n : Nat) : ixN (n + 1) (-1) = some n := by
  unfold ixN
  rw [if_neg (by decide), if_pos (by omega)]
  congr 1
  omega
theorem set_last (xs : List Rw) (x y : Rw) : ((xs ++ [x]).map rwD).set xs.length (rwD y) = (xs ++ [y]).map rwD := by
  rw [List.map_append, List.map_append, List.set_append]
  simp
theorem joined_loop (g : Int → Int) (l0 : Int) (F : Sl) : ∀ (rs found : List Rw) (l : Int) (e : Option Int) (s2 s3 s4 : Sl), Cv g l0 found (some l) → Cv g l rs e → Dst found → found.length + rs.length ≤ 10000 →
    ∃ (found' : List Rw) (t2 t3 t4 : Sl), forGo (mgTup 3 (mgsCons (mgName 2) (mgsCons (mgName 3) (mgsCons (mgName 4) mgsNil)))) (mIfS (mAnd (mB fNe (mPk 1) (lPk 1) (mLst maNil) lId) (mB fEq (mB fIx (mB fIx (mPk 1) (lPk 1) (mU fNeg (mC (.int 1)) lId) lId) lId (mC (.int 2)) lId) lId (mPk 4) (lPk 4))) (mSub 1 (mU fNeg (mC (.int 1)) lId) (mTup (maCons (mB fIx (mB fIx (mPk 1) (lPk 1) (mU fNeg (mC (.int 1)) lId) lId) lId (mC (.int 0)) lId) (maCons (mVar 3) (maCons (mVar 4) maNil))))) (mApp 1 (mTup (maCons (mVar 2) (maCons (mVar 3) (maCons (mVar 4) maNil)))))) (rs.map rwD) [F, .ow (rsD found), s2, s3, s4] = .nx [F, .ow (rsD found'), t2, t3, t4] ∧ Cv g l0 found' e ∧ Dst found' ∧ found'.length ≤ found.length + rs.length ∧ (found ≠ [] ∨ rs ≠ [] → found' ≠ [])
  | [], found, l, e, s2, s3, s4, h1, h2, h3, h4 => by
    simp only [Cv] at h2
    subst h2
    exact ⟨found, s2, s3, s4, by simp [forGo], h1, h3, by simp, fun q => q.elim id (fun q => absurd rfl q)⟩
  | r :: rs, found, l, e, s2, s3, s4, h1, h2, h3, h4 => by
    simp only [List.length_cons] at h4
    have go : ∀ found2 : List Rw, (mIfS (mAnd (mB fNe (mPk 1) (lPk 1) (mLst maNil) lId) (mB fEq (mB fIx (mB fIx (mPk 1) (lPk 1) (mU fNeg (mC (.int 1)) lId) lId) lId (mC (.int 2)) lId) lId (mPk 4) (lPk 4))) (mSub 1 (mU fNeg (mC (.int 1)) lId) (mTup (maCons (mB fIx (mB fIx (mPk 1) (lPk 1) (mU fNeg (mC (.int 1)) lId) lId) lId (mC (.int 0)) lId) (maCons (mVar 3) (maCons (mVar 4) maNil))))) (mApp 1 (mTup (maCons (mVar 2) (maCons (mVar 3) (maCons (mVar 4) maNil)))))) [F, .ow (rsD found), .va (.int r.1), .va (oD r.2.1), .va (.int r.2.2)] = .nx [F, .ow (rsD found2), .va (.int r.1), .va (oD r.2.1), .va (.int r.2.2)] → forGo (mgTup 3 (mgsCons (mgName 2) (mgsCons (mgName 3) (mgsCons (mgName 4) mgsNil)))) (mIfS (mAnd (mB fNe (mPk 1) (lPk 1) (mLst maNil) lId) (mB fEq (mB fIx (mB fIx (mPk 1) (lPk 1) (mU fNeg (mC (.int 1)) lId) lId) lId (mC (.int 2)) lId) lId (mPk 4) (lPk 4))) (mSub 1 (mU fNeg (mC (.int 1)) lId) (mTup (maCons (mB fIx (mB fIx (mPk 1) (lPk 1) (mU fNeg (mC (.int 1)) lId) lId) lId (mC (.int 0)) lId) (maCons (mVar 3) (maCons (mVar 4) maNil))))) (mApp 1 (mTup (maCons (mVar 2) (maCons (mVar 3) (maCons (mVar 4) maNil)))))) ((r :: rs).map rwD) [F, .ow (rsD found), s2, s3, s4] = forGo (mgTup 3 (mgsCons (mgName 2) (mgsCons (mgName 3) (mgsCons (mgName 4) mgsNil)))) (mIfS (mAnd (mB fNe (mPk 1) (lPk 1) (mLst maNil) lId) (mB fEq (mB fIx (mB fIx (mPk 1) (lPk 1) (mU fNeg (mC (.int 1)) lId) lId) lId (mC (.int 2)) lId) lId (mPk 4) (lPk 4))) (mSub 1 (mU fNeg (mC (.int 1)) lId) (mTup (maCons (mB fIx (mB fIx (mPk 1) (lPk 1) (mU fNeg (mC (.int 1)) lId) lId) lId (mC (.int 0)) lId) (maCons (mVar 3) (maCons (mVar 4) maNil))))) (mApp 1 (mTup (maCons (mVar 2) (maCons (mVar 3) (maCons (mVar 4) maNil)))))) (rs.map rwD) [F, .ow (rsD found2), .va (.int r.1), .va (oD r.2.1), .va (.int r.2.2)] := fun found2 st => by
      rw [List.map_cons]
      conv => lhs; unfold forGo
      have tg : (mgTup 3 (mgsCons (mgName 2) (mgsCons (mgName 3) (mgsCons (mgName 4) mgsNil)))) (rwD r) [F, .ow (rsD found), s2, s3, s4] = some [F, .ow (rsD found), .va (.int r.1), .va (oD r.2.1), .va (.int r.2.2)] := rfl
      rw [tg]
      dsimp only
      rw [st]
    have fin : ∀ found2 : List Rw, (mIfS (mAnd (mB fNe (mPk 1) (lPk 1) (mLst maNil) lId) (mB fEq (mB fIx (mB fIx (mPk 1) (lPk 1) (mU fNeg (mC (.int 1)) lId) lId) lId (mC (.int 2)) lId) lId (mPk 4) (lPk 4))) (mSub 1 (mU fNeg (mC (.int 1)) lId) (mTup (maCons (mB fIx (mB fIx (mPk 1) (lPk 1) (mU fNeg (mC (.int 1)) lId) lId) lId (mC (.int 0)) lId) (maCons (mVar 3) (maCons (mVar 4) maNil))))) (mApp 1 (mTup (maCons (mVar 2) (maCons (mVar 3) (maCons (mVar 4) maNil)))))) [F, .ow (rsD found), .va (.int r.1), .va (oD r.2.1), .va (.int r.2.2)] = .nx [F, .ow (rsD found2), .va (.int r.1), .va (oD r.2.1), .va (.int r.2.2)] → Cv g l0 found2 (r.2.1.map (· + 1)) → Dst found2 → found2.length ≤ found.length + 1 → found2 ≠ [] →
        ∃ (found' : List Rw) (t2 t3 t4 : Sl), forGo (mgTup 3 (mgsCons (mgName 2) (mgsCons (mgName 3) (mgsCons (mgName 4) mgsNil)))) (mIfS (mAnd (mB fNe (mPk 1) (lPk 1) (mLst maNil) lId) (mB fEq (mB fIx (mB fIx (mPk 1) (lPk 1) (mU fNeg (mC (.int 1)) lId) lId) lId (mC (.int 2)) lId) lId (mPk 4) (lPk 4))) (mSub 1 (mU fNeg (mC (.int 1)) lId) (mTup (maCons (mB fIx (mB fIx (mPk 1) (lPk 1) (mU fNeg (mC (.int 1)) lId) lId) lId (mC (.int 0)) lId) (maCons (mVar 3) (maCons (mVar 4) maNil))))) (mApp 1 (mTup (maCons (mVar 2) (maCons (mVar 3) (maCons (mVar 4) maNil)))))) ((r :: rs).map rwD) [F, .ow (rsD found), s2, s3, s4] = .nx [F, .ow (rsD found'), t2, t3, t4] ∧ Cv g l0 found' e ∧ Dst found' ∧ found'.length ≤ found.length + (rs.length + 1) ∧ (found ≠ [] ∨ r :: rs ≠ [] → found' ≠ []) := fun found2 st cv ds hl hne => by
      rw [go found2 st]
      obtain ⟨a, m, s⟩ := r
      cases m with
      | none =>
        simp only [Cv] at h2
        obtain ⟨q1, q2, q3, q4⟩ := h2
        subst q3 q4
        exact ⟨found2, .va (.int a), .va (oD none), .va (.int s), by simp [forGo], cv, ds, by simp; omega, fun _ => hne⟩
      | some m0 =>
        simp only [Cv] at h2
        obtain ⟨q1, q2, q3, q4⟩ := h2
        obtain ⟨found', t2, t3, t4, e1, e2, e3, e4, e5⟩ := joined_loop g l0 F rs found2 (m0 + 1) e (.va (.int a)) (.va (oD (some m0))) (.va (.int s)) cv q4 ds (by omega)
        exact ⟨found', t2, t3, t4, e1, e2, e3, by omega, fun _ => e5 (.inl hne)⟩
    have one : Cv g l [r] (r.2.1.map (· + 1)) := by
      obtain ⟨a, m, s⟩ := r
      cases m with
      | none =>
        simp only [Cv] at h2
        obtain ⟨q1, q2, q3, q4⟩ := h2
        simp only [Cv, Option.map_none]
        exact ⟨q1, q2, trivial, trivial⟩
      | some m0 =>
        simp only [Cv] at h2
        obtain ⟨q1, q2, q3, q4⟩ := h2
        simp only [Cv, Option.map_some]
        exact ⟨q1, q2, q3, trivial⟩
    rcases List.eq_nil_or_concat found with hf | ⟨ini, x, hf⟩
    · subst hf
      have st : (mIfS (mAnd (mB fNe (mPk 1) (lPk 1) (mLst maNil) lId) (mB fEq (mB fIx (mB fIx (mPk 1) (lPk 1) (mU fNeg (mC (.int 1)) lId) lId) lId (mC (.int 2)) lId) lId (mPk 4) (lPk 4))) (mSub 1 (mU fNeg (mC (.int 1)) lId) (mTup (maCons (mB fIx (mB fIx (mPk 1) (lPk 1) (mU fNeg (mC (.int 1)) lId) lId) lId (mC (.int 0)) lId) (maCons (mVar 3) (maCons (mVar 4) maNil))))) (mApp 1 (mTup (maCons (mVar 2) (maCons (mVar 3) (maCons (mVar 4) maNil)))))) [F, .ow (rsD []), .va (.int r.1), .va (oD r.2.1), .va (.int r.2.2)] = .nx [F, .ow (rsD [r]), .va (.int r.1), .va (oD r.2.1), .va (.int r.2.2)] := by
        have nn := ne_nil []
        have rn : rsD [] = .lst [] := rfl
        rw [rn] at nn ⊢
        simp [nn, atC, kput, rsD, rwD, slotD, outOf, fAdd, fSub, fMod, fLt, fLe, fGt, fGe, fNeg, fIsN, fNotN, MP.isNon, bAbs, bInt, isInt, isBool, isTup, isStr, bLen, line]
      simp only [Cv] at h1
      cases h1
      exact fin [r] st one trivial (by simp) (by simp)
    · rw [List.concat_eq_append] at hf
      subst hf
      have nn := ne_nil (ini ++ [x])
      have ix := ix_last ini x
      have i2 : fIx (rwD x) (.int 2) = some (.int x.2.2) := rfl
      have i0 : fIx (rwD x) (.int 0) = some (.int x.1) := rfl
      have eqi := eq_int x.2.2 r.2.2
      have ne : (ini ++ [x]).isEmpty = false := by simp
      rw [ne] at nn
      obtain ⟨k, c1, c2⟩ := Cv.split (by simp) h1
      by_cases he : x.2.2 = r.2.2
      · have st : (mIfS (mAnd (mB fNe (mPk 1) (lPk 1) (mLst maNil) lId) (mB fEq (mB fIx (mB fIx (mPk 1) (lPk 1) (mU fNeg (mC (.int 1)) lId) lId) lId (mC (.int 2)) lId) lId (mPk 4) (lPk 4))) (mSub 1 (mU fNeg (mC (.int 1)) lId) (mTup (maCons (mB fIx (mB fIx (mPk 1) (lPk 1) (mU fNeg (mC (.int 1)) lId) lId) lId (mC (.int 0)) lId) (maCons (mVar 3) (maCons (mVar 4) maNil))))) (mApp 1 (mTup (maCons (mVar 2) (maCons (mVar 3) (maCons (mVar 4) maNil)))))) [F, .ow (rsD (ini ++ [x])), .va (.int r.1), .va (oD r.2.1), .va (.int r.2.2)] = .nx [F, .ow (rsD (ini ++ [(x.1, r.2.1, r.2.2)])), .va (.int r.1), .va (oD r.2.1), .va (.int r.2.2)] := by
          have ll : ixN ((ini ++ [x]).map rwD).length (-1) = some ini.length := by
            rw [List.length_map, List.length_append]
            exact ixN_last _
          have sl := set_last ini x (x.1, r.2.1, r.2.2)
          have rs1 : rsD (ini ++ [x]) = .lst ((ini ++ [x]).map rwD) := rfl
          have rs2 : rsD (ini ++ [(x.1, r.2.1, r.2.2)]) = .lst ((ini ++ [(x.1, r.2.1, r.2.2)]).map rwD) := rfl
          rw [decide_eq_true he] at eqi
          rw [← sl] at rs2
          rw [rs1] at nn ix ⊢
          rw [rs2]
          generalize (ini ++ [x]).map rwD = L at *
          have rw1 : rwD (x.1, r.2.1, r.2.2) = .tup [.int x.1, oD r.2.1, .int r.2.2] := rfl
          rw [rw1]
          simp [nn, ix, i0, i2, eqi, atC, kput, ll, slotD, outOf, fAdd, fSub, fMod, fLt, fLe, fGt, fGe, fNeg, fIsN, fNotN, MP.isNon, bAbs, bInt, isInt, isBool, isTup, isStr, bLen, line]
        refine fin _ st (Cv.app c1 ?_) (h3.last he) (by simp) (by simp)
        obtain ⟨xa, xm, xs⟩ := x
        obtain ⟨a, m, s⟩ := r
        cases xm with
        | none =>
          simp only [Cv] at c2
          obtain ⟨_, _, _, z⟩ := c2
          cases z
        | some xm =>
          simp only [Cv] at c2
          obtain ⟨w1, w2, w3, w4⟩ := c2
          have w4 := Option.some.inj w4
          dsimp only at he
          cases m with
          | none =>
            simp only [Cv, Option.map_none] at one ⊢
            refine ⟨w1, fun n hn => ?_, trivial, trivial⟩
            rcases Int.lt_or_le xm n with q | q
            · exact one.2.1 n (by omega)
            · rw [w3 n hn q]; exact he
          | some m0 =>
            simp only [Cv, Option.map_some] at one ⊢
            refine ⟨w1, by have := one.2.1; omega, fun n hn hn2 => ?_, trivial⟩
            rcases Int.lt_or_le xm n with q | q
            · exact one.2.2.1 n (by omega) hn2
            · rw [w3 n hn q]; exact he
      · have st : (mIfS (mAnd (mB fNe (mPk 1) (lPk 1) (mLst maNil) lId) (mB fEq (mB fIx (mB fIx (mPk 1) (lPk 1) (mU fNeg (mC (.int 1)) lId) lId) lId (mC (.int 2)) lId) lId (mPk 4) (lPk 4))) (mSub 1 (mU fNeg (mC (.int 1)) lId) (mTup (maCons (mB fIx (mB fIx (mPk 1) (lPk 1) (mU fNeg (mC (.int 1)) lId) lId) lId (mC (.int 0)) lId) (maCons (mVar 3) (maCons (mVar 4) maNil))))) (mApp 1 (mTup (maCons (mVar 2) (maCons (mVar 3) (maCons (mVar 4) maNil)))))) [F, .ow (rsD (ini ++ [x])), .va (.int r.1), .va (oD r.2.1), .va (.int r.2.2)] = .nx [F, .ow (rsD (ini ++ [x] ++ [r])), .va (.int r.1), .va (oD r.2.1), .va (.int r.2.2)] := by
          have rs1 : rsD (ini ++ [x]) = .lst ((ini ++ [x]).map rwD) := rfl
          have rs2 : rsD (ini ++ [x] ++ [r]) = .lst ((ini ++ [x]).map rwD ++ [.tup [.int r.1, oD r.2.1, .int r.2.2]]) := by simp [rsD, rwD]
          have hlen : ((ini ++ [x]).map rwD).length < 16777216 := by
            rw [List.length_map]
            omega
          rw [decide_eq_false he] at eqi
          rw [rs2]
          rw [rs1] at nn ix ⊢
          generalize (ini ++ [x]).map rwD = L at *
          simp [nn, ix, i0, i2, eqi, atC, kput, hlen, slotD, outOf, fAdd, fSub, fMod, fLt, fLe, fGt, fGe, fNeg, fIsN, fNotN, MP.isNon, bAbs, bInt, isInt, isBool, isTup, isStr, bLen, line]
        exact fin _ st (Cv.app h1 one) (h3.app1 he) (by simp) (by simp)
theorem joined_ok (g : Int → Int) (rs : List Rw) (l : Int) (e : Option Int) (h : Cv g l rs e) (hl : rs.length ≤ 10000) (hne : rs ≠ []) : ∃ rs', run_joined [.va (rsD rs)] = .ok (rsD rs') none ∧ Cv g l rs' e ∧ Dst rs' ∧ rs'.length ≤ rs.length ∧ rs' ≠ [] := by
  obtain ⟨found', t2, t3, t4, e1, e2, e3, e4, e5⟩ := joined_loop g l (.va (rsD rs)) rs [] l e .no .no .no rfl h trivial (by simpa using hl)
  refine ⟨found', ?_, e2, e3, by simpa using e4, e5 (.inr hne)⟩
  have s1 : (mFor (mIt (mVar 0)) (mgTup 3 (mgsCons (mgName 2) (mgsCons (mgName 3) (mgsCons (mgName 4) mgsNil)))) (mIfS (mAnd (mB fNe (mPk 1) (lPk 1) (mLst maNil) lId) (mB fEq (mB fIx (mB fIx (mPk 1) (lPk 1) (mU fNeg (mC (.int 1)) lId) lId) lId (mC (.int 2)) lId) lId (mPk 4) (lPk 4))) (mSub 1 (mU fNeg (mC (.int 1)) lId) (mTup (maCons (mB fIx (mB fIx (mPk 1) (lPk 1) (mU fNeg (mC (.int 1)) lId) lId) lId (mC (.int 0)) lId) (maCons (mVar 3) (maCons (mVar 4) maNil))))) (mApp 1 (mTup (maCons (mVar 2) (maCons (mVar 3) (maCons (mVar 4) maNil))))))) [.va (rsD rs), .ow (rsD []), .no, .no, .no] = .nx [.va (rsD rs), .ow (rsD found'), t2, t3, t4] := for_ok rfl e1
  have s0 : (mOwn 1 (mLst maNil)) [.va (rsD rs), .no, .no, .no, .no] = .nx [.va (rsD rs), .ow (rsD []), .no, .no, .no] := rfl
  have fin : m_joined [.va (rsD rs), .no, .no, .no, .no] = .rt (rsD found') [.va (rsD rs), .va (rsD found'), t2, t3, t4] := seq_nx s0 (seq_nx s1 rfl)
  exact run_rt (n := 1) (tot := 5) (m := m_joined) (args := [.va (rsD rs)]) fin
end GJ

set_option Elab.async false
set_option linter.all false
set_option maxRecDepth 100000
set_option maxHeartbeats 2000000
namespace GJ
open PySem L2 MP

/-! ### far out the sign stays -/
theorem far_sign {A : Nat} : ∀ (c : List Int), (∀ x ∈ c, Bd x A) → ∃ s : Int, (∀ n : Int, 2 ^ A + 1 ≤ n → (ev c n).sign = s) ∧ (s ≠ 0 ∨ ∀ n, ev c n = 0)
  | [], h => ⟨0, fun n _ => rfl, .inr fun n => rfl⟩
  | a :: r, h => by
    obtain ⟨s, h1, h2⟩ := far_sign r (fun x hx => h x (List.mem_cons_of_mem _ hx))
    have ba : (a.natAbs : Int) ≤ 2 ^ A := by
      have := Int.ofNat_le.mpr (h a List.mem_cons_self)
      rw [Int.natCast_pow] at this
      exact this
    have pa : (0 : Int) < 2 ^ A := Int.pow_pos (by decide)
    by_cases hs : s = 0
    · have z : ∀ n, ev r n = 0 := by
        rcases h2 with q | q
        · exact absurd hs q
        · exact q
      refine ⟨a.sign, fun n _ => by simp [ev, z n], ?_⟩
      by_cases ha : a = 0
      · exact .inr fun n => by simp [ev, z n, ha]
      · exact .inl (fun q => ha (Int.sign_eq_zero_iff_zero.mp q))
    · refine ⟨s, fun n hn => ?_, .inl hs⟩
      have e := h1 n hn
      have hE : ev r n ≠ 0 := fun q => hs (by rw [← e, q]; rfl)
      rw [← e]
      simp only [ev]
      rcases Int.lt_or_gt_of_ne hE with q | q
      · have : n * ev r n ≤ n * (-1) := Int.mul_le_mul_of_nonneg_left (by omega) (by omega)
        rw [Int.sign_eq_neg_one_of_neg q, Int.sign_eq_neg_one_of_neg (by omega)]
      · have : n * 1 ≤ n * ev r n := Int.mul_le_mul_of_nonneg_left (by omega) (by omega)
        rw [Int.sign_eq_one_of_pos q, Int.sign_eq_one_of_pos (by omega)]
theorem rows_bound {g : Int → Int} {B : Int} (hg : ∀ n n', B ≤ n → B ≤ n' → g n = g n') : ∀ (rs : List Rw) (l : Int), Cv g l rs none → Dst rs → ∀ a m s, (a, some m, s) ∈ rs → m < B
  | [], l, h, d, a, m, s, hm => by simp at hm
  | (a0, none, s0) :: rs, l, h, d, a, m, s, hm => by
    simp only [Cv] at h
    obtain ⟨_, _, h3, _⟩ := h
    subst h3
    simp at hm
  | (a0, some m0, s0) :: rs, l, h, d, a, m, s, hm => by
    simp only [Cv] at h
    obtain ⟨h1, h2, h3, h4⟩ := h
    rcases List.mem_cons.mp hm with e | hm
    · cases e
      cases rs with
      | nil => simp [Cv] at h4
      | cons r rs =>
        obtain ⟨a2, m2, s2⟩ := r
        have ne : s0 ≠ s2 := d.1
        have g1 : g m0 = s0 := h3 m0 h2 (Int.le_refl _)
        have g2 : g (m0 + 1) = s2 := by
          cases m2 with
          | none =>
            simp only [Cv] at h4
            exact h4.2.1 (m0 + 1) (Int.le_refl _)
          | some m2 =>
            simp only [Cv] at h4
            exact h4.2.2.1 (m0 + 1) (Int.le_refl _) h4.2.1
        rcases Int.lt_or_le m0 B with q | q
        · exact q
        · exact absurd (by rw [← g1, ← g2]; exact hg m0 (m0 + 1) q (by omega)) ne
    · cases rs with
      | nil => simp at hm
      | cons r rs => exact rows_bound hg (r :: rs) (m0 + 1) h4 d.2 a m s hm
theorem sign_cases (x : Int) : x.sign = 1 ∨ x.sign = -1 ∨ x.sign = 0 := by
  rcases Int.lt_trichotomy x 0 with q | q | q
  · exact .inr (.inl (Int.sign_eq_neg_one_of_neg q))
  · subst q; exact .inr (.inr rfl)
  · exact .inl (Int.sign_eq_one_of_pos q)
/-- where the steps are of one sign for good -/
theorem far_top {c : List Int} {A : Nat} (hc : ∀ x ∈ c, Bd x A) {w least : Int} (hw : w = 1 ∨ w = -1) (dl : ∀ n, least ≤ n → (ev c (n + 1) - ev c n).sign = w) (K : Nat) (hK : A + 1 ≤ K) (hl : least ≤ 2 ^ K) (x : Int) (hx : 2 ^ K ≤ x) : 1 ≤ w * ev c x := by
  obtain ⟨s, h1, _⟩ := far_sign c hc
  have pk := p2 (A + 1) K hK
  have pa : (2 : Int) ^ (A + 1) = 2 * 2 ^ A := by rw [Int.pow_succ]; omega
  have p0 : (0 : Int) < 2 ^ A := Int.pow_pos (by decide)
  have up : ∀ (k : Nat), w * ev c x + k ≤ w * ev c (x + k) := fun k => by
    induction k with
    | zero => simp
    | succ k ih =>
      have := dl (x + k) (by omega)
      rw [show (x + ((k + 1 : Nat) : Int)) = x + k + 1 by omega]
      rcases hw with e | e
      · subst e
        have := Int.sign_eq_one_iff_pos.mp this
        omega
      · subst e
        have := Int.sign_eq_neg_one_iff_neg.mp this
        omega
  rcases Int.lt_or_le (w * ev c x) 1 with q | q
  · have u := up (1 + (w * ev c x).natAbs)
    have f1 : 1 ≤ w * ev c (x + ((1 + (w * ev c x).natAbs : Nat) : Int)) := by omega
    have s1 := h1 x (by omega)
    have s2 := h1 (x + ((1 + (w * ev c x).natAbs : Nat) : Int)) (by omega)
    generalize x + ((1 + (w * ev c x).natAbs : Nat) : Int) = y at *
    rcases hw with e | e
    · subst e
      have : (ev c y).sign = 1 := Int.sign_eq_one_of_pos (by omega)
      rw [s2] at this
      rw [this] at s1
      have := Int.sign_eq_one_iff_pos.mp s1
      omega
    · subst e
      have : (ev c y).sign = -1 := Int.sign_eq_neg_one_of_neg (by omega)
      rw [s2] at this
      rw [this] at s1
      have := Int.sign_eq_neg_one_iff_neg.mp s1
      omega
  · exact q
end GJ

set_option Elab.async false
set_option linter.all false
set_option maxRecDepth 100000
set_option maxHeartbeats 2000000
namespace GJ
open PySem L2 MP

theorem allFlat_ints : ∀ xs : List Int, allFlat (xs.map D.int) = true
  | [] => rfl
  | x :: xs => by simp [allFlat, flatD, allFlat_ints xs]
theorem anyEq_ints (x : Int) : ∀ xs : List Int, anyEq (.int x) (xs.map D.int) = decide (x ∈ xs)
  | [] => by simp [anyEq]
  | y :: ys => by
    have ih := anyEq_ints x ys
    simp only [List.map_cons, anyEq, eqD, ih]
    by_cases h : x = y
    · subst h; simp
    · have h' : ¬ y = x := fun e => h e.symm
      simp [h, h']
theorem notin_ints (x : Int) (xs : List Int) : fNotIn (.int x) (nD xs) = some (.bl (!decide (x ∈ xs))) := by
  simp [fNotIn, inOf, nD, flatD, allFlat_ints, anyEq_ints]
theorem intsOf_map : ∀ xs : List Int, intsOf (xs.map D.int) = some xs
  | [] => rfl
  | x :: xs => by simp [intsOf, intsOf_map xs]
theorem bSum_ints (xs : List Int) : bSum [nD xs] = some (.int xs.sum) := by simp [bSum, nD, intsOf_map]
/-- all signs not below nought -/
theorem ev_nonneg : ∀ (c : List Int) (n : Int), 1 ≤ n → (∀ x ∈ c, 0 ≤ x) → 0 ≤ ev c n ∧ ((∃ x ∈ c, 0 < x) → 0 < ev c n)
  | [], n, hn, h => ⟨by simp [ev], fun ⟨x, hx, _⟩ => by simp at hx⟩
  | a :: r, n, hn, h => by
    obtain ⟨h1, h2⟩ := ev_nonneg r n hn (fun x hx => h x (List.mem_cons_of_mem _ hx))
    have ha := h a List.mem_cons_self
    have e1 : 0 ≤ n * ev r n := Int.mul_nonneg (by omega) h1
    simp only [ev]
    refine ⟨by omega, fun ⟨x, hx, hp⟩ => ?_⟩
    rcases List.mem_cons.mp hx with e | hx
    · omega
    · have := h2 ⟨x, hx, hp⟩
      have : 0 < n * ev r n := Int.mul_pos (by omega) this
      omega
theorem ev_neg : ∀ (c : List Int) (n : Int), ev (c.map fun x => -x) n = - ev c n
  | [], n => by simp [ev]
  | a :: r, n => by
    simp only [List.map_cons, ev, ev_neg r n]
    grind
theorem sum_signs : ∀ (c : List Int), (∀ x ∈ c, 0 ≤ x) → (c.map Int.sign).sum = ((c.map Int.sign).filter fun x => !decide (x = 0)).length ∧ ((∃ x ∈ c, 0 < x) ↔ 0 < ((c.map Int.sign).filter fun x => !decide (x = 0)).length)
  | [], h => by simp
  | a :: r, h => by
    obtain ⟨h1, h2⟩ := sum_signs r (fun x hx => h x (List.mem_cons_of_mem _ hx))
    have ha := h a List.mem_cons_self
    rcases Int.lt_or_eq_of_le ha with q | q
    · have s1 : a.sign = 1 := Int.sign_eq_one_of_pos q
      rw [List.map_cons, List.sum_cons, s1, List.filter_cons_of_pos (by simp), List.length_cons, h1]
      exact ⟨by omega, ⟨fun _ => by omega, fun _ => ⟨a, List.mem_cons_self, q⟩⟩⟩
    · have s1 : a.sign = 0 := by rw [← q]; rfl
      rw [List.map_cons, List.sum_cons, s1, List.filter_cons_of_neg (by simp), h1]
      refine ⟨by omega, ?_⟩
      rw [← h2]
      constructor
      · rintro ⟨x, hx, hp⟩
        rcases List.mem_cons.mp hx with e | hx
        · omega
        · exact ⟨x, hx, hp⟩
      · rintro ⟨x, hx, hp⟩
        exact ⟨x, List.mem_cons_of_mem _ hx, hp⟩
theorem sign_neg_map (c : List Int) : (c.map fun x => -x).map Int.sign = (c.map Int.sign).map fun x => -x := by
  rw [List.map_map, List.map_map]
  congr 1
  funext x
  simp [Int.sign_neg]
theorem sum_neg : ∀ xs : List Int, (xs.map fun x => -x).sum = - xs.sum
  | [] => rfl
  | x :: xs => by simp only [List.map_cons, List.sum_cons, sum_neg xs]; omega
theorem filt_neg : ∀ xs : List Int, ((xs.map fun x => -x).filter fun x => !decide (x = 0)).length = (xs.filter fun x => !decide (x = 0)).length
  | [] => rfl
  | x :: xs => by
    have e : (-x = 0) ↔ (x = 0) := by omega
    simp only [List.map_cons, List.filter_cons, e]
    split <;> simp [filt_neg xs]
/-- all of one sign -/
theorem base_sign (c : List Int) (h : -1 ∉ c.map Int.sign ∨ 1 ∉ c.map Int.sign) : ∀ n : Int, 1 ≤ n → (ev c n).sign = (c.map Int.sign).sum / (if 1 < (((c.map Int.sign).filter fun x => !decide (x = 0)).length : Int) then (((c.map Int.sign).filter fun x => !decide (x = 0)).length : Int) else 1) := by
  intro n hn
  have key : ∀ c : List Int, (∀ x ∈ c, 0 ≤ x) → (ev c n).sign = (c.map Int.sign).sum / (if 1 < (((c.map Int.sign).filter fun x => !decide (x = 0)).length : Int) then (((c.map Int.sign).filter fun x => !decide (x = 0)).length : Int) else 1) ∧ (ev c n).sign = if 0 < ((c.map Int.sign).filter fun x => !decide (x = 0)).length then 1 else 0 := fun c hc => by
    obtain ⟨h1, h2⟩ := ev_nonneg c n hn hc
    obtain ⟨s1, s2⟩ := sum_signs c hc
    rw [s1]
    generalize ((c.map Int.sign).filter fun x => !decide (x = 0)).length = k at *
    by_cases hk : 0 < k
    · have e := Int.sign_eq_one_of_pos (h2 (s2.mpr hk))
      rw [e, if_pos hk]
      refine ⟨?_, rfl⟩
      by_cases h3 : (1 : Int) < (k : Int)
      · rw [if_pos h3, Int.ediv_self (by omega)]
      · rw [if_neg h3]; omega
    · have z : ev c n = 0 := by
        have : ∀ x ∈ c, x = 0 := fun x hx => by
          rcases Int.lt_or_eq_of_le (hc x hx) with q | q
          · exact absurd (s2.mp ⟨x, hx, q⟩) hk
          · omega
        clear h2 s1 s2 h1 h hc
        induction c with
        | nil => rfl
        | cons a r ih =>
          simp only [ev]
          rw [this a List.mem_cons_self, ih (fun x hx => this x (List.mem_cons_of_mem _ hx))]
          simp
      rw [z, if_neg hk]
      have : k = 0 := by omega
      subst this
      simp
  rcases h with h | h
  · refine (key c fun x hx => ?_).1
    rcases Int.lt_or_le x 0 with q | q
    · exact absurd (List.mem_map.mpr ⟨x, hx, Int.sign_eq_neg_one_of_neg q⟩) h
    · exact q
  · have hc' : ∀ x ∈ c.map (fun x => -x), 0 ≤ x := fun x hx => by
      obtain ⟨y, hy, rfl⟩ := List.mem_map.mp hx
      rcases Int.lt_or_le 0 y with q | q
      · exact absurd (List.mem_map.mpr ⟨y, hy, Int.sign_eq_one_of_pos q⟩) h
      · omega
    obtain ⟨k1, k2⟩ := key (c.map fun x => -x) hc'
    obtain ⟨s1, _⟩ := sum_signs (c.map fun x => -x) hc'
    rw [ev_neg, Int.sign_neg] at k2
    rw [sign_neg_map, filt_neg] at k2
    rw [sign_neg_map, sum_neg, filt_neg] at s1
    generalize (c.map Int.sign).sum = S at *
    generalize ((c.map Int.sign).filter fun x => !decide (x = 0)).length = k at *
    have hS : S = (-1) * (k : Int) := by omega
    rw [hS]
    by_cases hk : 0 < k
    · rw [if_pos hk] at k2
      have e : (ev c n).sign = -1 := by omega
      rw [e]
      by_cases h3 : (1 : Int) < (k : Int)
      · rw [if_pos h3, Int.mul_ediv_cancel _ (by omega)]
      · rw [if_neg h3]; omega
    · rw [if_neg hk] at k2
      have h3 : ¬ (1 : Int) < (k : Int) := by omega
      rw [if_neg h3]
      omega
end GJ

set_option Elab.async false
set_option linter.all false
set_option maxRecDepth 100000
set_option maxHeartbeats 2000000
namespace GJ
open PySem L2 MP

theorem main_loop {c : List Int} {A : Nat} (h : Cf c A) (S : Sl) (self : UF) (K : Nat) (hK : K ≤ 11000) (hA : A + 1 ≤ K) : ∀ (rs found : List Rw) (l : Int) (s3 s4 s5 s6 s7 : Sl), Cv (fun n => (ev c (n + 1) - ev c n).sign) l rs none → 1 ≤ l → l ≤ 2 ^ K → (∀ a m s, (a, some m, s) ∈ rs → m + 1 ≤ 2 ^ K) → Cv (fun n => (ev c n).sign) 1 found (some l) → found.length + 3 * rs.length ≤ 100000 →
    ∃ (found' : List Rw) (t3 t4 t5 : Sl), forGo (mgTup 3 (mgsCons (mgName 3) (mgsCons (mgName 4) (mgsCons (mgName 5) mgsNil)))) (mSet 2 (mB fAdd (mPk 2) (lPk 2) (mUser run_cut_stretch (maCons (mVar 0) (maCons (mVar 3) (maCons (mVar 4) (maCons (mCall bInt (maCons (mPk 5) maNil) (laCons (lPk 5) laNil)) maNil))))) lId)) (rs.map rwD) [.va (nD c), S, .va (rsD found), s3, s4, s5, s6, s7] = .nx [.va (nD c), S, .va (rsD found'), t3, t4, t5, s6, s7] ∧ Cv (fun n => (ev c n).sign) 1 found' none ∧ found'.length ≤ found.length + 3 * rs.length
  | [], found, l, s3, s4, s5, s6, s7, h1, h2, h3, h4, h5, h6 => by
    simp only [Cv] at h1
    cases h1
  | (a, m, s) :: rs, found, l, s3, s4, s5, s6, s7, h1, h2, h3, h4, h5, h6 => by
    simp only [List.length_cons] at h6
    obtain ⟨ha, hs, hrow, hrest⟩ : a = l ∧ (s = 1 ∨ s = -1 ∨ s = 0) ∧ ((∀ m', m = some m' → l ≤ m') ∧ ∀ n, l ≤ n → (∀ m', m = some m' → n ≤ m') → (ev c (n + 1) - ev c n).sign = s) ∧ (match m with | none => rs = [] | some m' => Cv (fun n => (ev c (n + 1) - ev c n).sign) (m' + 1) rs none) := by
      cases m with
      | none =>
        simp only [Cv] at h1
        obtain ⟨q1, q2, q3, q4⟩ := h1
        exact ⟨q1, by rw [← q2 l (Int.le_refl _)]; exact sign_cases _, ⟨fun m' hm' => (by cases hm'), fun n hn _ => q2 n hn⟩, q3⟩
      | some m' =>
        simp only [Cv] at h1
        obtain ⟨q1, q2, q3, q4⟩ := h1
        exact ⟨q1, by rw [← q3 l (Int.le_refl _) q2]; exact sign_cases _, ⟨fun m2 hm2 => (by cases hm2; exact q2), fun n hn hn2 => q3 n hn (hn2 m' rfl)⟩, q4⟩
    subst ha
    obtain ⟨rows, e1, e2, e3⟩ := cut_ok h a m s hs h2 K hK h3 (fun m' hm' => ⟨hrow.1 m' hm', by subst hm'; have := h4 a m' s List.mem_cons_self; omega⟩) hrow.2 (fun hm hs0 x hx => by
      subst hm
      refine far_top h.b (by rcases hs with q | q | q; exact .inl q; exact .inr q; exact absurd q hs0) (fun n hn => hrow.2 n hn (fun m' hm' => by cases hm')) K hA h3 x hx)
    have st : (mSet 2 (mB fAdd (mPk 2) (lPk 2) (mUser run_cut_stretch (maCons (mVar 0) (maCons (mVar 3) (maCons (mVar 4) (maCons (mCall bInt (maCons (mPk 5) maNil) (laCons (lPk 5) laNil)) maNil))))) lId)) [.va (nD c), S, .va (rsD found), .va (.int a), .va (oD m), .va (.int s), s6, s7] = .nx [.va (nD c), S, .va (rsD (found ++ rows)), .va (.int a), .va (oD m), .va (.int s), s6, s7] := by
      have add : fAdd (rsD found) (rsD rows) = some (rsD (found ++ rows)) := by
        have : found.length + rows.length ≤ 16777216 := by omega
        simp [fAdd, rsD, line, this]
      generalize rsD found = X at *
      generalize rsD rows = Y at *
      generalize rsD (found ++ rows) = Z at *
      simp only [mSet_ap, mB_ap, mPk_ap, mUser_ap, maCons_ap, maNil_ap, mCall_ap, laCons_ap, laNil_ap, lPk_ap, lId_ap]
      simp [slotD, bInt, e1, add, nD] at e1 ⊢
    have tg : (mgTup 3 (mgsCons (mgName 3) (mgsCons (mgName 4) (mgsCons (mgName 5) mgsNil)))) (rwD (a, m, s)) [.va (nD c), S, .va (rsD found), s3, s4, s5, s6, s7] = some [.va (nD c), S, .va (rsD found), .va (.int a), .va (oD m), .va (.int s), s6, s7] := rfl
    have go : forGo (mgTup 3 (mgsCons (mgName 3) (mgsCons (mgName 4) (mgsCons (mgName 5) mgsNil)))) (mSet 2 (mB fAdd (mPk 2) (lPk 2) (mUser run_cut_stretch (maCons (mVar 0) (maCons (mVar 3) (maCons (mVar 4) (maCons (mCall bInt (maCons (mPk 5) maNil) (laCons (lPk 5) laNil)) maNil))))) lId)) (((a, m, s) :: rs).map rwD) [.va (nD c), S, .va (rsD found), s3, s4, s5, s6, s7] = forGo (mgTup 3 (mgsCons (mgName 3) (mgsCons (mgName 4) (mgsCons (mgName 5) mgsNil)))) (mSet 2 (mB fAdd (mPk 2) (lPk 2) (mUser run_cut_stretch (maCons (mVar 0) (maCons (mVar 3) (maCons (mVar 4) (maCons (mCall bInt (maCons (mPk 5) maNil) (laCons (lPk 5) laNil)) maNil))))) lId)) (rs.map rwD) [.va (nD c), S, .va (rsD (found ++ rows)), .va (.int a), .va (oD m), .va (.int s), s6, s7] := by
      rw [List.map_cons]
      conv => lhs; unfold forGo
      rw [tg]
      dsimp only
      rw [st]
    rw [go]
    cases m with
    | none =>
      have hr : rs = [] := hrest
      rw [hr]
      exact ⟨found ++ rows, .va (.int a), .va (oD none), .va (.int s), by simp [forGo], Cv.app h5 e2, by simp; omega⟩
    | some m' =>
      obtain ⟨found', t3, t4, t5, f1, f2, f3⟩ := main_loop h S self K hK hA rs (found ++ rows) (m' + 1) (.va (.int a)) (.va (oD (some m'))) (.va (.int s)) s6 s7 hrest (by have := hrow.1 m' rfl; omega) (h4 a m' s List.mem_cons_self) (fun a2 m2 s2 hm2 => h4 a2 m2 s2 (List.mem_cons_of_mem _ hm2)) (Cv.app h5 e2) (by rw [List.length_append]; omega)
      exact ⟨found', t3, t4, t5, f1, f2, by rw [List.length_append] at f3; simp only [List.length_cons]; omega⟩
theorem signs_st0 (c : List Int) (self : UF) (hl : c.length ≤ 100) : (mSet 1 (mAsV (mLc (mIt (mVar 0)) [6] (mgName 6) mYes (mUser run_sign (maCons (mVar 6) maNil))))) [.va (nD c), .no, .no, .no, .no, .no, .no, .no] = .nx [.va (nD c), .va (nD (c.map Int.sign)), .no, .no, .no, .no, .no, .no] := by
  have lc := lc_all (mg := (mgName 6)) (me := (mUser run_sign (maCons (mVar 6) maNil))) (benv := [.va (nD c), .no, .no, .no, .no, .no, .no, .no]) (h := fun d => match d with | .int x => .int x.sign | _ => .non) (ds := c.map D.int) (fun d hd => by
    obtain ⟨x, _, rfl⟩ := List.mem_map.mp hd
    exact ⟨[.va (nD c), .no, .no, .no, .no, .no, .va (.int x), .no], [.va (nD c), .no, .no, .no, .no, .no, .va (.int x), .no], by simp, by simp [sign_ok]⟩)
  rw [List.map_map] at lc
  have e : ((fun d => match d with | .int x => D.int x.sign | _ => .non) ∘ D.int) = fun x => D.int (Int.sign x) := rfl
  rw [e] at lc
  have hlen : (c.map D.int).length < 16777216 := by rw [List.length_map]; omega
  have e2 : nD (c.map Int.sign) = .lst (c.map fun x => D.int (Int.sign x)) := by simp [nD]
  rw [e2]
  have e3 : nD c = .lst (c.map D.int) := rfl
  rw [e3] at lc ⊢
  generalize c.map D.int = L at *
  simp [wipeE, roE, line, hlen]
  rw [lc]
  simp
end GJ

set_option Elab.async false
set_option linter.all false
set_option maxRecDepth 100000
set_option maxHeartbeats 2000000
namespace GJ
open PySem L2 MP

theorem pow2two (m : Nat) : (2 : Int) ^ m * 4 = 2 ^ (m + 2) := by
  rw [Int.pow_succ, Int.pow_succ]
  omega
theorem if_tt {mc : ME} {a b : MS} {e e1 : Ev} {r : RS} (h : mc e = .ok (.bl true) e1) (h2 : a e1 = r) : mIfS mc a b e = r := by
  unfold mIfS
  rw [h]
  exact h2
theorem if_ff {mc : ME} {a b : MS} {e e1 : Ev} {r : RS} (h : mc e = .ok (.bl false) e1) (h2 : b e1 = r) : mIfS mc a b e = r := by
  unfold mIfS
  rw [h]
  exact h2
theorem base_val (c : List Int) (self : UF) (hl : c.length ≤ 100) (rest : List Sl) (hr : rest.length = 5) (S : List Int) (hS : S.length ≤ 100) (hb : -1 ∉ S ∨ 1 ∉ S) :
    (mIfS (mOr (mB fNotIn (mU fNeg (mC (.int 1)) lId) lId (mPk 1) (lPk 1)) (mB fNotIn (mC (.int 1)) lId (mPk 1) (lPk 1))) (mRet (mLst (maCons (mTup (maCons (mC (.int 1)) (maCons (mC .non) (maCons (mB fDiv (mCall bSum (maCons (mPk 1) maNil) (laCons (lPk 1) laNil)) lId (mCall bMax (maCons (mC (.int 1)) (maCons (mCall bLen (maCons (mAsV (mLc (mIt (mVar 1)) [7] (mgName 7) (mB fNe (mPk 7) (lPk 7) (mC (.int 0)) lId) (mVar 7))) maNil) (laCons lId laNil)) maNil)) (laCons lId (laCons lId laNil))) lId) maNil)))) maNil))) mSkip) [.va (nD c), .va (nD S), .no, .no, .no, .no, .no, .no] = .rt (rsD [(1, none, S.sum / (if 1 < ((S.filter fun x => !decide (x = 0)).length : Int) then ((S.filter fun x => !decide (x = 0)).length : Int) else 1))]) [.va (nD c), .va (nD S), .no, .no, .no, .no, .no, .no] := by
  have n1 := notin_ints (-1) S
  have n2 := notin_ints 1 S
  have cnd : (!decide (-1 ∈ S)) = true ∨ (!decide (1 ∈ S)) = true := by
    rcases hb with h | h
    · exact .inl (by simp [h])
    · exact .inr (by simp [h])
  have lc := lc_gen (mg := (mgName 7)) (mt := (mB fNe (mPk 7) (lPk 7) (mC (.int 0)) lId)) (me := (mVar 7)) (benv := [.va (nD c), .va (nD S), .no, .no, .no, .no, .no, .no]) (h := fun d => d) (g := fun d => match d with | .int x => !decide (x = 0) | _ => false) (ds := S.map D.int) (acc := []) (fun d hd => by
    obtain ⟨x, _, rfl⟩ := List.mem_map.mp hd
    exact ⟨[.va (nD c), .va (nD S), .no, .no, .no, .no, .no, .va (.int x)], [.va (nD c), .va (nD S), .no, .no, .no, .no, .no, .va (.int x)], [.va (nD c), .va (nD S), .no, .no, .no, .no, .no, .va (.int x)], by simp, by simp [fNe, okD, eqD, slotD, outOf, fAdd, fSub, fMod, fLt, fLe, fGt, fGe, fNeg, fIsN, fNotN, MP.isNon, bAbs, bInt, isInt, isBool, isTup, isStr, bLen, line], fun _ => by simp⟩)
  rw [List.nil_append, List.map_id', List.filter_map] at lc
  have e : ((fun d => match d with | .int x => !decide (x = 0) | _ => false) ∘ D.int) = fun x => !decide (x = 0) := rfl
  rw [e] at lc
  have hfl : (S.filter fun x => !decide (x = 0)).length ≤ 100 := Nat.le_trans (List.length_filter_le _ _) hS
  have hlen : (S.map D.int).length < 16777216 := by rw [List.length_map]; omega
  have sm := bSum_ints S
  have dv : fDiv (.int S.sum) (.int (if 1 < ((S.filter fun x => !decide (x = 0)).length : Int) then ((S.filter fun x => !decide (x = 0)).length : Int) else 1)) = some (.int (S.sum / (if 1 < ((S.filter fun x => !decide (x = 0)).length : Int) then ((S.filter fun x => !decide (x = 0)).length : Int) else 1))) := by
    refine fDiv_ok (b := 10) (by split <;> omega) ?_ (by decide)
    unfold Bd
    split <;> simp <;> omega
  have mx : bMax [.int 1, .int ((S.filter fun x => !decide (x = 0)).length : Int)] = some (.int (if 1 < ((S.filter fun x => !decide (x = 0)).length : Int) then ((S.filter fun x => !decide (x = 0)).length : Int) else 1)) := by
    simp [bMax]
  have ln : bLen [.lst ((S.filter fun x => !decide (x = 0)).map D.int)] = some (.int ((S.filter fun x => !decide (x = 0)).length : Int)) := by simp [bLen]
  generalize hq : (if 1 < ((S.filter fun x => !decide (x = 0)).length : Int) then ((S.filter fun x => !decide (x = 0)).length : Int) else 1) = Q at *
  generalize hk : ((S.filter fun x => !decide (x = 0)).length : Int) = k at *
  generalize hf : ((S.filter fun x => !decide (x = 0)).map D.int) = FL at *
  have e3 : nD S = .lst (S.map D.int) := rfl
  have lc' := lc
  rw [e3] at n1 n2 lc' sm ⊢
  generalize hL : S.map D.int = L at *
  generalize nD c = CD at *
  refine if_tt (e1 := [.va CD, .va (.lst L), .no, .no, .no, .no, .no, .no]) ?_ ?_
  · rcases cnd with q | q
    · rw [q] at n1
      simp [n1, slotD, outOf, fAdd, fSub, fMod, fLt, fLe, fGt, fGe, fNeg, fIsN, fNotN, MP.isNon, bAbs, bInt, isInt, isBool, isTup, isStr, bLen, line]
    · rw [q] at n2
      cases q2 : (!decide (-1 ∈ S)) with
      | true =>
        rw [q2] at n1
        simp [n1, slotD, outOf, fAdd, fSub, fMod, fLt, fLe, fGt, fGe, fNeg, fIsN, fNotN, MP.isNon, bAbs, bInt, isInt, isBool, isTup, isStr, bLen, line]
      | false =>
        rw [q2] at n1
        simp [n1, n2, slotD, outOf, fAdd, fSub, fMod, fLt, fLe, fGt, fGe, fNeg, fIsN, fNotN, MP.isNon, bAbs, bInt, isInt, isBool, isTup, isStr, bLen, line]
  · simp [wipeE, roE, line, hlen, sm, slotD]
    rw [lc']
    simp [ln, mx, dv, rsD, rwD, oD]
theorem not_base (c : List Int) (self : UF) (S : List Int) (h1 : -1 ∈ S) (h2 : 1 ∈ S) : (mIfS (mOr (mB fNotIn (mU fNeg (mC (.int 1)) lId) lId (mPk 1) (lPk 1)) (mB fNotIn (mC (.int 1)) lId (mPk 1) (lPk 1))) (mRet (mLst (maCons (mTup (maCons (mC (.int 1)) (maCons (mC .non) (maCons (mB fDiv (mCall bSum (maCons (mPk 1) maNil) (laCons (lPk 1) laNil)) lId (mCall bMax (maCons (mC (.int 1)) (maCons (mCall bLen (maCons (mAsV (mLc (mIt (mVar 1)) [7] (mgName 7) (mB fNe (mPk 7) (lPk 7) (mC (.int 0)) lId) (mVar 7))) maNil) (laCons lId laNil)) maNil)) (laCons lId (laCons lId laNil))) lId) maNil)))) maNil))) mSkip) [.va (nD c), .va (nD S), .no, .no, .no, .no, .no, .no] = .nx [.va (nD c), .va (nD S), .no, .no, .no, .no, .no, .no] := by
  have n1 := notin_ints (-1) S
  have n2 := notin_ints 1 S
  rw [decide_eq_true h1] at n1
  rw [decide_eq_true h2] at n2
  generalize nD c = CD at *
  generalize nD S = SD at *
  refine if_ff (e1 := [.va CD, .va SD, .no, .no, .no, .no, .no, .no]) ?_ rfl
  simp [n1, n2, slotD, outOf, fAdd, fSub, fMod, fLt, fLe, fGt, fGe, fNeg, fIsN, fNotN, MP.isNon, bAbs, bInt, isInt, isBool, isTup, isStr, bLen, line]
def good_rows (c : List Int) (rs : List Rw) : Prop := Cv (fun n => (ev c n).sign) 1 rs none ∧ Dst rs ∧ rs ≠ [] ∧ rs.length ≤ 3 ^ c.length
theorem signs_ok : ∀ (d : Nat) (c : List Int) (A : Nat), c.length ≤ d → c.length ≤ 8 → A + 110 * c.length ≤ 8000 → (∀ x ∈ c, Bd x A) → ∃ rs, run_signs_of (d + 1) [.va (nD c)] = .ok (rsD rs) none ∧ good_rows c rs := by
  intro d
  induction d with
  | zero =>
    intro c A h1 h2 h3 h4
    have hc : c = [] := List.eq_nil_of_length_eq_zero (by omega)
    subst hc
    have s0 := signs_st0 [] (run_signs_of 0) (by simp)
    have s1 := base_val [] (run_signs_of 0) (by simp) [.no, .no, .no, .no, .no] rfl [] (by simp) (.inl (by simp))
    have fin := seq_nx (b := mSeq (mIfS (mOr (mB fNotIn (mU fNeg (mC (.int 1)) lId) lId (mPk 1) (lPk 1)) (mB fNotIn (mC (.int 1)) lId (mPk 1) (lPk 1))) (mRet (mLst (maCons (mTup (maCons (mC (.int 1)) (maCons (mC .non) (maCons (mB fDiv (mCall bSum (maCons (mPk 1) maNil) (laCons (lPk 1) laNil)) lId (mCall bMax (maCons (mC (.int 1)) (maCons (mCall bLen (maCons (mAsV (mLc (mIt (mVar 1)) [7] (mgName 7) (mB fNe (mPk 7) (lPk 7) (mC (.int 0)) lId) (mVar 7))) maNil) (laCons lId laNil)) maNil)) (laCons lId (laCons lId laNil))) lId) maNil)))) maNil))) mSkip) (mSeq (mSet 2 (mLst maNil)) (mSeq (mFor (mIt (mUser (run_signs_of 0) (maCons (mUser run_step_of (maCons (mVar 0) maNil)) maNil))) (mgTup 3 (mgsCons (mgName 3) (mgsCons (mgName 4) (mgsCons (mgName 5) mgsNil)))) (mSet 2 (mB fAdd (mPk 2) (lPk 2) (mUser run_cut_stretch (maCons (mVar 0) (maCons (mVar 3) (maCons (mVar 4) (maCons (mCall bInt (maCons (mPk 5) maNil) (laCons (lPk 5) laNil)) maNil))))) lId))) (mRet (mUser run_joined (maCons (mVar 2) maNil)))))) s0 (seq_rt s1)
    refine ⟨_, run_rt (n := 1) (tot := 8) (m := m_signs_of (run_signs_of 0)) (args := [.va (nD [])]) fin, ?_, trivial, by simp, by simp⟩
    simp only [Cv]
    exact ⟨trivial, fun n hn => by rw [base_sign [] (.inl (by simp)) n hn]; rfl, trivial, trivial⟩
  | succ d ih =>
    intro c A h1 h2 h3 h4
    have s0 := signs_st0 c (run_signs_of (d + 1)) (by omega)
    by_cases hb : -1 ∉ c.map Int.sign ∨ 1 ∉ c.map Int.sign
    · have s1 := base_val c (run_signs_of (d + 1)) (by omega) [.no, .no, .no, .no, .no] rfl (c.map Int.sign) (by rw [List.length_map]; omega) hb
      have fin := seq_nx (b := mSeq (mIfS (mOr (mB fNotIn (mU fNeg (mC (.int 1)) lId) lId (mPk 1) (lPk 1)) (mB fNotIn (mC (.int 1)) lId (mPk 1) (lPk 1))) (mRet (mLst (maCons (mTup (maCons (mC (.int 1)) (maCons (mC .non) (maCons (mB fDiv (mCall bSum (maCons (mPk 1) maNil) (laCons (lPk 1) laNil)) lId (mCall bMax (maCons (mC (.int 1)) (maCons (mCall bLen (maCons (mAsV (mLc (mIt (mVar 1)) [7] (mgName 7) (mB fNe (mPk 7) (lPk 7) (mC (.int 0)) lId) (mVar 7))) maNil) (laCons lId laNil)) maNil)) (laCons lId (laCons lId laNil))) lId) maNil)))) maNil))) mSkip) (mSeq (mSet 2 (mLst maNil)) (mSeq (mFor (mIt (mUser (run_signs_of (d + 1)) (maCons (mUser run_step_of (maCons (mVar 0) maNil)) maNil))) (mgTup 3 (mgsCons (mgName 3) (mgsCons (mgName 4) (mgsCons (mgName 5) mgsNil)))) (mSet 2 (mB fAdd (mPk 2) (lPk 2) (mUser run_cut_stretch (maCons (mVar 0) (maCons (mVar 3) (maCons (mVar 4) (maCons (mCall bInt (maCons (mPk 5) maNil) (laCons (lPk 5) laNil)) maNil))))) lId))) (mRet (mUser run_joined (maCons (mVar 2) maNil)))))) s0 (seq_rt s1)
      refine ⟨_, run_rt (n := 1) (tot := 8) (m := m_signs_of (run_signs_of (d + 1))) (args := [.va (nD c)]) fin, ?_, trivial, by simp, by simp; exact Nat.one_le_pow _ _ (by decide)⟩
      simp only [Cv]
      exact ⟨trivial, fun n hn => base_sign c hb n hn, trivial, trivial⟩
    · have hb1 : -1 ∈ c.map Int.sign := Decidable.byContradiction fun q => hb (.inl q)
      have hb2 : 1 ∈ c.map Int.sign := Decidable.byContradiction fun q => hb (.inr q)
      have hlen : 2 ≤ c.length := by
        match c, hb1, hb2 with
        | [], q, _ => simp at q
        | [x], q1, q2 =>
          simp at q1 q2
          omega
        | _ :: _ :: _, _, _ => simp
      obtain ⟨k, hk⟩ : ∃ k, c.length = k + 2 := ⟨c.length - 2, by omega⟩
      obtain ⟨c', e1, e2, e3, e4⟩ := step_ok c h4 (by omega) (by omega) k hk
      obtain ⟨rs', r1, g1, g2, g3, g4⟩ := ih c' (A + 100) (by omega) (by omega) (by omega) e3
      have ee : (fun n => (ev c' n).sign) = fun n => (ev c (n + 1) - ev c n).sign := funext fun n => by rw [e4 n]
      have g1' := g1
      rw [ee] at g1'
      have cf : Cf c A := ⟨h4, by omega, by omega⟩
      have fb := far_sign c' e3
      obtain ⟨sg, fs, _⟩ := fb
      have pk : (2 : Int) ^ (A + 100) * 4 = 2 ^ (A + 102) := by
        have q := pow2two (A + 100)
        rwa [show A + 100 + 2 = A + 102 by omega] at q
      have p0 : (0 : Int) < 2 ^ (A + 100) := Int.pow_pos (by decide)
      have bnd := rows_bound (g := fun n => (ev c' n).sign) (B := 2 ^ (A + 100) + 1) (fun n n' hn hn' => by rw [fs n hn, fs n' hn']) rs' 1 g1 g2
      have l3 : rs'.length ≤ 3 ^ 7 := Nat.le_trans g4 (Nat.pow_le_pow_right (by decide) (by omega))
      have l4 : (3 : Nat) ^ 7 = 2187 := by decide
      obtain ⟨found', t3, t4, t5, f1, f2, f3⟩ := main_loop cf (.va (nD (c.map Int.sign))) (run_signs_of (d + 1)) (A + 102) (by omega) (by omega) rs' [] 1 .no .no .no .no .no g1' (Int.le_refl _) (by omega) (fun a m s hm => by have := bnd a m s hm; omega) rfl (by simp; omega)
      simp only [List.length_nil] at f3
      have fne : found' ≠ [] := by intro z; rw [z] at f2; simp [Cv] at f2
      obtain ⟨rs, j1, j2, j3, j4, j5⟩ := joined_ok (fun n => (ev c n).sign) found' 1 none f2 (by omega) fne
      refine ⟨rs, ?_, j2, j3, j5, ?_⟩
      · have s1 := not_base c (run_signs_of (d + 1)) (c.map Int.sign) hb1 hb2
        have s2 : (mSet 2 (mLst maNil)) [.va (nD c), .va (nD (c.map Int.sign)), .no, .no, .no, .no, .no, .no] = .nx [.va (nD c), .va (nD (c.map Int.sign)), .va (rsD []), .no, .no, .no, .no, .no] := rfl
        have it : mIt (mUser (run_signs_of (d + 1)) (maCons (mUser run_step_of (maCons (mVar 0) maNil)) maNil)) [.va (nD c), .va (nD (c.map Int.sign)), .va (rsD []), .no, .no, .no, .no, .no] = .ok (rs'.map rwD) [.va (nD c), .va (nD (c.map Int.sign)), .va (rsD []), .no, .no, .no, .no, .no] := by
          generalize rsD [] = Z at *
          have v0 : (mVar 0) [.va (nD c), .va (nD (c.map Int.sign)), .va Z, .no, .no, .no, .no, .no] = .ok (nD c) [.va (nD c), .va (nD (c.map Int.sign)), .va Z, .no, .no, .no, .no, .no] := rfl
          have rl : rsD rs' = .lst (rs'.map rwD) := rfl
          rw [rl] at r1
          simp only [mIt_ap, mUser_ap, maCons_ap, maNil_ap, v0, List.map_cons, List.map_nil, e1, r1]
        have s3 := for_ok it f1
        have s4 : (mRet (mUser run_joined (maCons (mVar 2) maNil))) [.va (nD c), .va (nD (c.map Int.sign)), .va (rsD found'), t3, t4, t5, .no, .no] = .rt (rsD rs) [.va (nD c), .va (nD (c.map Int.sign)), .va (rsD found'), t3, t4, t5, .no, .no] := by
          simp [j1]
        have fin := seq_nx s0 (seq_nx s1 (seq_nx s2 (seq_nx s3 s4)))
        exact run_rt (n := 1) (tot := 8) (m := m_signs_of (run_signs_of (d + 1))) (args := [.va (nD c)]) fin
      · have : rs.length ≤ 3 * 3 ^ c'.length := by omega
        rw [show 3 * 3 ^ c'.length = 3 ^ (c'.length + 1) by rw [Nat.pow_succ]; omega] at this
        rw [show c.length = c'.length + 1 by omega]
        exact this
end GJ

set_option Elab.async false
set_option linter.all false
set_option maxRecDepth 100000
set_option maxHeartbeats 2000000
namespace GJ
open PySem L2 MP

/-! ### a form as a polynomial -/
theorem lcm_step (w d : Int) (hw : 0 < w) (hd : 0 < d) : 0 < w * d / (Int.gcd w d : Int) ∧ w ∣ w * d / (Int.gcd w d : Int) ∧ d ∣ w * d / (Int.gcd w d : Int) := by
  have g0 : 0 < (Int.gcd w d : Int) := by
    have := Int.gcd_pos_of_ne_zero_left d (a := w) (by omega)
    omega
  obtain ⟨a, ha⟩ := Int.gcd_dvd_left w d
  obtain ⟨b, hb⟩ := Int.gcd_dvd_right w d
  generalize (Int.gcd w d : Int) = g at *
  have e1 : w * d / g = a * d := by
    rw [ha, Int.mul_assoc, Int.mul_ediv_cancel_left _ (by omega)]
  have e2 : w * d / g = w * b := by
    conv => lhs; rw [hb]
    rw [show w * (g * b) = g * (w * b) by grind, Int.mul_ediv_cancel_left _ (by omega)]
  refine ⟨?_, ⟨b, e2⟩, ⟨a, by rw [e1, Int.mul_comm]⟩⟩
  have : 0 < a := by
    rcases Int.lt_or_le 0 a with q | q
    · exact q
    · have : g * a ≤ 0 := Int.mul_nonpos_of_nonneg_of_nonpos (by omega) q
      omega
  rw [e1]
  exact Int.mul_pos this hd
theorem lcm_dvd (w d M : Int) (hw : 0 < w) (hd : 0 < d) (h1 : w ∣ M) (h2 : d ∣ M) : w * d / (Int.gcd w d : Int) ∣ M := by
  obtain ⟨W, rfl⟩ := Int.eq_ofNat_of_zero_le (Int.le_of_lt hw)
  obtain ⟨E, rfl⟩ := Int.eq_ofNat_of_zero_le (Int.le_of_lt hd)
  have h3 := Int.ofNat_dvd_left.mp h1
  have h4 := Int.ofNat_dvd_left.mp h2
  have h5 := Nat.lcm_dvd h3 h4
  have e : ((W : Int) * (E : Int) / (Int.gcd (W : Int) (E : Int) : Int)) = ((Nat.lcm W E : Nat) : Int) := by
    rw [Int.gcd_natCast_natCast, ← Int.natCast_mul, ← Int.natCast_ediv]
    rfl
  rw [e]
  exact Int.ofNat_dvd_left.mpr h5
theorem whole_loop (F S1 S6 : Sl) : ∀ (f : List Tr) (w : Int) (k : Nat) (s3 s4 s5 : Sl), (∀ x ∈ f, 0 < x.2.2 ∧ Bd x.2.2 67) → 0 < w → Bd w k → k + 67 * f.length ≤ 5000 →
    ∃ (w' : Int) (t3 t4 t5 : Sl), forGo (mgTup 3 (mgsCons (mgName 3) (mgsCons (mgName 4) (mgsCons (mgName 5) mgsNil)))) (mSet 2 (mB fDiv (mB fMul (mPk 2) (lPk 2) (mPk 5) (lPk 5)) lId (mUser run_divisor (maCons (mVar 2) (maCons (mVar 5) maNil))) lId)) (f.map trD) [F, S1, .va (.int w), s3, s4, s5, S6] = .nx [F, S1, .va (.int w'), t3, t4, t5, S6] ∧ 0 < w' ∧ Bd w' (k + 67 * f.length) ∧ w ∣ w' ∧ (∀ x ∈ f, x.2.2 ∣ w') ∧ ∀ M, w ∣ M → (∀ x ∈ f, x.2.2 ∣ M) → w' ∣ M
  | [], w, k, s3, s4, s5, hf, hw, hb, hs => ⟨w, s3, s4, s5, by simp [forGo], hw, by simpa using hb, ⟨1, by omega⟩, fun x hx => by simp at hx, fun M h _ => h⟩
  | x :: f, w, k, s3, s4, s5, hf, hw, hb, hs => by
    simp only [List.length_cons] at hs
    obtain ⟨p, u, d⟩ := x
    obtain ⟨d0, d1⟩ := hf (p, u, d) List.mem_cons_self
    dsimp only at d0 d1
    obtain ⟨l0, l1, l2⟩ := lcm_step w d hw d0
    have dv := divisor_ok w d (by omega) (d1.lt (by omega) (by omega))
    have m1 := fMul_ok hb d1 (by omega)
    have g0 : 0 < Int.gcd w d := Int.gcd_pos_of_ne_zero_right w (by omega)
    have gl : Int.gcd w d ≤ d.natAbs := Nat.le_of_dvd (by omega) (Int.ofNat_dvd_left.mp (Int.gcd_dvd_right w d))
    have gB : Bd ((Int.gcd w d : Nat) : Int) 67 := by
      unfold Bd
      rw [Int.natAbs_natCast]
      exact Nat.le_trans gl d1
    have dd := fDiv_ok (x := w * d) (y := (Int.gcd w d : Nat)) (by omega) gB (by decide)
    have bl : Bd (w * d / (Int.gcd w d : Int)) (k + 67) := by
      unfold Bd
      exact Nat.le_trans (Int.natAbs_ediv_le_natAbs _ _) (hb.mul d1)
    obtain ⟨w', t3, t4, t5, e1, e2, e3, e4, e5, e6⟩ := whole_loop F S1 S6 f (w * d / (Int.gcd w d : Int)) (k + 67) (.va (.int p)) (.va (.int u)) (.va (.int d)) (fun y hy => hf y (List.mem_cons_of_mem _ hy)) l0 bl (by omega)
    refine ⟨w', t3, t4, t5, ?_, e2, e3.mono (by simp only [List.length_cons]; omega), Int.dvd_trans l1 e4, fun y hy => ?_, fun M h1 h2 => e6 M (lcm_dvd w d M hw d0 h1 (h2 (p, u, d) List.mem_cons_self)) fun y hy => h2 y (List.mem_cons_of_mem _ hy)⟩
    · simp only [List.map_cons, forGo]
      simp [trD, dv, m1, dd, slotD, outOf, fAdd, fSub, fMod, fLt, fLe, fGt, fGe, fNeg, fIsN, fNotN, MP.isNon, bAbs, bInt, isInt, isBool, isTup, isStr, bLen, line]
      exact e1
    · rcases List.mem_cons.mp hy with e | hy
      · rw [e]; exact Int.dvd_trans l2 e4
      · exact e5 y hy
theorem ev_set : ∀ (c : List Int) (i : Nat) (x n : Int), c[i]? = some 0 → ev (c.set i x) n = ev c n + n ^ i * x
  | [], i, x, n, h => by simp at h
  | a :: c, 0, x, n, h => by
    simp at h
    subst h
    simp [ev]
    omega
  | a :: c, i + 1, x, n, h => by
    simp only [List.getElem?_cons_succ] at h
    simp only [List.set_cons_succ, ev]
    rw [ev_set c i x n h, Int.pow_succ]
    grind
theorem fill_loop (F : Sl) (low w : Int) (hw : 0 < w) {kw : Nat} (bw : Bd w kw) (hkw : kw ≤ 5000) (L : Nat) (hL : L ≤ 100) : ∀ (f : List Tr) (c : List Int) (s3 s4 s5 : Sl) (from_ : Int), c.length = L → (∀ x ∈ f, low ≤ x.1 ∧ x.1 - low < L ∧ 0 < x.2.2 ∧ Bd x.2.2 67 ∧ Bd x.2.1 67 ∧ x.2.2 ∣ w ∧ from_ ≤ x.1) → ordB f = true → (∀ i : Nat, from_ - low ≤ i → i < L → c[i]? = some 0) → (∀ y ∈ c, Bd y (67 + kw)) →
    ∃ (c' : List Int) (t3 t4 t5 : Sl), forGo (mgTup 3 (mgsCons (mgName 3) (mgsCons (mgName 4) (mgsCons (mgName 5) mgsNil)))) (mSub 6 (mB fSub (mPk 3) (lPk 3) (mPk 1) (lPk 1)) (mB fMul (mPk 4) (lPk 4) (mB fDiv (mPk 2) (lPk 2) (mPk 5) (lPk 5)) lId)) (f.map trD) [F, .va (.int low), .va (.int w), s3, s4, s5, .ow (nD c)] = .nx [F, .va (.int low), .va (.int w), t3, t4, t5, .ow (nD c')] ∧ c'.length = L ∧ (∀ y ∈ c', Bd y (67 + kw)) ∧ ∀ n : Int, n ≠ 0 → (ev c' n : Rat) = (ev c n : Rat) + (w : Rat) * wS f n low
  | [], c, s3, s4, s5, from_, h1, h2, h3, h4, h5 => ⟨c, s3, s4, s5, by simp [forGo], h1, h5, fun n _ => by simp only [wS]; grind⟩
  | x :: f, c, s3, s4, s5, from_, h1, h2, h3, h4, h5 => by
    obtain ⟨p, u, d⟩ := x
    obtain ⟨a1, a2, a3, a4, a5, a6, a7⟩ := h2 (p, u, d) List.mem_cons_self
    dsimp only at a1 a2 a3 a4 a5 a6 a7
    obtain ⟨q, hq⟩ := a6
    have eq : w / d = q := by rw [hq, Int.mul_ediv_cancel_left _ (by omega)]
    have dv := fDiv_ok (x := w) a3 a4 (by decide)
    have bq : Bd (w / d) kw := by
      unfold Bd
      exact Nat.le_trans (Int.natAbs_ediv_le_natAbs _ _) bw
    have mm := fMul_ok a5 bq (by omega)
    obtain ⟨i, hi⟩ : ∃ i : Nat, p - low = (i : Int) := ⟨(p - low).toNat, by omega⟩
    have iL : i < L := by omega
    have z := h4 i (by omega) iL
    have ix : ixN c.length (p - low) = some i := by rw [hi, h1]; exact ixN_nat _ _ iL
    have ho : ordB f = true ∧ ∀ y ∈ f, p + 1 ≤ y.1 := by
      clear h2 h4 h5
      have : ∀ (g : List Tr) (p : Int) (x : Tr), x.1 = p → ordB (x :: g) = true → ordB g = true ∧ ∀ y ∈ g, p + 1 ≤ y.1 := by
        intro g
        induction g with
        | nil => intro p x _ _; exact ⟨rfl, fun y hy => by simp at hy⟩
        | cons b g ih =>
          intro p x hx h
          simp only [ordB, Bool.and_eq_true, decide_eq_true_eq] at h
          refine ⟨h.2, fun y hy => ?_⟩
          rcases List.mem_cons.mp hy with e | hy
          · rw [e]; omega
          · have := (ih b.1 b rfl h.2).2 y hy
            omega
      exact this f p (p, u, d) rfl h3
    obtain ⟨c', t3, t4, t5, e1, e2, e3, e4⟩ := fill_loop F low w hw bw hkw L hL f (c.set i (u * (w / d))) (.va (.int p)) (.va (.int u)) (.va (.int d)) (p + 1) (by rw [List.length_set]; exact h1)
      (fun y hy => by
        obtain ⟨b1, b2, b3, b4, b5, b6, b7⟩ := h2 y (List.mem_cons_of_mem _ hy)
        exact ⟨b1, b2, b3, b4, b5, b6, ho.2 y hy⟩) ho.1 (fun j hj hj2 => by
          rw [List.getElem?_set_ne (by omega)]
          exact h4 j (by omega) hj2) (fun y hy => by
          rcases List.mem_or_eq_of_mem_set hy with q | q
          · exact h5 y q
          · rw [q]; exact a5.mul bq)
    refine ⟨c', t3, t4, t5, ?_, e2, e3, fun n hn => ?_⟩
    · simp only [List.map_cons, forGo]
      simp only [nD] at e1 ⊢
      have ix2 : ixN (c.map D.int).length (p - low) = some i := by rw [List.length_map]; exact ix
      rw [List.map_set] at e1
      generalize c.map D.int = CL at *
      simp [trD, dv, mm, atC, kput, ix2, slotD, outOf, fAdd, fSub, fMod, fLt, fLe, fGt, fGe, fNeg, fIsN, fNotN, MP.isNon, bAbs, bInt, isInt, isBool, isTup, isStr, bLen, line]
      exact e1
    · rw [e4 n hn, ev_set c i _ n z]
      conv => rhs; unfold wS
      have zp := zpow_nat n (p - low) (by omega)
      rw [show (p - low).toNat = i by omega] at zp
      have hd0 : (d : Rat) ≠ 0 := ic0 (by omega)
      have hwq : (w : Rat) = (d : Rat) * (q : Rat) := by rw [hq, Rat.intCast_mul]
      dsimp only
      rw [← zp, eq, Rat.intCast_add, Rat.intCast_mul, Rat.intCast_mul, hwq]
      grind
end GJ

set_option Elab.async false
set_option linter.all false
set_option maxRecDepth 100000
set_option maxHeartbeats 2000000
namespace GJ
open PySem L2 MP

theorem ix_lastF (ini : List Tr) (y : Tr) : fIx (fD (ini ++ [y])) (.int (-1)) = some (trD y) := by
  have h1 : ¬ ((0 : Int) ≤ -1) := by decide
  have h2 : (-(((ini ++ [y]).map trD).length : Int) ≤ -1) := by simp; omega
  have h3 : (((-1 : Int) + (((ini ++ [y]).map trD).length : Int)).toNat) = ini.length := by simp; omega
  show ixD ((ini ++ [y]).map trD) (-1) = some (trD y)
  unfold ixD
  rw [decide_eq_false h1, decide_eq_true h2, h3]
  simp
theorem coeff_ok (ini : List Tr) (y : Tr) (low : Int) (L : Nat) (hL : L ≤ 50) (hl : y.1 - low + 1 = (L : Int)) (h0 : ∀ x, (ini ++ [y]).head? = some x → x.1 = low) (hlen : (ini ++ [y]).length ≤ 12)
    (hp : ∀ x ∈ ini ++ [y], low ≤ x.1 ∧ x.1 - low < L ∧ 0 < x.2.2 ∧ Bd x.2.2 67 ∧ Bd x.2.1 67) (ho : ordB (ini ++ [y]) = true) (M : Int) (hM : 0 < M) {kM : Nat} (bM : Bd M kM) (hkM : kM ≤ 5000) (dM : ∀ x ∈ ini ++ [y], x.2.2 ∣ M) :
    ∃ (cs : List Int) (w : Int), run_coefficients [.va (fD (ini ++ [y]))] = .ok (nD cs) none ∧ cs.length = L ∧ 0 < w ∧ (∀ c ∈ cs, Bd c (67 + kM)) ∧ ∀ n : Int, n ≠ 0 → (ev cs n : Rat) = (w : Rat) * wS (ini ++ [y]) n low := by
  have il := ix_lastF ini y
  have iy : fIx (trD y) (.int 0) = some (.int y.1) := rfl
  obtain ⟨x, hx⟩ : ∃ x, (ini ++ [y]).head? = some x := by cases ini <;> simp
  have i0 : fIx (fD (ini ++ [y])) (.int 0) = some (trD x) := by
    show ixD ((ini ++ [y]).map trD) 0 = some (trD x)
    cases ini with
    | nil => simp at hx; subst hx; simp [ixD]
    | cons a r => simp at hx; subst hx; simp [ixD]
  have ix0 : fIx (trD x) (.int 0) = some (.int low) := by rw [← h0 x hx]; rfl
  obtain ⟨w, t3, t4, t5, e1, w0, _, _, wd, wM⟩ := whole_loop (.va (fD (ini ++ [y]))) (.va (.int low)) .no (ini ++ [y]) 1 0 .no .no .no (fun z hz => ⟨(hp z hz).2.2.1, (hp z hz).2.2.2.1⟩) (by decide) (by unfold Bd; simp) (by omega)
  have wb : Bd w kM := by
    have := Int.le_of_dvd hM (wM M (Int.one_dvd M) dM)
    unfold Bd at *
    omega
  have ez : ∀ (k : Nat) (n : Int), ev (List.replicate k 0) n = 0 := fun k n => by
    induction k with
    | zero => rfl
    | succ k ih => rw [List.replicate_succ]; simp [ev, ih]
  obtain ⟨cs, u3, u4, u5, e2, c1, c2, c3⟩ := fill_loop (.va (fD (ini ++ [y]))) low w w0 (kw := kM) wb (by omega) L (by omega) (ini ++ [y]) (List.replicate L 0) t3 t4 t5 low (by simp) (fun z hz => by
    obtain ⟨b1, b2, b3, b4, b5⟩ := hp z hz
    exact ⟨b1, b2, b3, b4, b5, wd z hz, b1⟩) ho (fun i _ hi => by rw [List.getElem?_replicate, if_pos hi]) (fun z hz => by rw [List.eq_of_mem_replicate hz]; unfold Bd; simp)
  refine ⟨cs, w, ?_, c1, w0, fun c hc => c2 c hc, fun n hn => by rw [c3 n hn, ez]; grind⟩
  have s0 : (mPar 1 2 (maCons (mB fIx (mB fIx (mPk 0) (lPk 0) (mC (.int 0)) lId) lId (mC (.int 0)) lId) (maCons (mC (.int 1)) maNil))) [.va (fD (ini ++ [y])), .no, .no, .no, .no, .no, .no] = .nx [.va (fD (ini ++ [y])), .va (.int low), .va (.int 1), .no, .no, .no, .no] := by
    generalize fD (ini ++ [y]) = X at *
    simp [i0, ix0, slotD, outOf, fAdd, fSub, fMod, fLt, fLe, fGt, fGe, fNeg, fIsN, fNotN, MP.isNon, bAbs, bInt, isInt, isBool, isTup, isStr, bLen, line]
  have s1 : (mFor (mIt (mVar 0)) (mgTup 3 (mgsCons (mgName 3) (mgsCons (mgName 4) (mgsCons (mgName 5) mgsNil)))) (mSet 2 (mB fDiv (mB fMul (mPk 2) (lPk 2) (mPk 5) (lPk 5)) lId (mUser run_divisor (maCons (mVar 2) (maCons (mVar 5) maNil))) lId))) [.va (fD (ini ++ [y])), .va (.int low), .va (.int 1), .no, .no, .no, .no] = .nx [.va (fD (ini ++ [y])), .va (.int low), .va (.int w), t3, t4, t5, .no] := for_ok rfl e1
  have l2 : (mB fAdd (mB fSub (mB fIx (mB fIx (mPk 0) (lPk 0) (mU fNeg (mC (.int 1)) lId) lId) lId (mC (.int 0)) lId) lId (mPk 1) (lPk 1)) lId (mC (.int 1)) lId) [.va (fD (ini ++ [y])), .va (.int low), .va (.int w), t3, t4, t5, .no] = .ok (.int (L : Int)) [.va (fD (ini ++ [y])), .va (.int low), .va (.int w), t3, t4, t5, .no] := by
    generalize fD (ini ++ [y]) = X at *
    rw [← hl]
    simp [il, iy, slotD, outOf, fAdd, fSub, fMod, fLt, fLe, fGt, fGe, fNeg, fIsN, fNotN, MP.isNon, bAbs, bInt, isInt, isBool, isTup, isStr, bLen, line]
  have l0 : (mLst (maCons (mC (.int 0)) maNil)) [.va (fD (ini ++ [y])), .va (.int low), .va (.int w), t3, t4, t5, .no] = .ok (.lst [.int 0]) [.va (fD (ini ++ [y])), .va (.int low), .va (.int w), t3, t4, t5, .no] := by simp [line]
  have rp := rep_ok l0 l2 (by simp; omega) (by omega)
  have s2 : (mOwn 6 (mRep (mLst (maCons (mC (.int 0)) maNil)) (mB fAdd (mB fSub (mB fIx (mB fIx (mPk 0) (lPk 0) (mU fNeg (mC (.int 1)) lId) lId) lId (mC (.int 0)) lId) lId (mPk 1) (lPk 1)) lId (mC (.int 1)) lId))) [.va (fD (ini ++ [y])), .va (.int low), .va (.int w), t3, t4, t5, .no] = .nx [.va (fD (ini ++ [y])), .va (.int low), .va (.int w), t3, t4, t5, .ow (nD (List.replicate L 0))] := by
    rw [mOwn_ap, rp, zeros_rep]
    rfl
  have s3 : (mFor (mIt (mVar 0)) (mgTup 3 (mgsCons (mgName 3) (mgsCons (mgName 4) (mgsCons (mgName 5) mgsNil)))) (mSub 6 (mB fSub (mPk 3) (lPk 3) (mPk 1) (lPk 1)) (mB fMul (mPk 4) (lPk 4) (mB fDiv (mPk 2) (lPk 2) (mPk 5) (lPk 5)) lId))) [.va (fD (ini ++ [y])), .va (.int low), .va (.int w), t3, t4, t5, .ow (nD (List.replicate L 0))] = .nx [.va (fD (ini ++ [y])), .va (.int low), .va (.int w), u3, u4, u5, .ow (nD cs)] := for_ok rfl e2
  have s4 : (mRet (mVar 6)) [.va (fD (ini ++ [y])), .va (.int low), .va (.int w), u3, u4, u5, .ow (nD cs)] = .rt (nD cs) [.va (fD (ini ++ [y])), .va (.int low), .va (.int w), u3, u4, u5, .va (nD cs)] := rfl
  have fin := seq_nx s0 (seq_nx s1 (seq_nx s2 (seq_nx s3 s4)))
  exact run_rt (n := 1) (tot := 7) (m := m_coefficients) (args := [.va (fD (ini ++ [y]))]) fin
theorem sign_of_q (z : Int) (q r : Rat) (hr : 0 < r) (h : (z : Rat) = r * q) : z.sign = q.num.sign := by
  rcases Int.lt_trichotomy q.num 0 with k | k | k
  · have hq : ¬ 0 ≤ q := fun t => by have := Rat.num_nonneg.mpr t; omega
    rw [Int.sign_eq_neg_one_of_neg k]
    refine Int.sign_eq_neg_one_of_neg ?_
    rcases Int.lt_or_le z 0 with t | t
    · exact t
    · exfalso
      have h1 : (0 : Rat) ≤ (z : Rat) := Rat.intCast_nonneg.mpr t
      rw [h] at h1
      have hq2 : q < 0 := Rat.not_le.mp hq
      have : 0 < r * (-q) := Rat.mul_pos hr (by grind)
      grind
  · have hq := Rat.num_eq_zero.mp k
    rw [hq] at h ⊢
    have : (z : Rat) = 0 := by grind
    rw [Rat.intCast_eq_zero_iff.mp this]
    rfl
  · have hq : 0 ≤ q := Rat.num_nonneg.mp (by omega)
    have hne : q ≠ 0 := fun t => by rw [Rat.num_eq_zero.mpr t] at k; omega
    have hq2 : 0 < q := by grind
    rw [Int.sign_eq_one_of_pos k]
    refine Int.sign_eq_one_of_pos ?_
    have : 0 < r * q := Rat.mul_pos hr hq2
    rw [← h] at this
    exact Rat.intCast_pos.mp this
theorem Cv.congr {g g' : Int → Int} : ∀ {rs : List Rw} {l : Int} {e : Option Int}, (∀ n, l ≤ n → g n = g' n) → Cv g l rs e → Cv g' l rs e
  | [], l, e, hg, h => h
  | (a, some m, s) :: rs, l, e, hg, h => by
    simp only [Cv] at h ⊢
    obtain ⟨h1, h2, h3, h4⟩ := h
    exact ⟨h1, h2, fun n a b => by rw [← hg n a]; exact h3 n a b, Cv.congr (fun n hn => hg n (by omega)) h4⟩
  | (a, none, s) :: rs, l, e, hg, h => by
    simp only [Cv] at h ⊢
    obtain ⟨h1, h2, h3, h4⟩ := h
    exact ⟨h1, fun n a => by rw [← hg n a]; exact h2 n a, h3, h4⟩
theorem form_signs_ok (ini : List Tr) (y : Tr) (low : Int) (L : Nat) (hL : L ≤ 8) (hl : y.1 - low + 1 = (L : Int)) (h0 : ∀ x, (ini ++ [y]).head? = some x → x.1 = low) (hlen : (ini ++ [y]).length ≤ 12)
    (hp : ∀ x ∈ ini ++ [y], low ≤ x.1 ∧ x.1 - low < L ∧ 0 < x.2.2 ∧ Bd x.2.2 67 ∧ Bd x.2.1 67) (ho : ordB (ini ++ [y]) = true) (M : Int) (hM : 0 < M) {kM : Nat} (bM : Bd M kM) (hkM : kM ≤ 5000) (dM : ∀ x ∈ ini ++ [y], x.2.2 ∣ M) :
    ∃ rs, run_form_signs [.va (fD (ini ++ [y]))] = .ok (rsD rs) none ∧ Cv (fun n => (wF (ini ++ [y]) n).num.sign) 1 rs none ∧ Dst rs ∧ rs ≠ [] ∧ rs.length ≤ 6561 ∧ ∀ a m s, (a, some m, s) ∈ rs → m < 2 ^ (67 + kM) + 1 := by
  obtain ⟨cs, w, e, c1, w0, cb, cq⟩ := coeff_ok ini y low L (by omega) hl h0 hlen hp ho M hM bM hkM dM
  obtain ⟨rs, r1, g1, g2, g3, g4⟩ := signs_ok 59 cs (67 + kM) (by omega) (by omega) (by omega) cb
  have g5 : rs.length ≤ 3 ^ 8 := Nat.le_trans g4 (Nat.pow_le_pow_right (by decide) (by omega))
  have e8 : (3 : Nat) ^ 8 = 6561 := by decide
  obtain ⟨sg, fs, _⟩ := far_sign cs cb
  have bnd := rows_bound (g := fun n => (ev cs n).sign) (B := 2 ^ (67 + kM) + 1) (fun n n' hn hn' => by rw [fs n hn, fs n' hn']) rs 1 g1 g2
  refine ⟨rs, ?_, Cv.congr (fun n hn => ?_) g1, g2, g3, by omega, bnd⟩
  · have nn : fNe (fD (ini ++ [y])) (.tup []) = some (.bl true) := by
      have hk : okD 64 (fD (ini ++ [y])) = true := ok_fD _
      unfold fNe
      rw [hk]
      cases ini <;> simp [fD, okD, okL, eqD, eqL]
    generalize fD (ini ++ [y]) = X at *
    generalize rsD rs = Y at *
    have fin : m_form_signs [.va X] = .rt Y [.va X] := by
      unfold m_form_signs
      simp [nn, e, r1, slotD, outOf, fAdd, fSub, fMod, fLt, fLe, fGt, fGe, fNeg, fIsN, fNotN, MP.isNon, bAbs, bInt, isInt, isBool, isTup, isStr, bLen, line]
    exact run_rt (n := 1) (tot := 1) (m := m_form_signs) (args := [.va X]) fin
  · have q := cq n (by omega)
    have sh := wS_shift n (by omega) low 0 (ini ++ [y])
    rw [Int.sub_zero] at sh
    have zn := Rat.zpow_neg (n : Rat) low
    have hn0 : (n : Rat) ≠ 0 := ic0 (by omega)
    have pos : ∀ k : Int, (0 : Rat) < (n : Rat) ^ k := fun k => by
      have pn : ∀ j : Nat, (0 : Rat) < (n : Rat) ^ (j : Int) := fun j => by
        have := zpow_nat n (j : Int) (by omega)
        rw [← this]
        exact Rat.intCast_pos.mpr (Int.pow_pos (by omega))
      rcases Int.lt_or_le k 0 with t | t
      · have h1 := pn (-k).toNat
        rw [show (((-k).toNat : Nat) : Int) = -k by omega, Rat.zpow_neg] at h1
        exact Rat.inv_pos.mp h1
      · have h1 := pn k.toNat
        rwa [show ((k.toNat : Nat) : Int) = k by omega] at h1
    have pl := pos low
    have eqq : (ev cs n : Rat) = ((w : Rat) * ((n : Rat) ^ low)⁻¹) * wF (ini ++ [y]) n := by
      rw [q]
      unfold wF
      rw [← sh]
      have : (n : Rat) ^ low ≠ 0 := by grind
      grind
    exact sign_of_q _ _ _ (Rat.mul_pos (Rat.intCast_pos.mpr w0) (by rw [← zn]; exact pos (-low))) eqq
end GJ

set_option Elab.async false
set_option linter.all false
set_option maxRecDepth 100000
set_option maxHeartbeats 2000000
namespace GJ
open PySem L2 MP

theorem pl_fD (f : List Tr) : Pl (fD f) = true := by
  have : ∀ f : List Tr, PlL (f.map trD) = true := fun f => by
    induction f with
    | nil => rfl
    | cons x f ih => simp [PlL, trD, Pl, ih]
  simp [fD, Pl, this f]
structure Gd (f : List Tr) : Prop where
  len : f.length ≤ 12
  pt : ∀ x ∈ f, -20 ≤ x.1 ∧ x.1 ≤ 20 ∧ Bd x.2.1 67 ∧ x.2.1 ≠ 0 ∧ 0 < x.2.2 ∧ Bd x.2.2 67
  ord : ordB f = true
theorem bd_large {x : Int} (h1 : -LARGE ≤ x) (h2 : x ≤ LARGE) : Bd x 67 := by
  unfold Bd
  simp only [LARGE] at h1 h2
  omega
theorem gd_of {f : List Tr} (h : goodB (fD f) = true) : Gd f := by
  simp only [goodB, fD, Bool.and_eq_true, decide_eq_true_eq] at h
  obtain ⟨h1, h2⟩ := h
  have ha := gB_all _ _ h2
  refine ⟨by simpa using h1, fun x hx => ?_, by rw [← good_head f ha]; exact h2⟩
  have := List.all_eq_true.mp ha (trD x) (List.mem_map.mpr ⟨x, hx, rfl⟩)
  simp only [partB, trD, Bool.and_eq_true, decide_eq_true_eq, Bool.not_eq_true', decide_eq_false_iff_not] at this
  obtain ⟨⟨a1, a2⟩, ⟨b1, b2⟩, b3, ⟨c1, c2⟩, c3⟩ := this
  exact ⟨a1, a2, bd_large b1 b2, b3, by omega, bd_large (by simp only [LARGE]; omega) c2⟩
theorem ord_low : ∀ (f : List Tr) (x : Tr), ordB (x :: f) = true → ∀ y ∈ x :: f, x.1 ≤ y.1
  | [], x, h, y, hy => by simp at hy; rw [hy]; omega
  | z :: f, x, h, y, hy => by
    simp only [ordB, Bool.and_eq_true, decide_eq_true_eq] at h
    rcases List.mem_cons.mp hy with e | hy
    · rw [e]; omega
    · have := ord_low f z h.2 y hy
      omega
theorem ord_high : ∀ (ini : List Tr) (y : Tr), ordB (ini ++ [y]) = true → ∀ x ∈ ini ++ [y], x.1 ≤ y.1
  | [], y, h, x, hx => by simp at hx; rw [hx]; omega
  | z :: ini, y, h, x, hx => by
    have hl := ord_low (ini ++ [y]) z h
    have ht : ordB (ini ++ [y]) = true := by
      cases ini with
      | nil => rfl
      | cons a r =>
        simp only [List.cons_append, ordB, Bool.and_eq_true] at h
        exact h.2
    rw [List.cons_append] at hx
    rcases List.mem_cons.mp hx with e | hx
    · rw [e]
      exact hl y (by simp)
    · exact ord_high ini y ht x hx
/-- the lowest power -/
def lowOf : List Tr → Int
  | [] => 0
  | x :: _ => x.1
theorem Gd.low {f : List Tr} (g : Gd f) : -20 ≤ lowOf f ∧ lowOf f ≤ 20 ∧ (∀ x, f.head? = some x → x.1 = lowOf f) ∧ ∀ x ∈ f, 0 ≤ x.1 - lowOf f ∧ x.1 - lowOf f ≤ 40 := by
  cases f with
  | nil => exact ⟨by simp [lowOf], by simp [lowOf], fun x hx => by simp at hx, fun x hx => by simp at hx⟩
  | cons a f =>
    obtain ⟨b1, b2, _⟩ := g.pt a List.mem_cons_self
    refine ⟨b1, b2, fun x hx => by simp at hx; rw [hx]; rfl, fun x hx => ?_⟩
    obtain ⟨c1, c2, _⟩ := g.pt x hx
    have := ord_low f a g.ord x hx
    simp only [lowOf]
    omega
theorem far_bd {n : Int} (h1 : 1 ≤ n) (h2 : n ≤ 1000000000000000000000000000000) : Bd n 100 := by
  unfold Bd
  omega
theorem worth_ok (f : List Tr) (h : goodB (fD f) = true) (n : Int) (h1 : 1 ≤ n) (h2 : n ≤ 1000000000000000000000000000000) : run_worth [.va (fD f), .va (.int n)] = .ok (qD (wF f n)) none ∧ run__law_worth [.va (fD f), .va (.int n)] = .ok (qD (wF f n)) none := by
  have g := gd_of h
  obtain ⟨l1, l2, l3, l4⟩ := g.low
  have w1 := worth_of_ok f n (far_bd h1 h2) (by omega) g.len (lowOf f) l3 l1 l2 (fun x hx => by
    obtain ⟨a1, a2, a3, a4, a5, a6⟩ := g.pt x hx
    obtain ⟨b1, b2⟩ := l4 x hx
    exact ⟨b1, by omega, a3, a5, a6⟩)
  have w2 := lworth_ok f n (far_bd h1 h2) (by omega) g.len (lowOf f) l3 l1 l2 (fun x hx => by
    obtain ⟨a1, a2, a3, a4, a5, a6⟩ := g.pt x hx
    obtain ⟨b1, b2⟩ := l4 x hx
    exact ⟨b1, b2, a3, a5, a6⟩)
  refine ⟨?_, w2⟩
  have gf := good_form_ok (fD f) (pl_fD f)
  rw [h] at gf
  have nf := number_ok (.int n) 1 1000000000000000000000000000000 rfl
  have nb : numB (.int n) 1 1000000000000000000000000000000 = true := by simp [numB, h1, h2]
  rw [nb] at nf
  generalize fD f = X at *
  simp [run_worth, runF, m_worth, run_need_form, m_need_form, run_need_n, m_need_n, gf, nf, w1, slotD, outOf, fAdd, fSub, fMod, fLt, fLe, fGt, fGe, fNeg, fIsN, fNotN, MP.isNon, bAbs, bInt, isInt, isBool, isTup, isStr, bLen, line]
/-! ### what the rows tell at a place -/
theorem at_loop (g : Int → Int) (n : Int) (F : Sl) : ∀ (rs : List Rw) (l : Int) (s2 s3 s4 : Sl), Cv g l rs none → l ≤ n → ∃ e, forGo (mgTup 3 (mgsCons (mgName 2) (mgsCons (mgName 3) (mgsCons (mgName 4) mgsNil)))) (mIfS (mAnd (mB fLe (mPk 2) (lPk 2) (mPk 1) (lPk 1)) (mOr (mB fIsN (mPk 3) (lPk 3) (mC .non) lId) (mB fLe (mPk 1) (lPk 1) (mPk 3) (lPk 3)))) (mRet (mVar 4)) mSkip) (rs.map rwD) [F, .va (.int n), s2, s3, s4] = .rt (.int (g n)) (F :: e)
  | [], l, s2, s3, s4, h, hn => by simp [Cv] at h
  | (a, none, s) :: rs, l, s2, s3, s4, h, hn => by
    simp only [Cv] at h
    obtain ⟨h1, h2, h3, h4⟩ := h
    rw [h2 n hn]
    have ha : a ≤ n := by omega
    exact ⟨_, by simp only [List.map_cons, forGo]; simp [rwD, oD, ha, slotD, outOf, fAdd, fSub, fMod, fLt, fLe, fGt, fGe, fNeg, fIsN, fNotN, MP.isNon, bAbs, bInt, isInt, isBool, isTup, isStr, bLen, line]; rfl⟩
  | (a, some m, s) :: rs, l, s2, s3, s4, h, hn => by
    simp only [Cv] at h
    obtain ⟨h1, h2, h3, h4⟩ := h
    have ha : a ≤ n := by omega
    by_cases hm : n ≤ m
    · rw [h3 n hn hm]
      exact ⟨_, by simp only [List.map_cons, forGo]; simp [rwD, oD, ha, hm, slotD, outOf, fAdd, fSub, fMod, fLt, fLe, fGt, fGe, fNeg, fIsN, fNotN, MP.isNon, bAbs, bInt, isInt, isBool, isTup, isStr, bLen, line]; rfl⟩
    · obtain ⟨e, q⟩ := at_loop g n F rs (m + 1) (.va (.int a)) (.va (oD (some m))) (.va (.int s)) h4 (by omega)
      refine ⟨e, ?_⟩
      simp only [List.map_cons, forGo]
      simp [rwD, oD, ha, hm, slotD, outOf, fAdd, fSub, fMod, fLt, fLe, fGt, fGe, fNeg, fIsN, fNotN, MP.isNon, bAbs, bInt, isInt, isBool, isTup, isStr, bLen, line]
      exact q
def rtD (rs : List Rw) : D := .tup (rs.map rwD)
theorem at_ok (g : Int → Int) (rs : List Rw) (h : Cv g 1 rs none) (n : Int) (hn : 1 ≤ n) : run__law_at [.va (rtD rs), .va (.int n)] = .ok (.int (g n)) none := by
  obtain ⟨e, q⟩ := at_loop g n (.va (rtD rs)) rs 1 .no .no .no h hn
  have s0 : (mFor (mIt (mVar 0)) (mgTup 3 (mgsCons (mgName 2) (mgsCons (mgName 3) (mgsCons (mgName 4) mgsNil)))) (mIfS (mAnd (mB fLe (mPk 2) (lPk 2) (mPk 1) (lPk 1)) (mOr (mB fIsN (mPk 3) (lPk 3) (mC .non) lId) (mB fLe (mPk 1) (lPk 1) (mPk 3) (lPk 3)))) (mRet (mVar 4)) mSkip)) [.va (rtD rs), .va (.int n), .no, .no, .no] = .rt (.int (g n)) (.va (rtD rs) :: e) := for_ok rfl q
  exact run_rt (n := 2) (tot := 5) (m := m__law_at) (args := [.va (rtD rs), .va (.int n)]) (e := .va (rtD rs) :: e) (seq_rt s0)
end GJ

set_option Elab.async false
set_option linter.all false
set_option maxRecDepth 100000
set_option maxHeartbeats 2000000
namespace GJ
open PySem L2 MP

theorem ne_int (a b : Int) : fNe (.int a) (.int b) = some (.bl (!decide (a = b))) := by simp [fNe, okD, eqD]
theorem good_loop (g : Int → Int) (F : Sl) : ∀ (rs : List Rw) (r : Rw) (l : Int) (s1 s2 : Sl), Cv g l (r :: rs) none → Dst (r :: rs) → ∃ t1 t2, forGo (mgTup 2 (mgsCons (mgName 1) (mgsCons (mgName 2) mgsNil))) (mSeq (mIfS (mOr (mB fIsN (mB fIx (mPk 1) (lPk 1) (mC (.int 1)) lId) lId (mC .non) lId) (mOr (mB fLt (mB fIx (mPk 1) (lPk 1) (mC (.int 1)) lId) lId (mB fIx (mPk 1) (lPk 1) (mC (.int 0)) lId) lId) (mB fEq (mB fIx (mPk 1) (lPk 1) (mC (.int 2)) lId) lId (mB fIx (mPk 2) (lPk 2) (mC (.int 2)) lId) lId))) (mRet (mC (.bl false))) mSkip) (mIfS (mB fNe (mB fIx (mPk 2) (lPk 2) (mC (.int 0)) lId) lId (mB fAdd (mB fIx (mPk 1) (lPk 1) (mC (.int 1)) lId) lId (mC (.int 1)) lId) lId) (mRet (mC (.bl false))) mSkip)) (pairs ((r :: rs).map rwD) (rs.map rwD)) [F, s1, s2] = .nx [F, t1, t2]
  | [], r, l, s1, s2, h, d => ⟨s1, s2, by simp [pairs, forGo]⟩
  | q :: rs, r, l, s1, s2, h, d => by
    obtain ⟨a, m, s⟩ := r
    cases m with
    | none => simp [Cv] at h
    | some m =>
      simp only [Cv] at h
      obtain ⟨h1, h2, h3, h4⟩ := h
      obtain ⟨t1, t2, e⟩ := good_loop g F rs q (m + 1) (.va (rwD (a, some m, s))) (.va (rwD q)) h4 d.2
      have q1 : q.1 = m + 1 := by
        obtain ⟨b, k, z⟩ := q
        cases k <;> simp only [Cv] at h4 <;> exact h4.1
      have ds : ¬ s = q.2.2 := d.1
      refine ⟨t1, t2, ?_⟩
      have i0 : fIx (rwD (a, some m, s)) (.int 0) = some (.int a) := rfl
      have i1 : fIx (rwD (a, some m, s)) (.int 1) = some (.int m) := rfl
      have i2 : fIx (rwD (a, some m, s)) (.int 2) = some (.int s) := rfl
      have j0 : fIx (rwD q) (.int 0) = some (.int (m + 1)) := by rw [← q1]; rfl
      have j2 : fIx (rwD q) (.int 2) = some (.int q.2.2) := rfl
      have lt : ¬ m < a := by omega
      have eqi := eq_int s q.2.2
      rw [decide_eq_false ds] at eqi
      have nei := ne_int (m + 1) (m + 1)
      simp only [decide_true, Bool.not_true] at nei
      simp only [List.map_cons, pairs, forGo] at e ⊢
      generalize rwD (a, some m, s) = R1 at *
      generalize rwD q = R2 at *
      simp [i0, i1, i2, j0, j2, lt, eqi, nei, slotD, outOf, fAdd, fSub, fMod, fLt, fLe, fGt, fGe, fNeg, fIsN, fNotN, MP.isNon, bAbs, bInt, isInt, isBool, isTup, isStr, bLen, line]
      exact e
theorem last_none {g : Int → Int} : ∀ (ini : List Rw) (y : Rw) (l : Int), Cv g l (ini ++ [y]) none → y.2.1 = none
  | [], (a, none, s), l, h => rfl
  | [], (a, some m, s), l, h => by simp [Cv] at h
  | (a, none, s) :: ini, y, l, h => by
    simp only [List.cons_append, Cv] at h
    simp at h
  | (a, some m, s) :: ini, y, l, h => by
    simp only [List.cons_append, Cv] at h
    exact last_none ini y (m + 1) h.2.2.2
theorem rows_good_ok (g : Int → Int) (rs : List Rw) (h : Cv g 1 rs none) (d : Dst rs) (hl : rs.length ≤ 10000) : run__law_rows_good [.va (rtD rs)] = .ok (.bl true) none := by
  rcases List.eq_nil_or_concat rs with hf | ⟨ini, y, hf⟩
  · subst hf
    simp [Cv] at h
  · rw [List.concat_eq_append] at hf
    have hy : y.2.1 = none := last_none ini y 1 (by rw [← hf]; exact h)
    have il : fIx (rtD rs) (.int (-1)) = some (rwD y) := by
      have := ix_last ini y
      rw [← hf] at this
      exact this
    have iy : fIx (rwD y) (.int 1) = some .non := by
      obtain ⟨a, m, s⟩ := y
      dsimp only at hy
      subst hy
      rfl
    cases rs with
    | nil => simp at hf
    | cons r rs =>
      have r1 : r.1 = 1 := by
        obtain ⟨a, m, s⟩ := r
        cases m <;> simp only [Cv] at h <;> exact h.1
      have i0 : fIx (rtD (r :: rs)) (.int 0) = some (rwD r) := by simp [rtD, fIx, ixD]
      have ir : fIx (rwD r) (.int 0) = some (.int 1) := by rw [← r1]; rfl
      obtain ⟨t1, t2, e⟩ := good_loop g (.va (rtD (r :: rs))) rs r 1 .no .no h d
      have ok : okD 64 (rtD (r :: rs)) = true := by simp [rtD, okD, okL_rows, okL, okD_row]
      have eq0 : fEq (rtD (r :: rs)) (.tup []) = some (.bl false) := by
        unfold fEq
        rw [ok]
        simp [rtD, okD, okL, eqD, eqL]
      have hdrop : cutD ((r :: rs).map rwD) (some 1) none = rs.map rwD := by
        have := cutD_from ((r :: rs).map rwD) 1
        rw [show ((1 : Nat) : Int) = 1 from rfl] at this
        rw [this]
        rfl
      have nei := ne_int 1 1
      simp only [decide_true, Bool.not_true] at nei
      have s0 : (mIfS (mOr (mNot (mU isTup (mPk 0) (lPk 0))) (mB fEq (mPk 0) (lPk 0) (mTup maNil) lId)) (mRet (mC (.bl false))) mSkip) [.va (rtD (r :: rs)), .no, .no] = .nx [.va (rtD (r :: rs)), .no, .no] := by
        have it : isTup (rtD (r :: rs)) = some (.bl true) := rfl
        generalize rtD (r :: rs) = X at *
        simp [it, eq0, slotD]
      have s1 : (mIfS (mOr (mB fNe (mB fIx (mB fIx (mPk 0) (lPk 0) (mC (.int 0)) lId) lId (mC (.int 0)) lId) lId (mC (.int 1)) lId) (mB fNotN (mB fIx (mB fIx (mPk 0) (lPk 0) (mU fNeg (mC (.int 1)) lId) lId) lId (mC (.int 1)) lId) lId (mC .non) lId)) (mRet (mC (.bl false))) mSkip) [.va (rtD (r :: rs)), .no, .no] = .nx [.va (rtD (r :: rs)), .no, .no] := by
        generalize rtD (r :: rs) = X at *
        simp [i0, ir, il, iy, nei, slotD, fNeg, fNotN, MP.isNon]
      have zi : (mZip (maCons (mVar 0) (maCons (mSl (mPk 0) (lPk 0) (mPrt (mC (.int 1))) (mC .non)) maNil))) [.va (rtD (r :: rs)), .no, .no] = .ok (pairs ((r :: rs).map rwD) (rs.map rwD)) [.va (rtD (r :: rs)), .no, .no] := by
        simp only [rtD]
        generalize (r :: rs).map rwD = L at *
        simp [fSl, prt, hdrop, slotD, outOf, fAdd, fSub, fMod, fLt, fLe, fGt, fGe, fNeg, fIsN, fNotN, MP.isNon, bAbs, bInt, isInt, isBool, isTup, isStr, bLen, line]
      have s2 : (mFor (mZip (maCons (mVar 0) (maCons (mSl (mPk 0) (lPk 0) (mPrt (mC (.int 1))) (mC .non)) maNil))) (mgTup 2 (mgsCons (mgName 1) (mgsCons (mgName 2) mgsNil))) (mSeq (mIfS (mOr (mB fIsN (mB fIx (mPk 1) (lPk 1) (mC (.int 1)) lId) lId (mC .non) lId) (mOr (mB fLt (mB fIx (mPk 1) (lPk 1) (mC (.int 1)) lId) lId (mB fIx (mPk 1) (lPk 1) (mC (.int 0)) lId) lId) (mB fEq (mB fIx (mPk 1) (lPk 1) (mC (.int 2)) lId) lId (mB fIx (mPk 2) (lPk 2) (mC (.int 2)) lId) lId))) (mRet (mC (.bl false))) mSkip) (mIfS (mB fNe (mB fIx (mPk 2) (lPk 2) (mC (.int 0)) lId) lId (mB fAdd (mB fIx (mPk 1) (lPk 1) (mC (.int 1)) lId) lId (mC (.int 1)) lId) lId) (mRet (mC (.bl false))) mSkip))) [.va (rtD (r :: rs)), .no, .no] = .nx [.va (rtD (r :: rs)), t1, t2] := for_ok zi e
      have s3 : (mRet (mC (.bl true))) [.va (rtD (r :: rs)), t1, t2] = .rt (.bl true) [.va (rtD (r :: rs)), t1, t2] := rfl
      exact run_rt (n := 1) (tot := 3) (m := m__law_rows_good) (args := [.va (rtD (r :: rs))]) (seq_nx s0 (seq_nx s1 (seq_nx s2 s3)))
theorem sign_rows_ok (f : List Tr) (h : goodB (fD f) = true) (rs : List Rw) (e : run_form_signs [.va (fD f)] = .ok (rsD rs) none) : run_sign_rows [.va (fD f)] = .ok (rtD rs) none := by
  have gf := good_form_ok (fD f) (pl_fD f)
  rw [h] at gf
  have bt : bTuple [rsD rs] = some (rtD rs) := rfl
  generalize fD f = X at *
  generalize rsD rs = Y at *
  simp [run_sign_rows, runF, m_sign_rows, run_need_form, m_need_form, gf, e, bt, outOf]
end GJ

set_option Elab.async false
set_option linter.all false
set_option maxRecDepth 100000
set_option maxHeartbeats 2000000
namespace GJ
open PySem L2 MP

abbrev FARN : Int := 1000000000000000000000000000000
def Sp (ys : List Int) : Prop := ∀ y ∈ ys, 1 ≤ y ∧ y ≤ FARN
theorem Sp.app {xs ys : List Int} (h : Sp xs) (h2 : Sp ys) : Sp (xs ++ ys) := fun y hy => by
  rcases List.mem_append.mp hy with q | q
  · exact h y q
  · exact h2 y q
theorem add_nD (xs ys : List Int) (h : xs.length + ys.length ≤ 16777216) : fAdd (nD xs) (nD ys) = some (nD (xs ++ ys)) := by
  simp [fAdd, nD, line, h]
theorem spots_loop (x : D) (F : Sl) : ∀ (rs : List Rw) (ys : List Int) (s3 s4 s5 : Sl), (∀ r ∈ rs, 1 ≤ r.1 ∧ r.1 + 1 ≤ FARN ∧ ∀ m, r.2.1 = some m → 1 ≤ m ∧ m ≤ FARN) → Sp ys → ys.length + 4 * rs.length ≤ 100000 →
    ∃ (zs : List Int) (t3 t4 t5 : Sl), forGo (mgTup 3 (mgsCons (mgName 3) (mgsCons (mgName 4) (mgsCons (mgName 5) mgsNil)))) (mSeq (mSet 2 (mB fAdd (mPk 2) (lPk 2) (mLst (maCons (mVar 3) (maCons (mB fAdd (mPk 3) (lPk 3) (mC (.int 1)) lId) maNil))) lId)) (mIfS (mB fNotN (mPk 4) (lPk 4) (mC .non) lId) (mSet 2 (mB fAdd (mPk 2) (lPk 2) (mLst (maCons (mVar 4) (maCons (mCall bMax (maCons (mC (.int 1)) (maCons (mB fSub (mPk 4) (lPk 4) (mC (.int 1)) lId) maNil)) (laCons lId (laCons lId laNil))) maNil))) lId)) mSkip)) (rs.map rwD) [.bo x, F, .va (nD ys), s3, s4, s5] = .nx [.bo x, F, .va (nD zs), t3, t4, t5] ∧ Sp zs ∧ zs.length ≤ ys.length + 4 * rs.length
  | [], ys, s3, s4, s5, h, hy, hl => ⟨ys, s3, s4, s5, by simp [forGo], hy, by simp⟩
  | (a, none, s) :: rs, ys, s3, s4, s5, h, hy, hl => by
    simp only [List.length_cons] at hl
    obtain ⟨h1, h2, _⟩ := h (a, none, s) List.mem_cons_self
    dsimp only at h1 h2
    have sp1 : Sp [a, a + 1] := fun y hy => by
      simp at hy
      rcases hy with e | e <;> subst e <;> omega
    have ad := add_nD ys [a, a + 1] (by simp; omega)
    obtain ⟨zs, t3, t4, t5, e, e2, e3⟩ := spots_loop x F rs (ys ++ [a, a + 1]) (.va (.int a)) (.va .non) (.va (.int s)) (fun r hr => h r (List.mem_cons_of_mem _ hr)) (hy.app sp1) (by simp; omega)
    refine ⟨zs, t3, t4, t5, ?_, e2, by simp at e3; simp; omega⟩
    simp only [List.map_cons, forGo]
    have n2 : nD [a, a + 1] = .lst [.int a, .int (a + 1)] := rfl
    rw [n2] at ad
    generalize nD ys = Y at *
    generalize nD (ys ++ [a, a + 1]) = Y2 at *
    simp [rwD, oD, ad, slotD, line, fNotN, MP.isNon]
    rw [show fAdd (.int a) (.int 1) = some (.int (a + 1)) from rfl]
    simp [ad]
    exact e
  | (a, some m, s) :: rs, ys, s3, s4, s5, h, hy, hl => by
    simp only [List.length_cons] at hl
    obtain ⟨h1, h2, h3⟩ := h (a, some m, s) List.mem_cons_self
    obtain ⟨h4, h5⟩ := h3 m rfl
    dsimp only at h1 h2
    have sp1 : Sp [a, a + 1] := fun y hy => by
      simp at hy
      rcases hy with e | e <;> subst e <;> omega
    have sp2 : Sp [m, if m - 1 > 1 then m - 1 else 1] := fun y hy => by
      simp at hy
      rcases hy with e | e
      · subst e; omega
      · subst e
        simp only [FARN] at *
        split <;> omega
    have ad := add_nD ys [a, a + 1] (by simp; omega)
    have ad2 := add_nD (ys ++ [a, a + 1]) [m, if m - 1 > 1 then m - 1 else 1] (by simp; omega)
    obtain ⟨zs, t3, t4, t5, e, e2, e3⟩ := spots_loop x F rs (ys ++ [a, a + 1] ++ [m, if m - 1 > 1 then m - 1 else 1]) (.va (.int a)) (.va (.int m)) (.va (.int s)) (fun r hr => h r (List.mem_cons_of_mem _ hr)) ((hy.app sp1).app sp2) (by simp; omega)
    refine ⟨zs, t3, t4, t5, ?_, e2, by simp at e3; simp; omega⟩
    simp only [List.map_cons, forGo]
    have n2 : nD [a, a + 1] = .lst [.int a, .int (a + 1)] := rfl
    have n3 : nD [m, if m - 1 > 1 then m - 1 else 1] = .lst [.int m, .int (if m - 1 > 1 then m - 1 else 1)] := rfl
    have mx : bMax [.int 1, .int (m - 1)] = some (.int (if m - 1 > 1 then m - 1 else 1)) := rfl
    rw [n2] at ad
    rw [n3] at ad2
    generalize (if m - 1 > 1 then m - 1 else 1) = q at *
    generalize nD (ys ++ [a, a + 1] ++ [m, q]) = Y3 at *
    generalize nD (ys ++ [a, a + 1]) = Y2 at *
    generalize nD ys = Y at *
    simp [rwD, oD, ad, slotD, line, fNotN, MP.isNon]
    rw [show fAdd (.int a) (.int 1) = some (.int (a + 1)) from rfl]
    simp [ad]
    rw [show fSub (.int m) (.int 1) = some (.int (m - 1)) from rfl]
    simp [mx, ad2]
    exact e
theorem spots_ok {x : D} (hx : Src x) (rs : List Rw) (h : ∀ r ∈ rs, 1 ≤ r.1 ∧ r.1 + 1 ≤ FARN ∧ ∀ m, r.2.1 = some m → 1 ≤ m ∧ m ≤ FARN) (hl : rs.length ≤ 10000) : ∃ (zs : List Int) (x' : D), run__law_spots [.bo x, .va (rtD rs)] = .ok (nD zs) (some x') ∧ Src x' ∧ Sp zs ∧ zs.length ≤ 50000 := by
  obtain ⟨r, x1, d1, hs1, r0, r1⟩ := draw_ok hx 2000 (by decide) (by decide)
  have sp0 : Sp [1, 2, 3, 4, 5, 6, 7, 8, 9, 10, 11, 12, 30, 1 + r] := fun y hy => by
    simp only [FARN]
    simp at hy
    omega
  obtain ⟨zs, t3, t4, t5, e, e2, e3⟩ := spots_loop x1 (.va (rtD rs)) rs [1, 2, 3, 4, 5, 6, 7, 8, 9, 10, 11, 12, 30, 1 + r] .no .no .no h sp0 (by simp; omega)
  obtain ⟨r', x2, d2, hs2, r0', r1'⟩ := draw_ok hs1 1000000000 (by decide) (by decide)
  have sp2 : Sp [1000000000 + r', FARN] := fun y hy => by
    simp at hy
    simp only [FARN] at *
    omega
  refine ⟨zs ++ [1000000000 + r', FARN], x2, ?_, hs2, e2.app sp2, by simp at e3 ⊢; omega⟩
  have s0 : (mSet 2 (mLst (maCons (mC (.int 1)) (maCons (mC (.int 2)) (maCons (mC (.int 3)) (maCons (mC (.int 4)) (maCons (mC (.int 5)) (maCons (mC (.int 6)) (maCons (mC (.int 7)) (maCons (mC (.int 8)) (maCons (mC (.int 9)) (maCons (mC (.int 10)) (maCons (mC (.int 11)) (maCons (mC (.int 12)) (maCons (mC (.int 30)) (maCons (mB fAdd (mC (.int 1)) lId (mUserB run__law_draw 0 (maCons (mC (.int 2000)) maNil)) lId) maNil)))))))))))))))) [.bo x, .va (rtD rs), .no, .no, .no, .no] = .nx [.bo x1, .va (rtD rs), .va (nD [1, 2, 3, 4, 5, 6, 7, 8, 9, 10, 11, 12, 30, 1 + r]), .no, .no, .no] := by
    generalize rtD rs = X at *
    simp [d1, mUserB, slotD, line, nD]
    rw [show fAdd (.int 1) (.int r) = some (.int (1 + r)) from rfl]
    simp
  have s1 : (mFor (mIt (mVar 1)) (mgTup 3 (mgsCons (mgName 3) (mgsCons (mgName 4) (mgsCons (mgName 5) mgsNil)))) (mSeq (mSet 2 (mB fAdd (mPk 2) (lPk 2) (mLst (maCons (mVar 3) (maCons (mB fAdd (mPk 3) (lPk 3) (mC (.int 1)) lId) maNil))) lId)) (mIfS (mB fNotN (mPk 4) (lPk 4) (mC .non) lId) (mSet 2 (mB fAdd (mPk 2) (lPk 2) (mLst (maCons (mVar 4) (maCons (mCall bMax (maCons (mC (.int 1)) (maCons (mB fSub (mPk 4) (lPk 4) (mC (.int 1)) lId) maNil)) (laCons lId (laCons lId laNil))) maNil))) lId)) mSkip))) [.bo x1, .va (rtD rs), .va (nD [1, 2, 3, 4, 5, 6, 7, 8, 9, 10, 11, 12, 30, 1 + r]), .no, .no, .no] = .nx [.bo x1, .va (rtD rs), .va (nD zs), t3, t4, t5] := for_ok rfl e
  have ad := add_nD zs [1000000000 + r', FARN] (by simp at e3 ⊢; omega)
  have n2 : nD [1000000000 + r', FARN] = .lst [.int (1000000000 + r'), .int FARN] := rfl
  rw [n2] at ad
  have p9 : fPow (.int 10) (.int 9) = some (.int 1000000000) := by simp [fPow]
  have p30 : fPow (.int 10) (.int 30) = some (.int FARN) := by simp [fPow, FARN]
  have s2 : (mRet (mB fAdd (mPk 2) (lPk 2) (mLst (maCons (mB fAdd (mB fPow (mC (.int 10)) lId (mC (.int 9)) lId) lId (mUserB run__law_draw 0 (maCons (mB fPow (mC (.int 10)) lId (mC (.int 9)) lId) maNil)) lId) (maCons (mB fPow (mC (.int 10)) lId (mC (.int 30)) lId) maNil))) lId)) [.bo x1, .va (rtD rs), .va (nD zs), t3, t4, t5] = .rt (nD (zs ++ [1000000000 + r', FARN])) [.bo x2, .va (rtD rs), .va (nD zs), t3, t4, t5] := by
    generalize nD (zs ++ [1000000000 + r', FARN]) = Z2 at *
    generalize nD zs = Z at *
    generalize rtD rs = X at *
    simp [p9, p30, d2, mUserB, slotD, line]
    rw [show fAdd (.int 1000000000) (.int r') = some (.int (1000000000 + r')) from rfl]
    simp [ad]
  exact run_rt (n := 2) (tot := 6) (m := m__law_spots) (args := [.bo x, .va (rtD rs)]) (seq_nx s0 (seq_nx s1 s2))
end GJ

set_option Elab.async false
set_option linter.all false
set_option maxRecDepth 100000
set_option maxHeartbeats 2000000
namespace GJ
open PySem L2 MP

/-- a form of the law's making -/
structure LF (f : List Tr) : Prop where
  good : goodB (fD f) = true
  ne : f ≠ []
  wide : ∀ x ∈ f, ∀ y ∈ f, x.1 - y.1 ≤ 7
  den : ∃ M : Int, 0 < M ∧ M ≤ 128 ∧ ∀ x ∈ f, x.2.2 ∣ M
theorem one_turn (f : List Tr) (h : goodB (fD f) = true) (rs : List Rw) (cv : Cv (fun n => (wF f n).num.sign) 1 rs none) (x : D) (n : Int) (h1 : 1 ≤ n) (h2 : n ≤ FARN) (s4 s5 s6 : Sl) :
    ∃ t4 t5 t6, (mSeq (mAsg (mgTup 2 (mgsCons (mgName 4) (mgsCons (mgName 5) mgsNil))) (mUser run__law_worth (maCons (mVar 1) (maCons (mVar 3) maNil)))) (mSeq (mSet 6 (mB fSub (mCall bInt (maCons (mB fGt (mPk 4) (lPk 4) (mC (.int 0)) lId) maNil) (laCons lId laNil)) lId (mCall bInt (maCons (mB fLt (mPk 4) (lPk 4) (mC (.int 0)) lId) maNil) (laCons lId laNil)) lId)) (mIfS (mOr (mB fNe (mUser run__law_at (maCons (mVar 2) (maCons (mVar 3) maNil))) lId (mPk 6) (lPk 6)) (mB fNe (mUser run_worth (maCons (mVar 1) (maCons (mVar 3) maNil))) lId (mTup (maCons (mVar 4) (maCons (mVar 5) maNil))) lId)) (mRet (mC (.bl false))) mSkip))) [.bo x, .va (fD f), .va (rtD rs), .va (.int n), s4, s5, s6] = .nx [.bo x, .va (fD f), .va (rtD rs), .va (.int n), t4, t5, t6] := by
  obtain ⟨w1, w2⟩ := worth_ok f h n h1 h2
  have at1 := at_ok (fun n => (wF f n).num.sign) rs cv n h1
  refine ⟨.va (.int (wF f n).num), .va (.int ((wF f n).den : Int)), .va (.int (wF f n).num.sign), ?_⟩
  generalize wF f n = q at *
  have due : (mB fSub (mCall bInt (maCons (mB fGt (mPk 4) (lPk 4) (mC (.int 0)) lId) maNil) (laCons lId laNil)) lId (mCall bInt (maCons (mB fLt (mPk 4) (lPk 4) (mC (.int 0)) lId) maNil) (laCons lId laNil)) lId) [.bo x, .va (fD f), .va (rtD rs), .va (.int n), .va (.int q.num), .va (.int (q.den : Int)), s6] = .ok (.int q.num.sign) [.bo x, .va (fD f), .va (rtD rs), .va (.int n), .va (.int q.num), .va (.int (q.den : Int)), s6] := by
    generalize fD f = X
    generalize rtD rs = Y
    rcases Int.lt_trichotomy q.num 0 with k | k | k
    · have k2 : ¬ 0 < q.num := by omega
      rw [Int.sign_eq_neg_one_of_neg k]
      simp [k, k2, b2iD, slotD, outOf, fAdd, fSub, fMod, fLt, fLe, fGt, fGe, fNeg, fIsN, fNotN, MP.isNon, bAbs, bInt, isInt, isBool, isTup, isStr, bLen, line]
    · rw [k]
      simp [slotD, outOf, fAdd, fSub, fMod, fLt, fLe, fGt, fGe, fNeg, fIsN, fNotN, MP.isNon, bAbs, bInt, isInt, isBool, isTup, isStr, bLen, line]
    · have k2 : ¬ q.num < 0 := by omega
      rw [Int.sign_eq_one_of_pos k]
      simp [k, k2, b2iD, slotD, outOf, fAdd, fSub, fMod, fLt, fLe, fGt, fGe, fNeg, fIsN, fNotN, MP.isNon, bAbs, bInt, isInt, isBool, isTup, isStr, bLen, line]
  have e1 : fNe (.int q.num.sign) (.int q.num.sign) = some (.bl false) := by simp [fNe, okD, eqD]
  have e2 : fNe (qD q) (.tup [.int q.num, .int (q.den : Int)]) = some (.bl false) := by simp [fNe, qD, okD, okL, eqD, eqL]
  have w3 : run__law_worth [.va (fD f), .va (.int n)] = .ok (.tup [.int q.num, .int (q.den : Int)]) none := w2
  generalize fD f = X at *
  generalize rtD rs = Y at *
  refine seq_nx (e1 := [.bo x, .va X, .va Y, .va (.int n), .va (.int q.num), .va (.int (q.den : Int)), s6]) (by simp [w3]) (seq_nx (e1 := [.bo x, .va X, .va Y, .va (.int n), .va (.int q.num), .va (.int (q.den : Int)), .va (.int q.num.sign)]) ?_ ?_)
  · rw [mSet_ap, due]
    rfl
  · refine if_ff (e1 := [.bo x, .va X, .va Y, .va (.int n), .va (.int q.num), .va (.int (q.den : Int)), .va (.int q.num.sign)]) ?_ rfl
    simp [at1, e1, w1, e2, slotD, line]
theorem all_turns (f : List Tr) (h : goodB (fD f) = true) (rs : List Rw) (cv : Cv (fun n => (wF f n).num.sign) 1 rs none) (x : D) : ∀ (zs : List Int) (s3 s4 s5 s6 : Sl), Sp zs →
    ∃ t3 t4 t5 t6, forGo (mgName 3) (mSeq (mAsg (mgTup 2 (mgsCons (mgName 4) (mgsCons (mgName 5) mgsNil))) (mUser run__law_worth (maCons (mVar 1) (maCons (mVar 3) maNil)))) (mSeq (mSet 6 (mB fSub (mCall bInt (maCons (mB fGt (mPk 4) (lPk 4) (mC (.int 0)) lId) maNil) (laCons lId laNil)) lId (mCall bInt (maCons (mB fLt (mPk 4) (lPk 4) (mC (.int 0)) lId) maNil) (laCons lId laNil)) lId)) (mIfS (mOr (mB fNe (mUser run__law_at (maCons (mVar 2) (maCons (mVar 3) maNil))) lId (mPk 6) (lPk 6)) (mB fNe (mUser run_worth (maCons (mVar 1) (maCons (mVar 3) maNil))) lId (mTup (maCons (mVar 4) (maCons (mVar 5) maNil))) lId)) (mRet (mC (.bl false))) mSkip))) (zs.map D.int) [.bo x, .va (fD f), .va (rtD rs), s3, s4, s5, s6] = .nx [.bo x, .va (fD f), .va (rtD rs), t3, t4, t5, t6]
  | [], s3, s4, s5, s6, hz => ⟨s3, s4, s5, s6, by simp [forGo]⟩
  | z :: zs, s3, s4, s5, s6, hz => by
    obtain ⟨h1, h2⟩ := hz z List.mem_cons_self
    obtain ⟨t4, t5, t6, e⟩ := one_turn f h rs cv x z h1 h2 s4 s5 s6
    obtain ⟨u3, u4, u5, u6, e2⟩ := all_turns f h rs cv x zs (.va (.int z)) t4 t5 t6 (fun y hy => hz y (List.mem_cons_of_mem _ hy))
    refine ⟨u3, u4, u5, u6, ?_⟩
    have tg : (mgName 3) (.int z) [.bo x, .va (fD f), .va (rtD rs), s3, s4, s5, s6] = some [.bo x, .va (fD f), .va (rtD rs), .va (.int z), s4, s5, s6] := rfl
    rw [List.map_cons]
    conv => lhs; unfold forGo
    rw [tg]
    dsimp only
    rw [e]
    exact e2
theorem lf_rows (f : List Tr) (h : LF f) : ∃ rs, run_sign_rows [.va (fD f)] = .ok (rtD rs) none ∧ Cv (fun n => (wF f n).num.sign) 1 rs none ∧ Dst rs ∧ rs.length ≤ 6561 ∧ ∀ r ∈ rs, 1 ≤ r.1 ∧ r.1 + 1 ≤ FARN ∧ ∀ m, r.2.1 = some m → 1 ≤ m ∧ m ≤ FARN := by
  have g := gd_of h.good
  obtain ⟨M, m0, m1, md⟩ := h.den
  rcases List.eq_nil_or_concat f with hf | ⟨ini, y, hf⟩
  · exact absurd hf h.ne
  · rw [List.concat_eq_append] at hf
    obtain ⟨l1, l2, l3, l4⟩ := g.low
    have hy : y ∈ f := by rw [hf]; simp
    obtain ⟨x0, hx0⟩ : ∃ x0, f.head? = some x0 := by cases f with | nil => exact absurd rfl h.ne | cons a r => exact ⟨a, rfl⟩
    have hx0m : x0 ∈ f := List.mem_of_head? hx0
    have lw := l3 x0 hx0
    have yw := h.wide y hy x0 hx0m
    obtain ⟨b1, b2⟩ := l4 y hy
    have hi : ∀ x ∈ f, x.1 ≤ y.1 := by
      have := ord_high ini y (by rw [← hf]; exact g.ord)
      rw [← hf] at this
      exact this
    obtain ⟨rs, e, cv, ds, ne, len, bnd⟩ := form_signs_ok ini y (lowOf f) (y.1 - lowOf f + 1).toNat (by omega) (by omega) (by rw [← hf]; exact l3) (by rw [← hf]; exact g.len) (by
      rw [← hf]
      intro x hx
      obtain ⟨a1, a2, a3, a4, a5, a6⟩ := g.pt x hx
      obtain ⟨c1, c2⟩ := l4 x hx
      have := hi x hx
      exact ⟨by omega, by omega, a5, a6, a3⟩) (by rw [← hf]; exact g.ord) M m0 (kM := 7) (by unfold Bd; omega) (by omega) (by rw [← hf]; exact md)
    rw [← hf] at e cv
    refine ⟨rs, sign_rows_ok f h.good rs e, cv, ds, len, ?_⟩
    have p74 : (2 : Int) ^ (67 + 7) + 1 + 1 ≤ FARN := by decide
    have key : ∀ (rs : List Rw) (l : Int), 1 ≤ l → l ≤ 2 ^ (67 + 7) + 1 → Cv (fun n => (wF f n).num.sign) l rs none → (∀ a m s, (a, some m, s) ∈ rs → m < 2 ^ (67 + 7) + 1) → ∀ r ∈ rs, 1 ≤ r.1 ∧ r.1 + 1 ≤ FARN ∧ ∀ m, r.2.1 = some m → 1 ≤ m ∧ m ≤ FARN := by
      intro rs
      induction rs with
      | nil => intro l _ _ _ _ r hr; simp at hr
      | cons q rs ih =>
        intro l h1 h2 hc hb r hr
        obtain ⟨a, m, s⟩ := q
        cases m with
        | none =>
          simp only [Cv] at hc
          obtain ⟨c1, _, c3, _⟩ := hc
          subst c3
          simp at hr
          subst hr
          exact ⟨by dsimp only; omega, by dsimp only; omega, fun m hm => by cases hm⟩
        | some m =>
          simp only [Cv] at hc
          obtain ⟨c1, c2, _, c4⟩ := hc
          have mb := hb a m s List.mem_cons_self
          rcases List.mem_cons.mp hr with e | hr
          · subst e
            exact ⟨by dsimp only; omega, by dsimp only; omega, fun m' hm => by cases hm; exact ⟨by omega, by omega⟩⟩
          · exact ih (m + 1) (by omega) (by omega) c4 (fun a2 m2 s2 hm2 => hb a2 m2 s2 (List.mem_cons_of_mem _ hm2)) r hr
    exact key rs 1 (by omega) (by decide) cv bnd
theorem signs_right_ok {x : D} (hx : Src x) (f : List Tr) (h : LF f) : ∃ x', run__law_signs_right [.bo x, .va (fD f)] = .ok (.bl true) (some x') ∧ Src x' := by
  obtain ⟨rs, e, cv, ds, len, bb⟩ := lf_rows f h
  have rg := rows_good_ok _ rs cv ds (by omega)
  obtain ⟨zs, x', sp, hs, hz, zl⟩ := spots_ok hx rs bb (by omega)
  have sp2 : Sp (zs ++ (List.range 59).map fun i => (1 : Int) + (i : Nat)) := hz.app fun y hy => by
    obtain ⟨i, hi, rfl⟩ := List.mem_map.mp hy
    have := List.mem_range.mp hi
    simp only [FARN]
    omega
  obtain ⟨t3, t4, t5, t6, go⟩ := all_turns f h.good rs cv x' _ .no .no .no .no sp2
  refine ⟨x', ?_, hs⟩
  have s0 : (mSet 2 (mUser run_sign_rows (maCons (mVar 1) maNil))) [.bo x, .va (fD f), .no, .no, .no, .no, .no] = .nx [.bo x, .va (fD f), .va (rtD rs), .no, .no, .no, .no] := by
    generalize fD f = X at *
    generalize rtD rs = Y at *
    simp [e]
  have s1 : (mIfS (mNot (mUser run__law_rows_good (maCons (mVar 2) maNil))) (mRet (mC (.bl false))) mSkip) [.bo x, .va (fD f), .va (rtD rs), .no, .no, .no, .no] = .nx [.bo x, .va (fD f), .va (rtD rs), .no, .no, .no, .no] := by
    generalize fD f = X at *
    generalize rtD rs = Y at *
    simp [rg]
  have up : nD ((List.range 59).map fun i => (1 : Int) + (i : Nat)) = .lst (upsD 1 60) := by
    simp only [nD, upsD, List.map_map]
    rfl
  have ad := add_nD zs ((List.range 59).map fun i => (1 : Int) + (i : Nat)) (by rw [List.length_map, List.length_range]; omega)
  have it : (mIt (mB fAdd (mUserB run__law_spots 0 (maCons (mVar 2) maNil)) lId (mListR2 (mC (.int 1)) (mC (.int 60))) lId)) [.bo x, .va (fD f), .va (rtD rs), .no, .no, .no, .no] = .ok ((zs ++ (List.range 59).map fun i => (1 : Int) + (i : Nat)).map D.int) [.bo x', .va (fD f), .va (rtD rs), .no, .no, .no, .no] := by
    have lr : (mListR2 (mC (.int 1)) (mC (.int 60))) [.bo x', .va (fD f), .va (rtD rs), .no, .no, .no, .no] = .ok (.lst (upsD 1 60)) [.bo x', .va (fD f), .va (rtD rs), .no, .no, .no, .no] := rfl
    have ub : (mUserB run__law_spots 0 (maCons (mVar 2) maNil)) [.bo x, .va (fD f), .va (rtD rs), .no, .no, .no, .no] = .ok (nD zs) [.bo x', .va (fD f), .va (rtD rs), .no, .no, .no, .no] := by
      generalize fD f = X at *
      generalize rtD rs = Y at *
      simp [mUserB, sp, slotD]
    rw [up] at ad
    simp only [mIt_ap, mB_ap, ub, lr, lId_ap, ad]
    rfl
  have s2 : (mFor (mIt (mB fAdd (mUserB run__law_spots 0 (maCons (mVar 2) maNil)) lId (mListR2 (mC (.int 1)) (mC (.int 60))) lId)) (mgName 3) (mSeq (mAsg (mgTup 2 (mgsCons (mgName 4) (mgsCons (mgName 5) mgsNil))) (mUser run__law_worth (maCons (mVar 1) (maCons (mVar 3) maNil)))) (mSeq (mSet 6 (mB fSub (mCall bInt (maCons (mB fGt (mPk 4) (lPk 4) (mC (.int 0)) lId) maNil) (laCons lId laNil)) lId (mCall bInt (maCons (mB fLt (mPk 4) (lPk 4) (mC (.int 0)) lId) maNil) (laCons lId laNil)) lId)) (mIfS (mOr (mB fNe (mUser run__law_at (maCons (mVar 2) (maCons (mVar 3) maNil))) lId (mPk 6) (lPk 6)) (mB fNe (mUser run_worth (maCons (mVar 1) (maCons (mVar 3) maNil))) lId (mTup (maCons (mVar 4) (maCons (mVar 5) maNil))) lId)) (mRet (mC (.bl false))) mSkip)))) [.bo x, .va (fD f), .va (rtD rs), .no, .no, .no, .no] = .nx [.bo x', .va (fD f), .va (rtD rs), t3, t4, t5, t6] := for_ok it go
  have s3 : (mRet (mC (.bl true))) [.bo x', .va (fD f), .va (rtD rs), t3, t4, t5, t6] = .rt (.bl true) [.bo x', .va (fD f), .va (rtD rs), t3, t4, t5, t6] := rfl
  exact run_rt (n := 2) (tot := 7) (m := m__law_signs_right) (args := [.bo x, .va (fD f)]) (seq_nx s0 (seq_nx s1 (seq_nx s2 s3)))
end GJ

set_option Elab.async false
set_option linter.all false
set_option maxRecDepth 100000
set_option maxHeartbeats 2000000
namespace GJ
open PySem L2 MP

/-! ### spoilt values -/
mutual
def Ok (n : Nat) : Nat → D → Bool
  | d, .tup xs => (match d with
    | 0 => false
    | d + 1 => decide (xs.length ≤ n) && OkL n d xs)
  | d, .lst xs => (match d with
    | 0 => false
    | d + 1 => decide (xs.length ≤ n) && OkL n d xs)
  | _, .str cs => cs.isEmpty
  | _, .scr _ => false
  | _, .dct _ _ => false
  | _, .dtp _ _ => false
  | _, _ => true
def OkL (n : Nat) : Nat → List D → Bool
  | _, [] => true
  | d, x :: xs => Ok n d x && OkL n d xs
end
theorem okL_iff (n d : Nat) : ∀ xs : List D, OkL n d xs = true ↔ ∀ x ∈ xs, Ok n d x = true
  | [] => by simp [OkL]
  | x :: xs => by simp [OkL, okL_iff n d xs]
mutual
theorem Ok.mono {n n' : Nat} (hn : n ≤ n') : ∀ (v : D) (d d' : Nat), d ≤ d' → Ok n d v = true → Ok n' d' v = true
  | .non, d, d', hd, h => by simp [Ok]
  | .bl b, d, d', hd, h => by simp [Ok]
  | .int i, d, d', hd, h => by simp [Ok]
  | .str cs, d, d', hd, h => by simp only [Ok] at h ⊢; exact h
  | .tup xs, d, d', hd, h => by
    cases d with
    | zero => simp [Ok] at h
    | succ d =>
      cases d' with
      | zero => omega
      | succ d' =>
        simp only [Ok, Bool.and_eq_true, decide_eq_true_eq] at h ⊢
        exact ⟨by omega, OkL.mono hn xs d d' (by omega) h.2⟩
  | .lst xs, d, d', hd, h => by
    cases d with
    | zero => simp [Ok] at h
    | succ d =>
      cases d' with
      | zero => omega
      | succ d' =>
        simp only [Ok, Bool.and_eq_true, decide_eq_true_eq] at h ⊢
        exact ⟨by omega, OkL.mono hn xs d d' (by omega) h.2⟩
  | .scr _, d, d', hd, h => by simp [Ok] at h
  | .dct _ _, d, d', hd, h => by simp [Ok] at h
  | .dtp _ _, d, d', hd, h => by simp [Ok] at h
theorem OkL.mono {n n' : Nat} (hn : n ≤ n') : ∀ (xs : List D) (d d' : Nat), d ≤ d' → OkL n d xs = true → OkL n' d' xs = true
  | [], d, d', hd, h => by simp [OkL]
  | x :: xs, d, d', hd, h => by
    simp only [OkL, Bool.and_eq_true] at h ⊢
    exact ⟨Ok.mono hn x d d' hd h.1, OkL.mono hn xs d d' hd h.2⟩
end
mutual
theorem Ok.pl {n : Nat} : ∀ (v : D) (d : Nat), Ok n d v = true → Pl v = true
  | .non, d, h => by simp [Pl]
  | .bl b, d, h => by simp [Pl]
  | .int i, d, h => by simp [Pl]
  | .str cs, d, h => by simp [Pl]
  | .tup xs, d, h => by
    cases d with
    | zero => simp [Ok] at h
    | succ d =>
      simp only [Ok, Bool.and_eq_true] at h
      simp only [Pl]
      exact OkL.pl xs d h.2
  | .lst xs, d, h => by
    cases d with
    | zero => simp [Ok] at h
    | succ d =>
      simp only [Ok, Bool.and_eq_true] at h
      simp only [Pl]
      exact OkL.pl xs d h.2
  | .scr _, d, h => by simp [Ok] at h
  | .dct _ _, d, h => by simp [Ok] at h
  | .dtp _ _, d, h => by simp [Ok] at h
theorem OkL.pl {n : Nat} : ∀ (xs : List D) (d : Nat), OkL n d xs = true → PlL xs = true
  | [], d, h => by simp [PlL]
  | x :: xs, d, h => by
    simp only [OkL, Bool.and_eq_true] at h
    simp only [PlL, Bool.and_eq_true]
    exact ⟨Ok.pl x d h.1, OkL.pl xs d h.2⟩
end
mutual
theorem Ok.ok {n : Nat} : ∀ (v : D) (d k : Nat), d ≤ k → Ok n d v = true → okD k v = true
  | .non, d, k, hk, h => by simp [okD]
  | .bl b, d, k, hk, h => by simp [okD]
  | .int i, d, k, hk, h => by simp [okD]
  | .str cs, d, k, hk, h => by
    simp only [Ok, List.isEmpty_iff] at h
    subst h
    simp [okD]
  | .tup xs, d, k, hk, h => by
    cases d with
    | zero => simp [Ok] at h
    | succ d =>
      cases k with
      | zero => omega
      | succ k =>
        simp only [Ok, Bool.and_eq_true] at h
        simp only [okD]
        exact OkL.ok xs d k (by omega) h.2
  | .lst xs, d, k, hk, h => by
    cases d with
    | zero => simp [Ok] at h
    | succ d =>
      cases k with
      | zero => omega
      | succ k =>
        simp only [Ok, Bool.and_eq_true] at h
        simp only [okD]
        exact OkL.ok xs d k (by omega) h.2
  | .scr _, d, k, hk, h => by simp [Ok] at h
  | .dct _ _, d, k, hk, h => by simp [Ok] at h
  | .dtp _ _, d, k, hk, h => by simp [Ok] at h
theorem OkL.ok {n : Nat} : ∀ (xs : List D) (d k : Nat), d ≤ k → OkL n d xs = true → okL k xs = true
  | [], d, k, hk, h => by simp [okL]
  | x :: xs, d, k, hk, h => by
    simp only [OkL, Bool.and_eq_true] at h
    simp only [okL, Ok.ok x d k hk h.1, OkL.ok xs d k hk h.2]
end
theorem odd_ok {x : D} (hx : Src x) : ∃ (y x' : D), run__law_odd [.bo x] = .ok y (some x') ∧ Src x' ∧ Ok 3 1 y = true := by
  have p20 : fPow (.int 10) (.int 20) = some (.int 100000000000000000000) := by simp [fPow]
  obtain ⟨y, x', e, hs, hm⟩ := of_ok hx [.non, .bl true, .bl false, .int 0, .int 1, .int (-20), .int 21, .int 100000000000000000001, .str [], .tup [], .lst [], .tup [.int 0, .int 1], .tup [.int 0, .int 1, .int 1], .tup [.int 1, .int 2, .int 4], .tup [.int 0, .int 0, .int 1], .int 7] (by simp) (by simp)
  refine ⟨y, x', ?_, hs, ?_⟩
  · simp [run__law_odd, runF, m__law_odd, p20, mUserB, e, slotD, outOf, fAdd, fSub, fMod, fLt, fLe, fGt, fGe, fNeg, fIsN, fNotN, MP.isNon, bAbs, bInt, isInt, isBool, isTup, isStr, bLen, line]
  · simp at hm
    rcases hm with e | e | e | e | e | e | e | e | e | e | e | e | e | e | e | e <;> subst e <;> simp [Ok, OkL]
end GJ

set_option Elab.async false
set_option linter.all false
set_option maxRecDepth 100000
set_option maxHeartbeats 2000000
namespace GJ
open PySem L2 MP

theorem tup_eq_nil (n d : Nat) (xs : List D) (h : Ok n d (.tup xs) = true) (hd : d ≤ 64) : fEq (.tup xs) (.tup []) = some (.bl xs.isEmpty) := by
  have := Ok.ok (.tup xs) d 64 hd h
  unfold fEq
  rw [this]
  cases xs <;> simp [okD, okL, eqD, eqL]
theorem spoilt_ok : ∀ (f d n : Nat) (v x : D), d < f → d ≤ 60 → 3 ≤ n → n ≤ 1000 → Ok n d v = true → Src x → ∃ (v' x' : D), run__law_spoilt f [.bo x, .va v] = .ok v' (some x') ∧ Src x' ∧ Ok (n + 1) (d + 1) v' = true := by
  intro f
  induction f with
  | zero => intro d n v x h; omega
  | succ f ih =>
    intro d n v x hf hd hn hn2 hv hx
    -- nothing but an odd value
    have odd : ∀ x1 : D, Src x1 → ∃ (v' x' : D), (mUserB run__law_odd 0 maNil) [.bo x1, .va v, .no, .no] = .ok v' [.bo x', .va v, .no, .no] ∧ Src x' ∧ Ok (n + 1) (d + 1) v' = true := fun x1 hx1 => by
      obtain ⟨y, x', e, hs, ho⟩ := odd_ok hx1
      exact ⟨y, x', by simp [mUserB, e, slotD], hs, Ok.mono (by omega) y 1 (d + 1) (by omega) ho⟩
    have done_ : ∀ (v' x' : D) (e : Ev), m__law_spoilt (run__law_spoilt f) [.bo x, .va v, .no, .no] = .rt v' (.bo x' :: e) → run__law_spoilt (f + 1) [.bo x, .va v] = .ok v' (some x') := fun v' x' e h => by
      have := run_rt (n := 2) (tot := 4) (m := m__law_spoilt (run__law_spoilt f)) (args := [.bo x, .va v]) h
      exact this
    by_cases ht : ∃ xs, v = .tup xs ∧ xs ≠ []
    · obtain ⟨xs, rfl, hne⟩ := ht
      have en := tup_eq_nil n d xs hv (by omega)
      have he : xs.isEmpty = false := by cases xs <;> simp_all
      rw [he] at en
      obtain ⟨r, x1, d1, hs1, r0, r1⟩ := draw_ok hx 6 (by decide) (by decide)
      have eqr := eq_int r 0
      by_cases hr : r = 0
      · obtain ⟨v', x', e, hs, ho⟩ := odd x1 hs1
        refine ⟨v', x', done_ v' x' [.va (.tup xs), .no, .no] (seq_rt (if_tt (e1 := [.bo x1, .va (.tup xs), .no, .no]) ?_ ?_)), hs, ho⟩
        · rw [decide_eq_true hr] at eqr
          simp [en, mUserB, d1, eqr, slotD, isTup]
        · rw [mRet_ap, e]
      · rw [decide_eq_false hr] at eqr
        have s0 : (mIfS (mOr (mNot (mU isTup (mPk 1) (lPk 1))) (mOr (mB fEq (mPk 1) (lPk 1) (mTup maNil) lId) (mB fEq (mUserB run__law_draw 0 (maCons (mC (.int 6)) maNil)) lId (mC (.int 0)) lId))) (mRet (mUserB run__law_odd 0 maNil)) mSkip) [.bo x, .va (.tup xs), .no, .no] = .nx [.bo x1, .va (.tup xs), .no, .no] := if_ff (e1 := [.bo x1, .va (.tup xs), .no, .no]) (by simp [en, mUserB, d1, eqr, slotD, isTup]) rfl
        have hl0 : 0 < xs.length := List.length_pos_iff.mpr hne
        cases d with
        | zero => simp [Ok] at hv
        | succ d =>
        simp only [Ok, Bool.and_eq_true, decide_eq_true_eq] at hv
        obtain ⟨hl, hall⟩ := hv
        have hmem := (okL_iff n d xs).mp hall
        obtain ⟨a, x2, d2, hs2, a0, a1⟩ := draw_ok hs1 (xs.length : Int) (by omega) (by omega)
        obtain ⟨k, rfl⟩ : ∃ k : Nat, a = (k : Int) := ⟨a.toNat, by omega⟩
        have hk : k < xs.length := by omega
        obtain ⟨md, x3, d3, hs3, m0, m1⟩ := draw_ok hs2 8 (by decide) (by decide)
        have s1 : (mPar 2 3 (maCons (mUserB run__law_draw 0 (maCons (mCall bLen (maCons (mPk 1) maNil) (laCons (lPk 1) laNil)) maNil)) (maCons (mUserB run__law_draw 0 (maCons (mC (.int 8)) maNil)) maNil))) [.bo x1, .va (.tup xs), .no, .no] = .nx [.bo x3, .va (.tup xs), .va (.int (k : Int)), .va (.int md)] := by
          have ln : bLen [.tup xs] = some (.int (xs.length : Int)) := rfl
          simp [mUserB, d2, d3, ln, slotD]
        have c1 : cutD xs none (some (k : Int)) = xs.take k := cutD_to xs k
        have c2 : cutD xs (some ((k : Int) + 1)) none = xs.drop (k + 1) := by
          have := cutD_from xs (k + 1)
          rwa [show (((k + 1 : Nat)) : Int) = (k : Int) + 1 by omega] at this
        have c3 : cutD xs none (some ((k : Int) + 1)) = xs.take (k + 1) := by
          have := cutD_to xs (k + 1)
          rwa [show (((k + 1 : Nat)) : Int) = (k : Int) + 1 by omega] at this
        have c4 : cutD xs (some (k : Int)) none = xs.drop k := cutD_from xs k
        have lt1 : (xs.take k).length ≤ 1000 := by rw [List.length_take]; omega
        have lt2 : (xs.drop (k + 1)).length ≤ 1000 := by rw [List.length_drop]; omega
        have lt3 : (xs.take (k + 1)).length ≤ 1000 := by rw [List.length_take]; omega
        have lt4 : (xs.drop k).length ≤ 1000 := by rw [List.length_drop]; omega
        have okT : ∀ ys : List D, ys.length ≤ n + 1 → (∀ y ∈ ys, Ok (n + 1) (d + 1) y = true) → Ok (n + 1) (d + 1 + 1) (.tup ys) = true := fun ys h1 h2 => by
          simp only [Ok, Bool.and_eq_true, decide_eq_true_eq]
          exact ⟨h1, (okL_iff _ _ _).mpr h2⟩
        have up : ∀ y ∈ xs, Ok (n + 1) (d + 1) y = true := fun y hy => Ok.mono (by omega) y d (d + 1) (by omega) (hmem y hy)
        have e0 := eq_int md 0
        have e1 := eq_int md 1
        have e2 := eq_int md 2
        have e3 := eq_int md 3
        have add : ∀ ys zs : List D, ys.length ≤ 5000 → zs.length ≤ 5000 → fAdd (.tup ys) (.tup zs) = some (.tup (ys ++ zs)) := fun ys zs h1 h2 => by
          have : ys.length + zs.length ≤ 16777216 := by omega
          simp [fAdd, line, this]
        by_cases q0 : md = 0
        · rw [decide_eq_true q0] at e0
          have ad := add (xs.take k) (xs.drop (k + 1)) (by omega) (by omega)
          refine ⟨.tup (xs.take k ++ xs.drop (k + 1)), x3, done_ _ x3 [.va (.tup xs), .va (.int (k : Int)), .va (.int md)] (seq_nx s0 (seq_nx s1 (seq_rt (if_tt (e1 := [.bo x3, .va (.tup xs), .va (.int (k : Int)), .va (.int md)]) (by simp [e0, slotD]) ?_)))), hs3, okT _ (by simp; omega) fun y hy => ?_⟩
          · have f1 : fAdd (.int (k : Int)) (.int 1) = some (.int ((k : Int) + 1)) := rfl
            simp [fSl, prt, c1, c2, ad, f1, slotD]
          · rcases List.mem_append.mp hy with q | q
            · exact up y (List.mem_of_mem_take q)
            · exact up y (List.mem_of_mem_drop q)
        · rw [decide_eq_false q0] at e0
          have s2 : (mIfS (mB fEq (mPk 3) (lPk 3) (mC (.int 0)) lId) (mRet (mB fAdd (mSl (mPk 1) (lPk 1) (mC .non) (mPrt (mVar 2))) lId (mSl (mPk 1) (lPk 1) (mPrt (mB fAdd (mPk 2) (lPk 2) (mC (.int 1)) lId)) (mC .non)) lId)) mSkip) [.bo x3, .va (.tup xs), .va (.int (k : Int)), .va (.int md)] = .nx [.bo x3, .va (.tup xs), .va (.int (k : Int)), .va (.int md)] := if_ff (e1 := [.bo x3, .va (.tup xs), .va (.int (k : Int)), .va (.int md)]) (by simp [e0, slotD]) rfl
          by_cases q1 : md = 1
          · rw [decide_eq_true q1] at e1
            have ad := add (xs.take (k + 1)) (xs.drop k) (by omega) (by omega)
            refine ⟨.tup (xs.take (k + 1) ++ xs.drop k), x3, done_ _ x3 [.va (.tup xs), .va (.int (k : Int)), .va (.int md)] (seq_nx s0 (seq_nx s1 (seq_nx s2 (seq_rt (if_tt (e1 := [.bo x3, .va (.tup xs), .va (.int (k : Int)), .va (.int md)]) (by simp [e1, slotD]) ?_))))), hs3, okT _ (by simp; omega) fun y hy => ?_⟩
            · have f1 : fAdd (.int (k : Int)) (.int 1) = some (.int ((k : Int) + 1)) := rfl
              simp [fSl, prt, c3, c4, ad, f1, slotD]
            · rcases List.mem_append.mp hy with q | q
              · exact up y (List.mem_of_mem_take q)
              · exact up y (List.mem_of_mem_drop q)
          · rw [decide_eq_false q1] at e1
            have s3 : (mIfS (mB fEq (mPk 3) (lPk 3) (mC (.int 1)) lId) (mRet (mB fAdd (mSl (mPk 1) (lPk 1) (mC .non) (mPrt (mB fAdd (mPk 2) (lPk 2) (mC (.int 1)) lId))) lId (mSl (mPk 1) (lPk 1) (mPrt (mVar 2)) (mC .non)) lId)) mSkip) [.bo x3, .va (.tup xs), .va (.int (k : Int)), .va (.int md)] = .nx [.bo x3, .va (.tup xs), .va (.int (k : Int)), .va (.int md)] := if_ff (e1 := [.bo x3, .va (.tup xs), .va (.int (k : Int)), .va (.int md)]) (by simp [e1, slotD]) rfl
            by_cases q2 : md = 2
            · rw [decide_eq_true q2] at e2
              refine ⟨.lst xs, x3, done_ _ x3 [.va (.tup xs), .va (.int (k : Int)), .va (.int md)] (seq_nx s0 (seq_nx s1 (seq_nx s2 (seq_nx s3 (seq_rt (if_tt (e1 := [.bo x3, .va (.tup xs), .va (.int (k : Int)), .va (.int md)]) (by simp [e2, slotD]) (by simp [bList, slotD]))))))), hs3, ?_⟩
              simp only [Ok, Bool.and_eq_true, decide_eq_true_eq]
              exact ⟨by omega, (okL_iff _ _ _).mpr up⟩
            · rw [decide_eq_false q2] at e2
              have s4 : (mIfS (mB fEq (mPk 3) (lPk 3) (mC (.int 2)) lId) (mRet (mCall bList (maCons (mPk 1) maNil) (laCons (lPk 1) laNil))) mSkip) [.bo x3, .va (.tup xs), .va (.int (k : Int)), .va (.int md)] = .nx [.bo x3, .va (.tup xs), .va (.int (k : Int)), .va (.int md)] := if_ff (e1 := [.bo x3, .va (.tup xs), .va (.int (k : Int)), .va (.int md)]) (by simp [e2, slotD]) rfl
              by_cases q3 : md = 3
              · rw [decide_eq_true q3] at e3
                refine ⟨.tup xs.reverse, x3, done_ _ x3 [.va (.tup xs), .va (.int (k : Int)), .va (.int md)] (seq_nx s0 (seq_nx s1 (seq_nx s2 (seq_nx s3 (seq_nx s4 (seq_rt (if_tt (e1 := [.bo x3, .va (.tup xs), .va (.int (k : Int)), .va (.int md)]) (by simp [e3, slotD]) (by simp [fRevT, slotD])))))))), hs3, okT _ (by simp; omega) fun y hy => up y (List.mem_reverse.mp hy)⟩
              · rw [decide_eq_false q3] at e3
                have s5 : (mIfS (mB fEq (mPk 3) (lPk 3) (mC (.int 3)) lId) (mRet (mU fRevT (mPk 1) (lPk 1))) mSkip) [.bo x3, .va (.tup xs), .va (.int (k : Int)), .va (.int md)] = .nx [.bo x3, .va (.tup xs), .va (.int (k : Int)), .va (.int md)] := if_ff (e1 := [.bo x3, .va (.tup xs), .va (.int (k : Int)), .va (.int md)]) (by simp [e3, slotD]) rfl
                obtain ⟨w, x4, e4, hs4, ho⟩ := ih d n xs[k] x3 (by omega) (by omega) hn hn2 (hmem _ (List.getElem_mem hk)) hs3
                have ix : fIx (.tup xs) (.int (k : Int)) = some xs[k] := by
                  show ixD xs (k : Int) = _
                  rw [ixD_natU]
                  exact List.getElem?_eq_getElem hk
                have ad := add (xs.take k) [w] (by omega) (by simp)
                have ad2 := add (xs.take k ++ [w]) (xs.drop (k + 1)) (by simp; omega) (by omega)
                refine ⟨.tup (xs.take k ++ [w] ++ xs.drop (k + 1)), x4, done_ _ x4 [.va (.tup xs), .va (.int (k : Int)), .va (.int md)] (seq_nx s0 (seq_nx s1 (seq_nx s2 (seq_nx s3 (seq_nx s4 (seq_nx s5 ?_)))))), hs4, okT _ (by simp; omega) fun y hy => ?_⟩
                · have f1 : fAdd (.int (k : Int)) (.int 1) = some (.int ((k : Int) + 1)) := rfl
                  generalize run__law_spoilt f = SELF at *
                  simp only [mRet_ap]
                  simp [fSl, prt, c1, c2, ad, ad2, f1, ix, mUserB, e4, slotD, line]
                · simp only [List.mem_append, List.mem_singleton] at hy
                  rcases hy with (q | q) | q
                  · exact up y (List.mem_of_mem_take q)
                  · rw [q]; exact ho
                  · exact up y (List.mem_of_mem_drop q)
    · obtain ⟨v', x', e, hs, ho⟩ := odd x hx
      refine ⟨v', x', done_ v' x' [.va v, .no, .no] (seq_rt (if_tt (e1 := [.bo x, .va v, .no, .no]) ?_ ?_)), hs, ho⟩
      · cases v with
        | tup xs =>
          have hxs : xs = [] := Decidable.byContradiction fun q => ht ⟨xs, rfl, q⟩
          subst hxs
          have en := tup_eq_nil n d [] hv (by omega)
          simp [en, slotD, isTup]
        | scr _ => simp [Ok] at hv
        | dct _ _ => simp [Ok] at hv
        | dtp _ _ => simp [Ok] at hv
        | _ => simp [slotD, isTup]
      · rw [mRet_ap, e]
end GJ

set_option Elab.async false
set_option linter.all false
set_option maxRecDepth 100000
set_option maxHeartbeats 2000000
namespace GJ
open PySem L2 MP

/-! ### what is refused -/
theorem worth_bad (v w : D) (hp : Pl v = true) (hg : goodB v = false) : run_worth [.va v, .va w] = .ex 1 none ∧ run_sign_rows [.va v] = .ex 1 none := by
  have gf := good_form_ok v hp
  rw [hg] at gf
  have nf : run_need_form [.va v] = .ex 1 none := by simp [run_need_form, runF, m_need_form, gf, outOf]
  constructor
  · simp [run_worth, runF, m_worth, nf, outOf]
  · simp [run_sign_rows, runF, m_sign_rows, nf, outOf]
theorem worth_bad_n (v w : D) (hp : Pl v = true) (hg : goodB v = true) (hw : Pl w = true) (hn : numB w 1 1000000000000000000000000000000 = false) : run_worth [.va v, .va w] = .ex 2 none := by
  have gf := good_form_ok v hp
  rw [hg] at gf
  have nm := number_ok w 1 1000000000000000000000000000000 hw
  rw [hn] at nm
  have nf : run_need_form [.va v] = .ok .non none := by simp [run_need_form, runF, m_need_form, gf, outOf]
  have nn : run_need_n [.va w, .va (.int 1000000000000000000000000000000)] = .ex 2 none := by simp [run_need_n, runF, m_need_n, nm, outOf]
  simp [run_worth, runF, m_worth, nf, nn, outOf]
theorem turn1 (S X v : D) (ws : List D) (s4 : Sl) (hp : Pl v = true) (hg : goodB v = false) (hl : ws.length ≤ 1000) : (mSeq (mTryApp (mSeq (mDrop (mUser run_worth (maCons (mVar 3) (maCons (mC .non) maNil)))) (mRet (mC (.bl false)))) ex_InvalidForm 4 2) (mTryApp (mSeq (mDrop (mUser run_sign_rows (maCons (mVar 3) maNil))) (mRet (mC (.bl false)))) ex_InvalidForm 4 2)) [.bo S, .va X, .ow (.lst ws), .va v, s4] = .nx [.bo S, .va X, .ow (.lst (ws ++ [.bl true, .bl true])), .va v, .no] := by
  obtain ⟨w1, w2⟩ := worth_bad v .non hp hg
  have h1 : ws.length < 16777216 := by omega
  have h2 : ws.length + 1 < 16777216 := by omega
  simp [mTryApp, w1, w2, ex_InvalidForm, atC, kput, line, h1, h2, Nat.beq]
theorem turn2 (S X v : D) (ws : List D) (s4 : Sl) (hp : Pl X = true) (hg : goodB X = true) (hw : Pl v = true) (hn : numB v 1 1000000000000000000000000000000 = false) (hl : ws.length ≤ 1000) : (mTryApp (mSeq (mDrop (mUser run_worth (maCons (mVar 1) (maCons (mVar 3) maNil)))) (mRet (mC (.bl false)))) ex_InvalidNumber 4 2) [.bo S, .va X, .ow (.lst ws), .va v, s4] = .nx [.bo S, .va X, .ow (.lst (ws ++ [.bl true])), .va v, .no] := by
  have w1 := worth_bad_n X v hp hg hw hn
  have h1 : ws.length < 16777216 := by omega
  simp [mTryApp, w1, ex_InvalidNumber, atC, kput, line, h1, Nat.beq]
theorem go_cons {mg : MT} {mb : MS} {d : D} {ds : List D} {e e1 e2 : Ev} {r : RS} (h1 : mg d e = some e1) (h2 : mb e1 = .nx e2) (h3 : forGo mg mb ds e2 = r) : forGo mg mb (d :: ds) e = r := by
  unfold forGo
  rw [h1]
  dsimp only
  rw [h2]
  exact h3
theorem refused_ok (S : D) (f : List Tr) (h : goodB (fD f) = true) : run__law_refused [.bo S, .va (fD f)] = .ok (.bl true) (some S) := by
  have g := gd_of h
  have b1 : goodB (.tup (f.map trD ++ [.tup [.int 0, .int 0, .int 1]])) = false := by
    simp only [goodB]
    cases q : gB (f.map trD ++ [.tup [.int 0, .int 0, .int 1]]) (-21) with
    | false => simp
    | true =>
      have := gB_all _ _ q
      simp [partB] at this
  have p1 : Pl (.tup (f.map trD ++ [.tup [.int 0, .int 0, .int 1]])) = true := by
    have hp := pl_fD f
    simp only [fD, Pl] at hp ⊢
    have : ∀ xs ys : List D, PlL xs = true → PlL ys = true → PlL (xs ++ ys) = true := fun xs ys h1 h2 => by
      induction xs with
      | nil => exact h2
      | cons a r ih =>
        simp only [PlL, Bool.and_eq_true, List.cons_append] at h1 ⊢
        exact ⟨h1.1, ih h1.2⟩
    exact this _ _ hp (by simp [PlL, Pl])
  have p2 : Pl (.lst (f.map trD)) = true := by
    have hp := pl_fD f
    simp only [fD, Pl] at hp ⊢
    exact hp
  have hl : (f.map trD).length ≤ 12 := by rw [List.length_map]; exact g.len
  have p30 : fPow (.int 10) (.int 30) = some (.int 1000000000000000000000000000000) := by simp [fPow]
  have px := pl_fD f
  have i1 : (mIt (mLst (maCons (mB fAdd (mPk 1) (lPk 1) (mTup (maCons (mTup (maCons (mC (.int 0)) (maCons (mC (.int 0)) (maCons (mC (.int 1)) maNil)))) maNil)) lId) (maCons (mCall bList (maCons (mPk 1) maNil) (laCons (lPk 1) laNil)) (maCons (mC .non) (maCons (mC (.int 5)) maNil)))))) [.bo S, .va (fD f), .ow (.lst []), .no, .no] = .ok [.tup (f.map trD ++ [.tup [.int 0, .int 0, .int 1]]), .lst (f.map trD), .non, .int 5] [.bo S, .va (fD f), .ow (.lst []), .no, .no] := by
    have h1 : (f.map trD).length + 1 ≤ 16777216 := by omega
    simp only [fD]
    generalize f.map trD = L at *
    simp [fAdd, bList, slotD, line, h1]
  have f1 : ∃ t3 t4, forGo (mgName 3) (mSeq (mTryApp (mSeq (mDrop (mUser run_worth (maCons (mVar 3) (maCons (mC .non) maNil)))) (mRet (mC (.bl false)))) ex_InvalidForm 4 2) (mTryApp (mSeq (mDrop (mUser run_sign_rows (maCons (mVar 3) maNil))) (mRet (mC (.bl false)))) ex_InvalidForm 4 2)) [.tup (f.map trD ++ [.tup [.int 0, .int 0, .int 1]]), .lst (f.map trD), .non, .int 5] [.bo S, .va (fD f), .ow (.lst []), .no, .no] = .nx [.bo S, .va (fD f), .ow (.lst [.bl true, .bl true, .bl true, .bl true, .bl true, .bl true, .bl true, .bl true]), t3, t4] :=
    ⟨.va (.int 5), .no, go_cons rfl (turn1 S (fD f) _ [] .no p1 b1 (by simp)) (go_cons rfl (turn1 S (fD f) _ _ .no p2 rfl (by simp)) (go_cons rfl (turn1 S (fD f) .non _ .no rfl rfl (by simp)) (go_cons rfl (turn1 S (fD f) (.int 5) _ .no rfl rfl (by simp)) rfl)))⟩
  obtain ⟨t3, t4, f1⟩ := f1
  have i2 : (mIt (mLst (maCons (mC .non) (maCons (mC (.int 0)) (maCons (mB fAdd (mB fPow (mC (.int 10)) lId (mC (.int 30)) lId) lId (mC (.int 1)) lId) (maCons (mC (.bl true)) (maCons (mC (.str [49])) maNil))))))) [.bo S, .va (fD f), .ow (.lst [.bl true, .bl true, .bl true, .bl true, .bl true, .bl true, .bl true, .bl true]), t3, t4] = .ok [.non, .int 0, .int 1000000000000000000000000000001, .bl true, .str [49]] [.bo S, .va (fD f), .ow (.lst [.bl true, .bl true, .bl true, .bl true, .bl true, .bl true, .bl true, .bl true]), t3, t4] := by
    generalize fD f = X at *
    simp [p30, fAdd, line]
  have f2 : ∃ u3 u4, forGo (mgName 3) (mTryApp (mSeq (mDrop (mUser run_worth (maCons (mVar 1) (maCons (mVar 3) maNil)))) (mRet (mC (.bl false)))) ex_InvalidNumber 4 2) [.non, .int 0, .int 1000000000000000000000000000001, .bl true, .str [49]] [.bo S, .va (fD f), .ow (.lst [.bl true, .bl true, .bl true, .bl true, .bl true, .bl true, .bl true, .bl true]), t3, t4] = .nx [.bo S, .va (fD f), .ow (.lst (List.replicate 13 (.bl true))), u3, u4] :=
    ⟨.va (.str [49]), .no, go_cons rfl (turn2 S (fD f) .non _ t4 px h rfl rfl (by simp)) (go_cons rfl (turn2 S (fD f) (.int 0) _ .no px h rfl (by decide) (by simp)) (go_cons rfl (turn2 S (fD f) (.int 1000000000000000000000000000001) _ .no px h rfl (by decide) (by simp)) (go_cons rfl (turn2 S (fD f) (.bl true) _ .no px h rfl rfl (by simp)) (go_cons rfl (turn2 S (fD f) (.str [49]) _ .no px h rfl rfl (by simp)) rfl))))⟩
  obtain ⟨u3, u4, f2⟩ := f2
  have s0 : (mOwn 2 (mLst maNil)) [.bo S, .va (fD f), .no, .no, .no] = .nx [.bo S, .va (fD f), .ow (.lst []), .no, .no] := rfl
  have s3 : (mRet (mB fNotIn (mC (.bl false)) lId (mPk 2) (lPk 2))) [.bo S, .va (fD f), .ow (.lst (List.replicate 13 (.bl true))), u3, u4] = .rt (.bl true) [.bo S, .va (fD f), .ow (.lst (List.replicate 13 (.bl true))), u3, u4] := by
    have : fNotIn (.bl false) (.lst (List.replicate 13 (.bl true))) = some (.bl true) := by rfl
    generalize List.replicate 13 (D.bl true) = R at *
    simp [this, slotD]
  exact run_rt (n := 2) (tot := 5) (m := m__law_refused) (args := [.bo S, .va (fD f)]) (e := [.bo S, .va (fD f), .ow (.lst (List.replicate 13 (.bl true))), u3, u4]) (seq_nx s0 (seq_nx (for_ok i1 f1) (seq_nx (for_ok i2 f2) s3)))
end GJ

set_option Elab.async false
set_option linter.all false
set_option maxRecDepth 100000
set_option maxHeartbeats 2000000
namespace GJ
open PySem L2 MP

/-! ### the law's products -/
abbrev As : Type := List (Int × Rat)
def eKs (l : As) : List Ky := l.map fun p => .inl p.1
def eXs (l : As) : List D := l.map fun p => qD p.2
def eD (l : As) : D := .dct (eKs l) (eXs l)
def gt : As → Int → Option Rat
  | [], _ => none
  | p :: l, k => if p.1 = k then some p.2 else gt l k
def pt : As → Int → Rat → As
  | [], k, q => [(k, q)]
  | p :: l, k, q => if p.1 = k then (p.1, q) :: rp l k q else p :: pt l k q
where rp : As → Int → Rat → As
  | [], _, _ => []
  | p :: l, k, q => (if p.1 = k then (p.1, q) else p) :: rp l k q
theorem inl_dec (a b : Int) : decide ((Sum.inl a : Ky) = Sum.inl b) = decide (a = b) := by
  by_cases h : a = b
  · subst h; simp
  · have : (Sum.inl a : Ky) ≠ Sum.inl b := fun e => h (Sum.inl.inj e)
    simp [h]
theorem gt_ok : ∀ (l : As) (k : Int), dget (eKs l) (eXs l) (.inl k) = (gt l k).map qD
  | [], k => rfl
  | p :: l, k => by
    have ih := gt_ok l k
    simp only [eKs, eXs, List.map_cons, dget, gt, inl_dec] at ih ⊢
    by_cases h : p.1 = k
    · simp [h]
    · simp [h]
      exact ih
theorem rp_ok : ∀ (l : As) (k : Int) (q : Rat), eKs (pt.rp l k q) = eKs l ∧ eXs (pt.rp l k q) = repl (eKs l) (eXs l) (.inl k) (qD q)
  | [], k, q => ⟨rfl, rfl⟩
  | p :: l, k, q => by
    obtain ⟨h1, h2⟩ := rp_ok l k q
    simp only [eKs, eXs, pt.rp, List.map_cons, repl, inl_dec] at h1 h2 ⊢
    by_cases h : p.1 = k
    · simp [h, h1, h2]
    · simp [h, h1, h2]
theorem has_ok : ∀ (l : As) (k : Int), hasK (eKs l) (.inl k) = (gt l k).isSome
  | [], k => rfl
  | p :: l, k => by
    have ih := has_ok l k
    unfold hasK at ih ⊢
    simp only [eKs, List.map_cons, List.any_cons, gt, inl_dec] at ih ⊢
    by_cases h : p.1 = k
    · simp [h]
    · simp [h]
      simpa using ih
theorem pt_new : ∀ (l : As) (k : Int) (q : Rat), gt l k = none → pt l k q = l ++ [(k, q)]
  | [], k, q, h => rfl
  | p :: l, k, q, h => by
    simp only [gt] at h
    by_cases e : p.1 = k
    · simp [e] at h
    · simp only [e, if_false] at h
      simp only [pt, e, if_false, List.cons_append]
      rw [pt_new l k q h]
theorem rp_id : ∀ (l : As) (k : Int) (q : Rat), gt l k = none → pt.rp l k q = l
  | [], k, q, h => rfl
  | p :: l, k, q, h => by
    simp only [gt] at h
    by_cases e : p.1 = k
    · simp [e] at h
    · simp only [e, if_false] at h
      simp only [pt.rp, e, if_false]
      rw [rp_id l k q h]
/-- where no key stands twice, putting is replacing -/
theorem pt_rp : ∀ (l : As) (k : Int) (q : Rat), gt l k ≠ none → pt l k q = pt.rp l k q
  | [], k, q, h => absurd rfl h
  | p :: l, k, q, h => by
    simp only [gt] at h
    by_cases e : p.1 = k
    · simp [pt, pt.rp, e]
    · simp only [e, if_false] at h
      simp only [pt, pt.rp, e, if_false]
      rw [pt_rp l k q h]
theorem put_ok (l : As) (k : Int) (q : Rat) : dput (eKs l) (eXs l) (.inl k) (qD q) = eD (pt l k q) := by
  unfold dput
  rw [has_ok]
  cases h : gt l k with
  | none =>
    rw [pt_new l k q h]
    simp [eD, eKs, eXs]
  | some v =>
    rw [pt_rp l k q (by rw [h]; simp)]
    obtain ⟨h1, h2⟩ := rp_ok l k q
    simp only [Option.isSome_some]
    rw [eD, h1, h2]
theorem gt_pt : ∀ (l : As) (k j : Int) (q : Rat), gt (pt l k q) j = if j = k then some q else gt l j
  | [], k, j, q => by
    simp only [pt, gt]
    by_cases h : k = j
    · simp [h]
    · have : ¬ j = k := fun e => h e.symm
      simp [h, this]
  | p :: l, k, j, q => by
    have ih := gt_pt l k j q
    have rpg : ∀ (l : As), j ≠ k → gt (pt.rp l k q) j = gt l j := fun l hj => by
      induction l with
      | nil => rfl
      | cons a l ih =>
        simp only [pt.rp, gt]
        by_cases e : a.1 = k
        · have : ¬ a.1 = j := fun e2 => hj (by omega)
          have h2 : ¬ k = j := fun e2 => hj e2.symm
          simp [e, h2, ih]
        · simp only [e, if_false]
          by_cases e2 : a.1 = j
          · simp [e2]
          · simp [e2, ih]
    simp only [pt]
    by_cases e : p.1 = k
    · simp only [e, if_true, gt]
      by_cases h : j = k
      · simp [h]
      · have h2 : ¬ k = j := fun e2 => h e2.symm
        simp [h, h2, rpg l h]
    · simp only [e, if_false, gt, ih]
      by_cases e2 : p.1 = j
      · have : ¬ j = k := fun e3 => e (by omega)
        simp [e2, this]
      · simp [e2]
end GJ

set_option Elab.async false
set_option linter.all false
set_option maxRecDepth 100000
set_option maxHeartbeats 2000000
namespace GJ
open PySem L2 MP

theorem times_q (o : Rat) (t u b m : Int) (hu : 0 < u) (hb : 0 < b) : Rat.divInt (o.num * u * b + m * t * (o.den : Int)) ((o.den : Int) * u * b) = o + (m : Rat) * (t : Rat) / ((u : Rat) * (b : Rat)) := by
  rw [Rat.divInt_eq_div, Rat.intCast_add, Rat.intCast_mul, Rat.intCast_mul, Rat.intCast_mul, Rat.intCast_mul, Rat.intCast_mul, Rat.intCast_mul, q_nd o]
  have h1 : ((o.den : Int) : Rat) ≠ 0 := ic0 (by have := den_pos o; omega)
  have h2 : (u : Rat) ≠ 0 := ic0 (by omega)
  have h3 : (b : Rat) ≠ 0 := ic0 (by omega)
  grind
def oldOf (l : As) (k : Int) : Rat := (gt l k).getD 0
theorem body_ok (F : Sl) (z b p t u more many : Int) (l : As) (s9 s10 s11 : Sl) (hu : 0 < u) (bu : Bd u 67) (bt : Bd t 67) (hb : 0 < b) (bb : Bd b 2) (bm : Bd many 20) (bn : Bd (oldOf l (p + more)).num 300) (bd : Bd ((oldOf l (p + more)).den : Int) 300) (hl : l.length ≤ 1000) :
    ∃ t9 t10, (mSeq (mSet 9 (mDGet2 3 (mB fAdd (mPk 4) (lPk 4) (mPk 7) (lPk 7)) (mTup (maCons (mC (.int 0)) (maCons (mC (.int 1)) maNil))))) (mSeq (mSet 10 (mB fAdd (mB fMul (mB fMul (mB fIx (mPk 9) (lPk 9) (mC (.int 0)) lId) lId (mPk 6) (lPk 6)) lId (mPk 2) (lPk 2)) lId (mB fMul (mB fMul (mPk 8) (lPk 8) (mPk 5) (lPk 5)) lId (mB fIx (mPk 9) (lPk 9) (mC (.int 1)) lId) lId) lId)) (mDPut 3 (mB fAdd (mPk 4) (lPk 4) (mPk 7) (lPk 7)) (mUser run__law_fraction (maCons (mVar 10) (maCons (mB fMul (mB fMul (mB fIx (mPk 9) (lPk 9) (mC (.int 1)) lId) lId (mPk 6) (lPk 6)) lId (mPk 2) (lPk 2)) maNil)))))) [F, .va (.int z), .va (.int b), .ow (eD l), .va (.int p), .va (.int t), .va (.int u), .va (.int more), .va (.int many), s9, s10, s11] = .nx [F, .va (.int z), .va (.int b), .ow (eD (pt l (p + more) (oldOf l (p + more) + (many : Rat) * (t : Rat) / ((u : Rat) * (b : Rat))))), .va (.int p), .va (.int t), .va (.int u), .va (.int more), .va (.int many), t9, t10, s11] := by
  have g := gt_ok l (p + more)
  have q0 : qD 0 = .tup [.int 0, .int 1] := rfl
  have put := put_ok l (p + more) (oldOf l (p + more) + (many : Rat) * (t : Rat) / ((u : Rat) * (b : Rat)))
  have ol : (match dget (eKs l) (eXs l) (.inl (p + more)) with | some d => d | none => .tup [.int 0, .int 1]) = qD (oldOf l (p + more)) := by
    rw [g]
    unfold oldOf
    cases gt l (p + more) <;> rfl
  have tq := times_q (oldOf l (p + more)) t u b many hu hb
  generalize oldOf l (p + more) = o at *
  have m1 := fMul_ok bn bu (by omega)
  have m2 := fMul_ok (bn.mul bu) bb (by omega)
  have m3 := fMul_ok bm bt (by omega)
  have m4 := fMul_ok (bm.mul bt) bd (by omega)
  have m5 := fMul_ok bd bu (by omega)
  have m6 := fMul_ok (bd.mul bu) bb (by omega)
  have dp : 0 < (o.den : Int) * u * b := Int.mul_pos (Int.mul_pos (den_pos o) hu) hb
  have fr := lfraction_ok (o.num * u * b + many * t * (o.den : Int)) ((o.den : Int) * u * b) dp ((bd.mul bu).mul bb) (by omega)
  rw [tq] at fr
  generalize o + (many : Rat) * (t : Rat) / ((u : Rat) * (b : Rat)) = w at *
  have hk : (eKs l).length < 16777216 := by simp [eKs]; omega
  refine ⟨.va (qD o), .va (.int (o.num * u * b + many * t * (o.den : Int))), seq_nx (e1 := [F, .va (.int z), .va (.int b), .ow (eD l), .va (.int p), .va (.int t), .va (.int u), .va (.int more), .va (.int many), .va (qD o), s10, s11]) ?_ (seq_nx (e1 := [F, .va (.int z), .va (.int b), .ow (eD l), .va (.int p), .va (.int t), .va (.int u), .va (.int more), .va (.int many), .va (qD o), .va (.int (o.num * u * b + many * t * (o.den : Int))), s11]) ?_ ?_)⟩
  · cases h : dget (eKs l) (eXs l) (.inl (p + more)) with
    | none =>
      rw [h] at ol
      dsimp only at ol
      rw [← ol]
      simp [mDGet2, dctAt, eD, kyD, h, fAdd, slotD, line]
    | some d =>
      rw [h] at ol
      dsimp only at ol
      rw [← ol]
      simp [mDGet2, dctAt, eD, kyD, h, fAdd, slotD, line]
  · have i0 : fIx (qD o) (.int 0) = some (.int o.num) := rfl
    have i1 : fIx (qD o) (.int 1) = some (.int (o.den : Int)) := rfl
    generalize eD l = X at *
    generalize qD o = Y at *
    simp [i0, i1, m1, m2, m3, m4, slotD, fAdd]
  · have i1 : fIx (qD o) (.int 1) = some (.int (o.den : Int)) := rfl
    have ec : eD l = .dct (eKs l) (eXs l) := rfl
    rw [← put, ec]
    generalize eKs l = K at *
    generalize eXs l = V at *
    generalize qD o = Y at *
    simp [i1, m5, m6, fr, mDPut_ap, dctC, atC, kput, kyD, slotD, fAdd, line, hk]
end GJ

set_option Elab.async false
set_option linter.all false
set_option maxRecDepth 100000
set_option maxHeartbeats 2000000
namespace GJ
open PySem L2 MP

/-- a number over M -/
def Ov (M C : Int) (q : Rat) : Prop := ∃ c : Int, q = Rat.divInt c M ∧ -C ≤ c ∧ c ≤ C
theorem Ov.zero {M C : Int} (hM : 0 < M) (hC : 0 ≤ C) : Ov M C 0 := ⟨0, by rw [Rat.divInt_eq_div]; simp; grind, by omega, hC⟩
theorem Ov.mono {M C C' : Int} {q : Rat} (h : Ov M C q) (e : C ≤ C') : Ov M C' q := by
  obtain ⟨c, h1, h2, h3⟩ := h
  exact ⟨c, h1, by omega, by omega⟩
theorem Ov.add {M C C' : Int} {q r : Rat} (hM : 0 < M) (h : Ov M C q) (h' : Ov M C' r) : Ov M (C + C') (q + r) := by
  obtain ⟨c, h1, h2, h3⟩ := h
  obtain ⟨d, k1, k2, k3⟩ := h'
  refine ⟨c + d, ?_, by omega, by omega⟩
  rw [h1, k1, Rat.divInt_eq_div, Rat.divInt_eq_div, Rat.divInt_eq_div, Rat.intCast_add]
  have : (M : Rat) ≠ 0 := ic0 (by omega)
  grind
theorem Ov.bd {M C : Int} {q : Rat} (hM : 0 < M) (h : Ov M C q) {k j : Nat} (hC : Bd C k) (bM : Bd M j) : Bd q.num k ∧ Bd (q.den : Int) j := by
  obtain ⟨c, h1, h2, h3⟩ := h
  have bc : Bd c k := by unfold Bd at *; omega
  rw [h1]
  exact ⟨bd_num hM bc, bd_den hM bM⟩
/-- one part's share -/
theorem Ov.part {M C m t u b : Int} (hM : 0 < M) (hu : 0 < u) (hb : 0 < b) (hd : u * b ∣ M) (h1 : -C ≤ m * t * (M / (u * b))) (h2 : m * t * (M / (u * b)) ≤ C) : Ov M C ((m : Rat) * (t : Rat) / ((u : Rat) * (b : Rat))) := by
  refine ⟨m * t * (M / (u * b)), ?_, h1, h2⟩
  obtain ⟨q, hq⟩ := hd
  have ub : 0 < u * b := Int.mul_pos hu hb
  have e : M / (u * b) = q := by rw [hq, Int.mul_ediv_cancel_left _ (by omega)]
  rw [e, Rat.divInt_eq_div, hq, Rat.intCast_mul, Rat.intCast_mul, Rat.intCast_mul, Rat.intCast_mul]
  have h3 : (u : Rat) ≠ 0 := ic0 (by omega)
  have h4 : (b : Rat) ≠ 0 := ic0 (by omega)
  have h5 : (q : Rat) ≠ 0 := ic0 (by intro z; rw [z] at hq; omega)
  grind
structure Iv (l : As) (M lo cur C1 C2 : Int) : Prop where
  rg : ∀ e ∈ l, lo ≤ e.1 ∧ e.1 ≤ cur
  v : ∀ e ∈ l, Ov M C2 e.2
  vc : ∀ e ∈ l, e.1 = cur → Ov M C1 e.2
  nd : (l.map (·.1)).Nodup
theorem gt_mem : ∀ {l : As} {k : Int} {q : Rat}, gt l k = some q → (k, q) ∈ l
  | p :: l, k, q, h => by
    simp only [gt] at h
    by_cases e : p.1 = k
    · simp [e] at h
      subst e h
      simp
    · simp only [e, if_false] at h
      exact List.mem_cons_of_mem _ (gt_mem h)
theorem gt_none {l : As} {k : Int} (h : ∀ e ∈ l, e.1 ≠ k) : gt l k = none := by
  cases q : gt l k with
  | none => rfl
  | some v => exact absurd rfl (h _ (gt_mem q))
end GJ

set_option Elab.async false
set_option linter.all false
set_option maxRecDepth 100000
set_option maxHeartbeats 2000000
namespace GJ
open PySem L2 MP

def tm1 (l : As) (p t u z b : Int) : As := pt l (p + 1) (oldOf l (p + 1) + ((1 : Int) : Rat) * (t : Rat) / ((u : Rat) * (b : Rat)))
def tm2 (l : As) (p t u z b : Int) : As := pt l (p + 0) (oldOf l (p + 0) + ((0 - z : Int) : Rat) * (t : Rat) / ((u : Rat) * (b : Rat)))
theorem gt_no : ∀ {l : As} {k : Int}, gt l k = none → ∀ e ∈ l, e.1 ≠ k
  | [], k, h, e, he => by simp at he
  | p :: l, k, h, e, he => by
    simp only [gt] at h
    by_cases c : p.1 = k
    · simp [c] at h
    · simp only [c, if_false] at h
      rcases List.mem_cons.mp he with q | q
      · rw [q]; exact c
      · exact gt_no h e q
theorem rp_mem : ∀ {l : As} {k : Int} {q : Rat} {e : Int × Rat}, e ∈ pt.rp l k q → (e ∈ l ∧ e.1 ≠ k) ∨ e = (k, q)
  | [], k, q, e, he => by simp [pt.rp] at he
  | p :: l, k, q, e, he => by
    simp only [pt.rp] at he
    rcases List.mem_cons.mp he with r | r
    · by_cases c : p.1 = k
      · simp only [c, if_true] at r
        exact .inr r
      · simp only [c, if_false] at r
        subst r
        exact .inl ⟨List.mem_cons_self, c⟩
    · rcases rp_mem r with t | t
      · exact .inl ⟨List.mem_cons_of_mem _ t.1, t.2⟩
      · exact .inr t
theorem rp_keys : ∀ (l : As) (k : Int) (q : Rat), (pt.rp l k q).map (·.1) = l.map (·.1)
  | [], k, q => rfl
  | p :: l, k, q => by
    simp only [pt.rp, List.map_cons, rp_keys l k q]
    by_cases c : p.1 = k <;> simp [c]
theorem pt_mem {l : As} {k : Int} {q : Rat} {e : Int × Rat} (he : e ∈ pt l k q) : (e ∈ l ∧ e.1 ≠ k) ∨ e = (k, q) := by
  cases h : gt l k with
  | none =>
    rw [pt_new l k q h] at he
    rcases List.mem_append.mp he with r | r
    · exact .inl ⟨r, gt_no h e r⟩
    · simp at r; exact .inr r
  | some v =>
    rw [pt_rp l k q (by rw [h]; simp)] at he
    exact rp_mem he
theorem pt_nd {l : As} {k : Int} {q : Rat} (h : (l.map (·.1)).Nodup) : ((pt l k q).map (·.1)).Nodup := by
  cases g : gt l k with
  | none =>
    rw [pt_new l k q g, List.map_append, List.nodup_append]
    refine ⟨h, by simp, fun a ha b hb => ?_⟩
    obtain ⟨e, he, rfl⟩ := List.mem_map.mp ha
    simp at hb
    rw [hb]
    exact gt_no g e he
  | some v =>
    rw [pt_rp l k q (by rw [g]; simp), rp_keys]
    exact h
theorem old_ov {l : As} {M lo cur C1 C2 : Int} (hM : 0 < M) (h1 : 0 ≤ C1) (I : Iv l M lo cur C1 C2) {k : Int} (hk : cur ≤ k) : Ov M C1 (oldOf l k) := by
  unfold oldOf
  cases q : gt l k with
  | none => exact Ov.zero hM h1
  | some v =>
    have m := gt_mem q
    have := (I.rg _ m).2
    dsimp only at this
    exact I.vc _ m (by dsimp only; omega)
theorem iv_step {l : As} {M lo cur C1 C2 p t u z b Z : Int} (hM : 0 < M) (hu : 0 < u) (hb : 0 < b) (hd : u * b ∣ M) (h1 : 0 ≤ C1) (hC : (1 + Z) * C1 ≤ C2) (hZ : 0 ≤ Z) (hz : -Z ≤ 0 - z ∧ 0 - z ≤ Z) (ht : -C1 ≤ t * (M / (u * b)) ∧ t * (M / (u * b)) ≤ C1) (hp : cur ≤ p) (hlo : lo ≤ p) (I : Iv l M lo cur C1 C2) (hc1 : C1 ≤ C2) :
    Iv (tm2 (tm1 l p t u z b) p t u z b) M lo (p + 1) C1 C2 ∧ Ov M C1 (oldOf l (p + 1)) ∧ Ov M C1 (oldOf (tm1 l p t u z b) (p + 0)) := by
  have g1 : gt l (p + 1) = none := gt_none fun e he z => by have := (I.rg e he).2; omega
  have o1 : oldOf l (p + 1) = 0 := by unfold oldOf; rw [g1]; rfl
  have s1 : Ov M C1 (((1 : Int) : Rat) * (t : Rat) / ((u : Rat) * (b : Rat))) := Ov.part hM hu hb hd (by rw [Int.one_mul]; exact ht.1) (by rw [Int.one_mul]; exact ht.2)
  have e1 : tm1 l p t u z b = l ++ [(p + 1, ((1 : Int) : Rat) * (t : Rat) / ((u : Rat) * (b : Rat)))] := by
    unfold tm1
    rw [pt_new l _ _ g1, o1]
    congr 2
    grind
  have I1 : Iv (tm1 l p t u z b) M lo (p + 1) C1 C2 := by
    rw [e1]
    refine ⟨fun e he => ?_, fun e he => ?_, fun e he hc => ?_, ?_⟩
    · rcases List.mem_append.mp he with q | q
      · have := I.rg e q; omega
      · simp at q; subst q; dsimp only; omega
    · rcases List.mem_append.mp he with q | q
      · exact I.v e q
      · simp at q; subst q; have s1' := s1.mono hc1; simpa using s1'
    · rcases List.mem_append.mp he with q | q
      · have := I.rg e q; omega
      · simp at q; subst q; simpa using s1
    · rw [List.map_append, List.nodup_append]
      refine ⟨I.nd, by simp, fun a ha b hb => ?_⟩
      obtain ⟨e, he, rfl⟩ := List.mem_map.mp ha
      simp at hb
      have := (I.rg e he).2
      omega
  have o2 : Ov M C1 (oldOf (tm1 l p t u z b) (p + 0)) := by
    have : oldOf (tm1 l p t u z b) (p + 0) = oldOf l p := by
      unfold oldOf tm1
      rw [gt_pt, Int.add_zero, if_neg (by omega)]
    rw [this]
    exact old_ov hM h1 I hp
  refine ⟨?_, by rw [o1]; exact Ov.zero hM h1, o2⟩
  have s2 : Ov M (Z * C1) (((0 - z : Int) : Rat) * (t : Rat) / ((u : Rat) * (b : Rat))) := by
    refine Ov.part hM hu hb hd ?_ ?_
    · rw [Int.mul_assoc]
      generalize t * (M / (u * b)) = a at *
      generalize 0 - z = y at *
      have k1 : y * a ≤ Z * C1 ∧ -(Z * C1) ≤ y * a := by
        have : (y * a).natAbs ≤ (Z * C1).natAbs := by
          rw [Int.natAbs_mul, Int.natAbs_mul]
          exact Nat.mul_le_mul (by omega) (by omega)
        have h3 : 0 ≤ Z * C1 := Int.mul_nonneg hZ h1
        omega
      exact k1.2
    · rw [Int.mul_assoc]
      generalize t * (M / (u * b)) = a at *
      generalize 0 - z = y at *
      have : (y * a).natAbs ≤ (Z * C1).natAbs := by
        rw [Int.natAbs_mul, Int.natAbs_mul]
        exact Nat.mul_le_mul (by omega) (by omega)
      have h3 : 0 ≤ Z * C1 := Int.mul_nonneg hZ h1
      omega
  have s3 : Ov M C2 (oldOf (tm1 l p t u z b) (p + 0) + ((0 - z : Int) : Rat) * (t : Rat) / ((u : Rat) * (b : Rat))) := (o2.add hM s2).mono (by rw [Int.add_mul, Int.one_mul] at hC; omega)
  unfold tm2
  generalize oldOf (tm1 l p t u z b) (p + 0) + ((0 - z : Int) : Rat) * (t : Rat) / ((u : Rat) * (b : Rat)) = w at *
  generalize tm1 l p t u z b = l1 at *
  rw [Int.add_zero]
  refine ⟨fun e he => ?_, fun e he => ?_, fun e he hc => ?_, pt_nd I1.nd⟩
  · rcases pt_mem he with q | q
    · exact I1.rg e q.1
    · subst q; dsimp only; omega
  · rcases pt_mem he with q | q
    · exact I1.v e q.1
    · subst q; exact s3
  · rcases pt_mem he with q | q
    · exact I1.vc e q.1 hc
    · subst q; dsimp only at hc; omega
end GJ

set_option Elab.async false
set_option linter.all false
set_option maxRecDepth 100000
set_option maxHeartbeats 2000000
namespace GJ
open PySem L2 MP

def tmAll (z b : Int) : List Tr → As → As
  | [], l => l
  | x :: f, l => tmAll z b f (tm2 (tm1 l x.1 x.2.1 x.2.2 z b) x.1 x.2.1 x.2.2 z b)
theorem pt_len (l : As) (k : Int) (q : Rat) : (pt l k q).length ≤ l.length + 1 := by
  cases g : gt l k with
  | none => rw [pt_new l k q g]; simp
  | some v =>
    have := congrArg List.length (rp_keys l k q)
    rw [List.length_map, List.length_map] at this
    rw [pt_rp l k q (by rw [g]; simp)]
    omega
theorem times_loop (F : Sl) (z b M lo C1 C2 Z : Int) (hM : 0 < M) (hb : 0 < b) (bb : Bd b 2) (h1 : 0 ≤ C1) (hC : (1 + Z) * C1 ≤ C2) (hZ : 0 ≤ Z) (hz : -Z ≤ 0 - z ∧ 0 - z ≤ Z) (bz : Bd (0 - z) 20) (hc1 : C1 ≤ C2) (bC : Bd C1 300) (bM : Bd M 300) : ∀ (f : List Tr) (l : As) (cur : Int) (s4 s5 s6 s7 s8 s9 s10 s11 : Sl), Iv l M lo cur C1 C2 → l.length + 2 * f.length ≤ 900 → ordB f = true →
    (∀ x ∈ f, cur ≤ x.1 ∧ lo ≤ x.1 ∧ 0 < x.2.2 ∧ Bd x.2.2 67 ∧ Bd x.2.1 67 ∧ x.2.2 * b ∣ M ∧ (-C1 ≤ x.2.1 * (M / (x.2.2 * b)) ∧ x.2.1 * (M / (x.2.2 * b)) ≤ C1)) →
    ∃ t4 t5 t6 t7 t8 t9 t10 cur', forGo (mgTup 3 (mgsCons (mgName 4) (mgsCons (mgName 5) (mgsCons (mgName 6) mgsNil)))) (mFor (mIt (mLst (maCons (mTup (maCons (mC (.int 1)) (maCons (mC (.int 1)) maNil))) (maCons (mTup (maCons (mC (.int 0)) (maCons (mB fSub (mC (.int 0)) lId (mPk 1) (lPk 1)) maNil))) maNil)))) (mgTup 2 (mgsCons (mgName 7) (mgsCons (mgName 8) mgsNil))) (mSeq (mSet 9 (mDGet2 3 (mB fAdd (mPk 4) (lPk 4) (mPk 7) (lPk 7)) (mTup (maCons (mC (.int 0)) (maCons (mC (.int 1)) maNil))))) (mSeq (mSet 10 (mB fAdd (mB fMul (mB fMul (mB fIx (mPk 9) (lPk 9) (mC (.int 0)) lId) lId (mPk 6) (lPk 6)) lId (mPk 2) (lPk 2)) lId (mB fMul (mB fMul (mPk 8) (lPk 8) (mPk 5) (lPk 5)) lId (mB fIx (mPk 9) (lPk 9) (mC (.int 1)) lId) lId) lId)) (mDPut 3 (mB fAdd (mPk 4) (lPk 4) (mPk 7) (lPk 7)) (mUser run__law_fraction (maCons (mVar 10) (maCons (mB fMul (mB fMul (mB fIx (mPk 9) (lPk 9) (mC (.int 1)) lId) lId (mPk 6) (lPk 6)) lId (mPk 2) (lPk 2)) maNil))))))) (f.map trD) [F, .va (.int z), .va (.int b), .ow (eD l), s4, s5, s6, s7, s8, s9, s10, s11] = .nx [F, .va (.int z), .va (.int b), .ow (eD (tmAll z b f l)), t4, t5, t6, t7, t8, t9, t10, s11] ∧ Iv (tmAll z b f l) M lo cur' C1 C2 ∧ (f = [] → cur' = cur) ∧ (∀ ini y, f = ini ++ [y] → cur' = y.1 + 1)
  | [], l, cur, s4, s5, s6, s7, s8, s9, s10, s11, I, hl, ho, hf => ⟨s4, s5, s6, s7, s8, s9, s10, cur, by simp [forGo, tmAll], I, fun _ => rfl, fun ini y h => by simp at h⟩
  | (p, t, u) :: f, l, cur, s4, s5, s6, s7, s8, s9, s10, s11, I, hl, ho, hf => by
    simp only [List.length_cons] at hl
    obtain ⟨a1, a2, a3, a4, a5, a6, a7⟩ := hf (p, t, u) List.mem_cons_self
    dsimp only at a1 a2 a3 a4 a5 a6 a7
    obtain ⟨I2, o1, o2⟩ := iv_step hM a3 hb a6 h1 hC hZ hz a7 a1 a2 I hc1
    obtain ⟨n1, d1⟩ := o1.bd hM bC bM
    obtain ⟨n2, d2⟩ := o2.bd hM bC bM
    obtain ⟨v9, v10, e1⟩ := body_ok F z b p t u 1 1 l s9 s10 s11 a3 a4 a5 hb bb (by unfold Bd; decide) n1 d1 (by omega)
    obtain ⟨w9, w10, e2⟩ := body_ok F z b p t u 0 (0 - z) (tm1 l p t u z b) v9 v10 s11 a3 a4 a5 hb bb bz n2 d2 (by have := pt_len l (p + 1) (oldOf l (p + 1) + ((1 : Int) : Rat) * (t : Rat) / ((u : Rat) * (b : Rat))); unfold tm1; omega)
    have hnext : ordB f = true ∧ ∀ y ∈ f, p + 1 ≤ y.1 := by
      cases f with
      | nil => exact ⟨rfl, fun y hy => by simp at hy⟩
      | cons c f =>
        simp only [ordB, Bool.and_eq_true, decide_eq_true_eq] at ho
        exact ⟨ho.2, fun y hy => by have := ord_low f c ho.2 y hy; omega⟩
    have len2 : (tm2 (tm1 l p t u z b) p t u z b).length ≤ l.length + 2 := by
      have x1 := pt_len l (p + 1) (oldOf l (p + 1) + ((1 : Int) : Rat) * (t : Rat) / ((u : Rat) * (b : Rat)))
      have x2 := pt_len (tm1 l p t u z b) (p + 0) (oldOf (tm1 l p t u z b) (p + 0) + ((0 - z : Int) : Rat) * (t : Rat) / ((u : Rat) * (b : Rat)))
      unfold tm2
      unfold tm1 at x2 ⊢
      omega
    obtain ⟨t4, t5, t6, t7, t8, t9, t10, cur', e3, I3, c1, c2⟩ := times_loop F z b M lo C1 C2 Z hM hb bb h1 hC hZ hz bz hc1 bC bM f (tm2 (tm1 l p t u z b) p t u z b) (p + 1) (.va (.int p)) (.va (.int t)) (.va (.int u)) (.va (.int 0)) (.va (.int (0 - z))) w9 w10 s11 I2 (by omega) hnext.1 (fun x hx => by
      obtain ⟨b1, b2, b3⟩ := hf x (List.mem_cons_of_mem _ hx)
      exact ⟨hnext.2 x hx, b2, b3⟩)
    refine ⟨t4, t5, t6, t7, t8, t9, t10, cur', go_cons (e1 := [F, .va (.int z), .va (.int b), .ow (eD l), .va (.int p), .va (.int t), .va (.int u), s7, s8, s9, s10, s11]) rfl (e2 := [F, .va (.int z), .va (.int b), .ow (eD (tm2 (tm1 l p t u z b) p t u z b)), .va (.int p), .va (.int t), .va (.int u), .va (.int 0), .va (.int (0 - z)), w9, w10, s11]) ?_ e3, I3, fun h => by simp at h, fun ini y h => ?_⟩
    · exact for_ok (ds := [.tup [.int 1, .int 1], .tup [.int 0, .int (0 - z)]]) (e1 := [F, .va (.int z), .va (.int b), .ow (eD l), .va (.int p), .va (.int t), .va (.int u), s7, s8, s9, s10, s11]) (by simp [slotD, fSub, line]) (go_cons rfl e1 (go_cons rfl e2 rfl))
    · cases ini with
      | nil =>
        simp at h
        obtain ⟨h1, h2⟩ := h
        rw [c1 h2, ← h1]
      | cons a ini =>
        simp at h
        exact c2 ini y h.2
end GJ

set_option Elab.async false
set_option linter.all false
set_option maxRecDepth 100000
set_option maxHeartbeats 2000000
namespace GJ
open PySem L2 MP

/-! ### what the products are -/
def keysOf (l : As) : List Int := (sortI (l.map (·.1))).filter fun k => !decide ((oldOf l k).num = 0)
def trOf (l : As) (k : Int) : Tr := (k, (oldOf l k).num, ((oldOf l k).den : Int))
def outF (l : As) : List Tr := (keysOf l).map (trOf l)
theorem gt_some : ∀ {l : As} {k : Int}, k ∈ l.map (·.1) → ∃ q, gt l k = some q
  | [], k, h => by simp at h
  | p :: l, k, h => by
    simp only [gt]
    by_cases c : p.1 = k
    · exact ⟨p.2, by simp [c]⟩
    · simp only [c, if_false]
      rcases List.mem_cons.mp h with q | q
      · exact absurd q.symm c
      · exact gt_some q
theorem key_mem {l : As} {k : Int} (h : k ∈ l.map (·.1)) : (k, oldOf l k) ∈ l := by
  obtain ⟨q, e⟩ := gt_some h
  have := gt_mem e
  unfold oldOf
  rw [e]
  exact this
theorem keys_mem {l : As} {k : Int} (h : k ∈ keysOf l) : (k, oldOf l k) ∈ l ∧ (oldOf l k).num ≠ 0 := by
  unfold keysOf at h
  obtain ⟨h1, h2⟩ := List.mem_filter.mp h
  exact ⟨key_mem ((sortI_perm _).mem_iff.mp h1), by simpa using h2⟩
theorem keys_of {l : As} {k : Int} {q : Rat} (h : gt l k = some q) (hq : q.num ≠ 0) : k ∈ keysOf l := by
  unfold keysOf
  refine List.mem_filter.mpr ⟨(sortI_perm _).mem_iff.mpr (List.mem_map.mpr ⟨_, gt_mem h, rfl⟩), ?_⟩
  unfold oldOf
  rw [h]
  simpa using hq
theorem strict_of : ∀ {ks : List Int}, ks.Pairwise (· ≤ ·) → ks.Nodup → ks.Pairwise (· < ·)
  | [], _, _ => .nil
  | k :: ks, h, n => by
    obtain ⟨h1, h2⟩ := List.pairwise_cons.mp h
    obtain ⟨n1, n2⟩ := List.nodup_cons.mp n
    refine List.pairwise_cons.mpr ⟨fun j hj => ?_, strict_of h2 n2⟩
    have := h1 j hj
    have : k ≠ j := fun e => n1 (e ▸ hj)
    omega
theorem sorted_strict {l : As} (h : (l.map (·.1)).Nodup) : (sortI (l.map (·.1))).Pairwise (· < ·) := strict_of (sortI_sorted _) ((sortI_perm _).nodup_iff.mpr h)
theorem strict_len : ∀ (ks : List Int) (lo hi : Int), (∀ k ∈ ks, lo ≤ k ∧ k ≤ hi) → ks.Pairwise (· < ·) → ks.length ≤ (hi - lo + 1).toNat
  | [], _, _, _, _ => by simp
  | k :: ks, lo, hi, h, p => by
    obtain ⟨p1, p2⟩ := List.pairwise_cons.mp p
    have := strict_len ks (k + 1) hi (fun j hj => ⟨by have := p1 j hj; omega, (h j (List.mem_cons_of_mem _ hj)).2⟩) p2
    have := h k List.mem_cons_self
    simp only [List.length_cons]
    omega
theorem ord_strict : ∀ (f : List Tr), (f.map (·.1)).Pairwise (· < ·) → ordB f = true
  | [], _ => rfl
  | [_], _ => rfl
  | x :: y :: r, h => by
    obtain ⟨h1, h2⟩ := List.pairwise_cons.mp h
    simp only [ordB, Bool.and_eq_true, decide_eq_true_eq]
    exact ⟨h1 y.1 (by simp), ord_strict (y :: r) h2⟩
theorem strict_ord : ∀ (f : List Tr), ordB f = true → (f.map (·.1)).Pairwise (· < ·)
  | [], _ => .nil
  | [_], _ => by simp
  | x :: y :: r, h => by
    simp only [ordB, Bool.and_eq_true, decide_eq_true_eq] at h
    have ih := strict_ord (y :: r) h.2
    refine List.pairwise_cons.mpr ⟨fun j hj => ?_, ih⟩
    obtain ⟨p1, p2⟩ := List.pairwise_cons.mp ih
    rcases List.mem_cons.mp hj with e | e
    · rw [e]; exact h.1
    · have a1 := p1 j e
      have a2 := h.1
      dsimp only at a1 ⊢
      omega
theorem keys_strict {l : As} (h : (l.map (·.1)).Nodup) : (keysOf l).Pairwise (· < ·) := (sorted_strict h).filter _
theorem out_keys (l : As) : (outF l).map (·.1) = keysOf l := by
  unfold outF
  rw [List.map_map]
  exact (List.map_congr_left fun k _ => rfl).trans (List.map_id _)
/-- the keys' end -/
theorem tmAll_keys (z b c : Int) : ∀ (f : List Tr) (l : As), (∀ e ∈ l, e.1 ≤ c) → (∀ x ∈ f, x.1 + 1 ≤ c) → ∀ e ∈ tmAll z b f l, e.1 ≤ c
  | [], l, h, _ => h
  | x :: f, l, h, hf => by
    unfold tmAll
    refine tmAll_keys z b c f _ (fun e he => ?_) fun y hy => hf y (List.mem_cons_of_mem _ hy)
    have hx := hf x List.mem_cons_self
    unfold tm2 at he
    rcases pt_mem he with ⟨q, _⟩ | q
    · unfold tm1 at q
      rcases pt_mem q with ⟨r, _⟩ | r
      · exact h e r
      · rw [r]; exact hx
    · rw [q]; dsimp only; omega
theorem tmAll_app (z b : Int) (y : Tr) : ∀ (f : List Tr) (l : As), tmAll z b (f ++ [y]) l = tm2 (tm1 (tmAll z b f l) y.1 y.2.1 y.2.2 z b) y.1 y.2.1 y.2.2 z b
  | [], l => rfl
  | x :: f, l => by
    rw [List.cons_append]
    unfold tmAll
    exact tmAll_app z b y f _
/-- the highest key stays -/
theorem tmAll_top (z b : Int) (hb : 0 < b) (ini : List Tr) (y : Tr) (ho : ordB (ini ++ [y]) = true) (ht : y.2.1 ≠ 0) (hu : 0 < y.2.2) : ∃ q : Rat, gt (tmAll z b (ini ++ [y]) []) (y.1 + 1) = some q ∧ q.num ≠ 0 := by
  have st := strict_ord _ ho
  rw [List.map_append] at st
  have sp := (List.pairwise_append.mp st).2.2
  have kk := tmAll_keys z b y.1 ini [] (fun e he => by simp at he) fun x hx => by
    have := sp x.1 (List.mem_map.mpr ⟨x, hx, rfl⟩) y.1 (by simp)
    omega
  rw [tmAll_app]
  generalize tmAll z b ini [] = l at *
  have g0 : gt l (y.1 + 1) = none := gt_none fun e he z => by have := kk e he; omega
  have o1 : oldOf l (y.1 + 1) = 0 := by unfold oldOf; rw [g0]; rfl
  refine ⟨0 + ((1 : Int) : Rat) * (y.2.1 : Rat) / ((y.2.2 : Rat) * (b : Rat)), ?_, ?_⟩
  · unfold tm2
    rw [gt_pt, if_neg (by omega)]
    unfold tm1
    rw [gt_pt, if_pos rfl, o1]
  · have h1 : (y.2.2 : Rat) ≠ 0 := ic0 (by omega)
    have h2 : (b : Rat) ≠ 0 := ic0 (by omega)
    have h3 : (y.2.1 : Rat) ≠ 0 := ic0 ht
    intro e
    have e2 := Rat.num_eq_zero.mp e
    rw [Rat.zero_add, Rat.intCast_one, Rat.one_mul, Rat.div_def] at e2
    rcases Rat.mul_eq_zero.mp e2 with e3 | e3
    · exact h3 e3
    · have : (y.2.2 : Rat) * (b : Rat) ≠ 0 := fun e4 => by rcases Rat.mul_eq_zero.mp e4 with q | q <;> contradiction
      exact this (by rw [← Rat.inv_inv ((y.2.2 : Rat) * (b : Rat)), e3]; decide +kernel)
/-! ### a form on the way -/
structure FI (f : List Tr) (lo hi P : Int) : Prop where
  ne : f ≠ []
  ord : ordB f = true
  pt : ∀ x ∈ f, lo ≤ x.1 ∧ x.1 ≤ hi ∧ x.2.1 ≠ 0 ∧ 0 < x.2.2 ∧ x.2.2 ∣ P ∧ Int.gcd x.2.1 x.2.2 = 1 ∧ -LARGE ≤ x.2.1 ∧ x.2.1 ≤ LARGE
theorem FI.mono {f : List Tr} {lo hi P lo' hi' P' : Int} (h : FI f lo hi P) (h1 : lo' ≤ lo) (h2 : hi ≤ hi') (h3 : P ∣ P') : FI f lo' hi' P' :=
  ⟨h.ne, h.ord, fun x hx => by
    obtain ⟨a1, a2, a3, a4, a5, a6⟩ := h.pt x hx
    exact ⟨by omega, by omega, a3, a4, Int.dvd_trans a5 h3, a6⟩⟩
theorem FI.len {f : List Tr} {lo hi P : Int} (h : FI f lo hi P) : f.length ≤ (hi - lo + 1).toNat := by
  have := strict_len (f.map (·.1)) lo hi (fun k hk => by
    obtain ⟨x, hx, rfl⟩ := List.mem_map.mp hk
    have := h.pt x hx
    exact ⟨this.1, this.2.1⟩) (strict_ord f h.ord)
  rwa [List.length_map] at this
theorem FI.good {f : List Tr} {lo hi P : Int} (h : FI f lo hi P) (h1 : -20 ≤ lo) (h2 : hi ≤ 20) (h3 : hi - lo ≤ 11) (hP : 0 < P) (hP2 : P ≤ 128) : goodB (fD f) = true := by
  have hp : (f.map trD).all partB = true := by
    rw [List.all_eq_true]
    intro d hd
    obtain ⟨x, hx, rfl⟩ := List.mem_map.mp hd
    obtain ⟨a1, a2, a3, a4, a5, a6, a7, a8⟩ := h.pt x hx
    have := Int.le_of_dvd hP a5
    simp only [partB, trD, Bool.and_eq_true, decide_eq_true_eq, Bool.not_eq_true', decide_eq_false_iff_not]
    exact ⟨⟨by omega, by omega⟩, ⟨a7, a8⟩, a3, ⟨by omega, by simp only [LARGE]; omega⟩, a6⟩
  have hl := h.len
  simp only [goodB, fD, good_head f hp, h.ord, Bool.and_true, decide_eq_true_eq, List.length_map]
  omega
theorem FI.lf {f : List Tr} {lo hi P : Int} (h : FI f lo hi P) (h1 : -20 ≤ lo) (h2 : hi ≤ 20) (h3 : hi - lo ≤ 7) (hP : 0 < P) (hP2 : P ≤ 128) : LF f :=
  ⟨h.good h1 h2 (by omega) hP hP2, h.ne, fun x hx y hy => by
    have := h.pt x hx
    have := h.pt y hy
    omega, P, hP, hP2, fun x hx => (h.pt x hx).2.2.2.2.1⟩
theorem q_gcd (q : Rat) : Int.gcd q.num (q.den : Int) = 1 := by
  have := q.reduced
  simpa [Int.gcd, Nat.Coprime] using this
theorem den_dvd (c M : Int) (hM : 0 < M) : ((Rat.divInt c M).den : Int) ∣ M := by
  rw [Rat.den_divInt, if_neg (by omega), Int.gcd_comm, Int.natCast_ediv, Int.natAbs_of_nonneg (by omega)]
  exact Int.ediv_dvd_of_dvd (Int.gcd_dvd_right c M)
theorem num_le (c M : Int) (hM : 0 < M) : (Rat.divInt c M).num.natAbs ≤ c.natAbs := by
  rw [Rat.num_divInt, Int.sign_eq_one_of_pos hM, Int.one_mul]
  have h := Int.gcd_dvd_right M c
  have g0 : 0 < (Int.gcd M c : Int) := by
    have := Int.gcd_pos_of_ne_zero_left c (a := M) (by omega)
    omega
  have e := Int.ediv_mul_cancel h
  generalize c / (Int.gcd M c : Int) = q at *
  generalize (Int.gcd M c : Int) = g at *
  have : c.natAbs = q.natAbs * g.natAbs := by rw [← e, Int.natAbs_mul]
  rw [this]
  exact Nat.le_mul_of_pos_right _ (by omega)
theorem out_FI {l : As} {M lo cur C1 C2 : Int} (hM : 0 < M) (I : Iv l M lo cur C1 C2) (hC : C2 ≤ LARGE) (h0 : 0 ≤ C2) (ne : keysOf l ≠ []) : FI (outF l) lo cur M := by
  refine ⟨fun e => ne (by unfold outF at e; exact List.map_eq_nil_iff.mp e), ord_strict _ (by rw [out_keys]; exact keys_strict I.nd), fun x hx => ?_⟩
  unfold outF at hx
  obtain ⟨k, hk, rfl⟩ := List.mem_map.mp hx
  obtain ⟨m1, m2⟩ := keys_mem hk
  have r := I.rg _ m1
  obtain ⟨c, e, c1, c2⟩ := I.v _ m1
  dsimp only at r e
  simp only [trOf]
  refine ⟨r.1, r.2, m2, den_pos _, by rw [e]; exact den_dvd c M hM, q_gcd _, ?_⟩
  have hn : (oldOf l k).num.natAbs ≤ c.natAbs := by
    rw [e]
    exact num_le c M hM
  omega
end GJ

set_option Elab.async false
set_option linter.all false
set_option maxRecDepth 100000
set_option maxHeartbeats 2000000
namespace GJ
open PySem L2 MP

theorem lc_run {mi : MA} {vs : List Nat} {mg : MT} {mt me : ME} {e e1 b : Ev} {ds ys : List D} (h : mi e = .ok ds e1) (hl : ds.length < 16777216) (hb : wipeE (e1.map roE) vs = b) (h2 : lcGo mg mt me b ds [] = some ys) : mAsV (mLc mi vs mg mt me) e = .ok (.lst ys) e1 := by
  rw [mAsV_ap, mLc_ap, h]
  dsimp only
  rw [blt_dec, decide_eq_true (show ds.length < line from hl)]
  dsimp only
  rw [hb, h2]
theorem set_run {i : Nat} {m : ME} {e e1 e2 : Ev} {d : D} (h : m e = .ok d e1) (hi : Nat.blt i e1.length = true) (h2 : e1.set i (.va d) = e2) : mSet i m e = .nx e2 := by
  rw [mSet_ap, h]
  dsimp only
  rw [hi]
  dsimp only
  rw [h2]
theorem intKs_eKs : ∀ l : As, intKs (eKs l) = some (l.map (·.1))
  | [] => rfl
  | p :: l => by
    have ih := intKs_eKs l
    unfold eKs at ih ⊢
    simp only [List.map_cons, intKs, ih]
theorem sortedD_ok (l : As) (h : l.length < 64) : bSortedD [eD l] = some (.lst ((sortI (l.map (·.1))).map D.int)) := by
  simp only [bSortedD, eD, intKs_eKs, List.length_map, blt_dec, decide_eq_true h]
theorem dget_key {l : As} {k : Int} (h : k ∈ l.map (·.1)) : dget (eKs l) (eXs l) (.inl k) = some (qD (oldOf l k)) := by
  obtain ⟨q, e⟩ := gt_some h
  rw [gt_ok]
  unfold oldOf
  rw [e]
  rfl
def nzD (l : As) : D → Bool
  | .int k => !decide ((oldOf l k).num = 0)
  | _ => false
def pD (l : As) : D → D
  | .int k => trD (trOf l k)
  | d => d
theorem times_end (F z b : D) (l : As) (hl : l.length < 64) (t4 t5 t6 t7 t8 t9 t10 : Sl) : (mSeq (mSet 11 (mAsV (mLc (mIt (mCall bSortedD (maCons (mPk 3) maNil) (laCons (lPk 3) laNil))) [4] (mgName 4) (mB fNe (mB fIx (mDGet 3 (mVar 4)) lId (mC (.int 0)) lId) lId (mC (.int 0)) lId) (mVar 4)))) (mRet (mCall bTuple (maCons (mAsV (mLc (mIt (mVar 11)) [4] (mgName 4) mYes (mB fAdd (mTup (maCons (mVar 4) maNil)) lId (mDGet 3 (mVar 4)) lId))) maNil) (laCons lId laNil)))) [.va F, .va z, .va b, .ow (eD l), t4, t5, t6, t7, t8, t9, t10, .no] = .rt (fD (outF l)) [.va F, .va z, .va b, .ow (eD l), t4, t5, t6, t7, t8, t9, t10, .va (.lst ((keysOf l).map D.int))] := by
  have ks : ∀ k ∈ sortI (l.map (·.1)), k ∈ l.map (·.1) := fun k hk => (sortI_perm _).mem_iff.mp hk
  have sl : (sortI (l.map (·.1))).length < 64 := by rw [(sortI_perm _).length_eq, List.length_map]; exact hl
  have kl : (keysOf l).length < 64 := Nat.lt_of_le_of_lt (List.length_filter_le _ _) sl
  have l1 : lcGo (mgName 4) (mB fNe (mB fIx (mDGet 3 (mVar 4)) lId (mC (.int 0)) lId) lId (mC (.int 0)) lId) (mVar 4) [.va F, .va z, .va b, .ro (eD l), .no, roE t5, roE t6, roE t7, roE t8, roE t9, roE t10, .no] ((sortI (l.map (·.1))).map D.int) [] = some ((keysOf l).map D.int) := by
    have := lc_gen (mg := (mgName 4)) (mt := (mB fNe (mB fIx (mDGet 3 (mVar 4)) lId (mC (.int 0)) lId) lId (mC (.int 0)) lId)) (me := (mVar 4)) (benv := [.va F, .va z, .va b, .ro (eD l), .no, roE t5, roE t6, roE t7, roE t8, roE t9, roE t10, .no]) (g := nzD l) (h := fun d => d) (ds := (sortI (l.map (·.1))).map D.int) (acc := []) (fun d hd => by
      obtain ⟨k, hk, rfl⟩ := List.mem_map.mp hd
      have dg := dget_key (ks k hk)
      have i0 : fIx (qD (oldOf l k)) (.int 0) = some (.int (oldOf l k).num) := rfl
      have ne := ne_int (oldOf l k).num 0
      refine ⟨[.va F, .va z, .va b, .ro (eD l), .va (.int k), roE t5, roE t6, roE t7, roE t8, roE t9, roE t10, .no], [.va F, .va z, .va b, .ro (eD l), .va (.int k), roE t5, roE t6, roE t7, roE t8, roE t9, roE t10, .no], [.va F, .va z, .va b, .ro (eD l), .va (.int k), roE t5, roE t6, roE t7, roE t8, roE t9, roE t10, .no], rfl, ?_, fun _ => rfl⟩
      simp only [nzD]
      have ec : eD l = .dct (eKs l) (eXs l) := rfl
      rw [ec]
      generalize eKs l = K at *
      generalize eXs l = V at *
      generalize qD (oldOf l k) = Y at *
      simp [dctAt, kyD, dg, i0, ne, slotD])
    rw [this, List.nil_append, List.map_id', List.filter_map]
    rfl
  have l2 : lcGo (mgName 4) mYes (mB fAdd (mTup (maCons (mVar 4) maNil)) lId (mDGet 3 (mVar 4)) lId) [.va F, .va z, .va b, .ro (eD l), .no, roE t5, roE t6, roE t7, roE t8, roE t9, roE t10, .va (.lst ((keysOf l).map D.int))] ((keysOf l).map D.int) [] = some ((outF l).map trD) := by
    have := lc_all (mg := (mgName 4)) (me := (mB fAdd (mTup (maCons (mVar 4) maNil)) lId (mDGet 3 (mVar 4)) lId)) (benv := [.va F, .va z, .va b, .ro (eD l), .no, roE t5, roE t6, roE t7, roE t8, roE t9, roE t10, .va (.lst ((keysOf l).map D.int))]) (h := pD l) (ds := (keysOf l).map D.int) (fun d hd => by
      obtain ⟨k, hk, rfl⟩ := List.mem_map.mp hd
      have dg := dget_key (ks k (List.mem_filter.mp hk).1)
      refine ⟨[.va F, .va z, .va b, .ro (eD l), .va (.int k), roE t5, roE t6, roE t7, roE t8, roE t9, roE t10, .va (.lst ((keysOf l).map D.int))], [.va F, .va z, .va b, .ro (eD l), .va (.int k), roE t5, roE t6, roE t7, roE t8, roE t9, roE t10, .va (.lst ((keysOf l).map D.int))], rfl, ?_⟩
      simp only [pD]
      have ec : eD l = .dct (eKs l) (eXs l) := rfl
      have ad : fAdd (.tup [.int k]) (qD (oldOf l k)) = some (trD (trOf l k)) := rfl
      rw [ec]
      generalize eKs l = K at *
      generalize eXs l = V at *
      generalize qD (oldOf l k) = Y at *
      generalize trD (trOf l k) = Z at *
      simp [dctAt, kyD, dg, ad, slotD, line])
    rw [this, outF, List.map_map, List.map_map]
    rfl
  have hi : (mIt (mCall bSortedD (maCons (mPk 3) maNil) (laCons (lPk 3) laNil))) [.va F, .va z, .va b, .ow (eD l), t4, t5, t6, t7, t8, t9, t10, .no] = .ok ((sortI (l.map (·.1))).map D.int) [.va F, .va z, .va b, .ow (eD l), t4, t5, t6, t7, t8, t9, t10, .no] := by
    have := sortedD_ok l hl
    generalize eD l = X at *
    simp [this, slotD]
  have c1 := lc_run (vs := [4]) hi (by rw [List.length_map]; omega) rfl l1
  refine seq_nx (set_run c1 rfl rfl) ?_
  have hi2 : (mIt (mVar 11)) [.va F, .va z, .va b, .ow (eD l), t4, t5, t6, t7, t8, t9, t10, .va (.lst ((keysOf l).map D.int))] = .ok ((keysOf l).map D.int) [.va F, .va z, .va b, .ow (eD l), t4, t5, t6, t7, t8, t9, t10, .va (.lst ((keysOf l).map D.int))] := rfl
  have c2 := lc_run (vs := [4]) hi2 (by rw [List.length_map]; omega) rfl l2
  rw [mRet_ap, mCall_ap, maCons_ap]
  simp only [List.set_cons_succ, List.set_cons_zero]
  rw [c2]
  rfl
theorem times_ok {f : List Tr} {lo hi P z b : Int} (h : FI f lo hi P) (h1 : -20 ≤ lo) (h2 : hi ≤ 19) (h3 : hi ≤ lo + 11) (hP : 0 < P) (hP2 : P ≤ 27) (ht : ∀ x ∈ f, -10000000000000 ≤ x.2.1 ∧ x.2.1 ≤ 10000000000000) (hz : -100000 ≤ 0 - z ∧ 0 - z ≤ 100000) (hb : 0 < b) (hb2 : b ≤ 3) : ∃ g, run__law_times [.va (fD f), .va (.int z), .va (.int b)] = .ok (fD g) none ∧ FI g lo (hi + 1) (P * b) := by
  obtain ⟨ini, y, hf⟩ : ∃ ini y, f = ini ++ [y] := by
    rcases List.eq_nil_or_concat f with q | ⟨ini, y, q⟩
    · exact absurd q h.ne
    · exact ⟨ini, y, by rw [q, List.concat_eq_append]⟩
  have hM : 0 < P * b := Int.mul_pos hP hb
  have M2 : P * b ≤ 81 := by
    have : P * b ≤ 27 * 3 := Int.mul_le_mul hP2 hb2 (by omega) (by omega)
    omega
  have len := h.len
  have I0 : Iv [] (P * b) lo lo 270000000000000 27000270000000000000 := ⟨fun e he => by simp at he, fun e he => by simp at he, fun e he => by simp at he, by simp⟩
  have bC : Bd 270000000000000 300 := Bd.mono (a := 60) (by unfold Bd; decide) (by decide)
  have bM : Bd (P * b) 300 := Bd.mono (a := 7) (by unfold Bd; omega) (by decide)
  have bz : Bd (0 - z) 20 := by unfold Bd; omega
  obtain ⟨t4, t5, t6, t7, t8, t9, t10, cur', e, I, _, c2⟩ := times_loop (.va (fD f)) z b (P * b) lo 270000000000000 27000270000000000000 100000 hM hb (by unfold Bd; omega) (by omega) (by omega) (by omega) hz bz (by omega) bC bM f [] lo .no .no .no .no .no .no .no .no I0 (by simp only [List.length_nil]; omega) h.ord (fun x hx => by
    obtain ⟨a1, a2, a3, a4, a5, a6⟩ := h.pt x hx
    obtain ⟨b1, b2⟩ := ht x hx
    have uP := Int.le_of_dvd hP a5
    obtain ⟨q, hq⟩ := a5
    have q0 : 0 < q := by
      rcases Int.lt_or_le 0 q with k | k
      · exact k
      · have : x.2.2 * q ≤ 0 := Int.mul_nonpos_of_nonneg_of_nonpos (by omega) k
        omega
    have q1 : q ≤ P := Int.le_of_dvd hP ⟨x.2.2, by rw [hq, Int.mul_comm]⟩
    have e1 : P * b = (x.2.2 * b) * q := by rw [hq]; grind
    have e2 : P * b / (x.2.2 * b) = q := by rw [e1, Int.mul_ediv_cancel_left _ (by have := Int.mul_pos a4 hb; omega)]
    have k : (x.2.1 * q).natAbs ≤ 10000000000000 * 27 := by
      rw [Int.natAbs_mul]
      exact Nat.mul_le_mul (by omega) (by omega)
    refine ⟨a1, a1, a4, by unfold Bd; omega, by unfold Bd; omega, ⟨q, e1⟩, ?_⟩
    rw [e2]
    omega)
  obtain ⟨q, g1, g2⟩ := tmAll_top z b hb ini y (by rw [← hf]; exact h.ord) (h.pt y (by rw [hf]; simp)).2.2.1 (h.pt y (by rw [hf]; simp)).2.2.2.1
  rw [← hf] at g1
  have cu := c2 ini y hf
  have yh := (h.pt y (by rw [hf]; simp)).2.1
  have kn : keysOf (tmAll z b f []) ≠ [] := fun e => by
    have := keys_of g1 g2
    rw [e] at this
    simp at this
  have fi := out_FI hM I (by simp only [LARGE]; omega) (by omega) kn
  have ll : (tmAll z b f []).length < 64 := by
    have := strict_len (sortI ((tmAll z b f []).map (·.1))) lo cur' (fun k hk => by
      obtain ⟨e, he, rfl⟩ := List.mem_map.mp ((sortI_perm _).mem_iff.mp hk)
      exact I.rg e he) (sorted_strict I.nd)
    rw [(sortI_perm _).length_eq, List.length_map] at this
    omega
  refine ⟨outF (tmAll z b f []), ?_, fi.mono (Int.le_refl _) (by omega) (Int.dvd_refl _)⟩
  have s0 : (mOwn 3 mNewD) [.va (fD f), .va (.int z), .va (.int b), .no, .no, .no, .no, .no, .no, .no, .no, .no] = .nx [.va (fD f), .va (.int z), .va (.int b), .ow (eD []), .no, .no, .no, .no, .no, .no, .no, .no] := rfl
  have it : (mIt (mVar 0)) [.va (fD f), .va (.int z), .va (.int b), .ow (eD []), .no, .no, .no, .no, .no, .no, .no, .no] = .ok (f.map trD) [.va (fD f), .va (.int z), .va (.int b), .ow (eD []), .no, .no, .no, .no, .no, .no, .no, .no] := rfl
  exact run_rt (n := 3) (tot := 12) (m := m__law_times) (args := [.va (fD f), .va (.int z), .va (.int b)]) (seq_nx s0 (seq_nx (for_ok it e) (times_end (fD f) (.int z) (.int b) _ ll t4 t5 t6 t7 t8 t9 t10)))
end GJ

set_option Elab.async false
set_option linter.all false
set_option maxRecDepth 100000
set_option maxHeartbeats 2000000
namespace GJ
open PySem L2 MP

theorem le_foldl_max : ∀ (r : List Int) (n y : Int), y ∈ n :: r → y ≤ r.foldl max n
  | [], n, y, h => by simp at h; rw [h]; exact Int.le_refl _
  | x :: r, n, y, h => by
    show y ≤ r.foldl max (max n x)
    simp only [List.mem_cons] at h
    rcases h with h | h | h
    · have := le_foldl_max r (max n x) (max n x) (by simp)
      omega
    · have := le_foldl_max r (max n x) (max n x) (by simp)
      omega
    · exact le_foldl_max r (max n x) y (by simp [h])
theorem max_tops (f : List Tr) (ne : f ≠ []) : ∃ m, bMax [.lst (f.map fun x => D.int (if x.2.1 < 0 then -x.2.1 else x.2.1))] = some (.int m) ∧ (m < 10000000000000 → ∀ x ∈ f, -10000000000000 ≤ x.2.1 ∧ x.2.1 ≤ 10000000000000) := by
  cases f with
  | nil => exact absurd rfl ne
  | cons h r =>
    have im := intsOf_map ((h :: r).map fun x => if x.2.1 < 0 then -x.2.1 else x.2.1)
    rw [List.map_map] at im
    refine ⟨(r.map fun x => if x.2.1 < 0 then -x.2.1 else x.2.1).foldl max (if h.2.1 < 0 then -h.2.1 else h.2.1), ?_, fun hm x hx => ?_⟩
    · unfold bMax
      rw [show (D.int ∘ fun x : Tr => if x.2.1 < 0 then -x.2.1 else x.2.1) = fun x : Tr => D.int (if x.2.1 < 0 then -x.2.1 else x.2.1) from rfl] at im
      dsimp only
      rw [im]
      rfl
    · have := le_foldl_max (r.map fun x => if x.2.1 < 0 then -x.2.1 else x.2.1) (if h.2.1 < 0 then -h.2.1 else h.2.1) (if x.2.1 < 0 then -x.2.1 else x.2.1) (by
        rcases List.mem_cons.mp hx with e | e
        · rw [e]; simp
        · exact List.mem_cons_of_mem _ (List.mem_map.mpr ⟨x, e, rfl⟩))
      split at this <;> omega
theorem first_FI (p c : Int) (hc : c ≠ 0) (h1 : -LARGE ≤ c) (h2 : c ≤ LARGE) : FI [(p, c, 1)] p p 1 :=
  ⟨by simp, rfl, fun x hx => by
    simp at hx
    subst hx
    exact ⟨by simp, by simp, hc, by simp, by simp, by simp, h1, h2⟩⟩
theorem more_FI {h : Tr} {r : List Tr} {lo hi P : Int} (F : FI (h :: r) lo hi P) (c : Int) (hc : c ≠ 0) (h1 : -LARGE ≤ c) (h2 : c ≤ LARGE) : FI ((h.1 - 1, c, 1) :: h :: r) (lo - 1) hi P :=
  ⟨by simp, by
    simp only [ordB, Bool.and_eq_true, decide_eq_true_eq]
    exact ⟨by omega, F.ord⟩, fun x hx => by
    have hh := F.pt h List.mem_cons_self
    rcases List.mem_cons.mp hx with e | e
    · subst e
      exact ⟨by simp; omega, by simp; omega, hc, by simp, ⟨P, by simp⟩, by simp, h1, h2⟩
    · have := F.pt x e
      exact ⟨by omega, this.2⟩⟩
theorem tops_lc (f : List Tr) (e0 e1 e2 e3 e4 : Sl) : lcGo (mgTup 3 (mgsCons (mgName 5) (mgsCons (mgName 6) (mgsCons (mgName 7) mgsNil)))) mYes (mCall bAbs (maCons (mPk 6) maNil) (laCons (lPk 6) laNil)) [e0, e1, e2, e3, e4, .no, .no, .no] (f.map trD) [] = some (f.map fun x => D.int (if x.2.1 < 0 then -x.2.1 else x.2.1)) := by
  have := lc_all (mg := (mgTup 3 (mgsCons (mgName 5) (mgsCons (mgName 6) (mgsCons (mgName 7) mgsNil))))) (me := (mCall bAbs (maCons (mPk 6) maNil) (laCons (lPk 6) laNil))) (benv := [e0, e1, e2, e3, e4, .no, .no, .no]) (h := fun d => match d with | .tup [_, .int t, _] => .int (if t < 0 then -t else t) | _ => .non) (ds := f.map trD) (fun d hd => by
    obtain ⟨x, _, rfl⟩ := List.mem_map.mp hd
    exact ⟨[e0, e1, e2, e3, e4, .va (.int x.1), .va (.int x.2.1), .va (.int x.2.2)], [e0, e1, e2, e3, e4, .va (.int x.1), .va (.int x.2.1), .va (.int x.2.2)], by simp [trD], by simp [trD, bAbs, slotD]⟩)
  rw [this, List.map_map]
  rfl
theorem form_step (p : Int) (hp : -3 ≤ p ∧ p ≤ 1) (i : Nat) (hi : i ≤ 3) (f : List Tr) (P : Int) (x : D) (s2 s3 s4 : Sl) (hx : Src x) (F : FI f p (p + i) P) (hP : 0 < P) (hP2 : P ≤ 3 ^ i) :
    ∃ (f' : List Tr) (P' : Int) (x' : D) (t3 t4 : Sl), (mSeq (mSet 3 (mLst (maCons (mB fAdd (mC (.int 1)) lId (mUserB run__law_draw 0 (maCons (mC (.int 6)) maNil)) lId) (maCons (mUserB run__law_draw 0 (maCons (mC (.int 500)) maNil)) maNil)))) (mSeq (mSet 4 (mUserB run__law_of 0 (maCons (mB fAdd (mPk 3) (lPk 3) (mLst (maCons (mB fSub (mC (.int 0)) lId (mUserB run__law_draw 0 (maCons (mC (.int 9)) maNil)) lId) (maCons (mB fPow (mC (.int 10)) lId (mC (.int 5)) lId) maNil))) lId) maNil))) (mIfS (mB fLt (mCall bMax (maCons (mAsV (mLc (mIt (mVar 1)) [5, 6, 7] (mgTup 3 (mgsCons (mgName 5) (mgsCons (mgName 6) (mgsCons (mgName 7) mgsNil)))) mYes (mCall bAbs (maCons (mPk 6) maNil) (laCons (lPk 6) laNil)))) maNil) (laCons lId laNil)) lId (mB fPow (mC (.int 10)) lId (mC (.int 13)) lId) lId) (mSet 1 (mUser run__law_times (maCons (mVar 1) (maCons (mVar 4) (maCons (mUserB run__law_of 0 (maCons (mLst (maCons (mC (.int 1)) (maCons (mC (.int 1)) (maCons (mC (.int 2)) (maCons (mC (.int 3)) maNil))))) maNil)) maNil))))) mSkip))) [.bo x, .va (fD f), s2, s3, s4, .no, .no, .no] = .nx [.bo x', .va (fD f'), s2, t3, t4, .no, .no, .no] ∧ Src x' ∧ FI f' p (p + ((i + 1 : Nat) : Int)) P' ∧ 0 < P' ∧ P' ≤ 3 ^ (i + 1) := by
  have P27 : P ≤ 27 := by
    have : (3 : Int) ^ i ≤ 27 := by
      rcases (by omega : i = 0 ∨ i = 1 ∨ i = 2 ∨ i = 3) with e | e | e | e <;> subst e <;> decide
    omega
  obtain ⟨r1, x1, d1, hs1, r10, r11⟩ := draw_ok hx 6 (by decide) (by decide)
  obtain ⟨r2, x2, d2, hs2, r20, r21⟩ := draw_ok hs1 500 (by decide) (by decide)
  obtain ⟨r3, x3, d3, hs3, r30, r31⟩ := draw_ok hs2 9 (by decide) (by decide)
  obtain ⟨y, x4, o4, hs4, hy⟩ := of_ok hs3 [.int (1 + r1), .int r2, .int (0 - r3), .int 100000] (by simp) (by simp)
  obtain ⟨z, rfl, hz⟩ : ∃ z : Int, y = .int z ∧ -100000 ≤ 0 - z ∧ 0 - z ≤ 100000 := by
    simp at hy
    rcases hy with e | e | e | e <;> exact ⟨_, e, by omega, by omega⟩
  obtain ⟨m, bm, hm⟩ := max_tops f F.ne
  have p5 : fPow (.int 10) (.int 5) = some (.int 100000) := by simp [fPow]
  have p13 : fPow (.int 10) (.int 13) = some (.int 10000000000000) := by simp [fPow]
  have len := F.len
  have s0 : (mSet 3 (mLst (maCons (mB fAdd (mC (.int 1)) lId (mUserB run__law_draw 0 (maCons (mC (.int 6)) maNil)) lId) (maCons (mUserB run__law_draw 0 (maCons (mC (.int 500)) maNil)) maNil)))) [.bo x, .va (fD f), s2, s3, s4, .no, .no, .no] = .nx [.bo x2, .va (fD f), s2, .va (.lst [.int (1 + r1), .int r2]), s4, .no, .no, .no] := by
    generalize fD f = X at *
    simp [mUserB, d1, d2, fAdd, slotD, line]
  have s1 : (mSet 4 (mUserB run__law_of 0 (maCons (mB fAdd (mPk 3) (lPk 3) (mLst (maCons (mB fSub (mC (.int 0)) lId (mUserB run__law_draw 0 (maCons (mC (.int 9)) maNil)) lId) (maCons (mB fPow (mC (.int 10)) lId (mC (.int 5)) lId) maNil))) lId) maNil))) [.bo x2, .va (fD f), s2, .va (.lst [.int (1 + r1), .int r2]), s4, .no, .no, .no] = .nx [.bo x4, .va (fD f), s2, .va (.lst [.int (1 + r1), .int r2]), .va (.int z), .no, .no, .no] := by
    generalize fD f = X at *
    simp [mUserB, d3, p5, fAdd, fSub, slotD, line]
    rw [show (0 - r3) = -r3 by omega] at o4
    simp [o4]
  have it : (mIt (mVar 1)) [.bo x4, .va (fD f), s2, .va (.lst [.int (1 + r1), .int r2]), .va (.int z), .no, .no, .no] = .ok (f.map trD) [.bo x4, .va (fD f), s2, .va (.lst [.int (1 + r1), .int r2]), .va (.int z), .no, .no, .no] := rfl
  have lc := lc_run (vs := [5, 6, 7]) it (by rw [List.length_map]; omega) rfl (tops_lc f _ _ _ _ _)
  have test : (mB fLt (mCall bMax (maCons (mAsV (mLc (mIt (mVar 1)) [5, 6, 7] (mgTup 3 (mgsCons (mgName 5) (mgsCons (mgName 6) (mgsCons (mgName 7) mgsNil)))) mYes (mCall bAbs (maCons (mPk 6) maNil) (laCons (lPk 6) laNil)))) maNil) (laCons lId laNil)) lId (mB fPow (mC (.int 10)) lId (mC (.int 13)) lId) lId) [.bo x4, .va (fD f), s2, .va (.lst [.int (1 + r1), .int r2]), .va (.int z), .no, .no, .no] = .ok (.bl (decide (m < 10000000000000))) [.bo x4, .va (fD f), s2, .va (.lst [.int (1 + r1), .int r2]), .va (.int z), .no, .no, .no] := by
    rw [mB_ap, mCall_ap, maCons_ap, lc]
    generalize f.map (fun x => D.int (if x.2.1 < 0 then -x.2.1 else x.2.1)) = L at *
    generalize fD f = X at *
    simp [bm, p13, fLt]
  by_cases hlt : m < 10000000000000
  · rw [decide_eq_true hlt] at test
    obtain ⟨b, x5, o5, hs5, hb⟩ := of_ok hs4 [.int 1, .int 1, .int 2, .int 3] (by simp) (by simp)
    obtain ⟨b, rfl, hb1, hb2⟩ : ∃ z : Int, b = .int z ∧ 0 < z ∧ z ≤ 3 := by
      simp at hb
      rcases hb with e | e | e <;> exact ⟨_, e, by omega, by omega⟩
    obtain ⟨g, e5, G⟩ := times_ok F (by omega) (by omega) (by omega) hP P27 (hm hlt) hz hb1 hb2
    refine ⟨g, P * b, x5, .va (.lst [.int (1 + r1), .int r2]), .va (.int z), seq_nx s0 (seq_nx s1 (if_tt test ?_)), hs5, G.mono (Int.le_refl _) (by omega) (Int.dvd_refl _), Int.mul_pos hP hb1, ?_⟩
    · generalize fD f = X at *
      generalize fD g = Y at *
      simp [mUserB, o5, e5, slotD, line]
    · rw [Int.pow_succ]
      exact Int.mul_le_mul hP2 hb2 (by omega) (Int.le_trans (by omega) hP2)
  · rw [decide_eq_false hlt] at test
    refine ⟨f, P, x4, .va (.lst [.int (1 + r1), .int r2]), .va (.int z), seq_nx s0 (seq_nx s1 (if_ff test rfl)), hs4, F.mono (Int.le_refl _) (by omega) (Int.dvd_refl _), hP, ?_⟩
    rw [Int.pow_succ]
    omega
theorem form_loop (p : Int) (hp : -3 ≤ p ∧ p ≤ 1) : ∀ (ds : List D) (i : Nat) (f : List Tr) (P : Int) (x : D) (s2 s3 s4 : Sl), i + ds.length ≤ 4 → Src x → FI f p (p + i) P → 0 < P → P ≤ 3 ^ i →
    ∃ (f' : List Tr) (P' : Int) (x' : D) (t2 t3 t4 : Sl), forGo (mgName 2) (mSeq (mSet 3 (mLst (maCons (mB fAdd (mC (.int 1)) lId (mUserB run__law_draw 0 (maCons (mC (.int 6)) maNil)) lId) (maCons (mUserB run__law_draw 0 (maCons (mC (.int 500)) maNil)) maNil)))) (mSeq (mSet 4 (mUserB run__law_of 0 (maCons (mB fAdd (mPk 3) (lPk 3) (mLst (maCons (mB fSub (mC (.int 0)) lId (mUserB run__law_draw 0 (maCons (mC (.int 9)) maNil)) lId) (maCons (mB fPow (mC (.int 10)) lId (mC (.int 5)) lId) maNil))) lId) maNil))) (mIfS (mB fLt (mCall bMax (maCons (mAsV (mLc (mIt (mVar 1)) [5, 6, 7] (mgTup 3 (mgsCons (mgName 5) (mgsCons (mgName 6) (mgsCons (mgName 7) mgsNil)))) mYes (mCall bAbs (maCons (mPk 6) maNil) (laCons (lPk 6) laNil)))) maNil) (laCons lId laNil)) lId (mB fPow (mC (.int 10)) lId (mC (.int 13)) lId) lId) (mSet 1 (mUser run__law_times (maCons (mVar 1) (maCons (mVar 4) (maCons (mUserB run__law_of 0 (maCons (mLst (maCons (mC (.int 1)) (maCons (mC (.int 1)) (maCons (mC (.int 2)) (maCons (mC (.int 3)) maNil))))) maNil)) maNil))))) mSkip))) ds [.bo x, .va (fD f), s2, s3, s4, .no, .no, .no] = .nx [.bo x', .va (fD f'), t2, t3, t4, .no, .no, .no] ∧ Src x' ∧ FI f' p (p + 4) P' ∧ 0 < P' ∧ P' ≤ 81
  | [], i, f, P, x, s2, s3, s4, hl, hx, F, hP, hP2 => by
    simp only [List.length_nil] at hl
    refine ⟨f, P, x, s2, s3, s4, by simp [forGo], hx, F.mono (Int.le_refl _) (by omega) (Int.dvd_refl _), hP, ?_⟩
    have : (3 : Int) ^ i ≤ 81 := by
      rcases (by omega : i = 0 ∨ i = 1 ∨ i = 2 ∨ i = 3 ∨ i = 4) with e | e | e | e | e <;> subst e <;> decide
    omega
  | d :: ds, i, f, P, x, s2, s3, s4, hl, hx, F, hP, hP2 => by
    simp only [List.length_cons] at hl
    obtain ⟨f1, P1, x1, t3, t4, e1, hs1, F1, hP1, hP3⟩ := form_step p hp i (by omega) f P x (.va d) s3 s4 hx F hP hP2
    obtain ⟨f', P', x', u2, u3, u4, e, h1, h2, h3, h4⟩ := form_loop p hp ds (i + 1) f1 P1 x1 (.va d) t3 t4 (by omega) hs1 F1 hP1 hP3
    exact ⟨f', P', x', u2, u3, u4, go_cons rfl e1 e, h1, h2, h3, h4⟩
theorem form_ok (x : D) (hx : Src x) : ∃ (f : List Tr) (x' : D), run__law_form [.bo x] = .ok (fD f) (some x') ∧ Src x' ∧ LF f := by
  obtain ⟨r1, x1, d1, hs1, r10, r11⟩ := draw_ok hx 5 (by decide) (by decide)
  obtain ⟨y, x2, o2, hs2, hy⟩ := of_ok hs1 [.int 1, .int (-1), .int 2, .int (-3)] (by simp) (by simp)
  obtain ⟨c, rfl, hc, hc1, hc2⟩ : ∃ z : Int, y = .int z ∧ z ≠ 0 ∧ -LARGE ≤ z ∧ z ≤ LARGE := by
    simp at hy
    rcases hy with e | e | e | e <;> exact ⟨_, e, by decide, by decide, by decide⟩
  have s0 : (mSet 1 (mTup (maCons (mTup (maCons (mB fSub (mUserB run__law_draw 0 (maCons (mC (.int 5)) maNil)) lId (mC (.int 3)) lId) (maCons (mUserB run__law_of 0 (maCons (mLst (maCons (mC (.int 1)) (maCons (mU fNeg (mC (.int 1)) lId) (maCons (mC (.int 2)) (maCons (mU fNeg (mC (.int 3)) lId) maNil))))) maNil)) (maCons (mC (.int 1)) maNil)))) maNil))) [.bo x, .no, .no, .no, .no, .no, .no, .no] = .nx [.bo x2, .va (fD [(r1 - 3, c, 1)]), .no, .no, .no, .no, .no, .no] := by
    simp [mUserB, d1, o2, fSub, fNeg, fD, trD, slotD, line]
  obtain ⟨k, x3, d3, hs3, k0, k1⟩ := draw_ok hs2 5 (by decide) (by decide)
  obtain ⟨f, P, x4, t2, t3, t4, e4, hs4, F, hP, hP2⟩ := form_loop (r1 - 3) (by omega) (ups 0 k.toNat) 0 [(r1 - 3, c, 1)] 1 x3 .no .no .no (by rw [ups_length]; omega) hs3 ((first_FI (r1 - 3) c hc hc1 hc2).mono (Int.le_refl _) (by omega) (Int.dvd_refl _)) (by decide) (by decide)
  have s1 : (mFor (mRange1 (maCons (mUserB run__law_draw 0 (maCons (mC (.int 5)) maNil)) maNil)) (mgName 2) (mSeq (mSet 3 (mLst (maCons (mB fAdd (mC (.int 1)) lId (mUserB run__law_draw 0 (maCons (mC (.int 6)) maNil)) lId) (maCons (mUserB run__law_draw 0 (maCons (mC (.int 500)) maNil)) maNil)))) (mSeq (mSet 4 (mUserB run__law_of 0 (maCons (mB fAdd (mPk 3) (lPk 3) (mLst (maCons (mB fSub (mC (.int 0)) lId (mUserB run__law_draw 0 (maCons (mC (.int 9)) maNil)) lId) (maCons (mB fPow (mC (.int 10)) lId (mC (.int 5)) lId) maNil))) lId) maNil))) (mIfS (mB fLt (mCall bMax (maCons (mAsV (mLc (mIt (mVar 1)) [5, 6, 7] (mgTup 3 (mgsCons (mgName 5) (mgsCons (mgName 6) (mgsCons (mgName 7) mgsNil)))) mYes (mCall bAbs (maCons (mPk 6) maNil) (laCons (lPk 6) laNil)))) maNil) (laCons lId laNil)) lId (mB fPow (mC (.int 10)) lId (mC (.int 13)) lId) lId) (mSet 1 (mUser run__law_times (maCons (mVar 1) (maCons (mVar 4) (maCons (mUserB run__law_of 0 (maCons (mLst (maCons (mC (.int 1)) (maCons (mC (.int 1)) (maCons (mC (.int 2)) (maCons (mC (.int 3)) maNil))))) maNil)) maNil))))) mSkip)))) [.bo x2, .va (fD [(r1 - 3, c, 1)]), .no, .no, .no, .no, .no, .no] = .nx [.bo x4, .va (fD f), t2, t3, t4, .no, .no, .no] := by
    refine for_ok (range1_ok (j := k) (e1 := [.bo x3, .va (fD [(r1 - 3, c, 1)]), .no, .no, .no, .no, .no, .no]) ?_ (by simp [big]; omega)) e4
    generalize fD [(r1 - 3, c, 1)] = X at *
    simp [mUserB, d3, slotD]
  obtain ⟨r5, x5, d5, hs5, r50, r51⟩ := draw_ok hs4 3 (by decide) (by decide)
  have done_ : ∀ (f' : List Tr) (x' : D) (lo : Int), Src x' → FI f' lo (r1 - 3 + 4) P → r1 - 3 - 1 ≤ lo → (mIfS (mAnd (mB fEq (mUserB run__law_draw 0 (maCons (mC (.int 3)) maNil)) lId (mC (.int 0)) lId) (mB fGt (mB fIx (mB fIx (mPk 1) (lPk 1) (mC (.int 0)) lId) lId (mC (.int 0)) lId) lId (mU fNeg (mC (.int 9)) lId) lId)) (mSet 1 (mB fAdd (mTup (maCons (mTup (maCons (mB fSub (mB fIx (mB fIx (mPk 1) (lPk 1) (mC (.int 0)) lId) lId (mC (.int 0)) lId) lId (mC (.int 1)) lId) (maCons (mUserB run__law_of 0 (maCons (mLst (maCons (mC (.int 1)) (maCons (mU fNeg (mC (.int 1)) lId) (maCons (mC (.int 7)) (maCons (mU fNeg (mC (.int 100)) lId) maNil))))) maNil)) (maCons (mC (.int 1)) maNil)))) maNil)) lId (mPk 1) (lPk 1))) mSkip) [.bo x4, .va (fD f), t2, t3, t4, .no, .no, .no] = .nx [.bo x', .va (fD f'), t2, t3, t4, .no, .no, .no] → ∃ (f : List Tr) (x' : D), run__law_form [.bo x] = .ok (fD f) (some x') ∧ Src x' ∧ LF f := fun f' x' lo hs G hlo e =>
    ⟨f', x', run_rt (n := 1) (tot := 8) (m := m__law_form) (args := [.bo x]) (seq_nx s0 (seq_nx s1 (seq_nx e (show (mRet (mVar 1)) [.bo x', .va (fD f'), t2, t3, t4, .no, .no, .no] = _ from rfl)))), hs, G.lf (by omega) (by omega) (by omega) hP (by omega)⟩
  have eq0 := eq_int r5 0
  cases f with
  | nil => exact absurd rfl F.ne
  | cons h r =>
    have i1 : fIx (fD (h :: r)) (.int 0) = some (trD h) := rfl
    have i2 : fIx (trD h) (.int 0) = some (.int h.1) := rfl
    have hh := F.pt h List.mem_cons_self
    by_cases hr : r5 = 0
    · rw [decide_eq_true hr] at eq0
      obtain ⟨y, x6, o6, hs6, hy⟩ := of_ok hs5 [.int 1, .int (-1), .int 7, .int (-100)] (by simp) (by simp)
      obtain ⟨a, rfl, ha, ha1, ha2⟩ : ∃ z : Int, y = .int z ∧ z ≠ 0 ∧ -LARGE ≤ z ∧ z ≤ LARGE := by
        simp at hy
        rcases hy with e | e | e | e <;> exact ⟨_, e, by decide, by decide, by decide⟩
      have len := F.len
      have ad : fAdd (.tup [.tup [.int (h.1 - 1), .int a, .int 1]]) (fD (h :: r)) = some (fD ((h.1 - 1, a, 1) :: h :: r)) := by
        simp only [List.length_cons] at len
        have : 1 + (r.length + 1) ≤ 16777216 := by omega
        simp [fD, fAdd, line, trD, this]
      refine done_ ((h.1 - 1, a, 1) :: h :: r) x6 (r1 - 3 - 1) hs6 (more_FI F a ha ha1 ha2) (by omega) (if_tt (e1 := [.bo x5, .va (fD (h :: r)), t2, t3, t4, .no, .no, .no]) ?_ ?_)
      · have gt : -9 < h.1 := by omega
        generalize fD (h :: r) = X at *
        generalize trD h = Y at *
        simp [mUserB, d5, eq0, i1, i2, fNeg, fGt, gt, slotD]
      · generalize fD ((h.1 - 1, a, 1) :: h :: r) = Z at *
        generalize fD (h :: r) = X at *
        generalize trD h = Y at *
        simp [mUserB, o6, i1, i2, fNeg, fSub, ad, slotD, line]
    · rw [decide_eq_false hr] at eq0
      refine done_ (h :: r) x5 (r1 - 3) hs5 F (by omega) (if_ff (e1 := [.bo x5, .va (fD (h :: r)), t2, t3, t4, .no, .no, .no]) ?_ rfl)
      generalize fD (h :: r) = X at *
      simp [mUserB, d5, eq0, slotD]
end GJ

set_option Elab.async false
set_option linter.all false
set_option maxRecDepth 100000
set_option maxHeartbeats 2000000
namespace GJ
open PySem L2 MP

theorem ok_form {f : List Tr} (h : goodB (fD f) = true) : Ok 12 2 (fD f) = true := by
  have g := gd_of h
  simp only [fD, Ok, Bool.and_eq_true, decide_eq_true_eq]
  refine ⟨by rw [List.length_map]; exact g.len, (okL_iff _ _ _).mpr fun y hy => ?_⟩
  obtain ⟨t, _, rfl⟩ := List.mem_map.mp hy
  simp [trD, Ok, OkL]
theorem ne_bl (b : Bool) : fNe (.bl b) (.bl b) = some (.bl false) := by simp [fNe, okD, eqD]
theorem five (S0 S1 S3 S4 S7 : Sl) : ∀ (ds : List D) (i : Nat) (v x : D) (s6 : Sl), i + ds.length ≤ 5 → Src x → Ok (12 + i) (2 + i) v = true → ∃ (v' x' : D) (t6 : Sl), forGo (mgName 6) (mSeq (mIfS (mB fNe (mUser run_is_form (maCons (mVar 5) maNil)) lId (mUser run__law_is_form (maCons (mVar 5) maNil)) lId) (mRet (mC (.bl false))) mSkip) (mSet 5 (mUserB (run__law_spoilt 14) 2 (maCons (mVar 5) maNil)))) ds [S0, S1, .ow x, S3, S4, .va v, s6, S7] = .nx [S0, S1, .ow x', S3, S4, .va v', t6, S7] ∧ Src x'
  | [], i, v, x, s6, h, hx, hv => ⟨v, x, s6, by simp [forGo], hx⟩
  | d :: ds, i, v, x, s6, h, hx, hv => by
    simp only [List.length_cons] at h
    have pl := Ok.pl v _ hv
    have e1 := is_form_ok v pl
    have e2 := law_is_form_ok v pl
    have nb := ne_bl (goodB v)
    obtain ⟨v1, x1, e3, hs, ho⟩ := spoilt_ok 14 (2 + i) (12 + i) v x (by omega) (by omega) (by omega) (by omega) hv hx
    obtain ⟨v', x', t6, e, hs'⟩ := five S0 S1 S3 S4 S7 ds (i + 1) v1 x1 (.va d) (by omega) hs ho
    refine ⟨v', x', t6, go_cons (e1 := [S0, S1, .ow x, S3, S4, .va v, .va d, S7]) rfl (e2 := [S0, S1, .ow x1, S3, S4, .va v1, .va d, S7]) ?_ e, hs'⟩
    refine seq_nx (e1 := [S0, S1, .ow x, S3, S4, .va v, .va d, S7]) (if_ff (e1 := [S0, S1, .ow x, S3, S4, .va v, .va d, S7]) (by simp [e1, e2, nb]) rfl) ?_
    generalize run__law_spoilt 14 = SP at *
    simp [mUserB, e3, slotD]
def FormOk : Prop := ∀ x, Src x → ∃ (f : List Tr) (x' : D), run__law_form [.bo x] = .ok (fD f) (some x') ∧ Src x' ∧ LF f
theorem four (F : FormOk) (S0 S1 S7 : Sl) : ∀ (ds : List D) (x : D) (s3 s4 s5 s6 : Sl), Src x → (ds ≠ [] ∨ ∃ f, s4 = .va (fD f) ∧ LF f) → ∃ (f : List Tr) (x' : D) (t3 t5 t6 : Sl), forGo (mgName 3) (mSeq (mSet 4 (mUserB run__law_form 2 maNil)) (mSeq (mIfS (mOr (mNot (mUser run__law_is_form (maCons (mVar 4) maNil))) (mNot (mUserB run__law_signs_right 2 (maCons (mVar 4) maNil)))) (mRet (mC (.bl false))) mSkip) (mSeq (mSet 5 (mVar 4)) (mFor (mRange1 (maCons (mC (.int 5)) maNil)) (mgName 6) (mSeq (mIfS (mB fNe (mUser run_is_form (maCons (mVar 5) maNil)) lId (mUser run__law_is_form (maCons (mVar 5) maNil)) lId) (mRet (mC (.bl false))) mSkip) (mSet 5 (mUserB (run__law_spoilt 14) 2 (maCons (mVar 5) maNil)))))))) ds [S0, S1, .ow x, s3, s4, s5, s6, S7] = .nx [S0, S1, .ow x', t3, .va (fD f), t5, t6, S7] ∧ Src x' ∧ LF f
  | [], x, s3, s4, s5, s6, hx, h => by
    rcases h with h | ⟨f, rfl, hf⟩
    · exact absurd rfl h
    · exact ⟨f, x, s3, s5, s6, by simp [forGo], hx, hf⟩
  | d :: ds, x, s3, s4, s5, s6, hx, _ => by
    obtain ⟨f, x1, e1, hs1, hf⟩ := F x hx
    have lf := law_is_form_ok (fD f) (pl_fD f)
    rw [hf.good] at lf
    obtain ⟨x2, e2, hs2⟩ := signs_right_ok hs1 f hf
    obtain ⟨v', x3, t6, e3, hs3⟩ := five S0 S1 (.va d) (.va (fD f)) S7 (ups 0 5) 0 (fD f) x2 s6 (by rw [ups_length]; omega) hs2 (ok_form hf.good)
    obtain ⟨f', x', t3, t5, t6', e, hs', hf'⟩ := four F S0 S1 S7 ds x3 (.va d) (.va (fD f)) (.va v') t6 hs3 (.inr ⟨f, rfl, hf⟩)
    refine ⟨f', x', t3, t5, t6', go_cons (e1 := [S0, S1, .ow x, .va d, s4, s5, s6, S7]) rfl (e2 := [S0, S1, .ow x3, .va d, .va (fD f), .va v', t6, S7]) ?_ e, hs', hf'⟩
    have r5 := range1_ok (ma := maCons (mC (.int 5)) maNil) (e := [S0, S1, .ow x2, .va d, .va (fD f), .va (fD f), s6, S7]) (e1 := [S0, S1, .ow x2, .va d, .va (fD f), .va (fD f), s6, S7]) (j := 5) rfl (by decide)
    generalize fD f = X at *
    refine seq_nx (e1 := [S0, S1, .ow x1, .va d, .va X, s5, s6, S7]) (by simp [mUserB, e1, slotD]) (seq_nx (e1 := [S0, S1, .ow x2, .va d, .va X, s5, s6, S7]) (if_ff (e1 := [S0, S1, .ow x2, .va d, .va X, s5, s6, S7]) (by simp [lf, mUserB, e2, slotD]) rfl) (seq_nx (e1 := [S0, S1, .ow x2, .va d, .va X, .va X, s6, S7]) (by simp) (for_ok r5 e3)))
theorem cells (F : FormOk) (ns : List Int) (S7 : Sl) : ∀ (k : Nat) (i : Nat) (s1 s2 s3 s4 s5 s6 : Sl), i + k ≤ 50 → ∃ t1 t2 t3 t4 t5 t6, forGo (mgName 1) (mSeq (mOwn 2 (mUserN run__law_source (maCons (mVar 0) (maCons (mVar 1) maNil)))) (mSeq (mFor (mRange1 (maCons (mC (.int 4)) maNil)) (mgName 3) (mSeq (mSet 4 (mUserB run__law_form 2 maNil)) (mSeq (mIfS (mOr (mNot (mUser run__law_is_form (maCons (mVar 4) maNil))) (mNot (mUserB run__law_signs_right 2 (maCons (mVar 4) maNil)))) (mRet (mC (.bl false))) mSkip) (mSeq (mSet 5 (mVar 4)) (mFor (mRange1 (maCons (mC (.int 5)) maNil)) (mgName 6) (mSeq (mIfS (mB fNe (mUser run_is_form (maCons (mVar 5) maNil)) lId (mUser run__law_is_form (maCons (mVar 5) maNil)) lId) (mRet (mC (.bl false))) mSkip) (mSet 5 (mUserB (run__law_spoilt 14) 2 (maCons (mVar 5) maNil))))))))) (mIfS (mNot (mUserB run__law_refused 2 (maCons (mVar 4) maNil))) (mRet (mC (.bl false))) mSkip))) (ups (i : Int) k) [.va (.scr ns), s1, s2, s3, s4, s5, s6, S7] = .nx [.va (.scr ns), t1, t2, t3, t4, t5, t6, S7]
  | 0, i, s1, s2, s3, s4, s5, s6, h => ⟨s1, s2, s3, s4, s5, s6, by simp [ups, forGo]⟩
  | k + 1, i, s1, s2, s3, s4, s5, s6, h => by
    obtain ⟨x, e1, hx⟩ := source_ok ns i (by omega)
    obtain ⟨f, x', t3, t5, t6, e2, hs, hf⟩ := four F (.va (.scr ns)) (.va (.int (i : Int))) S7 (ups 0 4) x s3 s4 s5 s6 hx (.inl (by decide))
    have rf := refused_ok x' f hf.good
    obtain ⟨u1, u2, u3, u4, u5, u6, e⟩ := cells F ns S7 k (i + 1) (.va (.int (i : Int))) (.ow x') t3 (.va (fD f)) t5 t6 (by omega)
    refine ⟨u1, u2, u3, u4, u5, u6, ?_⟩
    have e5 : ((i : Int) + 1) = ((i + 1 : Nat) : Int) := by omega
    simp only [ups]
    rw [e5]
    refine go_cons (e1 := [.va (.scr ns), .va (.int (i : Int)), s2, s3, s4, s5, s6, S7]) rfl (e2 := [.va (.scr ns), .va (.int (i : Int)), .ow x', t3, .va (fD f), t5, t6, S7]) ?_ e
    have r4 := range1_ok (ma := maCons (mC (.int 4)) maNil) (e := [.va (.scr ns), .va (.int (i : Int)), .ow x, s3, s4, s5, s6, S7]) (e1 := [.va (.scr ns), .va (.int (i : Int)), .ow x, s3, s4, s5, s6, S7]) (j := 4) rfl (by decide)
    refine seq_nx (e1 := [.va (.scr ns), .va (.int (i : Int)), .ow x, s3, s4, s5, s6, S7]) (by simp [e1]) (seq_nx (e1 := [.va (.scr ns), .va (.int (i : Int)), .ow x', t3, .va (fD f), t5, t6, S7]) (for_ok r4 e2) ?_)
    generalize fD f = X at *
    exact if_ff (e1 := [.va (.scr ns), .va (.int (i : Int)), .ow x', t3, .va X, t5, t6, S7]) (by simp [mUserB, rf, slotD]) rfl
theorem law_of (F : FormOk) : ∀ ns : List Int, ns.length ≤ 63 → (∀ z ∈ ns, PySem.Builtin.Int.intBits z ≤ 1048576) → ∃ out, run_law [.va (.scr ns)] = .ok (.bl true) out := by
  intro ns hl _
  obtain ⟨k, hk, hk2⟩ : ∃ k : Nat, (if (8 : Int) < (ns.length : Int) then 8 else (ns.length : Int)) = (k : Int) ∧ k ≤ 8 := by
    by_cases h : (8 : Int) < (ns.length : Int)
    · exact ⟨8, by rw [if_pos h]; rfl, by omega⟩
    · exact ⟨ns.length, by rw [if_neg h], by omega⟩
  obtain ⟨t1, t2, t3, t4, t5, t6, e⟩ := cells F ns .no (1 + k) 0 .no .no .no .no .no .no (by omega)
  have ln : bLen [.scr ns] = some (.int (ns.length : Int)) := rfl
  have mn : bMin [.int (ns.length : Int), .int 8] = some (.int (k : Int)) := by rw [← hk]; rfl
  have ma : (maCons (mB fAdd (mC (.int 1)) lId (mCall bMin (maCons (mCall bLen (maCons (mPk 0) maNil) (laCons (lPk 0) laNil)) (maCons (mC (.int 8)) maNil)) (laCons lId (laCons lId laNil))) lId) maNil) [.va (.scr ns), .no, .no, .no, .no, .no, .no, .no] = .ok [.int ((1 + k : Nat) : Int)] [.va (.scr ns), .no, .no, .no, .no, .no, .no, .no] := by
    rw [show (((1 + k : Nat)) : Int) = 1 + (k : Int) by omega]
    simp [ln, mn, slotD, fAdd]
  have r := range1_ok ma (big_nat (p := 1 + k) (by omega))
  rw [Int.toNat_natCast] at r
  have s0 := for_ok r e
  have fin := seq_nx s0 (tail_ok (.va (.scr ns)) t1 t2 t3 t4 t5 t6 .no)
  exact ⟨_, run_rt (n := 1) (tot := 8) (m := m_law) (args := [.va (.scr ns)]) fin⟩
end GJ

set_option Elab.async false
set_option linter.all false
set_option maxRecDepth 100000
set_option maxHeartbeats 0
open PySem PySem.W PySem.Calls PyProof.Rows
theorem GJ.fin (law_true : ∀ ns : List Int, ns.length ≤ 63 → (∀ z ∈ ns, PySem.Builtin.Int.intBits z ≤ 1048576) → ∃ out, GJ.run_law [.va (.scr ns)] = .ok (.bl true) out) : PySem.Challenge.rw_growjoins_k01_forms_and_their_signs.Holds := by
  w_on; o_law
  refine HandSHeadRun.head_any (r := OpenLaw.row PySem.Challenge.rw_growjoins_k01_forms_and_their_signs) (q := view (OpenLaw.row PySem.Challenge.rw_growjoins_k01_forms_and_their_signs).prog [48]) (H := GJ.hk) (ob := GJ.ob) (M := 3000) (loose := GJ.loose) (d := HandSHeadRun.topDef (OpenLaw.row PySem.Challenge.rw_growjoins_k01_forms_and_their_signs).prog 48) (kwd := []) GJ.ob_eq
    (by kernel_rfl) (fun s => by kernel_rfl) GJ.run (by kernel_rfl) (by kernel_rfl) (by kernel_rfl) (by rfl) (by first | assumption | decide +kernel) (by decide +kernel) ⟨rfl, rfl, rfl, rfl, rfl, by decide +kernel⟩ ?hw ?hc
  case hw => w_witness2
  case hc =>
    refine MP.walk_law (l := PySem.Challenge.rw_growjoins_k01_forms_and_their_signs) (n := 63) (k := 68) (x := "_law_script") (f := GJ.run_law) rfl (by decide) (by kernel_rfl) ⟨rfl, by decide, by decide⟩ (by kernel_rfl) ?F law_true
    intro w mg fa h Y G hmg
    obtain ⟨K, KX, c, ce⟩ := Y
    obtain ⟨fd, hb, hF⟩ := GJ.facts (P := (PySem.Challenge.rw_growjoins_k01_forms_and_their_signs).prog) (w := w) KX G hmg c ce
    exact ⟨K, GJ.CC K, fd, KX, hb, hF⟩

set_option maxRecDepth 100000 in
set_option maxHeartbeats 2000000 in
theorem PySem.Challenge.cw_growjoins_k01_forms_and_their_signs_holds : PySem.Challenge.rw_growjoins_k01_forms_and_their_signs.Holds :=
  GJ.fin (GJ.law_of GJ.form_ok)

