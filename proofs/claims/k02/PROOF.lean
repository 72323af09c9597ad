import PyProof.Rows.All
import Wide.All
import OpenK.AllK
import Wide.FinOn
import HandS.ForMost
import HandS.Exc
import HandS.ExcOwn
import HandS.TryOnly
import HandS.WordsExc
import HandS.Flow
import HandS.HotCalls
import HandS.IsInst
import HandS.Wide
import HandS.TupAny
import HandS.TupMul
import HandS.FStr
import HandS.More
import HandS.Style
import HandS.Rev
import HandS.Zip
import HandS.Defaults
import KE.KExcIs
import HandS.ExcField
import HandS.ExcInit
import HandS.ExcInitHot
import HandS.RaiseFrom
import HandS.Codes
import HandS.RaiseMore
import HandS.MapJoin
import HandS.HeadHook1
import HandS.HeadHook2
import HandS.Head0
import HandS.Head1
import HandS.Head2
import HandS.HeadEnd
import HandS.HeadHook4
import PySem.Challenge.RW_anysizes_k02_tokens_of
set_option Elab.async false
set_option linter.all false
set_option maxRecDepth 100000
set_option maxHeartbeats 4000000

/-! Se: a value layer over HandS. Data (D) in the place of values and heap; what a piece of Python computes as a plain function over data; each rule once. -/
namespace Se
open PySem L2

/-- a text by its codes -/
def sx (l : List Nat) : Str := ⟨l.toArray⟩
/-- data: frozen lists (false) never change any more; own lists (true) stand at one place alone -/
inductive D where
  | non | bl (b : Bool) | int (i : Int) | str (x : List Nat) | ty (n : String) | obj (a : Addr)
  | exc (cls : Addr) (ns : List Str) (ds : List D)
  | tup (ds : List D)
  | lst (f : Bool) (ds : List D)
  | dct (f : Bool) (ks : List Key) (ds : List D)

structure RC where
  K : PySem.W.Frag
  hx : Option (Addr × Addr × Addr)

/-- a list that will not change -/
def FzL (_K : PySem.W.Frag) (H : Hp) (a : Addr) (vs : List V) : Prop := ∃ ob, H a = some (.frz ob (.lst vs))
theorem FzL.sq {K : PySem.W.Frag} {H : Hp} {a : Addr} {vs : List V} (h : FzL K H a vs) : SqL K H a vs := by
  obtain ⟨ob, h⟩ := h
  exact .inl (.inr ⟨ob, h⟩)

mutual
def Rep (C : RC) (H : Hp) : D → V → List Addr → Prop
  | .non, v, o => v = .non ∧ o = []
  | .bl b, v, o => v = .bl b ∧ o = []
  | .int i, v, o => v = .int i ∧ o = []
  | .str x, v, o => v = .str (sx x) ∧ o = []
  | .ty n, v, o => v = .ty n ∧ o = []
  | .obj a, v, o => v = .ref a ∧ o = []
  | .exc cls ns ds, v, o => ∃ a d vs, v = .ref a ∧ C.hx = some (a, cls, d) ∧ H d = some (.xd (ns.zip vs)) ∧ ns.length = ds.length ∧ RepL C H ds vs [] ∧ o = []
  | .tup ds, v, o => ∃ a vs, v = .ref a ∧ SqT C.K H a vs ∧ RepL C H ds vs o
  | .lst false ds, v, o => ∃ a vs, v = .ref a ∧ FzL C.K H a vs ∧ RepL C H ds vs [] ∧ o = []
  | .lst true ds, v, o => ∃ a vs o', v = .ref a ∧ H a = some (.lst vs) ∧ RepL C H ds vs o' ∧ a ∉ o' ∧ o = a :: o'
  | .dct false ks ds, v, o => ∃ a vs ob, v = .ref a ∧ H a = some (.frz ob (.dK (ks.zip vs))) ∧ ks.length = ds.length ∧ RepL C H ds vs [] ∧ o = []
  | .dct true ks ds, v, o => ∃ a vs o', v = .ref a ∧ H a = some (.dK (ks.zip vs)) ∧ ks.length = ds.length ∧ RepL C H ds vs o' ∧ a ∉ o' ∧ o = a :: o'
def RepL (C : RC) (H : Hp) : List D → List V → List Addr → Prop
  | [], vs, o => vs = [] ∧ o = []
  | d :: ds, vs, o => ∃ v vs' o1 o2, vs = v :: vs' ∧ Rep C H d v o1 ∧ RepL C H ds vs' o2 ∧ (∀ a ∈ o1, a ∉ o2) ∧ o = o1 ++ o2
end

/-- the environment -/
abbrev Env := List (Option D)
def ER (C : RC) (H : Hp) : Env → St → List Addr → Prop
  | [], σ, o => σ = [] ∧ o = []
  | none :: ρ, σ, o => ∃ x σ', σ = x :: σ' ∧ ER C H ρ σ' o
  | some d :: ρ, σ, o => ∃ v σ' o1 o2, σ = some v :: σ' ∧ Rep C H d v o1 ∧ ER C H ρ σ' o2 ∧ (∀ a ∈ o1, a ∉ o2) ∧ o = o1 ++ o2

structure Stp (H H' : Hp) (own own' : List Addr) : Prop where
  keep : ∀ a ob, H a = some ob → a ∉ own → H' a = some ob
  sub : ∀ a ∈ own', a ∈ own ∨ H a = none

def Muts (H : Hp) (own : List Addr) : Prop := ∀ a ∈ own, ∃ u, H a = some u ∧ Mut (some u)

section
variable {C : RC} {H H' : Hp}
mutual
theorem Rep.mut : ∀ {d : D} {v : V} {o : List Addr}, Rep C H d v o → Muts H o
  | .non, v, o, h => by obtain ⟨_, rfl⟩ := h; intro a ha; cases ha
  | .bl _, v, o, h => by obtain ⟨_, rfl⟩ := h; intro a ha; cases ha
  | .int _, v, o, h => by obtain ⟨_, rfl⟩ := h; intro a ha; cases ha
  | .str _, v, o, h => by obtain ⟨_, rfl⟩ := h; intro a ha; cases ha
  | .ty _, v, o, h => by obtain ⟨_, rfl⟩ := h; intro a ha; cases ha
  | .obj _, v, o, h => by obtain ⟨_, rfl⟩ := h; intro a ha; cases ha
  | .exc _ _ _, v, o, h => by obtain ⟨_, _, _, _, _, _, _, _, rfl⟩ := h; intro a ha; cases ha
  | .tup ds, v, o, h => by obtain ⟨_, _, _, _, h⟩ := h; exact RepL.mut h
  | .lst false ds, v, o, h => by obtain ⟨_, _, _, _, _, rfl⟩ := h; intro a ha; cases ha
  | .lst true ds, v, o, h => by
    obtain ⟨a, vs, o', _, e, h, _, rfl⟩ := h
    intro b hb
    rcases List.mem_cons.mp hb with rfl | hb
    · exact ⟨_, e, trivial⟩
    · exact RepL.mut h b hb
  | .dct false ks ds, v, o, h => by obtain ⟨_, _, _, _, _, _, _, rfl⟩ := h; intro a ha; cases ha
  | .dct true ks ds, v, o, h => by
    obtain ⟨a, vs, o', _, e, _, h, _, rfl⟩ := h
    intro b hb
    rcases List.mem_cons.mp hb with rfl | hb
    · exact ⟨_, e, trivial⟩
    · exact RepL.mut h b hb
theorem RepL.mut : ∀ {ds : List D} {vs : List V} {o : List Addr}, RepL C H ds vs o → Muts H o
  | [], vs, o, h => by obtain ⟨_, rfl⟩ := h; intro a ha; cases ha
  | d :: ds, vs, o, h => by
    obtain ⟨v, vs', o1, o2, _, h1, h2, _, rfl⟩ := h
    intro a ha
    rcases List.mem_append.mp ha with ha | ha
    · exact Rep.mut h1 a ha
    · exact RepL.mut h2 a ha
end
theorem ER.mut : ∀ {ρ : Env} {σ : St} {o : List Addr}, ER C H ρ σ o → Muts H o
  | [], _, o, h => by obtain ⟨_, rfl⟩ := h; intro a ha; cases ha
  | none :: ρ, _, o, h => by obtain ⟨_, _, _, h⟩ := h; exact ER.mut h
  | some d :: ρ, _, o, h => by
    obtain ⟨v, σ', o1, o2, _, h1, h2, _, rfl⟩ := h
    intro a ha
    rcases List.mem_append.mp ha with ha | ha
    · exact Rep.mut h1 a ha
    · exact ER.mut h2 a ha

/-- what is tracked, and not among own, stays -/
def Keeps (H H' : Hp) (own : List Addr) : Prop := ∀ a ob, H a = some ob → a ∉ own → H' a = some ob
theorem notMem {own : List Addr} (m : Muts H own) {a : Addr} {u : HO} (e : H a = some u) (n : ¬ Mut (some u)) : a ∉ own := fun ha => by
  obtain ⟨w, e', q⟩ := m a ha
  rw [e] at e'; cases e'
  exact n q
theorem Keeps.sqT {own : List Addr} (k : Keeps H H' own) (m : Muts H own) {K : PySem.W.Frag} {a : Addr} {vs : List V} (h : SqT K H a vs) : SqT K H' a vs := by
  rcases h with (h | ⟨o, h⟩) | h
  · exact .inl (.inl (k a _ h (notMem m h fun z => z)))
  · exact .inl (.inr ⟨o, k a _ h (notMem m h fun z => z)⟩)
  · exact .inr h
theorem Keeps.fzL {own : List Addr} (k : Keeps H H' own) (m : Muts H own) {K : PySem.W.Frag} {a : Addr} {vs : List V} (h : FzL K H a vs) : FzL K H' a vs := by
  obtain ⟨o, h⟩ := h
  exact ⟨o, k a _ h (notMem m h fun z => z)⟩
mutual
theorem Rep.keep {own : List Addr} (k : Keeps H H' own) (m : Muts H own) : ∀ {d : D} {v : V} {o : List Addr}, (∀ a ∈ o, a ∉ own) → Rep C H d v o → Rep C H' d v o
  | .non, v, o, _, h => h
  | .bl _, v, o, _, h => h
  | .int _, v, o, _, h => h
  | .str _, v, o, _, h => h
  | .ty _, v, o, _, h => h
  | .obj _, v, o, _, h => h
  | .exc _ _ ds, v, o, _, h => by
    obtain ⟨a, d, vs, e1, e2, e3, e4, h, rfl⟩ := h
    exact ⟨a, d, vs, e1, e2, k d _ e3 (notMem m e3 fun z => z), e4, RepL.keep k m (fun _ z => nomatch z) h, rfl⟩
  | .tup ds, v, o, hd, h => by
    obtain ⟨a, vs, e, q, h⟩ := h
    exact ⟨a, vs, e, k.sqT m q, RepL.keep k m hd h⟩
  | .lst false ds, v, o, hd, h => by
    obtain ⟨a, vs, e, q, h, rfl⟩ := h
    exact ⟨a, vs, e, k.fzL m q, RepL.keep k m (fun _ z => nomatch z) h, rfl⟩
  | .lst true ds, v, o, hd, h => by
    obtain ⟨a, vs, o', e, q, h, n, rfl⟩ := h
    exact ⟨a, vs, o', e, k a _ q (hd a List.mem_cons_self), RepL.keep k m (fun b hb => hd b (List.mem_cons_of_mem _ hb)) h, n, rfl⟩
  | .dct false ks ds, v, o, hd, h => by
    obtain ⟨a, vs, ob, e, q, l, h, rfl⟩ := h
    exact ⟨a, vs, ob, e, k a _ q (notMem m q fun z => z), l, RepL.keep k m (fun _ z => nomatch z) h, rfl⟩
  | .dct true ks ds, v, o, hd, h => by
    obtain ⟨a, vs, o', e, q, l, h, n, rfl⟩ := h
    exact ⟨a, vs, o', e, k a _ q (hd a List.mem_cons_self), l, RepL.keep k m (fun b hb => hd b (List.mem_cons_of_mem _ hb)) h, n, rfl⟩
theorem RepL.keep {own : List Addr} (k : Keeps H H' own) (m : Muts H own) : ∀ {ds : List D} {vs : List V} {o : List Addr}, (∀ a ∈ o, a ∉ own) → RepL C H ds vs o → RepL C H' ds vs o
  | [], vs, o, _, h => h
  | d :: ds, vs, o, hd, h => by
    obtain ⟨v, vs', o1, o2, e, h1, h2, n, rfl⟩ := h
    exact ⟨v, vs', o1, o2, e, Rep.keep k m (fun a ha => hd a (List.mem_append_left _ ha)) h1, RepL.keep k m (fun a ha => hd a (List.mem_append_right _ ha)) h2, n, rfl⟩
end
theorem ER.keep {own : List Addr} (k : Keeps H H' own) (m : Muts H own) : ∀ {ρ : Env} {σ : St} {o : List Addr}, (∀ a ∈ o, a ∉ own) → ER C H ρ σ o → ER C H' ρ σ o
  | [], _, o, _, h => h
  | none :: ρ, _, o, hd, h => by
    obtain ⟨x, σ', e, h⟩ := h
    exact ⟨x, σ', e, ER.keep k m hd h⟩
  | some d :: ρ, _, o, hd, h => by
    obtain ⟨v, vs', o1, o2, e, h1, h2, n, rfl⟩ := h
    exact ⟨v, vs', o1, o2, e, Rep.keep k m (fun a ha => hd a (List.mem_append_left _ ha)) h1, ER.keep k m (fun a ha => hd a (List.mem_append_right _ ha)) h2, n, rfl⟩
theorem ER.len : ∀ {ρ : Env} {σ : St} {o : List Addr}, ER C H ρ σ o → σ.length = ρ.length
  | [], _, o, h => by obtain ⟨rfl, _⟩ := h; rfl
  | none :: ρ, _, o, h => by obtain ⟨x, σ', rfl, h⟩ := h; simp [ER.len h]
  | some d :: ρ, _, o, h => by obtain ⟨v, σ', o1, o2, rfl, h1, h2, _, rfl⟩ := h; simp [ER.len h2]
theorem RepL.len : ∀ {ds : List D} {vs : List V} {o : List Addr}, RepL C H ds vs o → vs.length = ds.length
  | [], _, o, h => by obtain ⟨rfl, _⟩ := h; rfl
  | d :: ds, _, o, h => by obtain ⟨v, vs', o1, o2, rfl, h1, h2, _, rfl⟩ := h; simp [RepL.len h2]

theorem Stp.refl {own own' : List Addr} (h : ∀ a ∈ own', a ∈ own) : Stp H H own own' := ⟨fun _ _ e _ => e, fun a ha => .inl (h a ha)⟩
theorem Stp.trans {H1 H2 H3 : Hp} {o1 o2 o3 : List Addr} (a : Stp H1 H2 o1 o2) (b : Stp H2 H3 o2 o3) : Stp H1 H3 o1 o3 := by
  refine ⟨fun x ob e n => b.keep x ob (a.keep x ob e n) fun z => ?_, fun x hx => ?_⟩
  · rcases a.sub x z with q | q
    · exact n q
    · rw [e] at q; cases q
  · rcases b.sub x hx with q | q
    · exact a.sub x q
    · by_cases z : x ∈ o1
      · exact .inl z
      · right
        cases e : H1 x with
        | none => rfl
        | some ob => rw [a.keep x ob e z] at q; cases q
/-- with a part o held, that the second step does not touch -/
theorem Stp.held {H1 H2 H3 : Hp} {o1 o o2 o3 : List Addr} (a : Stp H1 H2 o1 (o ++ o2)) (b : Stp H2 H3 o2 o3) : Stp H1 H3 o1 (o ++ o3) := by
  refine ⟨fun x ob e n => b.keep x ob (a.keep x ob e n) fun z => ?_, fun x hx => ?_⟩
  · rcases a.sub x (List.mem_append_right _ z) with q | q
    · exact n q
    · rw [e] at q; cases q
  · rcases List.mem_append.mp hx with hx | hx
    · exact a.sub x (List.mem_append_left _ hx)
    · rcases b.sub x hx with q | q
      · exact a.sub x (List.mem_append_right _ q)
      · by_cases z : x ∈ o1
        · exact .inl z
        · right
          cases e : H1 x with
          | none => rfl
          | some ob => rw [a.keep x ob e z] at q; cases q
theorem Stp.less {own o o' : List Addr} (s : Stp H H' own o) (h : ∀ a ∈ o', a ∈ o) : Stp H H' own o' := ⟨s.keep, fun a ha => s.sub a (h a ha)⟩
/-- what was held is apart from what a further step owns -/
theorem Stp.apart {own own' o : List Addr} (s : Stp H H' own own') (m : Muts H o) (hd : ∀ a ∈ o, a ∉ own) : ∀ a ∈ o, a ∉ own' := fun a ha z => by
  rcases s.sub a z with q | q
  · exact hd a ha q
  · obtain ⟨u, e, _⟩ := m a ha
    rw [e] at q; cases q
end

/-! ### results -/
structure EX where
  cls : Addr
  ns : List Str
  ds : List D
inductive RE (α : Type) where
  | ok (a : α) (ρ : Env) | ex (e : EX) (ρ : Env) | bad
def RE.bind {α β : Type} (r : RE α) (k : α → Env → RE β) : RE β := match r with
  | .ok a ρ => k a ρ
  | .ex e ρ => .ex e ρ
  | .bad => .bad
abbrev M (α : Type) := Env → RE α
inductive SR where
  | nx (ρ : Env) | rt (d : D) (ρ : Env) | bk (ρ : Env) | ct (ρ : Env) | ex (e : EX) (ρ : Env) | bad
abbrev MS := Env → SR

def XR (C : RC) (H : Hp) (e : EX) (cls : Value) (d : Option Addr) : Prop :=
  cls = .ref e.cls ∧ ∃ dd vs, d = some dd ∧ H dd = some (.xd (e.ns.zip vs)) ∧ e.ns.length = e.ds.length ∧ RepL C H e.ds vs []

def PoE (C : RC) (W : WX) (r : RE D) (σ : St) (H : Hp) (own : List Addr) (Q : VK) : Prop := match r with
  | .ok d ρ' => ∀ v H' o own', Rep C H' d v o → ER C H' ρ' σ own' → (∀ a ∈ o, a ∉ own') → Stp H H' own (o ++ own') → Q v H'
  | .ex e ρ' => ∀ cls d H' own', XR C H' e cls d → ER C H' ρ' σ own' → Stp H H' own own' → W cls d σ H'
  | .bad => False
def PoA (C : RC) (W : WX) (r : RE (List D)) (σ : St) (H : Hp) (own : List Addr) (Q : List V → Hp → Prop) : Prop := match r with
  | .ok ds ρ' => ∀ vs H' o own', RepL C H' ds vs o → ER C H' ρ' σ own' → (∀ a ∈ o, a ∉ own') → Stp H H' own (o ++ own') → Q vs H'
  | .ex e ρ' => ∀ cls d H' own', XR C H' e cls d → ER C H' ρ' σ own' → Stp H H' own own' → W cls d σ H'
  | .bad => False
def PoT (C : RC) (W : WX) (r : RE Bool) (σ : St) (H : Hp) (own : List Addr) (Q : Bool → Hp → Prop) : Prop := match r with
  | .ok b ρ' => ∀ H' own', ER C H' ρ' σ own' → Stp H H' own own' → Q b H'
  | .ex e ρ' => ∀ cls d H' own', XR C H' e cls d → ER C H' ρ' σ own' → Stp H H' own own' → W cls d σ H'
  | .bad => False
/-- B: the slots that no statement rebinds -/
def PoS (C : RC) (W : WX) (B : List Nat) (r : SR) (σ : St) (H : Hp) (own : List Addr) (Dn : Ends) : Prop := match r with
  | .nx ρ' => ∀ σ' H' own', ER C H' ρ' σ' own' → Stp H H' own own' → (∀ j ∈ B, σ'[j]? = σ[j]?) → Dn.nx σ' H'
  | .rt d ρ' => ∀ v σ' H' o own', Rep C H' d v o → ER C H' ρ' σ' own' → (∀ a ∈ o, a ∉ own') → Stp H H' own (o ++ own') → (∀ j ∈ B, σ'[j]? = σ[j]?) → Dn.rt v H'
  | .bk ρ' => ∀ σ' H' own', ER C H' ρ' σ' own' → Stp H H' own own' → (∀ j ∈ B, σ'[j]? = σ[j]?) → Dn.bk σ' H'
  | .ct ρ' => ∀ σ' H' own', ER C H' ρ' σ' own' → Stp H H' own own' → (∀ j ∈ B, σ'[j]? = σ[j]?) → Dn.ct σ' H'
  | .ex e ρ' => ∀ cls d σ' H' own', XR C H' e cls d → ER C H' ρ' σ' own' → Stp H H' own own' → (∀ j ∈ B, σ'[j]? = σ[j]?) → W cls d σ' H'
  | .bad => False

/-- an expression computes m -/
structure SE (X : Cx) (W : WX) (C : RC) (e : Expr) (m : M D) : Prop where
  ex : ∃ t, PE X e t ∧ ∀ ρ σ H own Q, ER C H ρ σ own → PoE C W (m ρ) σ H own Q → t σ H Q
structure SA (X : Cx) (W : WX) (C : RC) (es : List Expr) (m : M (List D)) : Prop where
  ex : ∃ t, PA X es t ∧ ∀ ρ σ H own Q, ER C H ρ σ own → PoA C W (m ρ) σ H own Q → t σ H Q
structure ST (X : Cx) (W : WX) (C : RC) (e : Expr) (m : M Bool) : Prop where
  ex : ∃ t, PT X e t ∧ ∀ ρ σ H own Q, ER C H ρ σ own → PoT C W (m ρ) σ H own Q → t σ H Q
structure SS (X : Cx) (W : WX) (C : RC) (B : List Nat) (s : Stmt) (m : MS) : Prop where
  ex : ∃ t, PS X s t ∧ ∀ ρ σ H own Dn, ER C H ρ σ own → PoS C W B (m ρ) σ H own Dn → t Dn σ H
structure SSs (X : Cx) (W : WX) (C : RC) (B : List Nat) (s : List Stmt) (m : MS) : Prop where
  ex : ∃ t, PSs X s t ∧ ∀ ρ σ H own Dn, ER C H ρ σ own → PoS C W B (m ρ) σ H own Dn → t Dn σ H
end Se

namespace Se
open PySem L2

/-! ### taking a slot's datum out of the environment, putting one in -/
section
variable {C : RC} {H H' : Hp}
theorem ER.take : ∀ {ρ : Env} {σ : St} {own : List Addr} {i : Nat} {d : D}, ER C H ρ σ own → ρ[i]? = some (some d) →
    ∃ v o own1, σ[i]? = some (some v) ∧ Rep C H d v o ∧ ER C H (ρ.set i none) σ own1 ∧ (∀ a ∈ o, a ∉ own1) ∧ ∀ a, a ∈ own ↔ a ∈ o ∨ a ∈ own1
  | [], _, _, i, _, _, h => by simp at h
  | none :: ρ, _, own, 0, _, _, h => by simp at h
  | some d :: ρ, _, own, 0, d', h, e => by
    obtain ⟨v, σ', o1, o2, rfl, h1, h2, n, rfl⟩ := h
    simp at e; subst e
    exact ⟨v, o1, o2, rfl, h1, ⟨_, _, rfl, h2⟩, n, fun a => List.mem_append⟩
  | none :: ρ, _, own, i + 1, d', h, e => by
    obtain ⟨x, σ', rfl, h⟩ := h
    obtain ⟨v, o, own1, e1, r, er, n, m⟩ := ER.take (i := i) h (by simpa using e)
    exact ⟨v, o, own1, by simpa using e1, r, ⟨_, _, rfl, er⟩, n, m⟩
  | some d :: ρ, _, own, i + 1, d', h, e => by
    obtain ⟨v0, σ', o1, o2, rfl, h1, h2, n0, rfl⟩ := h
    obtain ⟨v, o, own1, e1, r, er, n, m⟩ := ER.take (i := i) h2 (by simpa using e)
    refine ⟨v, o, o1 ++ own1, by simpa using e1, r, ⟨v0, σ', o1, own1, rfl, h1, er, fun a ha z => n0 a ha ((m a).mpr (.inr z)), rfl⟩, fun a ha z => ?_, fun a => ?_⟩
    · rcases List.mem_append.mp z with z | z
      · exact n0 a z ((m a).mpr (.inl ha))
      · exact n a ha z
    · simp only [List.mem_append, m a]
      constructor
      · rintro (z | z | z)
        · exact .inr (.inl z)
        · exact .inl z
        · exact .inr (.inr z)
      · rintro (z | z | z)
        · exact .inr (.inl z)
        · exact .inl z
        · exact .inr (.inr z)
theorem ER.put : ∀ {ρ : Env} {σ : St} {own1 o : List Addr} {i : Nat} {d : D} {v : V}, ER C H ρ σ own1 → ρ[i]? = some none → σ[i]? = some (some v) → Rep C H d v o → (∀ a ∈ o, a ∉ own1) →
    ∃ own, ER C H (ρ.set i (some d)) σ own ∧ ∀ a, a ∈ own ↔ a ∈ o ∨ a ∈ own1
  | [], _, _, _, i, _, _, _, h, _, _, _ => by simp at h
  | some d :: ρ, _, own, _, 0, _, _, _, h, _, _, _ => by simp at h
  | none :: ρ, _, own, o, 0, d', v, h, e, es, r, n => by
    obtain ⟨x, σ', rfl, h⟩ := h
    simp at es; subst es
    exact ⟨o ++ own, ⟨v, σ', o, own, rfl, r, h, n, rfl⟩, fun a => List.mem_append⟩
  | none :: ρ, _, own, o, i + 1, d', v, h, e, es, r, n => by
    obtain ⟨x, σ', rfl, h⟩ := h
    obtain ⟨own', er, m⟩ := ER.put (i := i) h (by simpa using e) (by simpa using es) r n
    exact ⟨own', ⟨_, _, rfl, er⟩, m⟩
  | some d :: ρ, _, own, o, i + 1, d', v, h, e, es, r, n => by
    obtain ⟨v0, σ', o1, o2, rfl, h1, h2, n0, rfl⟩ := h
    obtain ⟨own', er, m⟩ := ER.put (i := i) h2 (by simpa using e) (by simpa using es) r fun a ha z => n a ha (List.mem_append_right _ z)
    refine ⟨o1 ++ own', ⟨v0, σ', o1, own', rfl, h1, er, fun a ha z => ?_, rfl⟩, fun a => ?_⟩
    · rcases (m a).mp z with z | z
      · exact n a z (List.mem_append_left _ ha)
      · exact n0 a ha z
    · simp only [List.mem_append, m a]
      constructor
      · rintro (z | z | z)
        · exact .inr (.inl z)
        · exact .inl z
        · exact .inr (.inr z)
      · rintro (z | z | z)
        · exact .inr (.inl z)
        · exact .inl z
        · exact .inr (.inr z)
/-- a slot forgotten, whatever stands in it -/
theorem ER.drop : ∀ {ρ : Env} {σ : St} {own : List Addr} {i : Nat} (x : Option V), ER C H ρ σ own → ∃ own1, ER C H (ρ.set i none) (σ.set i x) own1 ∧ ∀ a ∈ own1, a ∈ own
  | [], _, own, i, x, h => by obtain ⟨rfl, rfl⟩ := h; exact ⟨[], ⟨rfl, rfl⟩, fun _ z => z⟩
  | none :: ρ, _, own, 0, x, h => by obtain ⟨y, σ', rfl, h⟩ := h; exact ⟨own, ⟨x, σ', rfl, h⟩, fun _ z => z⟩
  | some d :: ρ, _, own, 0, x, h => by
    obtain ⟨v, σ', o1, o2, rfl, h1, h2, n, rfl⟩ := h
    exact ⟨o2, ⟨x, σ', rfl, h2⟩, fun _ z => List.mem_append_right _ z⟩
  | none :: ρ, _, own, i + 1, x, h => by
    obtain ⟨y, σ', rfl, h⟩ := h
    obtain ⟨own1, er, m⟩ := ER.drop (i := i) x h
    exact ⟨own1, ⟨y, _, rfl, er⟩, m⟩
  | some d :: ρ, _, own, i + 1, x, h => by
    obtain ⟨v, σ', o1, o2, rfl, h1, h2, n, rfl⟩ := h
    obtain ⟨own1, er, m⟩ := ER.drop (i := i) x h2
    refine ⟨o1 ++ own1, ⟨v, _, o1, own1, rfl, h1, er, fun a ha z => n a ha (m a z), rfl⟩, fun a ha => ?_⟩
    rcases List.mem_append.mp ha with z | z
    · exact List.mem_append_left _ z
    · exact List.mem_append_right _ (m a z)
/-- a slot set anew -/
theorem ER.set {ρ : Env} {σ : St} {own o : List Addr} {i : Nat} {d : D} {v : V} (h : ER C H ρ σ own) (hi : i < ρ.length) (r : Rep C H d v o) (n : ∀ a ∈ o, a ∉ own) :
    ∃ own', ER C H (ρ.set i (some d)) (σ.set i (some v)) own' ∧ ∀ a ∈ own', a ∈ o ∨ a ∈ own := by
  obtain ⟨own1, er, m⟩ := ER.drop (i := i) (some v) h
  have hl := h.len
  obtain ⟨own', er', m'⟩ := ER.put (i := i) er (by rw [List.getElem?_set_self hi]) (by rw [List.getElem?_set_self (by omega)]) r fun a ha z => n a ha (m a z)
  refine ⟨own', ?_, fun a ha => ?_⟩
  · rw [List.set_set] at er'
    exact er'
  · rcases (m' a).mp ha with z | z
    · exact .inl z
    · exact .inr (m a z)
end

/-! ### frozen data -/
mutual
def fz : D → Bool
  | .tup ds => fzL ds
  | .lst true _ => false
  | .dct true _ _ => false
  | _ => true
def fzL : List D → Bool
  | [] => true
  | d :: ds => fz d && fzL ds
end
mutual
def frz : D → D
  | .tup ds => .tup (frzL ds)
  | .lst _ ds => .lst false (frzL ds)
  | .dct _ ks ds => .dct false ks (frzL ds)
  | d => d
def frzL : List D → List D
  | [] => []
  | d :: ds => frz d :: frzL ds
end
theorem frzL_len : ∀ ds : List D, (frzL ds).length = ds.length
  | [] => rfl
  | d :: ds => by show (frzL ds).length + 1 = _; rw [frzL_len ds]; rfl
theorem fzL_all : ∀ ds : List D, fzL ds = ds.all fz
  | [] => rfl
  | d :: ds => by show (fz d && fzL ds) = _; rw [fzL_all ds]; rfl

def Frzn (o : List Addr) (H H' : Hp) : Prop := (∀ a, a ∉ o → H' a = H a) ∧ ∀ a ∈ o, ∀ u, H a = some u → ∃ od, H' a = some (.frz od u)
section
variable {C : RC} {H H' : Hp}
mutual
theorem Rep.fz_nil : ∀ {d : D} {v : V} {o : List Addr}, fz d = true → Rep C H d v o → o = []
  | .non, _, _, _, h => h.2
  | .bl _, _, _, _, h => h.2
  | .int _, _, _, _, h => h.2
  | .str _, _, _, _, h => h.2
  | .ty _, _, _, _, h => h.2
  | .obj _, _, _, _, h => h.2
  | .exc _ _ _, _, _, _, h => by obtain ⟨_, _, _, _, _, _, _, _, e⟩ := h; exact e
  | .tup ds, _, _, q, h => by obtain ⟨_, _, _, _, h⟩ := h; exact RepL.fz_nil (by simpa [fz] using q) h
  | .lst false ds, _, _, _, h => by obtain ⟨_, _, _, _, _, e⟩ := h; exact e
  | .lst true ds, _, _, q, h => by simp [fz] at q
  | .dct false ks ds, _, _, _, h => by obtain ⟨_, _, _, _, _, _, _, e⟩ := h; exact e
  | .dct true ks ds, _, _, q, h => by simp [fz] at q
theorem RepL.fz_nil : ∀ {ds : List D} {vs : List V} {o : List Addr}, fzL ds = true → RepL C H ds vs o → o = []
  | [], _, _, _, h => h.2
  | d :: ds, _, _, q, h => by
    obtain ⟨v, vs', o1, o2, _, h1, h2, _, rfl⟩ := h
    simp only [fzL, Bool.and_eq_true] at q
    rw [Rep.fz_nil q.1 h1, RepL.fz_nil q.2 h2]
    rfl
end
theorem Frzn.keeps {o : List Addr} (f : Frzn o H H') : Keeps H H' o := fun a ob e n => by rw [f.1 a n]; exact e
mutual
theorem Rep.frz {o' : List Addr} (f : Frzn o' H H') (m : Muts H o') : ∀ {d : D} {v : V} {o : List Addr}, (∀ a ∈ o, a ∈ o') → Rep C H d v o → Rep C H' (Se.frz d) v []
  | .non, _, _, _, h => ⟨h.1, rfl⟩
  | .bl _, _, _, _, h => ⟨h.1, rfl⟩
  | .int _, _, _, _, h => ⟨h.1, rfl⟩
  | .str _, _, _, _, h => ⟨h.1, rfl⟩
  | .ty _, _, _, _, h => ⟨h.1, rfl⟩
  | .obj _, _, _, _, h => ⟨h.1, rfl⟩
  | .exc cls ns ds, v, o, hs, h => by
    have e := Rep.fz_nil (by rfl) h
    subst e
    exact Rep.keep f.keeps m (fun _ z => nomatch z) h
  | .tup ds, v, o, hs, h => by
    obtain ⟨a, vs, e, q, h⟩ := h
    exact ⟨a, vs, e, f.keeps.sqT m q, RepL.frz f m hs h⟩
  | .lst false ds, v, o, hs, h => by
    obtain ⟨a, vs, e, q, h, rfl⟩ := h
    exact ⟨a, vs, e, f.keeps.fzL m q, RepL.frz f m (by simp) h, rfl⟩
  | .lst true ds, v, o, hs, h => by
    obtain ⟨a, vs, o', e, q, h, n, rfl⟩ := h
    obtain ⟨od, q'⟩ := f.2 a (hs a List.mem_cons_self) _ q
    exact ⟨a, vs, e, ⟨od, q'⟩, RepL.frz f m (fun b hb => hs b (List.mem_cons_of_mem _ hb)) h, rfl⟩
  | .dct false ks ds, v, o, hs, h => by
    obtain ⟨a, vs, ob, e, q, l, h, rfl⟩ := h
    exact ⟨a, vs, ob, e, f.keeps a _ q (notMem m q fun z => z), by rw [l]; exact (frzL_len ds).symm, RepL.frz f m (by simp) h, rfl⟩
  | .dct true ks ds, v, o, hs, h => by
    obtain ⟨a, vs, o', e, q, l, h, n, rfl⟩ := h
    obtain ⟨od, q'⟩ := f.2 a (hs a List.mem_cons_self) _ q
    exact ⟨a, vs, od, e, q', by rw [l]; exact (frzL_len ds).symm, RepL.frz f m (fun b hb => hs b (List.mem_cons_of_mem _ hb)) h, rfl⟩
theorem RepL.frz {o' : List Addr} (f : Frzn o' H H') (m : Muts H o') : ∀ {ds : List D} {vs : List V} {o : List Addr}, (∀ a ∈ o, a ∈ o') → RepL C H ds vs o → RepL C H' (frzL ds) vs []
  | [], _, _, _, h => ⟨h.1, rfl⟩
  | d :: ds, vs, o, hs, h => by
    obtain ⟨v, vs', o1, o2, rfl, h1, h2, n, rfl⟩ := h
    exact ⟨v, vs', [], [], rfl, Rep.frz f m (fun a ha => hs a (List.mem_append_left _ ha)) h1, RepL.frz f m (fun a ha => hs a (List.mem_append_right _ ha)) h2, fun _ z => (nomatch z), rfl⟩
end
end
section
variable {X : Cx} {pins : List (Addr × Obj)} {σ : St} {s : Shared} {e : Expr} {t : TE}
theorem lockAll : ∀ (o : List Addr) {H : Hp}, Inv X pins σ H s → Muts H o → ∃ H', Inv X pins σ H' s ∧ Frzn o H H'
  | [], H, I, _ => ⟨H, I, fun _ _ => rfl, fun _ z => nomatch z⟩
  | a :: o, H, I, m => by
    obtain ⟨H1, I1, f1⟩ := lockAll o I fun b hb => m b (List.mem_cons_of_mem _ hb)
    by_cases ha : a ∈ o
    · refine ⟨H1, I1, fun b hb => f1.1 b fun z => hb (List.mem_cons_of_mem _ z), fun b hb => ?_⟩
      rcases List.mem_cons.mp hb with rfl | hb
      · exact f1.2 b ha
      · exact f1.2 b hb
    · obtain ⟨u, e, mu⟩ := m a List.mem_cons_self
      have e1 : H1 a = some u := (f1.1 a ha).trans e
      obtain ⟨od, I2⟩ := Inv.lock I1 e1 mu
      refine ⟨_, I2, fun b hb => ?_, fun b hb v hv => ?_⟩
      · have hba : b ≠ a := fun z => hb (z ▸ List.mem_cons_self)
        rw [upd_ne hba]
        exact f1.1 b fun z => hb (List.mem_cons_of_mem _ z)
      · by_cases hba : b = a
        · subst hba
          rw [e] at hv; cases hv
          exact ⟨od, upd_same⟩
        · rw [upd_ne hba]
          exact f1.2 b ((List.mem_cons.mp hb).resolve_left hba) v hv
/-- what an expression gives, frozen behind it -/
def tFz (t : TE) : TE := fun σ H Q => t σ H fun v H1 => ∃ o, Muts H1 o ∧ ∀ H2, Frzn o H1 H2 → Q v H2
theorem pe_fz (h : PE X e t) : PE X e (tFz t) := by
  refine ⟨fun pins s σ H Q I hw => ?_⟩
  refine thn (h.run pins s σ H _ I hw) fun u s1 ⟨v, H1, I1, r, o, m, q⟩ => ?_
  obtain ⟨H2, I2, f⟩ := lockAll o I1 m
  exact ⟨v, H2, I2, r, q H2 f⟩
end

/-! ### one computation behind another -/
section
variable {C : RC} {W : WX} {σ : St} {H Hb : Hp} {own ownb : List Addr}
abbrev ExOk (C : RC) (W : WX) (σ : St) (H : Hp) (own : List Addr) (P : EX → Env → Prop) : Prop := ∀ e ρ', P e ρ' → ∀ cls d H' own', XR C H' e cls d → ER C H' ρ' σ own' → Stp H H' own own' → W cls d σ H'
theorem poE_bind {β : Type} {r : RE D} {k : D → Env → RE β} {P : RE β → Prop} {Q1 : VK} (hw : P (r.bind k)) (hb : ¬ P .bad) (hex : ExOk C W σ H own fun e ρ' => P (.ex e ρ'))
    (hok : ∀ d ρ' v H' o own', Rep C H' d v o → ER C H' ρ' σ own' → (∀ a ∈ o, a ∉ own') → Stp H H' own (o ++ own') → P (k d ρ') → Q1 v H') : PoE C W r σ H own Q1 := by
  cases r with
  | ok d ρ' => exact fun v H' o own' r1 r2 r3 r4 => hok d ρ' v H' o own' r1 r2 r3 r4 hw
  | ex e ρ' => exact hex e ρ' hw
  | bad => exact (hb hw).elim
theorem poA_bind {β : Type} {r : RE (List D)} {k : List D → Env → RE β} {P : RE β → Prop} {Q1 : List V → Hp → Prop} (hw : P (r.bind k)) (hb : ¬ P .bad) (hex : ExOk C W σ H own fun e ρ' => P (.ex e ρ'))
    (hok : ∀ ds ρ' vs H' o own', RepL C H' ds vs o → ER C H' ρ' σ own' → (∀ a ∈ o, a ∉ own') → Stp H H' own (o ++ own') → P (k ds ρ') → Q1 vs H') : PoA C W r σ H own Q1 := by
  cases r with
  | ok d ρ' => exact fun v H' o own' r1 r2 r3 r4 => hok d ρ' v H' o own' r1 r2 r3 r4 hw
  | ex e ρ' => exact hex e ρ' hw
  | bad => exact (hb hw).elim
theorem poT_bind {β : Type} {r : RE Bool} {k : Bool → Env → RE β} {P : RE β → Prop} {Q1 : Bool → Hp → Prop} (hw : P (r.bind k)) (hb : ¬ P .bad) (hex : ExOk C W σ H own fun e ρ' => P (.ex e ρ'))
    (hok : ∀ b ρ' H' own', ER C H' ρ' σ own' → Stp H H' own own' → P (k b ρ') → Q1 b H') : PoT C W r σ H own Q1 := by
  cases r with
  | ok d ρ' => exact fun H' own' r2 r4 => hok d ρ' H' own' r2 r4 hw
  | ex e ρ' => exact hex e ρ' hw
  | bad => exact (hb hw).elim
theorem exE {Q : VK} : ExOk C W σ H own fun e ρ' => PoE C W (.ex e ρ') σ H own Q := fun _ _ h => h
theorem exA {Q : List V → Hp → Prop} : ExOk C W σ H own fun e ρ' => PoA C W (.ex e ρ') σ H own Q := fun _ _ h => h
theorem exT {Q : Bool → Hp → Prop} : ExOk C W σ H own fun e ρ' => PoT C W (.ex e ρ') σ H own Q := fun _ _ h => h
/-- the same with a part held at a later base -/
theorem ExOk.at {P : EX → Env → Prop} {o : List Addr} (h : ExOk C W σ H own P) (s : Stp H Hb own (o ++ ownb)) : ExOk C W σ Hb ownb P := fun e ρ' p cls d H' own' x er st =>
  h e ρ' p cls d H' own' x er ((s.held st).less fun a ha => List.mem_append_right _ ha)
theorem ExOk.at0 {P : EX → Env → Prop} (h : ExOk C W σ H own P) (s : Stp H Hb own ownb) : ExOk C W σ Hb ownb P := fun e ρ' p cls d H' own' x er st =>
  h e ρ' p cls d H' own' x er (s.trans st)
end
/-- a result of the same heap base, moved: Q wanted relative to an earlier base -/
theorem Stp.ext {H H1 H2 : Hp} {own o own1 o2 : List Addr} (s : Stp H H1 own (o ++ own1)) (k : ∀ a ob, H1 a = some ob → H2 a = some ob) (hn : ∀ a ∈ o2, a ∈ o ∨ H1 a = none) : Stp H H2 own (o2 ++ own1) := by
  refine ⟨fun a ob e n => k a ob (s.keep a ob e n), fun a ha => ?_⟩
  rcases List.mem_append.mp ha with z | z
  · rcases hn a z with q | q
    · exact s.sub a (List.mem_append_left _ q)
    · by_cases y : a ∈ own
      · exact .inl y
      · right
        cases e : H a with
        | none => rfl
        | some ob => rw [s.keep a ob e y] at q; cases q
  · exact s.sub a (List.mem_append_right _ z)
abbrev Ext (H H' : Hp) : Prop := ∀ a ob, H a = some ob → H' a = some ob
theorem Ext.refl {H : Hp} : Ext H H := fun _ _ h => h
theorem Ext.new {H : Hp} {p : Addr} {o : HO} (h : H p = none) : Ext H (upd H p o) := fun a u e => by
  rw [upd_ne (ne_of_none e h)]
  exact e
theorem Ext.keeps {H H' : Hp} (k : Ext H H') : Keeps H H' [] := fun a ob e _ => k a ob e
theorem muts_nil {H : Hp} : Muts H [] := fun _ z => nomatch z
theorem Rep.ext {C : RC} {H H' : Hp} {d : D} {v : V} {o : List Addr} (h : Rep C H d v o) (k : Ext H H') : Rep C H' d v o := h.keep k.keeps muts_nil fun _ _ z => nomatch z
theorem RepL.ext {C : RC} {H H' : Hp} {ds : List D} {vs : List V} {o : List Addr} (h : RepL C H ds vs o) (k : Ext H H') : RepL C H' ds vs o := h.keep k.keeps muts_nil fun _ _ z => nomatch z
theorem ER.ext {C : RC} {H H' : Hp} {ρ : Env} {σ : St} {o : List Addr} (h : ER C H ρ σ o) (k : Ext H H') : ER C H' ρ σ o := h.keep k.keeps muts_nil fun _ _ z => nomatch z
/-- the end of an expression: d made of what was held (o) and new -/
theorem PoE.fin {C : RC} {W : WX} {σ : St} {H H1 H2 : Hp} {own o own1 o2 : List Addr} {Q : VK} {d : D} {ρ' : Env} {v : V} (hw : PoE C W (.ok d ρ') σ H own Q) (s : Stp H H1 own (o ++ own1)) (er : ER C H1 ρ' σ own1) (dj : ∀ a ∈ o, a ∉ own1)
    (k : Ext H1 H2) (r : Rep C H2 d v o2) (hn : ∀ a ∈ o2, a ∈ o ∨ H1 a = none) : Q v H2 := by
  refine hw v H2 o2 own1 r (er.ext k) (fun a ha z => ?_) (s.ext k hn)
  rcases hn a ha with q | q
  · exact dj a q z
  · obtain ⟨u, e, _⟩ := er.mut a z
    rw [e] at q; cases q
theorem RepL.two {C : RC} {H : Hp} {d1 d2 : D} {v1 v2 : V} {o1 o2 : List Addr} (h1 : Rep C H d1 v1 o1) (h2 : Rep C H d2 v2 o2) (n : ∀ a ∈ o1, a ∉ o2) : RepL C H [d1, d2] [v1, v2] (o1 ++ (o2 ++ [])) :=
  ⟨v1, [v2], o1, o2 ++ [], rfl, h1, ⟨v2, [], o2, [], rfl, h2, (show ([] : List V) = [] ∧ ([] : List Addr) = [] from ⟨rfl, rfl⟩), (by simp), rfl⟩, fun a ha z => n a ha (by simpa using z), rfl⟩
/-- two expressions in a row -/
theorem two {C : RC} {W : WX} {σ : St} {H : Hp} {own : List Addr} {ma mb : M D} {ta tb : TE} (sa : ∀ ρ σ H own Q, ER C H ρ σ own → PoE C W (ma ρ) σ H own Q → ta σ H Q) (sb : ∀ ρ σ H own Q, ER C H ρ σ own → PoE C W (mb ρ) σ H own Q → tb σ H Q)
    {β : Type} {k : D → D → Env → RE β} {P : RE β → Prop} {ρ : Env} {R : V → V → Hp → Prop} (er : ER C H ρ σ own) (hw : P ((ma ρ).bind fun d1 ρ1 => (mb ρ1).bind fun d2 ρ2 => k d1 d2 ρ2)) (hb : ¬ P .bad) (hex : ExOk C W σ H own fun e ρ' => P (.ex e ρ'))
    (fin : ∀ d1 d2 ρ2 v1 v2 H2 o1 o2 own2, Rep C H2 d1 v1 o1 → Rep C H2 d2 v2 o2 → ER C H2 ρ2 σ own2 → (∀ a ∈ o1, a ∉ o2) → (∀ a ∈ o1 ++ o2, a ∉ own2) → Stp H H2 own ((o1 ++ o2) ++ own2) → P (k d1 d2 ρ2) → R v1 v2 H2) :
    ta σ H fun x H1 => tb σ H1 fun y H2 => R x y H2 := by
  refine sa ρ σ H own _ er (poE_bind hw hb hex fun d1 ρ1 v1 H1 o1 own1 r1 e1 j1 s1 hw1 => ?_)
  refine sb ρ1 σ H1 own1 _ e1 (poE_bind hw1 hb (hex.at s1) fun d2 ρ2 v2 H2 o2 own2 r2 e2 j2 s2 hw2 => ?_)
  have j12 : ∀ a ∈ o1, a ∉ o2 ++ own2 := s2.apart r1.mut j1
  refine fin d1 d2 ρ2 v1 v2 H2 o1 o2 own2 (r1.keep s2.keep e1.mut j1) r2 e2 (fun a ha z => j12 a ha (List.mem_append_left _ z)) (fun a ha z => ?_) ?_ hw2
  · rcases List.mem_append.mp ha with q | q
    · exact j12 a q (List.mem_append_right _ z)
    · exact j2 a q z
  · rw [List.append_assoc]
    exact s1.held s2
end Se

namespace Se
open PySem L2

/-! ### views: expressions that change nothing -/
structure SV (X : Cx) (C : RC) (e : Expr) (f : Env → Option D) : Prop where
  ex : ∃ t, PE X e t ∧ ∀ ρ σ H own Q, ER C H ρ σ own → ∀ d, f ρ = some d → (∀ v H' o, Rep C H' d v o → Ext H H' → Q v H') → t σ H Q
/-- pairwise, whoever owns what -/
def RepW (C : RC) (H : Hp) : List D → List V → Prop
  | [], vs => vs = []
  | d :: ds, vs => ∃ v vs' o, vs = v :: vs' ∧ Rep C H d v o ∧ RepW C H ds vs'
theorem RepL.w {C : RC} {H : Hp} : ∀ {ds : List D} {vs : List V} {o : List Addr}, RepL C H ds vs o → RepW C H ds vs
  | [], _, _, h => h.1
  | _ :: _, _, _, h => by obtain ⟨v, vs', o1, o2, e, h1, h2, _, _⟩ := h; exact ⟨v, vs', o1, e, h1, h2.w⟩
theorem RepW.ext {C : RC} {H H' : Hp} (k : Ext H H') : ∀ {ds : List D} {vs : List V}, RepW C H ds vs → RepW C H' ds vs
  | [], _, h => h
  | _ :: _, _, h => by obtain ⟨v, vs', o, e, h1, h2⟩ := h; exact ⟨v, vs', o, e, h1.ext k, RepW.ext k h2⟩
theorem RepW.fz {C : RC} {H : Hp} : ∀ {ds : List D} {vs : List V}, fzL ds = true → RepW C H ds vs → RepL C H ds vs []
  | [], _, _, h => ⟨h, rfl⟩
  | d :: ds, _, q, h => by
    obtain ⟨v, vs', o, e, h1, h2⟩ := h
    simp only [fzL, Bool.and_eq_true] at q
    have e1 := Rep.fz_nil q.1 h1
    subst e1
    exact ⟨v, vs', [], [], e, h1, RepW.fz q.2 h2, (by simp), rfl⟩
theorem RepL.at {C : RC} {H : Hp} : ∀ {ds : List D} {vs : List V} {o : List Addr} {i : Nat} {d : D}, RepL C H ds vs o → ds[i]? = some d → ∃ v o', vs[i]? = some v ∧ Rep C H d v o' ∧ ∀ a ∈ o', a ∈ o
  | [], _, _, i, _, _, e => by simp at e
  | d :: ds, _, _, 0, d', h, e => by
    obtain ⟨v, vs', o1, o2, rfl, h1, h2, _, rfl⟩ := h
    simp at e; subst e
    exact ⟨v, o1, rfl, h1, fun a z => List.mem_append_left _ z⟩
  | d :: ds, _, _, i + 1, d', h, e => by
    obtain ⟨v, vs', o1, o2, rfl, h1, h2, _, rfl⟩ := h
    obtain ⟨v2, o', e2, r2, s2⟩ := RepL.at (i := i) h2 (by simpa using e)
    exact ⟨v2, o', by simpa using e2, r2, fun a z => List.mem_append_right _ (s2 a z)⟩

/-! ### combinators -/
def eLit (d : D) : M D := fun ρ => .ok d ρ
def vLit (d : D) : Env → Option D := fun _ => some d
def vVar (i : Nat) : Env → Option D := fun ρ => (ρ[i]?).join
/-- a name as a value that may be kept: frozen -/
def eVar (i : Nat) : M D := fun ρ => match (ρ[i]?).join with
  | some d => if fz d = true then .ok d ρ else .ok (frz d) (ρ.set i (some (frz d)))
  | none => .bad
/-- a name read for the last time -/
def eMove (i : Nat) : M D := fun ρ => match (ρ[i]?).join with
  | some d => .ok d (ρ.set i none)
  | none => .bad
def eQ (f : Env → Option D) : M D := fun ρ => match f ρ with
  | some d => if fz d = true then .ok d ρ else .bad
  | none => .bad
def ofO {α : Type} (x : Option α) (ρ : Env) : RE α := match x with
  | some d => .ok d ρ
  | none => .bad
def eOp2 (g : D → D → Option D) (ma mb : M D) : M D := fun ρ => (ma ρ).bind fun a ρ1 => (mb ρ1).bind fun b ρ2 => ofO (g a b) ρ2
def vOp2 (g : D → D → Option D) (fa fb : Env → Option D) : Env → Option D := fun ρ => (fa ρ).bind fun a => (fb ρ).bind fun b => g a b
def aNil : M (List D) := fun ρ => .ok [] ρ
def aCons (ma : M D) (ms : M (List D)) : M (List D) := fun ρ => (ma ρ).bind fun d ρ1 => (ms ρ1).bind fun ds ρ2 => .ok (d :: ds) ρ2
def eOpn (g : List D → Option D) (ms : M (List D)) : M D := fun ρ => (ms ρ).bind fun ds ρ1 => ofO (g ds) ρ1
def wNil : Env → Option (List D) := fun _ => some []
def wCons (fa : Env → Option D) (fs : Env → Option (List D)) : Env → Option (List D) := fun ρ => (fa ρ).bind fun d => (fs ρ).bind fun ds => some (d :: ds)
def vOpn (g : List D → Option D) (fs : Env → Option (List D)) : Env → Option D := fun ρ => (fs ρ).bind g
structure SW (X : Cx) (C : RC) (es : List Expr) (f : Env → Option (List D)) : Prop where
  ex : ∃ t, PA X es t ∧ ∀ ρ σ H own Q, ER C H ρ σ own → ∀ ds, f ρ = some ds → (∀ vs H', RepW C H' ds vs → Ext H H' → Q vs H') → t σ H Q

section
variable {X : Cx} {W : WX} {C : RC} {e a b : Expr} {es : List Expr} {ma mb : M D} {ms : M (List D)} {fa fb : Env → Option D} {fs : Env → Option (List D)} {pos : Pos}

theorem se_c {v : V} {d : D} (h : PE X e (tC v)) (r : ∀ H, Rep C H d v []) : SE X W C e (eLit d) := by
  refine ⟨_, h, fun ρ σ H own Q er hw => ?_⟩
  exact hw v H [] own (r H) er (by simp) (Stp.refl (by simp))
theorem sv_c {v : V} {d : D} (h : PE X e (tC v)) (r : ∀ H, Rep C H d v []) : SV X C e (vLit d) := by
  refine ⟨_, h, fun ρ σ H own Q er d' hd hw => ?_⟩
  cases hd
  exact hw v H [] (r H) Ext.refl
theorem se_int {i j pos} : SE X W C (.Constant (.int i) j pos) (eLit (.int i)) := se_c pe_int fun _ => ⟨rfl, rfl⟩
theorem sv_int {i j pos} : SV X C (.Constant (.int i) j pos) (vLit (.int i)) := sv_c pe_int fun _ => ⟨rfl, rfl⟩
theorem se_bl {i j pos} : SE X W C (.Constant (.bool i) j pos) (eLit (.bl i)) := se_c pe_bl fun _ => ⟨rfl, rfl⟩
theorem sv_bl {i j pos} : SV X C (.Constant (.bool i) j pos) (vLit (.bl i)) := sv_c pe_bl fun _ => ⟨rfl, rfl⟩
theorem se_non {j pos} : SE X W C (.Constant .none j pos) (eLit .non) := se_c pe_non fun _ => ⟨rfl, rfl⟩
theorem sv_non {j pos} : SV X C (.Constant .none j pos) (vLit .non) := sv_c pe_non fun _ => ⟨rfl, rfl⟩
theorem se_str {x j pos} (l : List Nat) (e : x = sx l) : SE X W C (.Constant (.str x) j pos) (eLit (.str l)) := se_c pe_str fun _ => ⟨by rw [e], rfl⟩
theorem sv_str {x j pos} (l : List Nat) (e : x = sx l) : SV X C (.Constant (.str x) j pos) (vLit (.str l)) := sv_c pe_str fun _ => ⟨by rw [e], rfl⟩
theorem se_glob {x : Str} {v : V} {d : D} {u : Value} {pos : Pos} (hg : Gl X x) (hm : X.mg x = some u) (r : RelV v u) (rd : ∀ H, Rep C H d v []) (hd : (x == ("__debug__" : Str)) = false := by decide) : SE X W C (.Name x pos) (eLit d) := se_c (pe_glob hg hm r hd) rd
theorem sv_glob {x : Str} {v : V} {d : D} {u : Value} {pos : Pos} (hg : Gl X x) (hm : X.mg x = some u) (r : RelV v u) (rd : ∀ H, Rep C H d v []) (hd : (x == ("__debug__" : Str)) = false := by decide) : SV X C (.Name x pos) (vLit d) := sv_c (pe_glob hg hm r hd) rd
theorem se_ty {x : Str} {n : String} {pos : Pos} (hg : Gl X x) (hm : X.mg x = none) (hv : bootBuiltins x = some (.type n)) (hn : x ≠ "__name__" := by decide) (hd : (x == ("__debug__" : Str)) = false := by decide) : SE X W C (.Name x pos) (eLit (.ty n)) :=
  se_c (v := .ty n) (pe_bltn hg hm hv rfl hn hd) fun _ => ⟨rfl, rfl⟩
theorem sv_ty {x : Str} {n : String} {pos : Pos} (hg : Gl X x) (hm : X.mg x = none) (hv : bootBuiltins x = some (.type n)) (hn : x ≠ "__name__" := by decide) (hd : (x == ("__debug__" : Str)) = false := by decide) : SV X C (.Name x pos) (vLit (.ty n)) :=
  sv_c (v := .ty n) (pe_bltn hg hm hv rfl hn hd) fun _ => ⟨rfl, rfl⟩

theorem join_some {ρ : Env} {i : Nat} {d : D} (h : (ρ[i]?).join = some d) : ρ[i]? = some (some d) := by
  cases e : ρ[i]? with
  | none => rw [e] at h; cases h
  | some x =>
    rw [e] at h
    cases x with
    | none => cases h
    | some y => cases h; rfl
theorem sv_var {i : Nat} {x : Str} {pos : Pos} (h : PE X (.Name x pos) (tVar i)) : SV X C (.Name x pos) (vVar i) := by
  refine ⟨_, h, fun ρ σ H own Q er d hd hw => ?_⟩
  obtain ⟨v, o, own1, e1, r, _, _, _⟩ := er.take (join_some hd)
  exact ⟨v, e1, hw v H o r Ext.refl⟩
theorem se_move {i : Nat} {x : Str} {pos : Pos} (h : PE X (.Name x pos) (tVar i)) : SE X W C (.Name x pos) (eMove i) := by
  refine ⟨_, h, fun ρ σ H own Q er hw => ?_⟩
  unfold eMove at hw
  split at hw
  · rename_i d hd
    obtain ⟨v, o, own1, e1, r, er1, n, m⟩ := er.take (join_some hd)
    exact ⟨v, e1, hw v H o own1 r er1 n (Stp.refl fun a z => (m a).mpr (List.mem_append.mp z))⟩
  · exact hw.elim
theorem se_var {i : Nat} {x : Str} {pos : Pos} (h : PE X (.Name x pos) (tVar i)) : SE X W C (.Name x pos) (eVar i) := by
  refine ⟨_, pe_fz h, fun ρ σ H own Q er hw => ?_⟩
  unfold eVar at hw
  split at hw
  · rename_i d hd
    obtain ⟨v, o, own1, e1, r, er1, n, m⟩ := er.take (join_some hd)
    refine ⟨v, e1, o, r.mut, fun H2 f => ?_⟩
    have hi : i < ρ.length := (List.getElem?_eq_some_iff.mp (join_some hd)).1
    split at hw
    · rename_i hf
      have eo := Rep.fz_nil hf r
      subst eo
      exact hw v H2 [] own (r.keep f.keeps muts_nil (by simp)) (er.keep f.keeps muts_nil (by simp)) (by simp) ⟨fun a ob q _ => f.keeps a ob q (by simp), fun a z => .inl (by simpa using z)⟩
    · obtain ⟨own2, er2, m2⟩ := ER.put (i := i) (d := frz d) (v := v) (o := []) (er1.keep f.keeps r.mut fun a ha z => n a z ha) (by rw [List.getElem?_set_self hi]) e1 (r.frz f r.mut fun _ z => z) (by simp)
      rw [List.set_set] at er2
      refine hw v H2 [] own2 (r.frz f r.mut fun _ z => z) er2 (by simp) ⟨fun a ob q na => f.keeps a ob q fun z => na ((m a).mpr (.inl z)), fun a z => .inl ?_⟩
      rcases (m2 a).mp (by simpa using z) with z | z
      · cases z
      · exact (m a).mpr (.inr z)
  · exact hw.elim
theorem se_q {f : Env → Option D} (h : SV X C e f) : SE X W C e (eQ f) := by
  obtain ⟨t, pe, s⟩ := h.ex
  refine ⟨t, pe, fun ρ σ H own Q er hw => ?_⟩
  unfold eQ at hw
  split at hw
  · rename_i d hd
    split at hw
    · rename_i hf
      refine s ρ σ H own Q er d hd fun v H' o r k => ?_
      have eo := Rep.fz_nil hf r
      subst eo
      exact hw v H' [] own r (er.ext k) (by simp) ⟨fun a ob q _ => k a ob q, fun a z => .inl (by simpa using z)⟩
    · exact hw.elim
  · exact hw.elim

/-! ### operations on two values -/
abbrev VO2 (C : RC) (r : R2) (g : D → D → Option D) : Prop := ∀ (d1 d2 d : D) (v1 v2 : V) (H : Hp) (o1 o2 : List Addr) (Q : VK), Rep C H d1 v1 o1 → Rep C H d2 v2 o2 → g d1 d2 = some d →
  (∀ v H' o, Rep C H' d v o → Ext H H' → (∀ a ∈ o, H a = none) → Q v H') → r v1 v2 H Q
abbrev VV2 (C : RC) (r : R2) (g : D → D → Option D) : Prop := ∀ (d1 d2 d : D) (v1 v2 : V) (H : Hp) (o1 o2 : List Addr) (Q : VK), Rep C H d1 v1 o1 → Rep C H d2 v2 o2 → g d1 d2 = some d →
  (∀ v H' o, Rep C H' d v o → Ext H H' → Q v H') → r v1 v2 H Q
theorem VO2.vv {r : R2} {g : D → D → Option D} (h : VO2 C r g) : VV2 C r g := fun d1 d2 d v1 v2 H o1 o2 Q r1 r2 hg hq => h d1 d2 d v1 v2 H o1 o2 Q r1 r2 hg fun v H' o rv k _ => hq v H' o rv k
/-- t does what m says -/
abbrev Snd (W : WX) (C : RC) (t : TE) (m : M D) : Prop := ∀ ρ σ H own Q, ER C H ρ σ own → PoE C W (m ρ) σ H own Q → t σ H Q
abbrev SndV (C : RC) (t : TE) (f : Env → Option D) : Prop := ∀ ρ σ H own Q, ER C H ρ σ own → ∀ d, f ρ = some d → (∀ v H' o, Rep C H' d v o → Ext H H' → Q v H') → t σ H Q
def eV (f : Env → Option D) : M D := fun ρ => ofO (f ρ) ρ
theorem snd_op2 {r : R2} {g : D → D → Option D} {ta tb : TE} (vo : VO2 C r g) (sa : Snd W C ta ma) (sb : Snd W C tb mb) : Snd W C (tOp r ta tb) (eOp2 g ma mb) := fun ρ σ H own Q er hw => by
  refine two (P := fun r => PoE C W r σ H own Q) sa sb er hw (fun z => z) exE fun d1 d2 ρ2 v1 v2 H2 o1 o2 own2 r1 r2 e2 j12 j s hw2 => ?_
  unfold ofO at hw2
  split at hw2
  · rename_i d hd
    exact vo d1 d2 d v1 v2 H2 o1 o2 Q r1 r2 hd fun v H' o rv k hn => hw2.fin s e2 j k rv fun a ha => .inr (hn a ha)
  · exact hw2.elim
theorem sndv_op2 {r : R2} {g : D → D → Option D} {ta tb : TE} (vo : VV2 C r g) (sa : SndV C ta fa) (sb : SndV C tb fb) : SndV C (tOp r ta tb) (vOp2 g fa fb) := fun ρ σ H own Q er d hd hw => by
  simp only [vOp2, Option.bind_eq_some_iff] at hd
  obtain ⟨d1, h1, d2, h2, h3⟩ := hd
  refine sa ρ σ H own _ er d1 h1 fun v1 H1 o1 r1 k1 => ?_
  refine sb ρ σ H1 own _ (er.ext k1) d2 h2 fun v2 H2 o2 r2 k2 => ?_
  exact vo d1 d2 d v1 v2 H2 o1 o2 Q (r1.ext k2) r2 h3 fun v H' o rv k => hw v H' o rv fun a ob q => k a ob (k2 a ob (k1 a ob q))
theorem fin_v {d : D} {ρ : Env} {σ : St} {H H2 H' : Hp} {own o : List Addr} {Q : VK} {v : V} (hw : PoE C W (.ok d ρ) σ H own Q) (er : ER C H ρ σ own) (k1 : Ext H H2) (r : Rep C H' d v o) (k : Ext H2 H') (hn : ∀ a ∈ o, H2 a = none) : Q v H' := by
  refine hw v H' o own r (er.ext fun a ob q => k a ob (k1 a ob q)) (fun a ha z => ?_) ⟨fun a ob q _ => k a ob (k1 a ob q), fun a ha => ?_⟩
  · obtain ⟨u, e, _⟩ := (er.ext k1).mut a z
    rw [hn a ha] at e; cases e
  · rcases List.mem_append.mp ha with z | z
    · right
      cases e : H a with
      | none => rfl
      | some ob => have := hn a z; rw [k1 a ob e] at this; cases this
    · exact .inl z
theorem snd_v2 {r : R2} {g : D → D → Option D} {ta tb : TE} (vo : VO2 C r g) (sa : SndV C ta fa) (sb : SndV C tb fb) : Snd W C (tOp r ta tb) (eV (vOp2 g fa fb)) := fun ρ σ H own Q er hw => by
  unfold eV ofO at hw
  split at hw
  · rename_i d hd
    simp only [vOp2, Option.bind_eq_some_iff] at hd
    obtain ⟨d1, h1, d2, h2, h3⟩ := hd
    refine sa ρ σ H own _ er d1 h1 fun v1 H1 o1 r1 k1 => ?_
    refine sb ρ σ H1 own _ (er.ext k1) d2 h2 fun v2 H2 o2 r2 k2 => ?_
    exact vo d1 d2 d v1 v2 H2 o1 o2 Q (r1.ext k2) r2 h3 fun v H' o rv k hn => fin_v hw er (fun a ob q => k2 a ob (k1 a ob q)) rv k hn
  · exact hw.elim
theorem se_op2 {r : R2} {g : D → D → Option D} (pe : ∀ ta tb, PE X a ta → PE X b tb → PE X e (tOp r ta tb)) (vo : VO2 C r g) (ha : SE X W C a ma) (hb : SE X W C b mb) : SE X W C e (eOp2 g ma mb) := by
  obtain ⟨ta, pa, sa⟩ := ha.ex
  obtain ⟨tb, pb, sb⟩ := hb.ex
  exact ⟨_, pe ta tb pa pb, snd_op2 vo sa sb⟩
theorem sv_op2 {r : R2} {g : D → D → Option D} (pe : ∀ ta tb, PE X a ta → PE X b tb → PE X e (tOp r ta tb)) (vo : VV2 C r g) (ha : SV X C a fa) (hb : SV X C b fb) : SV X C e (vOp2 g fa fb) := by
  obtain ⟨ta, pa, sa⟩ := ha.ex
  obtain ⟨tb, pb, sb⟩ := hb.ex
  exact ⟨_, pe ta tb pa pb, sndv_op2 vo sa sb⟩
theorem sev_op2 {r : R2} {g : D → D → Option D} (pe : ∀ ta tb, PE X a ta → PE X b tb → PE X e (tOp r ta tb)) (vo : VO2 C r g) (ha : SV X C a fa) (hb : SV X C b fb) : SE X W C e (eV (vOp2 g fa fb)) := by
  obtain ⟨ta, pa, sa⟩ := ha.ex
  obtain ⟨tb, pb, sb⟩ := hb.ex
  exact ⟨_, pe ta tb pa pb, snd_v2 vo sa sb⟩

/-! ### arguments; operations on many values -/
theorem sa_nil : SA X W C [] aNil := ⟨_, pa_nil, fun ρ σ H own Q er hw => hw [] H [] own ⟨rfl, rfl⟩ er (by simp) (Stp.refl (by simp))⟩
theorem sa_cons (ha : SE X W C e ma) (hr : SA X W C es ms) (hs : starEach (e :: es) X.env = (false, eval e X.env) :: starEach es X.env := by rfl) : SA X W C (e :: es) (aCons ma ms) := by
  obtain ⟨ta, pa, sa⟩ := ha.ex
  obtain ⟨tr, pr, sr⟩ := hr.ex
  refine ⟨_, pa_cons pa pr hs, fun ρ σ H own Q er hw => ?_⟩
  have hw : PoA C W ((ma ρ).bind fun d ρ1 => (ms ρ1).bind fun ds ρ2 => .ok (d :: ds) ρ2) σ H own Q := hw
  refine sa ρ σ H own _ er (poE_bind (P := fun r => PoA C W r σ H own Q) hw (fun z => z) exA fun d1 ρ1 v1 H1 o1 own1 r1 e1 j1 s1 hw1 => ?_)
  refine sr ρ1 σ H1 own1 _ e1 (poA_bind (P := fun r => PoA C W r σ H own Q) hw1 (fun z => z) (exA.at s1) fun ds ρ2 vs H2 o2 own2 r2 e2 j2 s2 hw2 => ?_)
  have j12 : ∀ a ∈ o1, a ∉ o2 ++ own2 := s2.apart r1.mut j1
  refine hw2 (v1 :: vs) H2 (o1 ++ o2) own2 ⟨v1, vs, o1, o2, rfl, r1.keep s2.keep e1.mut j1, r2, fun a ha z => j12 a ha (List.mem_append_left _ z), rfl⟩ e2 (fun a ha z => ?_) ?_
  · rcases List.mem_append.mp ha with q | q
    · exact j12 a q (List.mem_append_right _ z)
    · exact j2 a q z
  · rw [List.append_assoc]
    exact s1.held s2
theorem sw_nil : SW X C [] wNil := ⟨_, pa_nil, fun ρ σ H own Q er ds hd hw => by cases hd; exact hw [] H rfl Ext.refl⟩
theorem sw_cons (ha : SV X C e fa) (hr : SW X C es fs) (hs : starEach (e :: es) X.env = (false, eval e X.env) :: starEach es X.env := by rfl) : SW X C (e :: es) (wCons fa fs) := by
  obtain ⟨ta, pa, sa⟩ := ha.ex
  obtain ⟨tr, pr, sr⟩ := hr.ex
  refine ⟨_, pa_cons pa pr hs, fun ρ σ H own Q er ds hd hw => ?_⟩
  simp only [wCons, Option.bind_eq_some_iff] at hd
  obtain ⟨d1, h1, ds2, h2, h3⟩ := hd
  cases h3
  refine sa ρ σ H own _ er d1 h1 fun v1 H1 o1 r1 k1 => ?_
  refine sr ρ σ H1 own _ (er.ext k1) ds2 h2 fun vs H2 r2 k2 => ?_
  exact hw (v1 :: vs) H2 ⟨v1, vs, o1, rfl, r1.ext k2, r2⟩ fun a ob q => k2 a ob (k1 a ob q)
abbrev VOn (C : RC) (r : List V → Hp → VK → Prop) (g : List D → Option D) : Prop := ∀ (ds : List D) (d : D) (vs : List V) (H : Hp) (Q : VK), RepW C H ds vs → g ds = some d →
  (∀ v H' o, Rep C H' d v o → Ext H H' → (∀ a ∈ o, H a = none) → Q v H') → r vs H Q
theorem se_opn {r : List V → Hp → VK → Prop} {g : List D → Option D} (pe : ∀ t, PA X es t → PE X e (tCB r t)) (vo : VOn C r g) (ha : SA X W C es ms) : SE X W C e (eOpn g ms) := by
  obtain ⟨ta, pa, sa⟩ := ha.ex
  refine ⟨_, pe ta pa, fun ρ σ H own Q er hw => ?_⟩
  have hw : PoE C W ((ms ρ).bind fun ds ρ1 => ofO (g ds) ρ1) σ H own Q := hw
  refine sa ρ σ H own _ er (poA_bind (P := fun r => PoE C W r σ H own Q) hw (fun z => z) exE fun ds ρ1 vs H1 o1 own1 r1 e1 j1 s1 hw1 => ?_)
  unfold ofO at hw1
  split at hw1
  · rename_i d hd
    exact vo ds d vs H1 Q r1.w hd fun v H' o rv k hn => hw1.fin s1 e1 j1 k rv fun a ha => .inr (hn a ha)
  · exact hw1.elim
theorem sv_opn {r : List V → Hp → VK → Prop} {g : List D → Option D} (pe : ∀ t, PA X es t → PE X e (tCB r t)) (vo : VOn C r g) (ha : SW X C es fs) : SV X C e (vOpn g fs) := by
  obtain ⟨ta, pa, sa⟩ := ha.ex
  refine ⟨_, pe ta pa, fun ρ σ H own Q er d hd hw => ?_⟩
  simp only [vOpn, Option.bind_eq_some_iff] at hd
  obtain ⟨ds, h1, h2⟩ := hd
  exact sa ρ σ H own _ er ds h1 fun vs H1 r1 k1 => vo ds d vs H1 Q r1 h2 fun v H' o rv k _ => hw v H' o rv fun a ob q => k a ob (k1 a ob q)
theorem sev_opn {r : List V → Hp → VK → Prop} {g : List D → Option D} (pe : ∀ t, PA X es t → PE X e (tCB r t)) (vo : VOn C r g) (ha : SW X C es fs) : SE X W C e (eV (vOpn g fs)) := by
  obtain ⟨ta, pa, sa⟩ := ha.ex
  refine ⟨_, pe ta pa, fun ρ σ H own Q er hw => ?_⟩
  unfold eV ofO at hw
  split at hw
  · rename_i d hd
    simp only [vOpn, Option.bind_eq_some_iff] at hd
    obtain ⟨ds, h1, h2⟩ := hd
    exact sa ρ σ H own _ er ds h1 fun vs H1 r1 k1 => vo ds d vs H1 Q r1 h2 fun v H' o rv k hn => fin_v hw er k1 rv k hn
  · exact hw.elim
/-! ### one value -/
abbrev VO1 (C : RC) (r : V → Hp → VK → Prop) (g : D → Option D) : Prop := ∀ (d1 d : D) (v1 : V) (H : Hp) (o1 : List Addr) (Q : VK), Rep C H d1 v1 o1 → g d1 = some d →
  (∀ v H' o, Rep C H' d v o → Ext H H' → (∀ a ∈ o, H a = none) → Q v H') → r v1 H Q
def eOp1 (g : D → Option D) (ma : M D) : M D := fun ρ => (ma ρ).bind fun a ρ1 => ofO (g a) ρ1
def vOp1 (g : D → Option D) (fa : Env → Option D) : Env → Option D := fun ρ => (fa ρ).bind g
theorem se_op1 {r : V → Hp → VK → Prop} {g : D → Option D} (pe : ∀ ta, PE X a ta → PE X e (tUn r ta)) (vo : VO1 C r g) (ha : SE X W C a ma) : SE X W C e (eOp1 g ma) := by
  obtain ⟨ta, pa, sa⟩ := ha.ex
  refine ⟨_, pe ta pa, fun ρ σ H own Q er hw => ?_⟩
  have hw : PoE C W ((ma ρ).bind fun a ρ1 => ofO (g a) ρ1) σ H own Q := hw
  refine sa ρ σ H own _ er (poE_bind (P := fun r => PoE C W r σ H own Q) hw (fun z => z) exE fun d1 ρ1 v1 H1 o1 own1 r1 e1 j1 s1 hw1 => ?_)
  unfold ofO at hw1
  split at hw1
  · rename_i d hd
    exact vo d1 d v1 H1 o1 Q r1 hd fun v H' o rv k hn => hw1.fin s1 e1 j1 k rv fun a ha => .inr (hn a ha)
  · exact hw1.elim
theorem sv_op1 {r : V → Hp → VK → Prop} {g : D → Option D} (pe : ∀ ta, PE X a ta → PE X e (tUn r ta)) (vo : VO1 C r g) (ha : SV X C a fa) : SV X C e (vOp1 g fa) := by
  obtain ⟨ta, pa, sa⟩ := ha.ex
  refine ⟨_, pe ta pa, fun ρ σ H own Q er d hd hw => ?_⟩
  simp only [vOp1, Option.bind_eq_some_iff] at hd
  obtain ⟨d1, h1, h2⟩ := hd
  exact sa ρ σ H own _ er d1 h1 fun v1 H1 o1 r1 k1 => vo d1 d v1 H1 o1 Q r1 h2 fun v H' o rv k _ => hw v H' o rv fun a ob q => k a ob (k1 a ob q)
theorem sev_op1 {r : V → Hp → VK → Prop} {g : D → Option D} (pe : ∀ ta, PE X a ta → PE X e (tUn r ta)) (vo : VO1 C r g) (ha : SV X C a fa) : SE X W C e (eV (vOp1 g fa)) := by
  obtain ⟨ta, pa, sa⟩ := ha.ex
  refine ⟨_, pe ta pa, fun ρ σ H own Q er hw => ?_⟩
  unfold eV ofO at hw
  split at hw
  · rename_i d hd
    simp only [vOp1, Option.bind_eq_some_iff] at hd
    obtain ⟨d1, h1, h2⟩ := hd
    exact sa ρ σ H own _ er d1 h1 fun v1 H1 o1 r1 k1 => vo d1 d v1 H1 o1 Q r1 h2 fun v H' o rv k hn => fin_v hw er k1 rv k hn
  · exact hw.elim
end
end Se

namespace Se
open PySem L2

section
variable {C : RC} {H : Hp}
theorem RepW.len : ∀ {ds : List D} {vs : List V}, RepW C H ds vs → vs.length = ds.length
  | [], _, h => by cases h; rfl
  | _ :: _, _, h => by obtain ⟨_, _, _, rfl, _, h2⟩ := h; simp [h2.len]
theorem RepW.at : ∀ {ds : List D} {vs : List V} {i : Nat} {d : D}, RepW C H ds vs → ds[i]? = some d → ∃ v o, vs[i]? = some v ∧ Rep C H d v o
  | [], _, i, _, _, e => by simp at e
  | _ :: _, _, 0, d, h, e => by obtain ⟨v, _, o, rfl, h1, h2⟩ := h; simp at e; subst e; exact ⟨v, o, rfl, h1⟩
  | _ :: _, _, i + 1, d, h, e => by
    obtain ⟨v, _, o, rfl, h1, h2⟩ := h
    obtain ⟨v', o', e', r⟩ := RepW.at (i := i) h2 (by simpa using e)
    exact ⟨v', o', by simpa using e', r⟩
theorem Rep.lstS {f : Bool} {ds : List D} {v : V} {o : List Addr} (h : Rep C H (.lst f ds) v o) : ∃ a vs, v = .ref a ∧ Rd H a (.lst vs) ∧ RepW C H ds vs := by
  cases f with
  | true => obtain ⟨a, vs, o', e, q, r, _, _⟩ := h; exact ⟨a, vs, e, .inl q, r.w⟩
  | false => obtain ⟨a, vs, e, q, r, _⟩ := h; exact ⟨a, vs, e, .inr q, r.w⟩
theorem Rep.tupS {ds : List D} {v : V} {o : List Addr} (h : Rep C H (.tup ds) v o) : ∃ a vs, v = .ref a ∧ SqT C.K H a vs ∧ RepW C H ds vs := by
  obtain ⟨a, vs, e, q, r⟩ := h
  exact ⟨a, vs, e, q, r.w⟩
theorem RepL.app : ∀ {d1 d2 : List D} {v1 v2 : List V}, RepL C H d1 v1 [] → RepL C H d2 v2 [] → RepL C H (d1 ++ d2) (v1 ++ v2) []
  | [], _, _, _, h1, h2 => by obtain ⟨rfl, _⟩ := h1; exact h2
  | d :: ds, _, _, _, h1, h2 => by
    obtain ⟨v, vs, o1, o2, rfl, r, h1, _, e⟩ := h1
    have e := e.symm
    simp only [List.append_eq_nil_iff] at e
    obtain ⟨rfl, rfl⟩ := e
    exact ⟨v, vs ++ _, [], [], rfl, r, RepL.app h1 h2, (by simp), rfl⟩
theorem RepL.take0 : ∀ {ds : List D} {vs : List V} (n : Nat), RepL C H ds vs [] → RepL C H (ds.take n) (vs.take n) []
  | [], _, n, h => by obtain ⟨rfl, _⟩ := h; simp; exact ⟨rfl, rfl⟩
  | d :: ds, _, 0, h => by simp; exact ⟨rfl, rfl⟩
  | d :: ds, _, n + 1, h => by
    obtain ⟨v, vs, o1, o2, rfl, r, h1, _, e⟩ := h
    have e := e.symm
    simp only [List.append_eq_nil_iff] at e
    obtain ⟨rfl, rfl⟩ := e
    exact ⟨v, vs.take n, [], [], rfl, r, RepL.take0 n h1, (by simp), rfl⟩
theorem RepL.drop0 : ∀ {ds : List D} {vs : List V} (n : Nat), RepL C H ds vs [] → RepL C H (ds.drop n) (vs.drop n) []
  | [], _, n, h => by obtain ⟨rfl, _⟩ := h; simp; exact ⟨rfl, rfl⟩
  | d :: ds, _, 0, h => h
  | d :: ds, _, n + 1, h => by
    obtain ⟨v, vs, o1, o2, rfl, r, h1, _, e⟩ := h
    have e := e.symm
    simp only [List.append_eq_nil_iff] at e
    obtain ⟨rfl, rfl⟩ := e
    exact RepL.drop0 n h1
theorem RepL.rep : ∀ (n : Nat) {ds : List D} {vs : List V}, RepL C H ds vs [] → RepL C H (List.replicate n ds).flatten (List.replicate n vs).flatten []
  | 0, _, _, _ => ⟨rfl, rfl⟩
  | n + 1, _, _, h => by
    simp only [List.replicate_succ, List.flatten_cons]
    exact h.app (RepL.rep n h)
/-- a new list, a new tuple -/
theorem rep_new_lst {ds : List D} {vs : List V} {p : Addr} (r : RepL C H ds vs []) (hp : H p = none) : Rep C (upd H p (.lst vs)) (.lst true ds) (.ref p) [p] :=
  ⟨p, vs, [], rfl, upd_same, r.ext (Ext.new hp), (by simp), rfl⟩
theorem rep_new_tup {ds : List D} {vs : List V} {p : Addr} (r : RepL C H ds vs []) (hp : H p = none) : Rep C (upd H p (.tup vs)) (.tup ds) (.ref p) [] :=
  ⟨p, vs, rfl, .inl (.inl upd_same), r.ext (Ext.new hp)⟩
end
theorem one_none {H : Hp} {p : Addr} (hp : H p = none) : ∀ a ∈ [p], H a = none := fun a ha => by
  cases List.mem_singleton.mp ha; exact hp

theorem sx_len (l : List Nat) : (sx l).length = l.length := by simp [sx, Str.length]
theorem sx_cat (a b : List Nat) : sx a ++ sx b = sx (a ++ b) := by
  show (⟨a.toArray ++ b.toArray⟩ : Str) = ⟨(a ++ b).toArray⟩
  simp
theorem sx_inj {a b : List Nat} (h : sx a = sx b) : a = b := by
  have e : a.toArray = b.toArray := congrArg Str.cps h
  simpa using congrArg Array.toList e
theorem sx_list (l : List Nat) : (sx l).cps.toList = l := by simp [sx]

/-! ### + - * // % ** -/
def rCatR : R2 := fun x y H Q => ∃ l b xs zs, x = .ref l ∧ y = .ref b ∧ Rd H l (.lst xs) ∧ Rd H b (.lst zs) ∧ xs.length + zs.length ≤ sizeLine ∧ ∀ p, H p = none → Q (.ref p) (upd H p (.lst (xs ++ zs)))
def rRepR : R2 := fun x y H Q => ∃ l k xs, x = .ref l ∧ y = .int k ∧ Rd H l (.lst xs) ∧ -(2 ^ 63) ≤ k ∧ k < 2 ^ 63 ∧ xs.length * k.toNat ≤ sizeLine ∧
  ∀ p, H p = none → Q (.ref p) (upd H p (.lst (List.replicate k.toNat xs).flatten))
section
variable {X : Cx}
theorem op_catR : OpR X (binaryOp .Add) rCatR := by
  intro pins s σ H x y v u Q I rx ry h
  obtain ⟨l, b, xs, zs, rfl, rfl, hH, hB, hz, q⟩ := h
  cases rx
  cases ry
  obtain ⟨z, its, n, r, e⟩ := hH.ok I.hok
  obtain ⟨z2, its2, n2, r2, e2⟩ := hB.ok I.hok
  have hl := r.length
  have hl2 := r2.length
  refine PySem.P.add_list e e2 ?_ (by rw [List.size_toArray, List.size_toArray]; omega)
  have ea : its.toArray ++ its2.toArray = (its ++ its2).toArray := by simp
  rw [ea]
  exact ⟨.ref _, _, I.lnew (t' := s.toks) (r.append r2) (by rw [List.length_append]; omega), rfl, q _ I.fresh⟩
end
abbrev CMulA (i j : Int) : Prop := CMul i j ∨ CMulW i j
instance {i j : Int} : Decidable (CMul i j) := by unfold CMul; infer_instance
instance {i j : Int} : Decidable (CMulW i j) := by unfold CMulW; infer_instance
instance {i j : Int} : Decidable (CDiv i j) := by unfold CDiv; infer_instance
instance {i j : Int} : Decidable (CDivW i j) := by unfold CDivW; infer_instance
instance {i j : Int} : Decidable (CPow i j) := by unfold CPow; infer_instance
def gAdd : D → D → Option D
  | .int a, .int b => some (.int (a + b))
  | .str a, .str b => if a.length + b.length ≤ sizeLine then some (.str (a ++ b)) else none
  | .lst _ a, .lst _ b => if fzL a = true ∧ fzL b = true ∧ a.length + b.length ≤ sizeLine then some (.lst true (a ++ b)) else none
  | .tup a, .tup b => if fzL a = true ∧ fzL b = true ∧ a.length + b.length ≤ sizeLine then some (.tup (a ++ b)) else none
  | _, _ => none
def gSub : D → D → Option D
  | .int a, .int b => some (.int (a - b))
  | _, _ => none
def gMul : D → D → Option D
  | .int a, .int b => if CMul a b ∨ CMulW a b then some (.int (a * b)) else none
  | _, _ => none
def gDiv : D → D → Option D
  | .int a, .int b => if CDiv a b ∨ CDivW a b then some (.int (a / b)) else none
  | _, _ => none
def gMod : D → D → Option D
  | .int a, .int b => if 0 < b then some (.int (a % b)) else none
  | _, _ => none
def gPow : D → D → Option D
  | .int a, .int b => if CPow a b then some (.int (a ^ b.toNat)) else none
  | _, _ => none
section
variable {X : Cx} {C : RC}
abbrev rAddA (K : PySem.W.Frag) : R2 := fun x y H Q => (rI0 fun i j => .int (i + j)) x y H Q ∨ ((∃ i j, x = .str i ∧ y = .str j ∧ i.length + j.length ≤ sizeLine ∧ Q (.str (i ++ j)) H) ∨ (rCatR x y H Q ∨ rCatA K x y H Q))
theorem op_addA : OpR X (binaryOp .Add) (rAddA X.K) := op_add.or (op_add_str.or (op_catR.or op_catA))
theorem vo_add : VO2 C (rAddA C.K) gAdd := by
  intro d1 d2 d v1 v2 H o1 o2 Q r1 r2 hg hq
  unfold gAdd at hg
  split at hg
  · cases hg; obtain ⟨rfl, _⟩ := r1; obtain ⟨rfl, _⟩ := r2
    exact .inl ⟨_, _, rfl, rfl, hq _ H [] ⟨rfl, rfl⟩ Ext.refl (by simp)⟩
  · split at hg
    · rename_i hz
      cases hg; obtain ⟨rfl, _⟩ := r1; obtain ⟨rfl, _⟩ := r2
      exact .inr (.inl ⟨_, _, rfl, rfl, by rw [sx_len, sx_len]; exact hz, hq _ H [] ⟨by rw [sx_cat], rfl⟩ Ext.refl (by simp)⟩)
    · cases hg
  · split at hg
    · rename_i hz
      obtain ⟨f1, f2, hz⟩ := hz
      cases hg
      obtain ⟨a, xs, rfl, ha, w1⟩ := r1.lstS
      obtain ⟨b, ys, rfl, hb, w2⟩ := r2.lstS
      exact .inr (.inr (.inl ⟨a, b, xs, ys, rfl, rfl, ha, hb, by rw [w1.len, w2.len]; exact hz, fun p hp => hq _ _ [p] (rep_new_lst ((w1.fz f1).app (w2.fz f2)) hp) (Ext.new hp) (one_none hp)⟩))
    · cases hg
  · split at hg
    · rename_i hz
      obtain ⟨f1, f2, hz⟩ := hz
      cases hg
      obtain ⟨a, xs, rfl, ha, w1⟩ := r1.tupS
      obtain ⟨b, ys, rfl, hb, w2⟩ := r2.tupS
      have l1 := w1.len
      have l2 := w2.len
      refine .inr (.inr (.inr ⟨a, b, xs, ys, rfl, rfl, ha, hb, by omega, fun e => ?_, fun e1 e2 => ?_, fun e1 e2 p hp => ?_⟩))
      · subst e
        have e' := List.eq_nil_of_length_eq_zero l1.symm
        subst e'
        exact hq _ H [] ⟨b, ys, rfl, hb, w2.fz f2⟩ Ext.refl (by simp)
      · subst e2
        have e' := List.eq_nil_of_length_eq_zero l2.symm
        subst e'
        exact hq _ H [] (by rw [List.append_nil]; exact ⟨a, xs, rfl, ha, w1.fz f1⟩) Ext.refl (by simp)
      · exact hq _ _ [] (rep_new_tup ((w1.fz f1).app (w2.fz f2)) hp) (Ext.new hp) (by simp)
    · cases hg
  · cases hg
/-- ints in, a scalar out -/
theorem vo_int {P : Int → Int → Prop} {g : Int → Int → V} {gd : D → D → Option D} {k : Int → Int → D} (hk : ∀ i j H, Rep C H (k i j) (g i j) []) (hgd : ∀ a b d, gd a b = some d → ∃ i j, a = .int i ∧ b = .int j ∧ P i j ∧ d = k i j) : VO2 C (rI P g) gd := by
  intro d1 d2 d v1 v2 H o1 o2 Q r1 r2 hg hq
  obtain ⟨i, j, rfl, rfl, p, rfl⟩ := hgd _ _ _ hg
  obtain ⟨rfl, _⟩ := r1
  obtain ⟨rfl, _⟩ := r2
  exact ⟨i, j, rfl, rfl, p, hq _ H [] (hk i j H) Ext.refl (by simp)⟩
theorem vo_int0 {g : Int → Int → V} {gd : D → D → Option D} {k : Int → Int → D} (hk : ∀ i j H, Rep C H (k i j) (g i j) []) (hgd : ∀ a b d, gd a b = some d → ∃ i j, a = .int i ∧ b = .int j ∧ d = k i j) : VO2 C (rI0 g) gd := by
  intro d1 d2 d v1 v2 H o1 o2 Q r1 r2 hg hq
  obtain ⟨i, j, rfl, rfl, rfl⟩ := hgd _ _ _ hg
  obtain ⟨rfl, _⟩ := r1
  obtain ⟨rfl, _⟩ := r2
  exact ⟨i, j, rfl, rfl, hq _ H [] (hk i j H) Ext.refl (by simp)⟩
theorem vo_sub : VO2 C (rI0 fun i j => .int (i - j)) gSub := vo_int0 (k := fun i j => .int (i - j)) (fun _ _ _ => ⟨rfl, rfl⟩) fun a b d h => by
  unfold gSub at h
  split at h
  · cases h; exact ⟨_, _, rfl, rfl, rfl⟩
  · cases h
theorem vo_div : VO2 C (fun x y H Q => (rI CDiv fun i j => .int (i / j)) x y H Q ∨ (rI CDivW fun i j => .int (i / j)) x y H Q) gDiv := by
  intro d1 d2 d v1 v2 H o1 o2 Q r1 r2 hg hq
  unfold gDiv at hg
  split at hg
  · split at hg
    · rename_i i j p
      cases hg
      obtain ⟨rfl, _⟩ := r1
      obtain ⟨rfl, _⟩ := r2
      rcases p with p | p
      · exact .inl ⟨_, _, rfl, rfl, p, hq _ H [] ⟨rfl, rfl⟩ Ext.refl (by simp)⟩
      · exact .inr ⟨_, _, rfl, rfl, p, hq _ H [] ⟨rfl, rfl⟩ Ext.refl (by simp)⟩
    · cases hg
  · cases hg
theorem op_divA : OpR X (binaryOp .FloorDiv) (fun x y H Q => (rI CDiv fun i j => .int (i / j)) x y H Q ∨ (rI CDivW fun i j => .int (i / j)) x y H Q) := op_fdiv.or op_fdivW
theorem vo_mod : VO2 C (rI (fun _ j => 0 < j) fun i j => .int (i % j)) gMod := vo_int (k := fun i j => .int (i % j)) (fun _ _ _ => ⟨rfl, rfl⟩) fun a b d h => by
  unfold gMod at h
  split at h
  · split at h
    · rename_i p; cases h; exact ⟨_, _, rfl, rfl, p, rfl⟩
    · cases h
  · cases h
theorem vo_pow : VO2 C (rI CPow fun i j => .int (i ^ j.toNat)) gPow := vo_int (k := fun i j => .int (i ^ j.toNat)) (fun _ _ _ => ⟨rfl, rfl⟩) fun a b d h => by
  unfold gPow at h
  split at h
  · split at h
    · rename_i p; cases h; exact ⟨_, _, rfl, rfl, p, rfl⟩
    · cases h
  · cases h
end

/-! ### * -/
def strRep (z : Str) (k : Nat) : Str := ⟨(List.replicate k z.cps.toList).flatten.toArray⟩
def rMulS : R2 := fun x y H Q => ∃ z k, x = .str z ∧ y = .int k ∧ -(2 ^ 63) ≤ k ∧ k < 2 ^ 63 ∧ z.length * k.toNat ≤ sizeLine ∧ Q (.str (strRep z k.toNat)) H
theorem foldl_repA (z : Array Nat) : ∀ (k : Nat) (acc : List Nat), (List.replicate k z).foldl (· ++ ·) acc.toArray = (acc ++ (List.replicate k z.toList).flatten).toArray
  | 0, acc => by simp
  | k + 1, acc => by
    have e : acc.toArray ++ z = (acc ++ z.toList).toArray := by simp
    rw [List.replicate_succ, List.foldl_cons, e, foldl_repA z k (acc ++ z.toList), List.replicate_succ, List.flatten_cons, List.append_assoc]
theorem strRep_len (z : Str) (k : Nat) : (strRep z k).length = k * z.length := by
  show ((List.replicate k z.cps.toList).flatten.toArray).size = k * z.cps.size
  simp
section
variable {X : Cx} {C : RC}
theorem op_mulS : OpR X (binaryOp .Mult) rMulS := by
  intro pins s σ H x y v u Q I rx ry h
  obtain ⟨z, k, rfl, rfl, h1, h2, hz, q⟩ := h
  obtain ⟨t, rfl⟩ := rx
  obtain ⟨t', rfl⟩ := ry
  have hs : sizeLine = 16777216 := sizeLine_eq
  have hsz : (strRep z k.toNat).length ≤ sizeLine := by rw [strRep_len, Nat.mul_comm]; exact hz
  have fin : ∀ (t : Tok) (k' : Nat), EP X pins σ Q (.str (strRep z k.toNat) t) { s with toks := k' } := fun t k' => ⟨.str _, H, I.tok k', ⟨t, rfl⟩, q⟩
  refine PySem.P.mul_str ?_ (fun h3 h4 => ?_) (fun h3 h4 => ?_) ?_
  · rw [decide_eq_false (by omega), decide_eq_false (by omega)]; rfl
  · have hk : (0 : Int) < k := by omega
    have hle : (z.length : Int) * k ≤ 16777216 := by
      have e : ((z.length * k.toNat : Nat) : Int) = (z.length : Int) * k := by rw [Int.natCast_mul, Int.toNat_of_nonneg (by omega)]
      have := hz
      omega
    have : (z.length : Int) ≤ (2 ^ 63 - 1) / k := (Int.le_ediv_iff_mul_le hk).mpr (by omega)
    omega
  · unfold Builtin.Str.tooLong
    exact decide_eq_false (by omega)
  · by_cases c1 : k < 1
    · rw [if_pos c1]
      have e : strRep z k.toNat = Str.empty := by
        have : k.toNat = 0 := by omega
        rw [this]; rfl
      have f := fin s.toks (s.toks + 1)
      rw [e] at f hsz
      exact ⟨hsz, f⟩
    · rw [if_neg c1]
      by_cases c2 : (k == 1 || z.length == 0) = true
      · rw [if_pos c2]
        have e : strRep z k.toNat = z := by
          simp only [Bool.or_eq_true, beq_iff_eq] at c2
          rcases c2 with c2 | c2
          · subst c2
            show (⟨((List.replicate (1 : Int).toNat z.cps.toList).flatten).toArray⟩ : Str) = z
            cases z; simp
          · cases z with
            | mk cs =>
              have : cs = #[] := Array.eq_empty_of_size_eq_zero c2
              subst this
              show (⟨((List.replicate k.toNat ([] : List Nat)).flatten).toArray⟩ : Str) = ⟨#[]⟩
              simp
        have f := fin t s.toks
        rw [e] at f
        exact f
      · rw [if_neg c2]
        have e : (⟨(List.replicate k.toNat z.cps).foldl (· ++ ·) #[]⟩ : Str) = strRep z k.toNat := by
          have h := foldl_repA z.cps k.toNat []
          unfold strRep
          simp only [List.nil_append] at h
          rw [← h]
        rw [e]
        exact ⟨hsz, fin s.toks (s.toks + 1)⟩
end
end Se

namespace Se
open PySem L2

/-! ### == and != -/
def scD : D → Option V
  | .non => some .non
  | .bl b => some (.bl b)
  | .int i => some (.int i)
  | .str x => some (.str (sx x))
  | _ => none
mutual
def toPy : D → Option PyData
  | .non => some .none
  | .bl b => some (.bool b)
  | .int i => some (.int i)
  | .str x => some (.str (sx x))
  | .tup ds => (toPyL ds).map .tuple
  | .lst _ ds => (toPyL ds).map .list
  | _ => none
def toPyL : List D → Option (List PyData)
  | [] => some []
  | d :: ds => (toPy d).bind fun p => (toPyL ds).map fun ps => p :: ps
end
def eqD (d1 d2 : D) : Option Bool := match scD d1, scD d2 with
  | some x, some y => if scal x y = true then some (decide (x = y)) else none
  | _, _ => (toPy d1).bind fun p => (toPy d2).bind fun q => if SeqAt.shaped p = true ∧ SeqAt.shaped q = true then some (PyData.eqv p q) else none
def gEq (d1 d2 : D) : Option D := (eqD d1 d2).map .bl
def gNe (d1 d2 : D) : Option D := (eqD d1 d2).map fun b => .bl (!b)
section
variable {C : RC} {H : Hp}
theorem scD_rep {d : D} {v x : V} {o : List Addr} (h : Rep C H d v o) (e : scD d = some x) : v = x := by
  cases d <;> simp [scD] at e <;> (subst e; exact h.1)
mutual
theorem toPy_dp : ∀ {d : D} {p : PyData} {v : V} {o : List Addr}, Rep C H d v o → toPy d = some p → Dp C.K H v p
  | .non, p, v, o, h, e => by cases e; rw [h.1]; exact .non
  | .bl b, p, v, o, h, e => by cases e; rw [h.1]; exact .bl b
  | .int b, p, v, o, h, e => by cases e; rw [h.1]; exact .int b
  | .str b, p, v, o, h, e => by cases e; rw [h.1]; exact .str _
  | .tup ds, p, v, o, h, e => by
    obtain ⟨a, vs, rfl, hs, r⟩ := h
    simp only [toPy, Option.map_eq_some_iff] at e
    obtain ⟨ps, e1, rfl⟩ := e
    exact .tup hs (toPyL_dp r e1)
  | .lst true ds, p, v, o, h, e => by
    obtain ⟨a, vs, o', rfl, hs, r, _, _⟩ := h
    simp only [toPy, Option.map_eq_some_iff] at e
    obtain ⟨ps, e1, rfl⟩ := e
    exact .lst (SqL.of hs) (toPyL_dp r e1)
  | .lst false ds, p, v, o, h, e => by
    obtain ⟨a, vs, rfl, hs, r, _⟩ := h
    simp only [toPy, Option.map_eq_some_iff] at e
    obtain ⟨ps, e1, rfl⟩ := e
    exact .lst hs.sq (toPyL_dp r e1)
  | .ty _, p, v, o, h, e => by simp [toPy] at e
  | .obj _, p, v, o, h, e => by simp [toPy] at e
  | .exc _ _ _, p, v, o, h, e => by simp [toPy] at e
  | .dct _ _ _, p, v, o, h, e => by simp [toPy] at e
theorem toPyL_dp : ∀ {ds : List D} {ps : List PyData} {vs : List V} {o : List Addr}, RepL C H ds vs o → toPyL ds = some ps → DpAll C.K H vs ps
  | [], ps, vs, o, h, e => by cases e; rw [h.1]; exact .nil
  | d :: ds, ps, vs, o, h, e => by
    obtain ⟨v, vs', o1, o2, rfl, h1, h2, _, _⟩ := h
    simp only [toPyL, Option.bind_eq_some_iff, Option.map_eq_some_iff] at e
    obtain ⟨p, e1, ps', e2, rfl⟩ := e
    exact .cons (toPy_dp h1 e1) (toPyL_dp h2 e2)
end
theorem eqD_cases {d1 d2 : D} {v1 v2 : V} {o1 o2 : List Addr} {b : Bool} (r1 : Rep C H d1 v1 o1) (r2 : Rep C H d2 v2 o2) (e : eqD d1 d2 = some b) :
    (scal v1 v2 = true ∧ decide (v1 = v2) = b) ∨ ∃ p q, Dp C.K H v1 p ∧ Dp C.K H v2 q ∧ SeqAt.shaped p = true ∧ SeqAt.shaped q = true ∧ PyData.eqv p q = b := by
  unfold eqD at e
  split at e
  · rename_i x y h1 h2
    rw [scD_rep r1 h1, scD_rep r2 h2]
    split at e
    · rename_i hs
      exact .inl ⟨hs, Option.some.inj e⟩
    · cases e
  · simp only [Option.bind_eq_some_iff] at e
    obtain ⟨p, h1, q, h2, h3⟩ := e
    split at h3
    · rename_i hs
      exact .inr ⟨p, q, toPy_dp r1 h1, toPy_dp r2 h2, hs.1, hs.2, Option.some.inj h3⟩
    · cases h3
end
section
variable {X : Cx} {C : RC}
theorem vo_eq : VO2 C (fun x y H Q => rEq x y H Q ∨ rEqD C.K x y H Q) gEq := by
  intro d1 d2 d v1 v2 H o1 o2 Q r1 r2 hg hq
  simp only [gEq, Option.map_eq_some_iff] at hg
  obtain ⟨b, hb, rfl⟩ := hg
  have q : Q (.bl b) H := hq _ H [] ⟨rfl, rfl⟩ Ext.refl (by simp)
  rcases eqD_cases r1 r2 hb with ⟨h1, h2⟩ | ⟨p, q', h1, h2, h3, h4, h5⟩
  · exact .inl ⟨h1, by rw [h2]; exact q⟩
  · exact .inr ⟨p, q', h1, h2, h3, h4, by rw [h5]; exact q⟩
theorem vo_ne : VO2 C (fun x y H Q => rNe x y H Q ∨ rNeD C.K x y H Q) gNe := by
  intro d1 d2 d v1 v2 H o1 o2 Q r1 r2 hg hq
  simp only [gNe, Option.map_eq_some_iff] at hg
  obtain ⟨b, hb, rfl⟩ := hg
  have q : Q (.bl (!b)) H := hq _ H [] ⟨rfl, rfl⟩ Ext.refl (by simp)
  rcases eqD_cases r1 r2 hb with ⟨h1, h2⟩ | ⟨p, q', h1, h2, h3, h4, h5⟩
  · exact .inl ⟨h1, by rw [h2]; exact q⟩
  · exact .inr ⟨p, q', h1, h2, h3, h4, by rw [h5]; exact q⟩
theorem op_eqA (hu : X.A.units + 64 < cLine) : OpR X (compareOp .Eq) (fun x y H Q => rEq x y H Q ∨ rEqD X.K x y H Q) := op_eq.or (op_eqD hu)
theorem op_neA (hu : X.A.units + 64 < cLine) : OpR X (compareOp .NotEq) (fun x y H Q => rNe x y H Q ∨ rNeD X.K x y H Q) := op_ne.or (op_neD hu)

/-! ### order -/
def gCmp (p : Int → Int → Bool) : D → D → Option D
  | .int a, .int b => some (.bl (p a b))
  | _, _ => none
theorem vo_cmp (p : Int → Int → Bool) : VO2 C (rI0 fun i j => .bl (p i j)) (gCmp p) := vo_int0 (k := fun i j => .bl (p i j)) (fun _ _ _ => ⟨rfl, rfl⟩) fun a b d h => by
  unfold gCmp at h
  split at h
  · cases h; exact ⟨_, _, rfl, rfl, rfl⟩
  · cases h
abbrev gLt := gCmp fun a b => decide (a < b)
abbrev gLe := gCmp fun a b => decide (a ≤ b)
abbrev gGt := gCmp fun a b => decide (b < a)
abbrev gGe := gCmp fun a b => decide (b ≤ a)

/-! ### in -/
/-- flat data, as values -/
def flD : D → Bool
  | .non | .bl _ | .int _ | .str _ => true
  | _ => false
def eqF : D → D → Bool
  | .non, .non => true
  | .bl a, .bl b => a == b
  | .bl a, .int b => (if a then 1 else 0) == b
  | .int a, .bl b => a == (if b then 1 else 0)
  | .int a, .int b => a == b
  | .str a, .str b => a == b
  | _, _ => false
theorem sx_beq (a b : List Nat) : (sx a == sx b) = (a == b) := by
  rw [Bool.eq_iff_iff]
  simp only [beq_iff_eq]
  exact ⟨sx_inj, fun e => by rw [e]⟩
theorem eqF_rep {H : Hp} {d1 d2 : D} {v1 v2 : V} {o1 o2 : List Addr} (r1 : Rep C H d1 v1 o1) (r2 : Rep C H d2 v2 o2) (f1 : flD d1 = true) (f2 : flD d2 = true) : eqV v1 v2 = eqF d1 d2 := by
  cases d1 <;> simp [flD] at f1 <;> cases d2 <;> simp [flD] at f2 <;> rw [r1.1, r2.1] <;> first | rfl | exact sx_beq _ _
theorem flD_flat {H : Hp} {d : D} {v : V} {o : List Addr} (r : Rep C H d v o) (f : flD d = true) : flatV v = true := by
  cases d <;> simp [flD] at f <;> rw [r.1] <;> rfl
theorem inF_rep {H : Hp} {d : D} {v : V} {o : List Addr} (r : Rep C H d v o) (f : flD d = true) : ∀ {ds : List D} {vs : List V}, RepW C H ds vs → ds.all flD = true → vs.all flatV = true ∧ inV v vs = ds.any fun y => eqF y d
  | [], _, h, _ => by cases h; exact ⟨rfl, rfl⟩
  | x :: ds, _, h, q => by
    obtain ⟨y, vs, o', rfl, h1, h2⟩ := h
    simp only [List.all_cons, Bool.and_eq_true] at q
    obtain ⟨i1, i2⟩ := inF_rep r f h2 q.2
    refine ⟨by simp [flD_flat h1 q.1, i1], ?_⟩
    have e := eqF_rep h1 r q.1 f
    unfold inV at i2 ⊢
    simp only [List.any_cons, e, i2]
def inD (x y : D) : Option Bool := match y with
  | .str z => match x with
    | .str [c] => some (decide (c ∈ z))
    | _ => none
  | .lst _ ds => if flD x = true ∧ ds.all flD = true then some (ds.any fun y => eqF y x) else none
  | .tup ds => if flD x = true ∧ ds.all flD = true then some (ds.any fun y => eqF y x) else none
  | _ => none
def gIn (x y : D) : Option D := (inD x y).map .bl
def gNin (x y : D) : Option D := (inD x y).map fun b => .bl (!b)
def rInA (K : PySem.W.Frag) (neg : Bool) : R2 := fun x y H Q => (∃ (c : Nat) (z : Str), x = .str ⟨#[c]⟩ ∧ y = .str z ∧ Q (.bl (if neg then !decide (c ∈ z.cps.toList) else decide (c ∈ z.cps.toList))) H) ∨ rIn K neg x y H Q
theorem op_inA : OpR X (compareOp .In) (rInA X.K false) := OpR.or op_in_sign op_in_seq
theorem op_notin_sign : OpR X (compareOp .NotIn) (fun x y H Q => ∃ (c : Nat) (z : Str), x = .str ⟨#[c]⟩ ∧ y = .str z ∧ Q (.bl (!decide (c ∈ z.cps.toList))) H) := by
  intro pins s σ H x y v u Q I rx ry h
  obtain ⟨c, z, rfl, rfl, q⟩ := h
  refine op_notin_str pins s σ H _ _ v u Q I rx ry ⟨_, _, rfl, rfl, ?_⟩
  rw [StrLaws.found_one z c]
  exact q
theorem op_ninA : OpR X (compareOp .NotIn) (rInA X.K true) := OpR.or op_notin_sign op_notIn_seq
theorem vo_in_aux {neg : Bool} {d1 d2 : D} {v1 v2 : V} {H : Hp} {o1 o2 : List Addr} {Q : VK} {b : Bool} (r1 : Rep C H d1 v1 o1) (r2 : Rep C H d2 v2 o2) (hg : inD d1 d2 = some b) (q : Q (.bl (if neg then !b else b)) H) : rInA C.K neg v1 v2 H Q := by
  unfold inD at hg
  split at hg
  · rename_i z
    split at hg
    · rename_i c
      cases hg
      refine .inl ⟨c, sx z, r1.1, r2.1, ?_⟩
      rw [sx_list]
      exact q
    · cases hg
  · split at hg
    · rename_i hf
      cases hg
      obtain ⟨a, vs, rfl, hr, w⟩ := r2.lstS
      obtain ⟨h1, h2⟩ := inF_rep r1 hf.1 w hf.2
      refine .inr ⟨a, vs, rfl, .inl (.inl hr), flD_flat r1 hf.1, h1, ?_⟩
      rw [h2]; exact q
    · cases hg
  · split at hg
    · rename_i hf
      cases hg
      obtain ⟨a, vs, rfl, hr, w⟩ := r2.tupS
      obtain ⟨h1, h2⟩ := inF_rep r1 hf.1 w hf.2
      refine .inr ⟨a, vs, rfl, .inr hr, flD_flat r1 hf.1, h1, ?_⟩
      rw [h2]; exact q
    · cases hg
  · cases hg
theorem vo_in : VO2 C (rInA C.K false) gIn := by
  intro d1 d2 d v1 v2 H o1 o2 Q r1 r2 hg hq
  simp only [gIn, Option.map_eq_some_iff] at hg
  obtain ⟨b, hb, rfl⟩ := hg
  exact vo_in_aux r1 r2 hb (hq _ H [] ⟨rfl, rfl⟩ Ext.refl (by simp))
theorem vo_nin : VO2 C (rInA C.K true) gNin := by
  intro d1 d2 d v1 v2 H o1 o2 Q r1 r2 hg hq
  simp only [gNin, Option.map_eq_some_iff] at hg
  obtain ⟨b, hb, rfl⟩ := hg
  exact vo_in_aux (neg := true) r1 r2 hb (hq _ H [] ⟨rfl, rfl⟩ Ext.refl (by simp))

/-! ### is None, is True -/
def isNon : D → Bool
  | .non => true
  | _ => false
theorem isNon_rep {H : Hp} {d : D} {v : V} {o : List Addr} (r : Rep C H d v o) : decide (v = .non) = isNon d := by
  cases d with
  | lst f ds => obtain ⟨a, vs, rfl, _⟩ := r.lstS; rfl
  | tup ds => obtain ⟨a, vs, rfl, _⟩ := r.tupS; rfl
  | dct f ks ds => cases f <;> (obtain ⟨a, vs, ob, rfl, _⟩ := r; rfl)
  | exc c ns ds => obtain ⟨a, vs, ob, rfl, _⟩ := r; rfl
  | _ => rw [r.1]; rfl
def isD (x y : D) : Option Bool := match x, y with
  | x, .non => some (isNon x)
  | .bl a, .bl b => some (decide (a = b))
  | _, _ => none
def gIs (x y : D) : Option D := (isD x y).map .bl
def gIsn (x y : D) : Option D := (isD x y).map fun b => .bl (!b)
def rIsA : R2 := fun x y H Q => (y = .non ∧ Q (.bl (decide (x = .non))) H) ∨ rIsB x y H Q
def rIsnA : R2 := fun x y H Q => (y = .non ∧ Q (.bl (!decide (x = .non))) H) ∨ rNotB x y H Q
theorem op_isA : OpR X (compareOp .Is) rIsA := OpR.or op_isN op_isBl
theorem op_isnA : OpR X (compareOp .IsNot) rIsnA := OpR.or op_notN op_notBl
theorem vo_is : VO2 C rIsA gIs := by
  intro d1 d2 d v1 v2 H o1 o2 Q r1 r2 hg hq
  simp only [gIs, Option.map_eq_some_iff] at hg
  obtain ⟨b, hb, rfl⟩ := hg
  unfold isD at hb
  split at hb
  · cases hb
    exact .inl ⟨r2.1, by rw [isNon_rep r1]; exact hq _ H [] ⟨rfl, rfl⟩ Ext.refl (by simp)⟩
  · cases hb
    exact .inr ⟨_, _, r1.1, r2.1, hq _ H [] ⟨rfl, rfl⟩ Ext.refl (by simp)⟩
  · cases hb
theorem vo_isn : VO2 C rIsnA gIsn := by
  intro d1 d2 d v1 v2 H o1 o2 Q r1 r2 hg hq
  simp only [gIsn, Option.map_eq_some_iff] at hg
  obtain ⟨b, hb, rfl⟩ := hg
  unfold isD at hb
  split at hb
  · cases hb
    exact .inl ⟨r2.1, by rw [isNon_rep r1]; exact hq _ H [] ⟨rfl, rfl⟩ Ext.refl (by simp)⟩
  · cases hb
    exact .inr ⟨_, _, r1.1, r2.1, hq _ H [] ⟨rfl, rfl⟩ Ext.refl (by simp)⟩
  · cases hb
/-! ### - -/
def gNeg : D → Option D
  | .int a => some (.int (-a))
  | _ => none
theorem vo_neg : VO1 C (rU fun i => .int (-i)) gNeg := by
  intro d1 d v1 H o1 Q r1 hg hq
  unfold gNeg at hg
  split at hg
  · cases hg
    exact ⟨_, r1.1, hq _ H [] ⟨rfl, rfl⟩ Ext.refl (by simp)⟩
  · cases hg

/-! ### subscripts -/
def ixD {α : Type} (ds : List α) (i : Int) : Option α := if 0 ≤ i then ds[i.toNat]? else if -(ds.length : Int) ≤ i then ds[(i + ds.length).toNat]? else none
theorem ixD_map {α β : Type} (f : α → β) (ds : List α) (i : Int) : ixD (ds.map f) i = (ixD ds i).map f := by
  unfold ixD
  simp only [List.getElem?_map, List.length_map]
  split
  · rfl
  · split <;> rfl
theorem ixD_at {α : Type} {ds : List α} {i : Int} {d : α} (h : ixD ds i = some d) : ∃ j : Nat, ds[j]? = some d ∧ ∀ {β : Type} (vs : List β), vs.length = ds.length → atI vs i = vs[j]? := by
  unfold ixD at h
  split at h
  · rename_i h0
    refine ⟨_, h, fun vs e => ?_⟩
    have hl := (List.getElem?_eq_some_iff.mp h).1
    unfold atI ixN
    rw [if_pos h0, if_pos (by omega)]
    rfl
  · rename_i h0
    split at h
    · rename_i h1
      refine ⟨_, h, fun vs e => ?_⟩
      unfold atI ixN
      rw [if_neg h0, if_pos (by omega), e]
      rfl
    · cases h
def ixv (x y : D) : Option D := match x, y with
  | .str z, .int i => if z.length ≤ sizeLine then (ixD z i).map fun c => .str [c] else none
  | .lst _ ds, .int i => ixD ds i
  | .tup ds, .int i => ixD ds i
  | _, _ => none
def gIx (x y : D) : Option D := (ixv x y).bind fun d => if fz d = true then some d else none
theorem vv_ix : VV2 C (rIx C.K) ixv := by
  intro d1 d2 d v1 v2 H o1 o2 Q r1 r2 hg hq
  unfold ixv at hg
  split at hg
  · split at hg
    · rename_i z i hz
      simp only [Option.map_eq_some_iff] at hg
      obtain ⟨c, hc, rfl⟩ := hg
      obtain ⟨j, hj, ha⟩ := ixD_at hc
      refine .inr (.inr ⟨sx z, i, c, r1.1, r2.1, by rw [sx_len]; exact hz, by rw [sx_list, ha z rfl]; exact hj, hq _ H [] ⟨rfl, rfl⟩ Ext.refl⟩)
    · cases hg
  · obtain ⟨a, vs, rfl, hr, w⟩ := r1.lstS
    obtain ⟨j, hj, ha⟩ := ixD_at hg
    obtain ⟨v, o, hv, rv⟩ := w.at hj
    exact .inl ⟨a, vs, _, v, rfl, r2.1, .inl hr, by rw [ha vs w.len]; exact hv, hq v H o rv Ext.refl⟩
  · obtain ⟨a, vs, rfl, hr, w⟩ := r1.tupS
    obtain ⟨j, hj, ha⟩ := ixD_at hg
    obtain ⟨v, o, hv, rv⟩ := w.at hj
    exact .inr (.inl ⟨a, vs, _, v, rfl, r2.1, hr, by rw [ha vs w.len]; exact hv, hq v H o rv Ext.refl⟩)
  · cases hg
theorem vo_ix : VO2 C (rIx C.K) gIx := by
  intro d1 d2 d v1 v2 H o1 o2 Q r1 r2 hg hq
  simp only [gIx, Option.bind_eq_some_iff] at hg
  obtain ⟨d', h1, h2⟩ := hg
  split at h2
  · rename_i hf
    cases h2
    exact vv_ix _ _ _ _ _ H _ _ Q r1 r2 h1 fun v H' o rv k => hq v H' o rv k (by rw [Rep.fz_nil hf rv]; simp)
  · cases h2
end
end Se

namespace Se
open PySem L2

/-! ### places: paths into own lists -/
inductive Sel where
  | ix (i : Int) | ky (k : Key)
/-- the place of an index -/
def nrm (n : Nat) (i : Int) : Option Nat := if 0 ≤ i then (if i < n then some i.toNat else none) else if -(n : Int) ≤ i then some (i + n).toNat else none
theorem nrm_lt {n j : Nat} {i : Int} (h : nrm n i = some j) : j < n := by
  unfold nrm at h
  split at h
  · split at h
    · cases h; omega
    · cases h
  · split at h
    · cases h; omega
    · cases h
theorem nrm_ixN {n j : Nat} {i : Int} (h : nrm n i = some j) : ixN n i = some j := h
def getP : D → List Sel → Option D
  | d, [] => some d
  | .lst true ds, .ix i :: π => (nrm ds.length i).bind fun j => (ds[j]?).bind fun x => getP x π
  | .dct true ks ds, .ky k :: π => (ks.idxOf? k).bind fun j => (ds[j]?).bind fun x => getP x π
  | _, _ :: _ => none
def updP (d : D) (π : List Sel) (f : D → Option D) : Option D := match π with
  | [] => f d
  | .ix i :: π => match d with
    | .lst true ds => (nrm ds.length i).bind fun j => (ds[j]?).bind fun x => (updP x π f).map fun y => .lst true (ds.set j y)
    | _ => none
  | .ky k :: π => match d with
    | .dct true ks ds => (ks.idxOf? k).bind fun j => (ds[j]?).bind fun x => (updP x π f).map fun y => .dct true ks (ds.set j y)
    | _ => none
/-- the value at a path -/
def ValP (H : Hp) : V → List Sel → V → Prop
  | v, [], w => w = v
  | v, .ix i :: π, w => ∃ (a : Addr) (vs : List V) (j : Nat) (x : V), v = .ref a ∧ H a = some (.lst vs) ∧ nrm vs.length i = some j ∧ vs[j]? = some x ∧ ValP H x π w
  | v, .ky k :: π, w => ∃ (a : Addr) (ks : List Key) (vs : List V) (j : Nat) (x : V), v = .ref a ∧ H a = some (.dK (ks.zip vs)) ∧ ks.length = vs.length ∧ ks.idxOf? k = some j ∧ vs[j]? = some x ∧ ValP H x π w
theorem zip_inj : ∀ {ks ks' : List Key} {vs vs' : List V}, ks.length = vs.length → ks'.length = vs'.length → ks.zip vs = ks'.zip vs' → ks = ks' ∧ vs = vs'
  | [], [], [], [], _, _, _ => ⟨rfl, rfl⟩
  | [], _ :: _, [], _ :: _, _, _, h => by simp at h
  | _ :: _, [], _ :: _, [], _, _, h => by simp at h
  | k :: ks, k' :: ks', v :: vs, v' :: vs', h1, h2, h => by
    simp only [List.zip_cons_cons, List.cons.injEq, Prod.mk.injEq] at h
    obtain ⟨⟨rfl, rfl⟩, h⟩ := h
    obtain ⟨rfl, rfl⟩ := zip_inj (by simpa using h1) (by simpa using h2) h
    exact ⟨rfl, rfl⟩
  | [], _, _ :: _, _, h, _, _ => by simp at h
  | _ :: _, _, [], _, h, _, _ => by simp at h
  | _, [], _, _ :: _, _, h, _ => by simp at h
  | _, _ :: _, _, [], _, h, _ => by simp at h
theorem ValP.det {H : Hp} : ∀ {π : List Sel} {v w w' : V}, ValP H v π w → ValP H v π w' → w = w'
  | [], _, _, _, h, h' => h.trans h'.symm
  | .ix i :: π, _, _, _, h, h' => by
    obtain ⟨a, vs, j, x, rfl, e1, e2, e3, h⟩ := h
    obtain ⟨a', vs', j', x', e0, e1', e2', e3', h'⟩ := h'
    cases e0
    rw [e1] at e1'; cases e1'
    rw [e2] at e2'; cases e2'
    rw [e3] at e3'; cases e3'
    exact ValP.det h h'
  | .ky i :: π, _, _, _, h, h' => by
    obtain ⟨a, ks, vs, j, x, rfl, e1, l, e2, e3, h⟩ := h
    obtain ⟨a', ks', vs', j', x', e0, e1', l', e2', e3', h'⟩ := h'
    cases e0
    rw [e1] at e1'
    obtain ⟨rfl, rfl⟩ := zip_inj l l' (HO.dK.inj (Option.some.inj e1'))
    rw [e2] at e2'; cases e2'
    rw [e3] at e3'; cases e3'
    exact ValP.det h h'
section
variable {C : RC} {H : Hp}
/-- one element of a row replaced -/
theorem RepL.set : ∀ {ds : List D} {vs : List V} {o : List Addr} {j : Nat} {x : D}, RepL C H ds vs o → ds[j]? = some x → ∃ w ox, vs[j]? = some w ∧ Rep C H x w ox ∧ (∀ a ∈ ox, a ∈ o) ∧
    ∀ (H' : Hp) (y : D) (oy : List Addr), (∀ b ob, b ∉ ox → H b = some ob → H' b = some ob) → Rep C H' y w oy → (∀ a ∈ oy, a ∈ ox ∨ a ∉ o) → ∃ o', RepL C H' (ds.set j y) vs o' ∧ ∀ a ∈ o', (a ∈ o ∧ a ∉ ox) ∨ a ∈ oy
  | [], _, _, j, _, _, e => by simp at e
  | d :: ds, _, _, 0, x, h, e => by
    obtain ⟨v, vs', o1, o2, rfl, h1, h2, n, rfl⟩ := h
    simp at e; subst e
    refine ⟨v, o1, rfl, h1, fun a z => List.mem_append_left _ z, fun H' y oy k ry hy => ⟨oy ++ o2, ⟨v, vs', oy, o2, rfl, ry, RepL.keep (own := o1) (fun a ob q na => k a ob na q) h1.mut (fun a ha z => n a z ha) h2, fun a ha z => ?_, rfl⟩, fun a ha => ?_⟩⟩
    · rcases hy a ha with q | q
      · exact n a q z
      · exact q (List.mem_append_right _ z)
    · rcases List.mem_append.mp ha with z | z
      · exact .inr z
      · exact .inl ⟨List.mem_append_right _ z, fun q => n a q z⟩
  | d :: ds, _, _, j + 1, x, h, e => by
    obtain ⟨v, vs', o1, o2, rfl, h1, h2, n, rfl⟩ := h
    obtain ⟨w, ox, e1, rx, sx', f⟩ := RepL.set (j := j) h2 (by simpa using e)
    refine ⟨w, ox, by simpa using e1, rx, fun a z => List.mem_append_right _ (sx' a z), fun H' y oy k ry hy => ?_⟩
    obtain ⟨o', r', m⟩ := f H' y oy k ry fun a ha => by
      rcases hy a ha with q | q
      · exact .inl q
      · exact .inr fun z => q (List.mem_append_right _ z)
    refine ⟨o1 ++ o', ⟨v, vs', o1, o', rfl, h1.keep (own := ox) (fun a ob q na => k a ob na q) rx.mut fun a ha z => n a ha (sx' a z), r', fun a ha z => ?_, rfl⟩, fun a ha => ?_⟩
    · rcases m a z with ⟨q, _⟩ | q
      · exact n a ha q
      · rcases hy a q with q | q
        · exact n a ha (sx' a q)
        · exact q (List.mem_append_left _ ha)
    · rcases List.mem_append.mp ha with z | z
      · exact .inl ⟨List.mem_append_left _ z, fun q => n a z (sx' a q)⟩
      · rcases m a z with ⟨q, q'⟩ | q
        · exact .inl ⟨List.mem_append_right _ q, q'⟩
        · exact .inr q
theorem Rep.upd : ∀ {π : List Sel} {d d' : D} {v : V} {o : List Addr} {f : D → Option D}, Rep C H d v o → updP d π f = some d' → ∃ x y w ox, f x = some y ∧ getP d π = some x ∧ ValP H v π w ∧ Rep C H x w ox ∧ (∀ a ∈ ox, a ∈ o) ∧
    ∀ (H' : Hp) (oy : List Addr), (∀ b ob, b ∉ ox → H b = some ob → H' b = some ob) → Rep C H' y w oy → (∀ a ∈ oy, a ∈ ox ∨ a ∉ o) → ∃ o', Rep C H' d' v o' ∧ ∀ a ∈ o', (a ∈ o ∧ a ∉ ox) ∨ a ∈ oy
  | [], d, d', v, o, f, h, e => ⟨d, d', v, o, e, by cases d <;> rfl, rfl, h, fun _ z => z, fun H' oy k ry hy => ⟨oy, ry, fun a z => .inr z⟩⟩
  | .ix i :: π, d, d', v, o, f, h, e => by
    unfold updP at e
    split at e
    · rename_i ds
      simp only [Option.bind_eq_some_iff, Option.map_eq_some_iff] at e
      obtain ⟨j, hj, x, hx, y, hy, rfl⟩ := e
      obtain ⟨a, vs, o', rfl, hH, r, na, rfl⟩ := h
      obtain ⟨w, ox, hw, rx, sx', fx⟩ := r.set hx
      obtain ⟨x1, y1, w1, ox1, e1, g1, p1, r1, s1, f1⟩ := Rep.upd rx hy
      refine ⟨x1, y1, w1, ox1, e1, ?_, ⟨a, vs, j, w, rfl, hH, by rw [r.len]; exact hj, hw, p1⟩, r1, fun b z => List.mem_cons_of_mem _ (sx' b (s1 b z)), fun H' oy k ry ho => ?_⟩
      · simp only [getP, hj, hx, Option.bind_some, g1]
      · obtain ⟨o2, r2, m2⟩ := f1 H' oy k ry fun b hb => by
          rcases ho b hb with q | q
          · exact .inl q
          · exact .inr fun z => q (List.mem_cons_of_mem _ (sx' b z))
        have kx : ∀ b ob, b ∉ ox → H b = some ob → H' b = some ob := fun b ob nb q => k b ob (fun z => nb (s1 b z)) q
        obtain ⟨o3, r3, m3⟩ := fx H' y o2 kx r2 fun b hb => by
          rcases m2 b hb with ⟨q, _⟩ | q
          · exact .inl q
          · rcases ho b q with q | q
            · exact .inl (s1 b q)
            · exact .inr fun z => q (List.mem_cons_of_mem _ z)
        have hm : ∀ b ∈ o3, ((b ∈ a :: o') ∧ b ∉ ox1) ∨ b ∈ oy := fun b hb => by
          rcases m3 b hb with ⟨q, q'⟩ | q
          · exact .inl ⟨List.mem_cons_of_mem _ q, fun z => q' (s1 b z)⟩
          · rcases m2 b q with ⟨q, q'⟩ | q
            · exact .inl ⟨List.mem_cons_of_mem _ (sx' b q), q'⟩
            · exact .inr q
        refine ⟨a :: o3, ⟨a, vs, o3, rfl, k a _ (fun z => na (sx' a (s1 a z))) hH, r3, fun z => ?_, rfl⟩, fun b hb => ?_⟩
        · rcases m3 a z with ⟨q, _⟩ | q
          · exact na q
          · rcases m2 a q with ⟨q, _⟩ | q
            · exact na (sx' a q)
            · rcases ho a q with q | q
              · exact na (sx' a (s1 a q))
              · exact q List.mem_cons_self
        · rcases List.mem_cons.mp hb with rfl | hb
          · exact .inl ⟨List.mem_cons_self, fun z => na (sx' _ (s1 _ z))⟩
          · exact hm b hb
    · cases e
  | .ky i :: π, d, d', v, o, f, h, e => by
    unfold updP at e
    split at e
    · rename_i ks ds
      simp only [Option.bind_eq_some_iff, Option.map_eq_some_iff] at e
      obtain ⟨j, hj, x, hx, y, hy, rfl⟩ := e
      obtain ⟨a, vs, o', rfl, hH, hl, r, na, rfl⟩ := h
      obtain ⟨w, ox, hw, rx, sx', fx⟩ := r.set hx
      obtain ⟨x1, y1, w1, ox1, e1, g1, p1, r1, s1, f1⟩ := Rep.upd rx hy
      refine ⟨x1, y1, w1, ox1, e1, ?_, ⟨a, ks, vs, j, w, rfl, hH, by rw [r.len]; exact hl, hj, hw, p1⟩, r1, fun b z => List.mem_cons_of_mem _ (sx' b (s1 b z)), fun H' oy k ry ho => ?_⟩
      · simp only [getP, hj, hx, Option.bind_some, g1]
      · obtain ⟨o2, r2, m2⟩ := f1 H' oy k ry fun b hb => by
          rcases ho b hb with q | q
          · exact .inl q
          · exact .inr fun z => q (List.mem_cons_of_mem _ (sx' b z))
        have kx : ∀ b ob, b ∉ ox → H b = some ob → H' b = some ob := fun b ob nb q => k b ob (fun z => nb (s1 b z)) q
        obtain ⟨o3, r3, m3⟩ := fx H' y o2 kx r2 fun b hb => by
          rcases m2 b hb with ⟨q, _⟩ | q
          · exact .inl q
          · rcases ho b q with q | q
            · exact .inl (s1 b q)
            · exact .inr fun z => q (List.mem_cons_of_mem _ z)
        have hm : ∀ b ∈ o3, ((b ∈ a :: o') ∧ b ∉ ox1) ∨ b ∈ oy := fun b hb => by
          rcases m3 b hb with ⟨q, q'⟩ | q
          · exact .inl ⟨List.mem_cons_of_mem _ q, fun z => q' (s1 b z)⟩
          · rcases m2 b q with ⟨q, q'⟩ | q
            · exact .inl ⟨List.mem_cons_of_mem _ (sx' b q), q'⟩
            · exact .inr q
        refine ⟨a :: o3, ⟨a, vs, o3, rfl, k a _ (fun z => na (sx' a (s1 a z))) hH, by simpa using hl, r3, fun z => ?_, rfl⟩, fun b hb => ?_⟩
        · rcases m3 a z with ⟨q, _⟩ | q
          · exact na q
          · rcases m2 a q with ⟨q, _⟩ | q
            · exact na (sx' a q)
            · rcases ho a q with q | q
              · exact na (sx' a (s1 a q))
              · exact q List.mem_cons_self
        · rcases List.mem_cons.mp hb with rfl | hb
          · exact .inl ⟨List.mem_cons_self, fun z => na (sx' _ (s1 _ z))⟩
          · exact hm b hb
    · cases e
theorem ValP.ext {H' : Hp} (k : Ext H H') : ∀ {π : List Sel} {v w : V}, ValP H v π w → ValP H' v π w
  | [], _, _, h => h
  | .ix i :: π, _, _, h => by
    obtain ⟨a, vs, j, x, e, e1, e2, e3, h⟩ := h
    exact ⟨a, vs, j, x, e, k a _ e1, e2, e3, ValP.ext k h⟩
  | .ky i :: π, _, _, h => by
    obtain ⟨a, ks, vs, j, x, e, e1, l, e2, e3, h⟩ := h
    exact ⟨a, ks, vs, j, x, e, k a _ e1, l, e2, e3, ValP.ext k h⟩
/-- the datum at a path, represented; the path stands as long as what is owned stands -/
theorem Rep.getP : ∀ {π : List Sel} {d x : D} {v : V} {o : List Addr}, Rep C H d v o → Se.getP d π = some x → ∃ w ox, (∀ H' : Hp, (∀ a ∈ o, H' a = H a) → ValP H' v π w) ∧ Rep C H x w ox ∧ ∀ a ∈ ox, a ∈ o
  | [], d, x, v, o, h, e => by
    have e : d = x := by cases d <;> (simp [Se.getP] at e; exact e)
    subst e
    exact ⟨v, o, fun _ _ => rfl, h, fun _ z => z⟩
  | .ix i :: π, d, x, v, o, h, e => by
    cases d with
    | lst f ds =>
      cases f with
      | true =>
        simp only [Se.getP, Option.bind_eq_some_iff] at e
        obtain ⟨j, hj, y, hy, e⟩ := e
        obtain ⟨a, vs, o', rfl, hH, r, na, rfl⟩ := h
        obtain ⟨w, o2, hw, ry, sy⟩ := r.at hy
        obtain ⟨w2, o3, p, rx, s3⟩ := Rep.getP ry e
        refine ⟨w2, o3, fun H' k => ⟨a, vs, j, w, rfl, by rw [k a List.mem_cons_self]; exact hH, by rw [r.len]; exact hj, hw, p H' fun b hb => k b (List.mem_cons_of_mem _ (sy b hb))⟩, rx, fun b z => List.mem_cons_of_mem _ (sy b (s3 b z))⟩
      | false => simp [Se.getP] at e
    | dct f ks ds => cases f <;> simp [Se.getP] at e
    | _ => simp [Se.getP] at e
  | .ky i :: π, d, x, v, o, h, e => by
    cases d with
    | dct f ks ds =>
      cases f with
      | true =>
        simp only [Se.getP, Option.bind_eq_some_iff] at e
        obtain ⟨j, hj, y, hy, e⟩ := e
        obtain ⟨a, vs, o', rfl, hH, hl, r, na, rfl⟩ := h
        obtain ⟨w, o2, hw, ry, sy⟩ := r.at hy
        obtain ⟨w2, o3, p, rx, s3⟩ := Rep.getP ry e
        refine ⟨w2, o3, fun H' k => ⟨a, ks, vs, j, w, rfl, by rw [k a List.mem_cons_self]; exact hH, by rw [r.len]; exact hl, hj, hw, p H' fun b hb => k b (List.mem_cons_of_mem _ (sy b hb))⟩, rx, fun b z => List.mem_cons_of_mem _ (sy b (s3 b z))⟩
      | false => simp [Se.getP] at e
    | lst f ds => cases f <;> simp [Se.getP] at e
    | _ => simp [Se.getP] at e
theorem ValP.snoc : ∀ {π : List Sel} {s : Sel} {v u w : V}, ValP H v π u → ValP H u [s] w → ValP H v (π ++ [s]) w
  | [], s, v, u, w, h, h' => by cases h; exact h'
  | .ix i :: π, s, v, u, w, h, h' => by
    obtain ⟨a, vs, j, x, e, e1, e2, e3, h⟩ := h
    exact ⟨a, vs, j, x, e, e1, e2, e3, ValP.snoc h h'⟩
  | .ky i :: π, s, v, u, w, h, h' => by
    obtain ⟨a, ks, vs, j, x, e, e1, l, e2, e3, h⟩ := h
    exact ⟨a, ks, vs, j, x, e, e1, l, e2, e3, ValP.snoc h h'⟩
theorem getP_nil (d : D) : Se.getP d [] = some d := by cases d <;> rfl
theorem getP_snoc : ∀ {π : List Sel} {s : Sel} {d : D}, Se.getP d (π ++ [s]) = (Se.getP d π).bind fun x => Se.getP x [s]
  | [], s, d => by rw [getP_nil]; rfl
  | .ix i :: π, s, d => by
    cases d with
    | lst f ds =>
      cases f with
      | true =>
        simp only [List.cons_append, Se.getP, Option.bind_assoc]
        congr; funext j; congr; funext x
        exact getP_snoc
      | false => rfl
    | dct f ks ds => cases f <;> rfl
    | _ => rfl
  | .ky i :: π, s, d => by
    cases d with
    | dct f ks ds =>
      cases f with
      | true =>
        simp only [List.cons_append, Se.getP, Option.bind_assoc]
        congr; funext j; congr; funext x
        exact getP_snoc
      | false => rfl
    | lst f ds => cases f <;> rfl
    | _ => rfl
/-- a row's element replaced by another value -/
theorem RepL.setV : ∀ {ds : List D} {vs : List V} {o oy : List Addr} {j : Nat} {y : D} {w : V}, RepL C H ds vs o → Rep C H y w oy → (∀ a ∈ oy, a ∉ o) → ∃ o', RepL C H (ds.set j y) (vs.set j w) o' ∧ ∀ a ∈ o', a ∈ o ∨ a ∈ oy
  | [], _, _, oy, j, y, w, h, ry, n => by obtain ⟨rfl, rfl⟩ := h; exact ⟨[], ⟨rfl, rfl⟩, fun _ z => .inl z⟩
  | d :: ds, _, _, oy, 0, y, w, h, ry, n => by
    obtain ⟨v, vs', o1, o2, rfl, h1, h2, dj, rfl⟩ := h
    exact ⟨oy ++ o2, ⟨w, vs', oy, o2, rfl, ry, h2, fun a ha z => n a ha (List.mem_append_right _ z), rfl⟩, fun a ha => (List.mem_append.mp ha).elim .inr fun z => .inl (List.mem_append_right _ z)⟩
  | d :: ds, _, _, oy, j + 1, y, w, h, ry, n => by
    obtain ⟨v, vs', o1, o2, rfl, h1, h2, dj, rfl⟩ := h
    obtain ⟨o', r', m⟩ := RepL.setV (j := j) h2 ry fun a ha z => n a ha (List.mem_append_right _ z)
    refine ⟨o1 ++ o', ⟨v, _, o1, o', rfl, h1, r', fun a ha z => ?_, rfl⟩, fun a ha => ?_⟩
    · rcases m a z with q | q
      · exact dj a ha q
      · exact n a q (List.mem_append_left _ ha)
    · rcases List.mem_append.mp ha with z | z
      · exact .inl (List.mem_append_left _ z)
      · rcases m a z with q | q
        · exact .inl (List.mem_append_right _ q)
        · exact .inr q
theorem RepL.append : ∀ {ds es : List D} {vs ws : List V} {o o2 : List Addr}, RepL C H ds vs o → RepL C H es ws o2 → (∀ a ∈ o, a ∉ o2) → RepL C H (ds ++ es) (vs ++ ws) (o ++ o2)
  | [], _, _, _, _, _, h, h', _ => by obtain ⟨rfl, rfl⟩ := h; exact h'
  | d :: ds, es, _, ws, _, o2, h, h', n => by
    obtain ⟨v, vs', o1, o3, rfl, h1, h2, dj, rfl⟩ := h
    refine ⟨v, vs' ++ ws, o1, o3 ++ o2, rfl, h1, RepL.append h2 h' fun a ha z => n a (List.mem_append_right _ ha) z, fun a ha z => ?_, by rw [List.append_assoc]⟩
    rcases List.mem_append.mp z with q | q
    · exact dj a ha q
    · exact n a (List.mem_append_left _ ha) q
theorem RepL.split : ∀ {ds es : List D} {vs : List V} {o : List Addr}, RepL C H (ds ++ es) vs o → ∃ v1 v2 o1 o2, vs = v1 ++ v2 ∧ RepL C H ds v1 o1 ∧ RepL C H es v2 o2 ∧ (∀ a ∈ o1, a ∉ o2) ∧ o = o1 ++ o2
  | [], es, vs, o, h => ⟨[], vs, [], o, rfl, ⟨rfl, rfl⟩, h, (by simp), rfl⟩
  | d :: ds, es, _, _, h => by
    obtain ⟨v, vs', o1, o3, rfl, h1, h2, dj, rfl⟩ := h
    obtain ⟨v1, v2, p1, p2, rfl, r1, r2, n, rfl⟩ := RepL.split h2
    refine ⟨v :: v1, v2, o1 ++ p1, p2, rfl, ⟨v, v1, o1, p1, rfl, h1, r1, fun a ha z => dj a ha (List.mem_append_left _ z), rfl⟩, r2, fun a ha z => ?_, by rw [List.append_assoc]⟩
    rcases List.mem_append.mp ha with q | q
    · exact dj a q (List.mem_append_right _ z)
    · exact n a q z
/-- a leaf changed in its place, the slot filled again -/
theorem mut_core {ρ1 : Env} {σ : St} {own2 o : List Addr} {i : Nat} {d d' : D} {v0 v : V} {π : List Sel} {f : D → Option D} (er : ER C H ρ1 σ own2) (hi : ρ1[i]? = some none) (hs : σ[i]? = some (some v0)) (r : Rep C H d v0 o) (dj : ∀ a ∈ o, a ∉ own2)
    (hu : updP d π f = some d') (hp : ValP H v0 π v) : ∃ x y ox, f x = some y ∧ Se.getP d π = some x ∧ Rep C H x v ox ∧ (∀ a ∈ ox, a ∈ o) ∧
      ∀ (H' : Hp) (oy : List Addr), (∀ b ob, b ∉ ox → H b = some ob → H' b = some ob) → Rep C H' y v oy → (∀ b ∈ oy, b ∈ ox ∨ (b ∉ o ∧ b ∉ own2)) →
        ∃ own', ER C H' (ρ1.set i (some d')) σ own' ∧ ∀ b ∈ own', b ∈ own2 ∨ (b ∈ o ∧ b ∉ ox) ∨ b ∈ oy := by
  obtain ⟨x, y, w, ox, e1, g, p, rx, sx', f'⟩ := Rep.upd r hu
  have ew := p.det hp
  subst ew
  refine ⟨x, y, ox, e1, g, rx, sx', fun H' oy k ry ho => ?_⟩
  obtain ⟨o', r', m⟩ := f' H' oy k ry fun a ha => (ho a ha).imp id And.left
  have er' : ER C H' ρ1 σ own2 := er.keep (own := ox) (fun a ob q na => k a ob na q) rx.mut fun a ha z => dj a (sx' a z) ha
  obtain ⟨own', er2, m2⟩ := ER.put er' hi hs r' fun a ha z => by
    rcases m a ha with ⟨q, _⟩ | q
    · exact dj a q z
    · rcases ho a q with q | q
      · exact dj a (sx' a q) z
      · exact q.2 z
  refine ⟨own', er2, fun b hb => ?_⟩
  rcases (m2 b).mp hb with q | q
  · rcases m b q with q | q
    · exact .inr (.inl q)
    · exact .inr (.inr q)
  · exact .inl q
theorem Stp.pre {H1 H' : Hp} {own own1 own' : List Addr} (k : Ext H H1) (s : Stp H1 H' own1 own') (h : ∀ a ∈ own1, a ∈ own) : Stp H H' own own' := by
  refine ⟨fun a ob e n => s.keep a ob (k a ob e) fun z => n (h a z), fun a ha => ?_⟩
  rcases s.sub a ha with q | q
  · exact .inl (h a q)
  · right
    cases e : H a with
    | none => rfl
    | some ob => rw [k a ob e] at q; cases q
end

/-! ### expressions that tell a place -/
structure SP (X : Cx) (C : RC) (e : Expr) (p : Env → Option (Nat × List Sel)) : Prop where
  ex : ∃ t, PE X e t ∧ ∀ ρ σ H own Q, ER C H ρ σ own → ∀ i π d x, p ρ = some (i, π) → (ρ[i]?).join = some d → getP d π = some x →
    (∀ v0 v H', σ[i]? = some (some v0) → ValP H v0 π v → Ext H H' → Q v H') → t σ H Q
def pVar (i : Nat) : Env → Option (Nat × List Sel) := fun _ => some (i, [])
def pIx (p : Env → Option (Nat × List Sel)) (f : Env → Option D) : Env → Option (Nat × List Sel) := fun ρ => (p ρ).bind fun q => match f ρ with
  | some (.int k) => some (q.1, q.2 ++ [.ix k])
  | _ => none
section
variable {X : Cx} {W : WX} {C : RC} {e a b : Expr} {pos : Pos} {f : Env → Option D} {p : Env → Option (Nat × List Sel)}
theorem sp_var {i : Nat} {x : Str} (h : PE X (.Name x pos) (tVar i)) : SP X C (.Name x pos) (pVar i) := by
  refine ⟨_, h, fun ρ σ H own Q er j π d y hp hd hg hw => ?_⟩
  cases hp
  obtain ⟨v, o, own1, e1, r, _, _, _⟩ := er.take (join_some hd)
  exact ⟨v, e1, hw v v H e1 rfl Ext.refl⟩
theorem sp_ix (hp : SP X C a p) (hb : SV X C b f) (hs : PlainIx b := by exact fun _ _ => rfl) : SP X C (.Subscript a b pos) (pIx p f) := by
  obtain ⟨ta, pa, sa⟩ := hp.ex
  obtain ⟨tb, pb, sb⟩ := hb.ex
  refine ⟨_, pe_ix ix_list pa pb hs, fun ρ σ H own Q er i π d x hq hd hg hw => ?_⟩
  simp only [pIx, Option.bind_eq_some_iff] at hq
  obtain ⟨⟨i', π'⟩, h1, h2⟩ := hq
  split at h2
  · rename_i k hk
    cases h2
    rw [getP_snoc, Option.bind_eq_some_iff] at hg
    obtain ⟨y, hy, hx⟩ := hg
    obtain ⟨v0', o, own1, e1, r, _, _, _⟩ := er.take (join_some hd)
    obtain ⟨w, ow, pw, rw', _⟩ := r.getP hy
    obtain ⟨w2, _, pw2, _, _⟩ := rw'.getP hx
    have q2 := pw2 H fun _ _ => rfl
    refine sa ρ σ H own _ er i' π' d y h1 hd hy fun v0 v H1 es hv k1 => ?_
    rw [e1] at es; cases es
    have ev := hv.det (pw H fun _ _ => rfl)
    subst ev
    refine sb ρ σ H1 own _ (er.ext k1) _ hk fun vi H2 oi ri k2 => ?_
    obtain ⟨l, vs, j, u, rfl, g1, g2, g3, g4⟩ := id q2
    cases g4
    refine ⟨l, vs, k, w2, rfl, ri.1, .inl (.inl (k2 _ _ (k1 _ _ g1))), ?_, hw _ _ H2 e1 (hv.snoc q2) fun a ob z => k2 a ob (k1 a ob z)⟩
    unfold atI
    rw [show ixN vs.length k = some j from g2]
    exact g3
  · cases h2
end
end Se

namespace Se
open PySem L2

/-! ### methods that change a list in its place -/
/-- what a method does to the items, with its arguments: the items then, its value -/
abbrev GM := List D → List D → Option (List D × D)
abbrev VMut (C : RC) (r : V → List V → Hp → VK → Prop) (g : GM) : Prop := ∀ (ds ys ds' : List D) (d : D) (a : Addr) (vs ws : List V) (o oy : List Addr) (H : Hp) (Q : VK), H a = some (.lst vs) → RepL C H ds vs o → a ∉ o → RepL C H ys ws oy → (∀ x ∈ oy, x ≠ a ∧ x ∉ o) →
  g ds ys = some (ds', d) → (∀ v vs' o2 oR, RepL C H ds' vs' o2 → Rep C H d v oR → (∀ x ∈ o2, x ∉ oR) → (∀ x, x ∈ o2 ∨ x ∈ oR → x ∈ o ∨ x ∈ oy) → Q v (upd H a (.lst vs'))) → r (.ref a) ws H Q
def leafM (g : GM) (ys : List D) : D → Option D := fun l => match l with
  | .lst true ds => (g ds ys).map fun p => .lst true p.1
  | _ => none
def valM (g : GM) (ys : List D) : D → Option D := fun l => match l with
  | .lst true ds => (g ds ys).map fun p => p.2
  | _ => none
def isOwnL : D → Bool
  | .lst true _ => true
  | _ => false
/-- x.m(args), the arguments may do anything but look at x -/
def eMut (g : GM) (p : Env → Option (Nat × List Sel)) (ms : M (List D)) : M D := fun ρ => match p ρ with
  | some (i, π) => match (ρ[i]?).join with
    | some d => match getP d π with
      | some l => if isOwnL l = true then (ms (ρ.set i none)).bind fun ys ρ1 => match ρ1[i]?, updP d π (leafM g ys), valM g ys l with
          | some none, some d', some v => .ok v (ρ1.set i (some d'))
          | _, _, _ => .bad
        else .bad
      | none => .bad
    | none => .bad
  | none => .bad
/-- x.m(args), the arguments change nothing and are frozen -/
def eMutQ (g : GM) (p : Env → Option (Nat × List Sel)) (fs : Env → Option (List D)) : M D := fun ρ => match p ρ with
  | some (i, π) => match (ρ[i]?).join with
    | some d => match getP d π, fs ρ with
      | some l, some ys => if isOwnL l = true ∧ fzL ys = true then match updP d π (leafM g ys), valM g ys l with
          | some d', some v => .ok v (ρ.set i (some d'))
          | _, _ => .bad
        else .bad
      | _, _ => .bad
    | none => .bad
  | none => .bad
section
variable {X : Cx} {W : WX} {C : RC} {e o : Expr} {es : List Expr} {g : GM} {p : Env → Option (Nat × List Sel)} {ms : M (List D)} {fs : Env → Option (List D)} {r : V → List V → Hp → VK → Prop}
/-- the end of both -/
theorem mut_end {ρ1 : Env} {σ : St} {H0 H2 : Hp} {own own2 ow oy : List Addr} {i : Nat} {d d' l vl : D} {v0 v : V} {π : List Sel} {ys : List D} {ws : List V} {Q : VK} (vm : VMut C r g) (er : ER C H2 ρ1 σ own2) (hi : ρ1[i]? = some none) (hs : σ[i]? = some (some v0)) (rd : Rep C H2 d v0 ow)
    (dj : ∀ a ∈ ow, a ∉ own2) (hg : getP d π = some l) (hu : updP d π (leafM g ys) = some d') (hv : valM g ys l = some vl) (hp : ValP H2 v0 π v) (ry : RepL C H2 ys ws oy) (dy : ∀ a ∈ oy, a ∉ ow ∧ a ∉ own2)
    (k : ∀ a ob, H0 a = some ob → a ∉ own → H2 a = some ob) (so : ∀ a ∈ ow, a ∈ own) (sn : ∀ a, a ∈ oy ∨ a ∈ own2 → a ∈ own ∨ H0 a = none)
    (hw : PoE C W (.ok vl (ρ1.set i (some d'))) σ H0 own Q) : r v ws H2 Q := by
  obtain ⟨x, y, ox, e1, g1, rx, sx', fin⟩ := mut_core er hi hs rd dj hu hp
  rw [hg] at g1; cases g1
  cases l with
  | lst fl ds =>
    cases fl with
    | false => simp [valM] at hv
    | true =>
      simp only [valM, Option.map_eq_some_iff] at hv
      obtain ⟨⟨ds', vl'⟩, hgd, rfl⟩ := hv
      simp only [leafM, hgd, Option.map_some, Option.some.injEq] at e1
      subst e1
      obtain ⟨a, vs, o', rfl, hH, rl, na, rfl⟩ := rx
      refine vm ds ys ds' vl' a vs ws o' oy H2 Q hH rl na ry (fun x hx => ⟨fun z => (dy x hx).1 (z ▸ sx' a List.mem_cons_self), fun z => (dy x hx).1 (sx' x (List.mem_cons_of_mem _ z))⟩) hgd fun v' vs' o2 oR r2 rR dj2 sb => ?_
      have na2 : ∀ x, x ∈ o2 ∨ x ∈ oR → x ≠ a := fun x hx z => by
        subst z
        rcases sb x hx with q | q
        · exact na q
        · exact (dy x q).1 (sx' x List.mem_cons_self)
      have kk : Keeps H2 (upd H2 a (.lst vs')) [a] := fun b ob q nb => by
        rw [upd_ne (fun z => nb (by simp [z]))]; exact q
      have mm : Muts H2 [a] := fun b hb => by
        cases List.mem_singleton.mp hb
        exact ⟨_, hH, trivial⟩
      obtain ⟨own', erF, mF⟩ := fin (upd H2 a (.lst vs')) (a :: o2) (fun b ob nb q => kk b ob q fun z => nb (by cases List.mem_singleton.mp z; exact List.mem_cons_self))
        ⟨a, vs', o2, rfl, upd_same, r2.keep kk mm fun x hx z => na2 x (.inl hx) (List.mem_singleton.mp z), fun z => na2 a (.inl z) rfl, rfl⟩ (fun b hb => by
          rcases List.mem_cons.mp hb with rfl | hb
          · exact .inl List.mem_cons_self
          · rcases sb b (.inl hb) with q | q
            · exact .inl (List.mem_cons_of_mem _ q)
            · exact .inr (dy b q))
      refine hw v' _ oR own' (rR.keep kk mm fun x hx z => na2 x (.inr hx) (List.mem_singleton.mp z)) erF (fun b hb z => ?_) ⟨fun b ob q nb => kk b ob (k b ob q nb) fun z => ?_, fun b hb => ?_⟩
      · have hb' := sb b (.inr hb)
        rcases mF b z with q | ⟨q, q'⟩ | q
        · rcases hb' with w | w
          · exact dj b (sx' b (List.mem_cons_of_mem _ w)) q
          · exact (dy b w).2 q
        · rcases hb' with w | w
          · exact q' (List.mem_cons_of_mem _ w)
          · exact (dy b w).1 q
        · rcases List.mem_cons.mp q with rfl | q
          · exact na2 _ (.inr hb) rfl
          · exact dj2 b q hb
      · cases List.mem_singleton.mp z
        exact nb (so _ (sx' _ List.mem_cons_self))
      · have hin : ∀ b, b ∈ o' ∨ b ∈ oy → b ∈ own ∨ H0 b = none := fun b hb => by
          rcases hb with q | q
          · exact .inl (so b (sx' b (List.mem_cons_of_mem _ q)))
          · exact sn b (.inl q)
        rcases List.mem_append.mp hb with q | q
        · exact hin b (sb b (.inr q))
        · rcases mF b q with q | ⟨q, _⟩ | q
          · exact sn b (.inr q)
          · exact .inl (so b q)
          · rcases List.mem_cons.mp q with rfl | q
            · exact .inl (so _ (sx' _ List.mem_cons_self))
            · exact hin b (sb b (.inl q))
  | _ => simp [valM] at hv
theorem se_mut (pe : ∀ to t, PE X o to → PA X es t → PE X e (tBM X.K "list" r to t)) (vm : VMut C r g) (hp : SP X C o p) (ha : SA X W C es ms) : SE X W C e (eMut g p ms) := by
  obtain ⟨to, po, sp⟩ := hp.ex
  obtain ⟨ta, pa, sa⟩ := ha.ex
  refine ⟨_, pe to ta po pa, fun ρ σ H own Q er hw => ?_⟩
  unfold eMut at hw
  split at hw
  · rename_i i π hpp
    split at hw
    · rename_i d hd
      split at hw
      · rename_i l hl
        split at hw
        · rename_i hown
          obtain ⟨v0, ow, own1, e1, rd, er1, dj, mo⟩ := er.take (join_some hd)
          obtain ⟨w, ox, pw, rw', sw'⟩ := rd.getP hl
          refine sp ρ σ H own _ er i π d l hpp hd hl fun v0' v H1 es' hv k1 => ?_
          rw [e1] at es'; cases es'
          have ev := hv.det (pw H fun _ _ => rfl)
          subst ev
          have tyl : tyV X.K "list" v H1 := by
            cases l with
            | lst f ds =>
              obtain ⟨a, vs, rfl, hr, _⟩ := rw'.lstS
              refine .inl ⟨rfl, vs, .inl ?_⟩
              rcases hr with hr | ⟨ob, hr⟩
              · exact .inl (k1 _ _ hr)
              · exact .inr ⟨ob, k1 _ _ hr⟩
            | _ => simp [isOwnL] at hown
          refine ⟨tyl, sa (ρ.set i none) σ H1 own1 _ (er1.ext k1) (poA_bind (P := fun r => PoE C W r σ H own Q) hw (fun z => z) ?_ fun ys ρ1 ws H2 oy own2 ry er2 dj2 st hw2 => ?_)⟩
          · exact fun e' ρ' q cls dd H' own' x1 x2 st => q cls dd H' own' x1 x2 (st.pre k1 fun a ha => (mo a).mpr (.inr ha))
          · have er1x := er1.ext k1
            split at hw2
            · rename_i d' vl h1 h2 h3
              have djo : ∀ a ∈ ow, a ∉ oy ++ own2 := st.apart (rd.ext k1).mut dj
              have hk : ∀ a ∈ ow, H2 a = H a := fun a ha => by
                obtain ⟨u, q, _⟩ := rd.mut a ha
                rw [q]
                exact st.keep a u (k1 a u q) (dj a ha)
              exact mut_end vm er2 h1 e1 ((rd.ext k1).keep st.keep er1x.mut dj) (fun a ha z => djo a ha (List.mem_append_right _ z)) hl h2 h3 (pw H2 hk) ry (fun a ha => ⟨fun z => djo a z (List.mem_append_left _ ha), fun z => dj2 a ha z⟩)
                (fun a ob q nb => st.keep a ob (k1 a ob q) fun z => nb ((mo a).mpr (.inr z))) (fun a ha => (mo a).mpr (.inl ha)) (fun a ha => (st.pre k1 fun a ha => (mo a).mpr (.inr ha)).sub a (List.mem_append.mpr ha)) hw2
            · exact hw2.elim
        · exact hw.elim
      · exact hw.elim
    · exact hw.elim
  · exact hw.elim
theorem snd_mutQ {to : TE} {ta : TA} {K : PySem.W.Frag} (vm : VMut C r g) (sp : ∀ ρ σ H own Q, ER C H ρ σ own → ∀ i π d x, p ρ = some (i, π) → (ρ[i]?).join = some d → getP d π = some x →
    (∀ v0 v H', σ[i]? = some (some v0) → ValP H v0 π v → Ext H H' → Q v H') → to σ H Q) (sa : ∀ ρ σ H own Q, ER C H ρ σ own → ∀ ds, fs ρ = some ds → (∀ vs H', RepW C H' ds vs → Ext H H' → Q vs H') → ta σ H Q) :
    Snd W C (tBM K "list" r to ta) (eMutQ g p fs) := fun ρ σ H own Q er hw => by
  unfold eMutQ at hw
  split at hw
  · rename_i i π hpp
    split at hw
    · rename_i d hd
      split at hw
      · rename_i l ys hl hys
        split at hw
        · rename_i hown
          obtain ⟨hown, hfz⟩ := hown
          obtain ⟨v0, ow, own1, e1, rd, er1, dj, mo⟩ := er.take (join_some hd)
          obtain ⟨w, ox, pw, rw', sw'⟩ := rd.getP hl
          refine sp ρ σ H own _ er i π d l hpp hd hl fun v0' v H1 es' hv k1 => ?_
          rw [e1] at es'; cases es'
          have ev := hv.det (pw H fun _ _ => rfl)
          subst ev
          have tyl : tyV K "list" v H1 := by
            cases l with
            | lst f ds =>
              obtain ⟨a, vs, rfl, hr, _⟩ := rw'.lstS
              refine .inl ⟨rfl, vs, .inl ?_⟩
              rcases hr with hr | ⟨ob, hr⟩
              · exact .inl (k1 _ _ hr)
              · exact .inr ⟨ob, k1 _ _ hr⟩
            | _ => simp [isOwnL] at hown
          refine ⟨tyl, sa ρ σ H1 own _ (er.ext k1) ys hys fun ws H2 rws k2 => ?_⟩
          have k12 : Ext H H2 := fun a ob q => k2 a ob (k1 a ob q)
          split at hw
          · rename_i d' vl h2 h3
            have hii : i < ρ.length := (List.getElem?_eq_some_iff.mp (join_some hd)).1
            have hw' : PoE C W (.ok vl ((ρ.set i none).set i (some d'))) σ H own Q := by rw [List.set_set]; exact hw
            exact mut_end vm (er1.ext k12) (by rw [List.getElem?_set_self hii]) e1 (rd.ext k12) dj hl h2 h3 (hv.ext k12) (rws.fz hfz) (by simp) (fun a ob q _ => k12 a ob q) (fun a ha => (mo a).mpr (.inl ha)) (fun a ha => .inl (by
              rcases ha with q | q
              · cases q
              · exact (mo a).mpr (.inr q))) hw'
          · exact hw.elim
        · exact hw.elim
      · exact hw.elim
    · exact hw.elim
  · exact hw.elim
theorem se_mutQ (pe : ∀ to t, PE X o to → PA X es t → PE X e (tBM X.K "list" r to t)) (vm : VMut C r g) (hp : SP X C o p) (ha : SW X C es fs) : SE X W C e (eMutQ g p fs) := by
  obtain ⟨to, po, sp⟩ := hp.ex
  obtain ⟨ta, pa, sa⟩ := ha.ex
  exact ⟨_, pe to ta po pa, snd_mutQ vm sp sa⟩
theorem se_mut0 (pe : ∀ to, PE X o to → PE X e (tBM0 X.K "list" r to)) (vm : VMut C r g) (hp : SP X C o p) : SE X W C e (eMutQ g p wNil) := by
  obtain ⟨to, po, sp⟩ := hp.ex
  exact ⟨_, pe to po, snd_mutQ (ta := tNil) (K := X.K) vm sp fun ρ σ H own Q er ds hd hw => by cases hd; exact hw [] H rfl Ext.refl⟩
end
def gmAppend : GM := fun ds ys => match ys with
  | [y] => if ds.length < sizeLine then some (ds ++ [y], .non) else none
  | _ => none
def gmPop : GM := fun ds ys => match ys with
  | [] => (ds.getLast?).map fun x => (ds.dropLast, x)
  | _ => none
def gmPopAt : GM := fun ds ys => match ys with
  | [.int i] => if -(2 ^ 63) ≤ i ∧ i < 2 ^ 63 then (nrm ds.length i).bind fun j => (ds[j]?).map fun x => (ds.eraseIdx j, x) else none
  | _ => none
def gmExtend : GM := fun ds ys => match ys with
  | [.lst _ es] => if fzL es = true ∧ ds.length + es.length ≤ sizeLine then some (ds ++ es, .non) else none
  | _ => none
def gmInsert : GM := fun ds ys => match ys with
  | [.int i, y] => if ds.length < sizeLine ∧ 0 ≤ i ∧ i < 2 ^ 63 then some (ds.take i.toNat ++ [y] ++ ds.drop i.toNat, .non) else none
  | _ => none
theorem RepL.sing {C : RC} {H : Hp} {y : D} {ws : List V} {o : List Addr} (h : RepL C H [y] ws o) : ∃ w, ws = [w] ∧ Rep C H y w o := by
  obtain ⟨v, vs', o1, o2, rfl, h1, ⟨rfl, rfl⟩, _, rfl⟩ := h
  exact ⟨v, rfl, by rw [List.append_nil]; exact h1⟩
section
variable {C : RC}
theorem vm_append : VMut C rAppend gmAppend := by
  intro ds ys ds' d a vs ws o oy H Q hH r na ry dy hg hq
  unfold gmAppend at hg
  split at hg
  · split at hg
    · rename_i y hz
      cases hg
      obtain ⟨w, rfl, r1⟩ := ry.sing
      refine ⟨a, vs, w, rfl, rfl, hH, by rw [r.len]; exact hz, hq .non (vs ++ [w]) (o ++ oy) [] (r.append ⟨w, [], oy, [], rfl, r1, (show ([] : List V) = [] ∧ ([] : List Addr) = [] from ⟨rfl, rfl⟩), (by simp), (by simp)⟩ fun x hx z => (dy x z).2 hx) ⟨rfl, rfl⟩ (by simp) fun x hx => ?_⟩
      rcases hx with q | q
      · exact List.mem_append.mp q
      · cases q
    · cases hg
  · cases hg
theorem RepL.dropLast {H : Hp} {ds : List D} {x : D} {vs : List V} {o : List Addr} (h : RepL C H ds vs o) (e : ds.getLast? = some x) : ∃ w o1 o2, vs[vs.length - 1]? = some w ∧ RepL C H ds.dropLast vs.dropLast o1 ∧ Rep C H x w o2 ∧ (∀ a ∈ o1, a ∉ o2) ∧ o = o1 ++ o2 := by
  have hne : ds ≠ [] := by rintro rfl; simp at e
  have e2 : ds = ds.dropLast ++ [x] := by
    obtain ⟨ys', h2⟩ := List.getLast?_eq_some_iff.mp e
    rw [h2]; simp
  rw [e2] at h
  obtain ⟨v1, v2, o1, o2, rfl, r1, r2, n, rfl⟩ := h.split
  obtain ⟨w, rfl, r3⟩ := r2.sing
  exact ⟨w, o1, o2, by simp, by simpa using r1, r3, n, rfl⟩
theorem vm_pop : VMut C rPop gmPop := by
  intro ds ys ds' d a vs ws o oy H Q hH r na ry dy hg hq
  unfold gmPop at hg
  split at hg
  · simp only [Option.map_eq_some_iff] at hg
    obtain ⟨x, hx, e⟩ := hg
    cases e
    obtain ⟨rfl, rfl⟩ := ry
    obtain ⟨w, o1, o2, hw, r1, r2, n, rfl⟩ := r.dropLast hx
    exact ⟨a, vs, w, rfl, rfl, hH, hw, hq w _ o1 o2 r1 r2 n fun x hx => .inl (List.mem_append.mpr hx)⟩
  · cases hg
theorem RepL.erase {H : Hp} : ∀ {ds : List D} {x : D} {vs : List V} {o : List Addr} {j : Nat}, RepL C H ds vs o → ds[j]? = some x → ∃ w o1 o2, vs[j]? = some w ∧ RepL C H (ds.eraseIdx j) (vs.eraseIdx j) o1 ∧ Rep C H x w o2 ∧ (∀ a ∈ o1, a ∉ o2) ∧ ∀ a, a ∈ o1 ∨ a ∈ o2 → a ∈ o
  | [], _, _, _, j, _, e => by simp at e
  | d :: ds, x, _, _, 0, h, e => by
    obtain ⟨v, vs', o1, o2, rfl, h1, h2, n, rfl⟩ := h
    simp at e; subst e
    exact ⟨v, o2, o1, rfl, h2, h1, fun a ha z => n a z ha, fun a ha => List.mem_append.mpr ha.symm⟩
  | d :: ds, x, _, _, j + 1, h, e => by
    obtain ⟨v, vs', o1, o2, rfl, h1, h2, n, rfl⟩ := h
    obtain ⟨w, p1, p2, e1, r1, r2, n2, m⟩ := RepL.erase (j := j) h2 (by simpa using e)
    refine ⟨w, o1 ++ p1, p2, by simpa using e1, ⟨v, _, o1, p1, rfl, h1, r1, fun a ha z => n a ha (m a (.inl z)), rfl⟩, r2, fun a ha z => ?_, fun a ha => ?_⟩
    · rcases List.mem_append.mp ha with q | q
      · exact n a q (m a (.inr z))
      · exact n2 a q z
    · rcases ha with q | q
      · rcases List.mem_append.mp q with q | q
        · exact List.mem_append_left _ q
        · exact List.mem_append_right _ (m a (.inl q))
      · exact List.mem_append_right _ (m a (.inr q))
theorem RepW.ints {H : Hp} {i : Int} {ws : List V} (h : RepW C H [.int i] ws) : ws = [.int i] := by
  obtain ⟨v, vs, o, rfl, h1, rfl⟩ := h
  rw [h1.1]
theorem vm_popAt : VMut C rPopAt gmPopAt := by
  intro ds ys ds' d a vs ws o oy H Q hH r na ry dy hg hq
  unfold gmPopAt at hg
  split at hg
  · rename_i i
    split at hg
    · rename_i hb
      simp only [Option.bind_eq_some_iff, Option.map_eq_some_iff] at hg
      obtain ⟨j, hj, x, hx, e⟩ := hg
      cases e
      have ew := ry.w.ints
      subst ew
      obtain ⟨w, o1, o2, hw, r1, r2, n, m⟩ := r.erase hx
      have hj' : ixN vs.length i = some j := by rw [r.len]; exact hj
      exact ⟨a, vs, i, j, w, rfl, rfl, hH, hb.1, hb.2, (ixN_seq hj').1, hw, hq w _ o1 o2 r1 r2 n fun x hx => .inl (m x hx)⟩
    · cases hg
  · cases hg
end

/-! ### x[k] = value -/
def leafSet (k : Int) (y : D) : D → Option D := fun l => match l with
  | .lst true ds => (nrm ds.length k).map fun j => .lst true (ds.set j y)
  | _ => none
def sSet (me : M D) (p : Env → Option (Nat × List Sel)) (fk : Env → Option D) : MS := fun ρ => match me ρ with
  | .ok y ρ1 => match p ρ1, fk ρ1 with
    | some (i, π), some (.int k) => match (ρ1[i]?).join with
      | some d => match updP d π (leafSet k y) with
        | some d' => .nx (ρ1.set i (some d'))
        | none => .bad
      | none => .bad
    | _, _ => .bad
  | .ex e ρ1 => .ex e ρ1
  | .bad => .bad
theorem upd_get : ∀ {π : List Sel} {d d' : D} {f : D → Option D}, updP d π f = some d' → ∃ x, getP d π = some x ∧ (f x).isSome = true
  | [], d, d', f, h => ⟨d, getP_nil d, by rw [show f d = some d' from h]; rfl⟩
  | .ix i :: π, d, d', f, h => by
    unfold updP at h
    split at h
    · simp only [Option.bind_eq_some_iff, Option.map_eq_some_iff] at h
      obtain ⟨j, hj, x, hx, y, hy, rfl⟩ := h
      obtain ⟨z, hz, fz'⟩ := upd_get hy
      exact ⟨z, by simp only [getP, hj, hx, Option.bind_some, hz], fz'⟩
    · cases h
  | .ky i :: π, d, d', f, h => by
    unfold updP at h
    split at h
    · simp only [Option.bind_eq_some_iff, Option.map_eq_some_iff] at h
      obtain ⟨j, hj, x, hx, y, hy, rfl⟩ := h
      obtain ⟨z, hz, fz'⟩ := upd_get hy
      exact ⟨z, by simp only [getP, hj, hx, Option.bind_some, hz], fz'⟩
    · cases h
section
variable {X : Cx} {W : WX} {C : RC} {B : List Nat} {o k e : Expr} {me : M D} {p : Env → Option (Nat × List Sel)} {fk : Env → Option D} {pos p' : Pos}
theorem ss_set (he : SE X W C e me) (hp : SP X C o p) (hk : SV X C k fk) (ha : ∀ v, assign (.Subscript o k p') X.env v = (do
      let ov ← holding [v] (eval o X.env)
      let iv ← holding [v, ov] (eval k X.env)
      standAt p'
      holding [v, ov, iv] (setItem ov iv v)
      release [v, ov, iv] []) := by intro _; rfl)
    (hs : swapsWithSole [.Subscript o k p'] e pos.line X.env = pure false := by rfl) (hw : swappedStores [.Subscript o k p'] e X.env = pure none := by rfl)
    (h1 : (assignEach [.Subscript o k p'] X.env).map (·.2) = [assign (.Subscript o k p') X.env] := by rfl) : SS X W C B (.Assign [.Subscript o k p'] e pos) (sSet me p fk) := by
  obtain ⟨te, pe, se⟩ := he.ex
  obtain ⟨to, po, sp⟩ := hp.ex
  obtain ⟨tk, pk, sk⟩ := hk.ex
  refine ⟨_, ps_asg pe (pg_sub po pk set_list ha) hs hw h1, fun ρ σ H own Dn er hw => ?_⟩
  refine se ρ σ H own _ er ?_
  unfold sSet at hw
  cases hme : me ρ with
  | bad => rw [hme] at hw; exact hw.elim
  | ex e' ρ1 =>
    rw [hme] at hw
    exact fun cls d H' own' x1 x2 st => hw cls d σ H' own' x1 x2 st fun _ _ => rfl
  | ok y ρ1 =>
    rw [hme] at hw
    intro vy H1 oy own1 ry er1 dj1 st1
    dsimp only at hw
    split at hw
    · rename_i i π kk hpp hkk
      split at hw
      · rename_i d hd
        split at hw
        · rename_i d' hu
          obtain ⟨l, hl, hf⟩ := upd_get hu
          obtain ⟨v0, ow, ownr, e1, rd, err, dj, mo⟩ := er1.take (join_some hd)
          have hii : i < ρ1.length := (List.getElem?_eq_some_iff.mp (join_some hd)).1
          obtain ⟨w, ox0, pw, _, _⟩ := rd.getP hl
          refine sp ρ1 σ H1 own1 _ er1 i π d l hpp hd hl fun v0' v H2 es' hv k2 => ?_
          rw [e1] at es'; cases es'
          have ev := hv.det (pw H1 fun _ _ => rfl)
          subst ev
          refine sk ρ1 σ H2 own1 _ (er1.ext k2) _ hkk fun vk H3 ok' rk k3 => ?_
          obtain ⟨rfl, _⟩ := rk
          have k13 : Ext H1 H3 := fun a ob q => k3 a ob (k2 a ob q)
          obtain ⟨x, y', ox, e2, g1, rx, sx', fin⟩ := mut_core (err.ext k13) (by rw [List.getElem?_set_self hii]) e1 (rd.ext k13) dj hu (hv.ext k13)
          rw [hl] at g1; cases g1
          cases l with
          | lst fl ds =>
            cases fl with
            | false => simp [leafSet] at e2
            | true =>
              simp only [leafSet, Option.map_eq_some_iff] at e2
              obtain ⟨j, hj, rfl⟩ := e2
              obtain ⟨a, vs, o', rfl, hH, rl, na, rfl⟩ := rx
              have dyo : ∀ b ∈ oy, b ∉ ow ∧ b ∉ ownr := fun b hb => ⟨fun z => dj1 b hb ((mo b).mpr (.inl z)), fun z => dj1 b hb ((mo b).mpr (.inr z))⟩
              refine ⟨a, vs, kk, j, rfl, rfl, hH, by rw [rl.len]; exact hj, ?_⟩
              have ry3 := ry.ext k13
              obtain ⟨o2, r2, m2⟩ := rl.setV (j := j) ry3 fun b hb z => (dyo b hb).1 (sx' b (List.mem_cons_of_mem _ z))
              have na2 : a ∉ o2 := fun z => by
                rcases m2 a z with q | q
                · exact na q
                · exact (dyo a q).1 (sx' a List.mem_cons_self)
              have kk' : Keeps H3 (upd H3 a (.lst (vs.set j vy))) [a] := fun b ob q nb => by
                rw [upd_ne (fun z => nb (by simp [z]))]; exact q
              have mm : Muts H3 [a] := fun b hb => by
                cases List.mem_singleton.mp hb
                exact ⟨_, hH, trivial⟩
              obtain ⟨own', erF, mF⟩ := fin (upd H3 a (.lst (vs.set j vy))) (a :: o2) (fun b ob nb q => kk' b ob q fun z => nb (by cases List.mem_singleton.mp z; exact List.mem_cons_self))
                ⟨a, _, o2, rfl, upd_same, r2.keep kk' mm fun x hx z => na2 (by cases List.mem_singleton.mp z; exact hx), na2, rfl⟩ (fun b hb => by
                  rcases List.mem_cons.mp hb with rfl | hb
                  · exact .inl List.mem_cons_self
                  · rcases m2 b hb with q | q
                    · exact .inl (List.mem_cons_of_mem _ q)
                    · exact .inr (dyo b q))
              rw [List.set_set] at erF
              have inown : ∀ b, b ∈ ow ∨ b ∈ ownr ∨ b ∈ oy → b ∈ own ∨ H b = none := fun b hb => by
                rcases hb with q | q | q
                · exact st1.sub b (List.mem_append_right _ ((mo b).mpr (.inl q)))
                · exact st1.sub b (List.mem_append_right _ ((mo b).mpr (.inr q)))
                · exact st1.sub b (List.mem_append_left _ q)
              refine hw σ _ own' erF ⟨fun b ob q nb => kk' b ob (k13 b ob (st1.keep b ob q nb)) fun z => ?_, fun b hb => ?_⟩ fun _ _ => rfl
              · cases List.mem_singleton.mp z
                rcases inown _ (.inl (sx' _ List.mem_cons_self)) with w | w
                · exact nb w
                · rw [q] at w; cases w
              · rcases mF b hb with q | ⟨q, _⟩ | q
                · exact inown b (.inr (.inl q))
                · exact inown b (.inl q)
                · rcases List.mem_cons.mp q with rfl | q
                  · exact inown _ (.inl (sx' _ List.mem_cons_self))
                  · rcases m2 b q with q | q
                    · exact inown b (.inl (sx' b (List.mem_cons_of_mem _ q)))
                    · exact inown b (.inr (.inr q))
          | _ => simp [leafSet] at e2
        · exact hw.elim
      · exact hw.elim
    · exact hw.elim
end
end Se

namespace Se
open PySem L2

/-! ### tests -/
def tB (ma : M D) : M Bool := fun ρ => (ma ρ).bind fun d ρ1 => match d with
  | .bl b => .ok b ρ1
  | _ => .bad
def truD : D → Option Bool
  | .non => some false
  | .bl b => some b
  | .int i => some (i != 0)
  | .str x => if x.length ≤ sizeLine then some (x.length != 0) else none
  | .lst _ ds => some (!ds.isEmpty)
  | .tup ds => some (!ds.isEmpty)
  | _ => none
def tV (f : Env → Option D) : M Bool := fun ρ => ofO ((f ρ).bind truD) ρ
def tE (ma : M D) : M Bool := fun ρ => (ma ρ).bind fun d ρ1 => ofO (truD d) ρ1
def tAndM (ma mb : M Bool) : M Bool := fun ρ => (ma ρ).bind fun b ρ1 => if b = true then mb ρ1 else .ok false ρ1
def tOrM (ma mb : M Bool) : M Bool := fun ρ => (ma ρ).bind fun b ρ1 => if b = true then .ok true ρ1 else mb ρ1
def tNotM (ma : M Bool) : M Bool := fun ρ => (ma ρ).bind fun b ρ1 => .ok (!b) ρ1
def eIf (mc : M Bool) (ma mb : M D) : M D := fun ρ => (mc ρ).bind fun b ρ1 => if b = true then ma ρ1 else mb ρ1
/-- and, or, not as values -/
def eAnd (ma mb : M D) : M D := fun ρ => (ma ρ).bind fun d ρ1 => match d with
  | .bl b => if b = true then mb ρ1 else .ok (.bl false) ρ1
  | _ => .bad
def eOr (ma mb : M D) : M D := fun ρ => (ma ρ).bind fun d ρ1 => match d with
  | .bl b => if b = true then .ok (.bl true) ρ1 else mb ρ1
  | _ => .bad
def eNot (ma : M D) : M D := fun ρ => (ma ρ).bind fun d ρ1 => match d with
  | .bl b => .ok (.bl (!b)) ρ1
  | _ => .bad
structure STW (X : Cx) (W : WX) (C : RC) (e : Expr) (m : M Bool) : Prop where
  ex : ∃ t, PW X e t ∧ ∀ ρ σ H own Q, ER C H ρ σ own → PoT C W (m ρ) σ H own Q → t σ H Q
abbrev SndT (W : WX) (C : RC) (t : TT) (m : M Bool) : Prop := ∀ ρ σ H own Q, ER C H ρ σ own → PoT C W (m ρ) σ H own Q → t σ H Q
section
variable {X : Cx} {W : WX} {C : RC} {e a b c : Expr} {rest : List Expr} {ma mb : M D} {na nb nc : M Bool} {fa fb f : Env → Option D} {pos : Pos}
theorem snd_tB {t : TE} (s : Snd W C t ma) : SndT W C (tTest t) (Se.tB ma) := fun ρ σ H own Q er hw => by
  have hw : PoT C W ((ma ρ).bind fun d ρ1 => match d with
    | .bl b => .ok b ρ1
    | _ => .bad) σ H own Q := hw
  refine s ρ σ H own _ er (poE_bind (P := fun r => PoT C W r σ H own Q) hw (fun z => z) exT fun d ρ1 v H1 o own1 r e1 j st hw1 => ?_)
  split at hw1
  · exact ⟨_, r.1, hw1 H1 own1 e1 (st.less fun a ha => List.mem_append_right _ ha)⟩
  · exact hw1.elim
theorem snd_ofV {t : TE} (s : SndV C t f) : Snd W C t (eQ f) := fun ρ σ H own Q er hw => by
  unfold eQ at hw
  split at hw
  · rename_i d hd
    split at hw
    · rename_i hf
      refine s ρ σ H own Q er d hd fun v H' o r k => ?_
      have eo := Rep.fz_nil hf r
      subst eo
      exact hw v H' [] own r (er.ext k) (by simp) ⟨fun a ob q _ => k a ob q, fun a z => .inl (by simpa using z)⟩
    · exact hw.elim
  · exact hw.elim
/-- a comparison as a test -/
theorem st_op2 {r : R2} {g : D → D → Option D} (pt : ∀ ta tb, PE X a ta → PE X b tb → PT X e (tTest (tOp r ta tb))) (vo : VO2 C r g) (ha : SE X W C a ma) (hb : SE X W C b mb) : ST X W C e (Se.tB (eOp2 g ma mb)) := by
  obtain ⟨ta, pa, sa⟩ := ha.ex
  obtain ⟨tb, pb, sb⟩ := hb.ex
  exact ⟨_, pt ta tb pa pb, snd_tB (snd_op2 vo sa sb)⟩
theorem stv_op2 {r : R2} {g : D → D → Option D} (pt : ∀ ta tb, PE X a ta → PE X b tb → PT X e (tTest (tOp r ta tb))) (vo : VO2 C r g) (ha : SV X C a fa) (hb : SV X C b fb) : ST X W C e (Se.tB (eV (vOp2 g fa fb))) := by
  obtain ⟨ta, pa, sa⟩ := ha.ex
  obtain ⟨tb, pb, sb⟩ := hb.ex
  exact ⟨_, pt ta tb pa pb, snd_tB (snd_v2 vo sa sb)⟩
theorem tru_rep {H : Hp} {d : D} {v : V} {o : List Addr} {b : Bool} (r : Rep C H d v o) (h : truD d = some b) : TruV C.K v H b := by
  unfold truD at h
  split at h
  · cases h; rw [r.1]; rfl
  · cases h; rw [r.1]; rfl
  · cases h; rw [r.1]; rfl
  · split at h
    · rename_i hz
      cases h; rw [r.1]
      refine ⟨by rw [sx_len]; exact hz, ?_⟩
      rw [sx_len]
      rename_i x
      cases x <;> simp <;> omega
    · cases h
  · cases h
    obtain ⟨a, vs, rfl, hr, w⟩ := r.lstS
    refine .inl ⟨vs, .inl hr, ?_⟩
    have := w.len
    rename_i f ds
    cases ds <;> cases vs <;> simp at this ⊢
  · cases h
    obtain ⟨a, vs, rfl, hr, w⟩ := r.tupS
    refine .inr (.inl ⟨vs, hr, ?_⟩)
    have := w.len
    rename_i ds
    cases ds <;> cases vs <;> simp at this ⊢
  · cases h
/-- a view's truth -/
theorem stv_tru (he : ∀ whole, isTrue e X.env whole = (do let v ← whole; standAt e.pos; holding [v] (truthy v))) (hK : C.K = X.K) (h : SV X C e f) : ST X W C e (tV f) := by
  obtain ⟨t, pe, s⟩ := h.ex
  refine ⟨_, pt_truth pe he, fun ρ σ H own Q er hw => ?_⟩
  unfold tV ofO at hw
  split at hw
  · rename_i b hb
    simp only [Option.bind_eq_some_iff] at hb
    obtain ⟨d, hd, hb⟩ := hb
    refine s ρ σ H own _ er d hd fun v H' o r k => ⟨b, by rw [← hK]; exact tru_rep r hb, ?_⟩
    exact hw H' own (er.ext k) ⟨fun a ob q _ => k a ob q, fun a z => .inl z⟩
  · exact hw.elim
theorem st_tru (he : ∀ whole, isTrue e X.env whole = (do let v ← whole; standAt e.pos; holding [v] (truthy v))) (hK : C.K = X.K) (h : SE X W C e ma) : ST X W C e (tE ma) := by
  obtain ⟨t, pe, s⟩ := h.ex
  refine ⟨_, pt_truth pe he, fun ρ σ H own Q er hw => ?_⟩
  have hw : PoT C W ((ma ρ).bind fun d ρ1 => ofO (truD d) ρ1) σ H own Q := hw
  refine s ρ σ H own _ er (poE_bind (P := fun r => PoT C W r σ H own Q) hw (fun z => z) exT fun d ρ1 v H1 o own1 r e1 j st hw1 => ?_)
  unfold ofO at hw1
  split at hw1
  · rename_i b hb
    exact ⟨b, by rw [← hK]; exact tru_rep r hb, hw1 H1 own1 e1 (st.less fun a ha => List.mem_append_right _ ha)⟩
  · exact hw1.elim
theorem stw_and1 (ha : ST X W C a na) : STW X W C (.BoolOp .And [a] pos) na := by
  obtain ⟨t, p, s⟩ := ha.ex
  exact ⟨t, pw_and1 p, s⟩
theorem stw_or1 (ha : ST X W C a na) : STW X W C (.BoolOp .Or [a] pos) na := by
  obtain ⟨t, p, s⟩ := ha.ex
  exact ⟨t, pw_or1 p, s⟩
theorem stw_and (ha : ST X W C a na) (hb : STW X W C (.BoolOp .And (b :: rest) pos) nb) : STW X W C (.BoolOp .And (a :: b :: rest) pos) (tAndM na nb) := by
  obtain ⟨t, p, s⟩ := ha.ex
  obtain ⟨u, q, s2⟩ := hb.ex
  refine ⟨_, pw_and p q, fun ρ σ H own Q er hw => ?_⟩
  have hw : PoT C W ((na ρ).bind fun b ρ1 => if b = true then nb ρ1 else .ok false ρ1) σ H own Q := hw
  refine s ρ σ H own _ er (poT_bind (P := fun r => PoT C W r σ H own Q) hw (fun z => z) exT fun d ρ1 H1 own1 e1 st hw1 => ?_)
  cases d with
  | true =>
    rw [if_pos rfl] at hw1 ⊢
    refine s2 ρ1 σ H1 own1 _ e1 ?_
    cases hr : nb ρ1 with
    | ok b2 ρ2 => rw [hr] at hw1; exact fun H2 own2 e2 st2 => hw1 H2 own2 e2 (st.trans st2)
    | ex e' ρ2 => rw [hr] at hw1; exact fun cls dd H2 own2 x e2 st2 => hw1 cls dd H2 own2 x e2 (st.trans st2)
    | bad => rw [hr] at hw1; exact hw1
  | false =>
    rw [if_neg Bool.false_ne_true] at hw1 ⊢
    exact hw1 H1 own1 e1 st
theorem stw_or (ha : ST X W C a na) (hb : STW X W C (.BoolOp .Or (b :: rest) pos) nb) : STW X W C (.BoolOp .Or (a :: b :: rest) pos) (tOrM na nb) := by
  obtain ⟨t, p, s⟩ := ha.ex
  obtain ⟨u, q, s2⟩ := hb.ex
  refine ⟨_, pw_or p q, fun ρ σ H own Q er hw => ?_⟩
  have hw : PoT C W ((na ρ).bind fun b ρ1 => if b = true then .ok true ρ1 else nb ρ1) σ H own Q := hw
  refine s ρ σ H own _ er (poT_bind (P := fun r => PoT C W r σ H own Q) hw (fun z => z) exT fun d ρ1 H1 own1 e1 st hw1 => ?_)
  cases d with
  | true =>
    rw [if_pos rfl] at hw1 ⊢
    exact hw1 H1 own1 e1 st
  | false =>
    rw [if_neg Bool.false_ne_true] at hw1 ⊢
    refine s2 ρ1 σ H1 own1 _ e1 ?_
    cases hr : nb ρ1 with
    | ok b2 ρ2 => rw [hr] at hw1; exact fun H2 own2 e2 st2 => hw1 H2 own2 e2 (st.trans st2)
    | ex e' ρ2 => rw [hr] at hw1; exact fun cls dd H2 own2 x e2 st2 => hw1 cls dd H2 own2 x e2 (st.trans st2)
    | bad => rw [hr] at hw1; exact hw1
theorem stw_t (h : STW X W C e na) : ST X W C e na := by
  obtain ⟨t, p, s⟩ := h.ex
  exact ⟨t, p.pt, s⟩
theorem st_not (ha : ST X W C a na) : ST X W C (.UnaryOp .Not a pos) (tNotM na) := by
  obtain ⟨t, p, s⟩ := ha.ex
  refine ⟨_, pt_not p, fun ρ σ H own Q er hw => ?_⟩
  have hw : PoT C W ((na ρ).bind fun b ρ1 => .ok (!b) ρ1) σ H own Q := hw
  exact s ρ σ H own _ er (poT_bind (P := fun r => PoT C W r σ H own Q) hw (fun z => z) exT fun d ρ1 H1 own1 e1 st hw1 => hw1 H1 own1 e1 st)
/-- a step's result from a later base -/
theorem PoE.later {r : RE D} {σ : St} {H H1 : Hp} {own own1 : List Addr} {Q : VK} (h : PoE C W r σ H own Q) (st : Stp H H1 own own1) : PoE C W r σ H1 own1 Q := by
  cases r with
  | ok d ρ => exact fun v H2 o own2 r e2 j st2 => h v H2 o own2 r e2 j (st.trans st2)
  | ex e ρ => exact fun cls dd H2 own2 x e2 st2 => h cls dd H2 own2 x e2 (st.trans st2)
  | bad => exact h
theorem se_if (hc : ST X W C c nc) (ha : SE X W C a ma) (hb : SE X W C b mb) : SE X W C (.IfExp c a b pos) (eIf nc ma mb) := by
  obtain ⟨t, p, s⟩ := hc.ex
  obtain ⟨ta, pa, sa⟩ := ha.ex
  obtain ⟨tb, pb, sb⟩ := hb.ex
  refine ⟨_, pe_ifExp p pa pb, fun ρ σ H own Q er hw => ?_⟩
  have hw : PoE C W ((nc ρ).bind fun b ρ1 => if b = true then ma ρ1 else mb ρ1) σ H own Q := hw
  refine s ρ σ H own _ er (poT_bind (P := fun r => PoE C W r σ H own Q) hw (fun z => z) exE fun d ρ1 H1 own1 e1 st hw1 => ?_)
  cases d with
  | true =>
    rw [if_pos rfl] at hw1 ⊢
    exact sa ρ1 σ H1 own1 Q e1 (hw1.later st)
  | false =>
    rw [if_neg Bool.false_ne_true] at hw1 ⊢
    exact sb ρ1 σ H1 own1 Q e1 (hw1.later st)
theorem se_one {op} (h : SE X W C a ma) : SE X W C (.BoolOp op [a] pos) ma := by
  obtain ⟨t, p, s⟩ := h.ex
  exact ⟨t, pe_one p, s⟩
theorem PoE.lessTemp {r : RE D} {σ : St} {H H1 : Hp} {own o own1 : List Addr} {Q : VK} (h : PoE C W r σ H own Q) (st : Stp H H1 own (o ++ own1)) : PoE C W r σ H1 own1 Q := h.later (st.less fun a ha => List.mem_append_right _ ha)
theorem se_and (ha : SE X W C a ma) (hb : SE X W C (.BoolOp .And (b :: rest) pos) mb) : SE X W C (.BoolOp .And (a :: b :: rest) pos) (eAnd ma mb) := by
  obtain ⟨t, p, s⟩ := ha.ex
  obtain ⟨u, q, s2⟩ := hb.ex
  refine ⟨_, pe_and p q, fun ρ σ H own Q er hw => ?_⟩
  have hw : PoE C W ((ma ρ).bind fun d ρ1 => match d with
    | .bl b => if b = true then mb ρ1 else .ok (.bl false) ρ1
    | _ => .bad) σ H own Q := hw
  refine s ρ σ H own _ er (poE_bind (P := fun r => PoE C W r σ H own Q) hw (fun z => z) exE fun d ρ1 v H1 o own1 r e1 j st hw1 => ?_)
  split at hw1
  · rename_i k
    refine ⟨k, r.1, ?_⟩
    cases k with
    | true => rw [if_pos rfl] at hw1 ⊢; exact s2 ρ1 σ H1 own1 Q e1 (hw1.lessTemp st)
    | false => rw [if_neg Bool.false_ne_true] at hw1 ⊢; exact hw1.lessTemp st _ H1 [] own1 ⟨rfl, rfl⟩ e1 (by simp) (Stp.refl (by simp))
  · exact hw1.elim
theorem se_or (ha : SE X W C a ma) (hb : SE X W C (.BoolOp .Or (b :: rest) pos) mb) : SE X W C (.BoolOp .Or (a :: b :: rest) pos) (eOr ma mb) := by
  obtain ⟨t, p, s⟩ := ha.ex
  obtain ⟨u, q, s2⟩ := hb.ex
  refine ⟨_, pe_or p q, fun ρ σ H own Q er hw => ?_⟩
  have hw : PoE C W ((ma ρ).bind fun d ρ1 => match d with
    | .bl b => if b = true then .ok (.bl true) ρ1 else mb ρ1
    | _ => .bad) σ H own Q := hw
  refine s ρ σ H own _ er (poE_bind (P := fun r => PoE C W r σ H own Q) hw (fun z => z) exE fun d ρ1 v H1 o own1 r e1 j st hw1 => ?_)
  split at hw1
  · rename_i k
    refine ⟨k, r.1, ?_⟩
    cases k with
    | true => rw [if_pos rfl] at hw1 ⊢; exact hw1.lessTemp st _ H1 [] own1 ⟨rfl, rfl⟩ e1 (by simp) (Stp.refl (by simp))
    | false => rw [if_neg Bool.false_ne_true] at hw1 ⊢; exact s2 ρ1 σ H1 own1 Q e1 (hw1.lessTemp st)
  · exact hw1.elim
theorem se_not (ha : SE X W C a ma) : SE X W C (.UnaryOp .Not a pos) (eNot ma) := by
  obtain ⟨t, p, s⟩ := ha.ex
  refine ⟨_, pe_not p, fun ρ σ H own Q er hw => ?_⟩
  have hw : PoE C W ((ma ρ).bind fun d ρ1 => match d with
    | .bl b => .ok (.bl (!b)) ρ1
    | _ => .bad) σ H own Q := hw
  refine s ρ σ H own _ er (poE_bind (P := fun r => PoE C W r σ H own Q) hw (fun z => z) exE fun d ρ1 v H1 o own1 r e1 j st hw1 => ?_)
  split at hw1
  · exact ⟨_, r.1, hw1.lessTemp st _ H1 [] own1 ⟨rfl, rfl⟩ e1 (by simp) (Stp.refl (by simp))⟩
  · exact hw1.elim

/-! ### displays -/
def eTup (ms : M (List D)) : M D := fun ρ => (ms ρ).bind fun ds ρ1 => if ds.length ≤ sizeLine then .ok (.tup ds) ρ1 else .bad
def eLst (ms : M (List D)) : M D := fun ρ => (ms ρ).bind fun ds ρ1 => if ds.length ≤ sizeLine then .ok (.lst true ds) ρ1 else .bad
theorem se_tup {es : List Expr} {ms : M (List D)} {x1} (h : SA X W C es ms) : SE X W C (.Tuple es x1 pos) (eTup ms) := by
  obtain ⟨t, p, s⟩ := h.ex
  refine ⟨_, pe_tup p, fun ρ σ H own Q er hw => ?_⟩
  have hw : PoE C W ((ms ρ).bind fun ds ρ1 => if ds.length ≤ sizeLine then .ok (.tup ds) ρ1 else .bad) σ H own Q := hw
  refine s ρ σ H own _ er (poA_bind (P := fun r => PoE C W r σ H own Q) hw (fun z => z) exE fun ds ρ1 vs H1 o own1 r e1 j st hw1 => ?_)
  split at hw1
  · rename_i hz
    refine ⟨by rw [r.len]; exact hz, fun p hp => ?_⟩
    exact hw1.fin st e1 j (Ext.new hp) ⟨p, vs, rfl, .inl (.inl upd_same), r.ext (Ext.new hp)⟩ fun a ha => .inl ha
  · exact hw1.elim
theorem se_lst {es : List Expr} {ms : M (List D)} (h : SA X W C es ms) : SE X W C (.List es pos) (eLst ms) := by
  obtain ⟨t, p, s⟩ := h.ex
  refine ⟨_, pe_lst p, fun ρ σ H own Q er hw => ?_⟩
  have hw : PoE C W ((ms ρ).bind fun ds ρ1 => if ds.length ≤ sizeLine then .ok (.lst true ds) ρ1 else .bad) σ H own Q := hw
  refine s ρ σ H own _ er (poA_bind (P := fun r => PoE C W r σ H own Q) hw (fun z => z) exE fun ds ρ1 vs H1 o own1 r e1 j st hw1 => ?_)
  split at hw1
  · rename_i hz
    refine ⟨by rw [r.len]; exact hz, fun p hp => ?_⟩
    have np : p ∉ o := fun z => by
      obtain ⟨u, q, _⟩ := r.mut p z
      rw [hp] at q; cases q
    exact hw1.fin st e1 j (o2 := p :: o) (Ext.new hp) ⟨p, vs, o, rfl, upd_same, r.ext (Ext.new hp), np, rfl⟩ fun a ha => by
      rcases List.mem_cons.mp ha with rfl | q
      · exact .inr hp
      · exact .inl q
  · exact hw1.elim

/-! ### x[e], e may do anything -/
def eIxVar (g : D → D → Option D) (i : Nat) (mb : M D) : M D := fun ρ => match (ρ[i]?).join with
  | some _ => (mb ρ).bind fun k ρ1 => ofO (((ρ1[i]?).join).bind fun d => g d k) ρ1
  | none => .bad
theorem se_ixvar {i : Nat} {x : Str} {p : Pos} {r : R2} {g : D → D → Option D} (hv : PE X (.Name x p) (tVar i)) (pe : ∀ ta tb, PE X (.Name x p) ta → PE X b tb → PE X e (tOp r ta tb)) (vo : VO2 C r g) (hb : SE X W C b mb) : SE X W C e (eIxVar g i mb) := by
  obtain ⟨tb, pb, sb⟩ := hb.ex
  refine ⟨_, pe _ tb hv pb, fun ρ σ H own Q er hw => ?_⟩
  unfold eIxVar at hw
  split at hw
  · rename_i d0 hd0
    obtain ⟨v, _, _, e1, _, _, _, _⟩ := er.take (join_some hd0)
    refine ⟨v, e1, sb ρ σ H own _ er (poE_bind (P := fun r => PoE C W r σ H own Q) hw (fun z => z) exE fun d ρ1 vk H1 o own1 r e2 j st hw1 => ?_)⟩
    unfold ofO at hw1
    split at hw1
    · rename_i y hy
      simp only [Option.bind_eq_some_iff] at hy
      obtain ⟨d1, h1, h2⟩ := hy
      obtain ⟨v', o', _, e1', r1, _, _, _⟩ := e2.take (join_some h1)
      rw [e1] at e1'; cases e1'
      exact vo d1 d y v vk H1 o' o Q r1 r h2 fun v2 H' o2 rv k hn => hw1.fin st e2 j k rv fun a ha => .inr (hn a ha)
    · exact hw1.elim
  · exact hw.elim
end
end Se

namespace Se
open PySem L2

/-! ### statements -/
def sNil : MS := fun ρ => .nx ρ
def sSeq (m n : MS) : MS := fun ρ => match m ρ with
  | .nx ρ1 => n ρ1
  | r => r
def sAsg (i : Nat) (me : M D) : MS := fun ρ => match me ρ with
  | .ok d ρ1 => if i < ρ1.length then .nx (ρ1.set i (some d)) else .bad
  | .ex e ρ1 => .ex e ρ1
  | .bad => .bad
def sExpr (me : M D) : MS := fun ρ => match me ρ with
  | .ok _ ρ1 => .nx ρ1
  | .ex e ρ1 => .ex e ρ1
  | .bad => .bad
def sRet (me : M D) : MS := fun ρ => match me ρ with
  | .ok d ρ1 => .rt d ρ1
  | .ex e ρ1 => .ex e ρ1
  | .bad => .bad
def sRetN : MS := fun ρ => .rt .non ρ
def sIf (mc : M Bool) (m n : MS) : MS := fun ρ => match mc ρ with
  | .ok b ρ1 => if b = true then m ρ1 else n ρ1
  | .ex e ρ1 => .ex e ρ1
  | .bad => .bad
def sBreak : MS := fun ρ => .bk ρ
def sCont : MS := fun ρ => .ct ρ
def whileF (mc : M Bool) (m : MS) : Nat → MS
  | 0, _ => .bad
  | n + 1, ρ => match mc ρ with
    | .ok b ρ1 => if b = true then (match m ρ1 with
        | .nx ρ2 => whileF mc m n ρ2
        | .ct ρ2 => whileF mc m n ρ2
        | .bk ρ2 => .nx ρ2
        | r => r) else .nx ρ1
    | .ex e ρ1 => .ex e ρ1
    | .bad => .bad
/-- more turns than any loop takes -/
def wF : Nat := 2 ^ 24
def sWhile (mc : M Bool) (m : MS) : MS := fun ρ => whileF mc m wF ρ
def forF (f : D → Env → Option Env) (m : MS) : List D → MS
  | [], ρ => .nx ρ
  | d :: ds, ρ => match f d ρ with
    | some ρ1 => (match m ρ1 with
      | .nx ρ2 => forF f m ds ρ2
      | .ct ρ2 => forF f m ds ρ2
      | .bk ρ2 => .nx ρ2
      | r => r)
    | none => .bad
def sFor (mi : M (List D)) (f : D → Env → Option Env) (m : MS) : MS := fun ρ => match mi ρ with
  | .ok ds ρ1 => forF f m ds ρ1
  | .ex e ρ1 => .ex e ρ1
  | .bad => .bad
section
variable {X : Cx} {W : WX} {C : RC} {B : List Nat} {st : Stmt} {sts : List Stmt} {m n : MS} {me : M D} {e : Expr} {pos : Pos}
theorem PoS.later {r : SR} {σ σ1 : St} {H H1 : Hp} {own own1 : List Addr} {Dn : Ends} (h : PoS C W B r σ H own Dn) (s : Stp H H1 own own1) (b : ∀ j ∈ B, σ1[j]? = σ[j]?) : PoS C W B r σ1 H1 own1 Dn := by
  cases r with
  | nx ρ => exact fun σ' H' own' er s' b' => h σ' H' own' er (s.trans s') fun j hj => (b' j hj).trans (b j hj)
  | rt d ρ => exact fun v σ' H' o own' r er dj s' b' => h v σ' H' o own' r er dj (s.trans s') fun j hj => (b' j hj).trans (b j hj)
  | bk ρ => exact fun σ' H' own' er s' b' => h σ' H' own' er (s.trans s') fun j hj => (b' j hj).trans (b j hj)
  | ct ρ => exact fun σ' H' own' er s' b' => h σ' H' own' er (s.trans s') fun j hj => (b' j hj).trans (b j hj)
  | ex e ρ => exact fun cls d σ' H' own' x er s' b' => h cls d σ' H' own' x er (s.trans s') fun j hj => (b' j hj).trans (b j hj)
  | bad => exact h
theorem sss_nil : SSs X W C B [] sNil := ⟨_, pss_nil, fun ρ σ H own Dn er hw => hw σ H own er (Stp.refl fun _ z => z) fun _ _ => rfl⟩
theorem sss_cons (h1 : SS X W C B st m) (h2 : SSs X W C B sts n) : SSs X W C B (st :: sts) (sSeq m n) := by
  obtain ⟨t, p, s⟩ := h1.ex
  obtain ⟨u, q, s2⟩ := h2.ex
  refine ⟨_, pss_cons p q, fun ρ σ H own Dn er hw => ?_⟩
  refine s ρ σ H own _ er ?_
  unfold sSeq at hw
  cases hm : m ρ with
  | nx ρ1 => rw [hm] at hw; exact fun σ' H' own' er' s' b' => s2 ρ1 σ' H' own' Dn er' (PoS.later hw s' b')
  | rt d ρ1 => rw [hm] at hw; exact hw
  | bk ρ1 => rw [hm] at hw; exact hw
  | ct ρ1 => rw [hm] at hw; exact hw
  | ex e ρ1 => rw [hm] at hw; exact hw
  | bad => rw [hm] at hw; exact hw
theorem sss_one (h1 : SS X W C B st m) : SSs X W C B [st] m := by
  obtain ⟨t, p, s⟩ := h1.ex
  exact ⟨t, pss_one p, s⟩
/-- from an expression's result to a statement's -/
theorem poS_e {r : RE D} {k : D → Env → SR} {σ : St} {H : Hp} {own : List Addr} {Dn : Ends} {Q1 : VK}
    (hw : PoS C W B (match r with
      | .ok d ρ1 => k d ρ1
      | .ex e ρ1 => .ex e ρ1
      | .bad => .bad) σ H own Dn)
    (hok : ∀ d ρ' v H' o own', Rep C H' d v o → ER C H' ρ' σ own' → (∀ a ∈ o, a ∉ own') → Stp H H' own (o ++ own') → PoS C W B (k d ρ') σ H own Dn → Q1 v H') : PoE C W r σ H own Q1 := by
  cases r with
  | ok d ρ' => exact fun v H' o own' r1 r2 r3 r4 => hok d ρ' v H' o own' r1 r2 r3 r4 hw
  | ex e ρ' => exact fun cls d H' own' x er s => hw cls d σ H' own' x er s fun _ _ => rfl
  | bad => exact (show False from hw).elim
theorem poS_t {r : RE Bool} {k : Bool → Env → SR} {σ : St} {H : Hp} {own : List Addr} {Dn : Ends} {Q1 : Bool → Hp → Prop}
    (hw : PoS C W B (match r with
      | .ok d ρ1 => k d ρ1
      | .ex e ρ1 => .ex e ρ1
      | .bad => .bad) σ H own Dn)
    (hok : ∀ d ρ' H' own', ER C H' ρ' σ own' → Stp H H' own own' → PoS C W B (k d ρ') σ H own Dn → Q1 d H') : PoT C W r σ H own Q1 := by
  cases r with
  | ok d ρ' => exact fun H' own' r2 r4 => hok d ρ' H' own' r2 r4 hw
  | ex e ρ' => exact fun cls d H' own' x er s => hw cls d σ H' own' x er s fun _ _ => rfl
  | bad => exact (show False from hw).elim
theorem snd_asg {t : TE} {i : Nat} (s : Snd W C t me) (hi : i ∉ B) : ∀ ρ σ H own Dn, ER C H ρ σ own → PoS C W B (sAsg i me ρ) σ H own Dn → tAsg t (gName i) Dn σ H := fun ρ σ H own Dn er hw => by
  refine s ρ σ H own _ er (poS_e (k := fun d ρ1 => if i < ρ1.length then .nx (ρ1.set i (some d)) else .bad) hw fun d ρ1 v H1 o own1 r e1 j st hw1 => ?_)
  split at hw1
  · rename_i hl
    obtain ⟨own2, e2, m2⟩ := e1.set hl r j
    refine hw1 _ H1 own2 e2 (st.less fun a ha => List.mem_append.mpr (m2 a ha)) fun k hk => ?_
    rw [List.getElem?_set_ne (fun z => hi (by rw [z]; exact hk))]
  · exact hw1.elim
theorem ss_asg {i : Nat} (pe : ∀ te, PE X e te → PS X st (tAsg te (gName i))) (he : SE X W C e me) (hi : i ∉ B := by decide) : SS X W C B st (sAsg i me) := by
  obtain ⟨t, p, s⟩ := he.ex
  exact ⟨_, pe t p, snd_asg s hi⟩
theorem ss_expr (he : SE X W C e me) (hs : swapsWith e none pos.line X.env = pure false := by rfl) : SS X W C B (.Expr e pos) (sExpr me) := by
  obtain ⟨t, p, s⟩ := he.ex
  refine ⟨_, ps_expr p hs, fun ρ σ H own Dn er hw => ?_⟩
  exact s ρ σ H own _ er (poS_e (k := fun _ ρ1 => .nx ρ1) hw fun d ρ1 v H1 o own1 r e1 j st hw1 => hw1 σ H1 own1 e1 (st.less fun a ha => List.mem_append_right _ ha) fun _ _ => rfl)
theorem ss_doc {x j pos pos'} : SS X W C B (.Expr (.Constant (.str x) j pos) pos') sNil := ⟨_, ps_doc, fun ρ σ H own Dn er hw => hw σ H own er (Stp.refl fun _ z => z) fun _ _ => rfl⟩
theorem ss_pass : SS X W C B (.Pass pos) sNil := ⟨_, ps_pass, fun ρ σ H own Dn er hw => hw σ H own er (Stp.refl fun _ z => z) fun _ _ => rfl⟩
theorem ss_break : SS X W C B (.Break pos) sBreak := ⟨_, ps_break, fun ρ σ H own Dn er hw => hw σ H own er (Stp.refl fun _ z => z) fun _ _ => rfl⟩
theorem ss_cont : SS X W C B (.Continue pos) sCont := ⟨_, ps_continue, fun ρ σ H own Dn er hw => hw σ H own er (Stp.refl fun _ z => z) fun _ _ => rfl⟩
theorem ss_ret (he : SE X W C e me) : SS X W C B (.Return (some e) pos) (sRet me) := by
  obtain ⟨t, p, s⟩ := he.ex
  refine ⟨_, ps_ret p, fun ρ σ H own Dn er hw => ?_⟩
  exact s ρ σ H own _ er (poS_e (k := fun d ρ1 => .rt d ρ1) hw fun d ρ1 v H1 o own1 r e1 j st hw1 => hw1 v σ H1 o own1 r e1 j st fun _ _ => rfl)
theorem ss_retN : SS X W C B (.Return none pos) sRetN := ⟨_, ps_retN, fun ρ σ H own Dn er hw => hw .non σ H [] own ⟨rfl, rfl⟩ er (by simp) (Stp.refl fun _ z => z) fun _ _ => rfl⟩
theorem ss_if {c : Expr} {a b : List Stmt} {mc : M Bool} (hc : ST X W C c mc) (ha : SSs X W C B a m) (hb : SSs X W C B b n) : SS X W C B (.If c a b pos) (sIf mc m n) := by
  obtain ⟨t, p, s⟩ := hc.ex
  obtain ⟨ta, pa, sa⟩ := ha.ex
  obtain ⟨tb, pb, sb⟩ := hb.ex
  refine ⟨_, ps_if p pa pb, fun ρ σ H own Dn er hw => ?_⟩
  refine s ρ σ H own _ er (poS_t (k := fun b ρ1 => if b = true then m ρ1 else n ρ1) hw fun d ρ1 H1 own1 e1 st hw1 => ?_)
  cases d with
  | true =>
    rw [if_pos rfl] at hw1 ⊢
    exact sa ρ1 σ H1 own1 Dn e1 (PoS.later hw1 st fun _ _ => rfl)
  | false =>
    rw [if_neg Bool.false_ne_true] at hw1 ⊢
    exact sb ρ1 σ H1 own1 Dn e1 (PoS.later hw1 st fun _ _ => rfl)
theorem ss_while {c : Expr} {body : List Stmt} {mc : M Bool} (hp : PassesOwn (model X.prog X.w) X.A X.env X.xe) (hc : ST X W C c mc) (hb : SSs X W C B body m) : SS X W C B (.While c body [] pos) (sWhile mc m) := by
  obtain ⟨t, p, s⟩ := hc.ex
  obtain ⟨tb, pb, sb⟩ := hb.ex
  refine ⟨_, ps_while hp p pb, fun ρ σ H own Dn er hw => ?_⟩
  refine ⟨fun k σ1 H1 => ∃ ρ1 own1, ER C H1 ρ1 σ1 own1 ∧ Stp H H1 own own1 ∧ (∀ j ∈ B, σ1[j]? = σ[j]?) ∧ PoS C W B (whileF mc m k ρ1) σ H own Dn, ⟨wF, ρ, own, er, Stp.refl fun _ z => z, fun _ _ => rfl, hw⟩, ?_⟩
  rintro k σ1 H1 ⟨ρ1, own1, e1, s1, b1, hw1⟩
  cases k with
  | zero => exact (show False from hw1).elim
  | succ k =>
    refine s ρ1 σ1 H1 own1 _ e1 ?_
    unfold whileF at hw1
    cases hc' : mc ρ1 with
    | bad => rw [hc'] at hw1; exact hw1
    | ex e ρ2 => rw [hc'] at hw1; exact fun cls d H2 own2 x e2 s2 => hw1 cls d σ1 H2 own2 x e2 (s1.trans s2) b1
    | ok b ρ2 =>
      rw [hc'] at hw1
      intro H2 own2 e2 s2
      have s12 := s1.trans s2
      cases b with
      | false => exact hw1 σ1 H2 own2 e2 s12 b1
      | true =>
        refine ⟨fun σ3 H3 => ∃ ρ3 own3, ER C H3 ρ3 σ3 own3 ∧ Stp H H3 own own3 ∧ (∀ j ∈ B, σ3[j]? = σ[j]?) ∧ PoS C W B (whileF mc m k ρ3) σ H own Dn, fun σ3 H3 h3 => ⟨k, Nat.lt_succ_self k, h3⟩, ?_⟩
        refine sb ρ2 σ1 H2 own2 _ e2 ?_
        dsimp only [if_pos] at hw1
        cases hm : m ρ2 with
        | nx ρ3 =>
          rw [hm] at hw1
          exact fun σ3 H3 own3 e3 s3 b3 => ⟨ρ3, own3, e3, s12.trans s3, fun j hj => (b3 j hj).trans (b1 j hj), hw1⟩
        | ct ρ3 =>
          rw [hm] at hw1
          exact fun σ3 H3 own3 e3 s3 b3 => ⟨ρ3, own3, e3, s12.trans s3, fun j hj => (b3 j hj).trans (b1 j hj), hw1⟩
        | bk ρ3 => rw [hm] at hw1; exact PoS.later (r := .nx ρ3) hw1 s12 b1
        | rt d ρ3 => rw [hm] at hw1; exact PoS.later (r := .rt d ρ3) hw1 s12 b1
        | ex e ρ3 => rw [hm] at hw1; exact PoS.later (r := .ex e ρ3) hw1 s12 b1
        | bad => rw [hm] at hw1; exact hw1

/-! ### what a for walks -/
/-- J tells the items ds, whatever happens to what is owned -/
def ItOk (C : RC) (J : It) (ds : List D) (H : Hp) (own : List Addr) : Prop := ∀ H1 own1, Stp H H1 own own1 → ∀ i, (ds.length ≤ i → J.stop i H1) ∧ ∀ d, ds[i]? = some d → J.go i H1 ∧ ∀ x H2, J.yld i H1 x H2 → Ext H1 H2 ∧ Rep C H2 d x []
structure SI (X : Cx) (W : WX) (C : RC) (tg e : Expr) (m : M (List D)) : Prop where
  ex : ∃ wi, PI X tg e wi ∧ ∀ ρ σ H own R, ER C H ρ σ own → (match m ρ with
    | .ok ds ρ' => ∀ J H' own', ER C H' ρ' σ own' → Stp H H' own own' → ItOk C J ds H' own' → R J H'
    | .ex e ρ' => ∀ cls d H' own', XR C H' e cls d → ER C H' ρ' σ own' → Stp H H' own own' → W cls d σ H'
    | .bad => False) → wi σ H R
/-- a target -/
structure SG (X : Cx) (C : RC) (B : List Nat) (tg : Expr) (f : D → Env → Option Env) : Prop where
  ex : ∃ g, PG X tg g ∧ ∀ d v o ρ ρ' σ H own Q, Rep C H d v o → ER C H ρ σ own → (∀ a ∈ o, a ∉ own) → f d ρ = some ρ' →
    (∀ σ' own', ER C H ρ' σ' own' → (∀ a ∈ own', a ∈ o ∨ a ∈ own) → (∀ j ∈ B, σ'[j]? = σ[j]?) → σ'.length = σ.length → Q σ' H) → g v σ H Q
structure SGs (X : Cx) (C : RC) (B : List Nat) (tgs : List Expr) (f : List D → Env → Option Env) : Prop where
  ex : ∃ g, PGs X tgs g ∧ ∀ ds vs o ρ ρ' σ H own Q, RepL C H ds vs o → ER C H ρ σ own → (∀ a ∈ o, a ∉ own) → f ds ρ = some ρ' →
    (∀ σ' own', ER C H ρ' σ' own' → (∀ a ∈ own', a ∈ o ∨ a ∈ own) → (∀ j ∈ B, σ'[j]? = σ[j]?) → σ'.length = σ.length → Q σ' H) → g vs σ H Q
def fName (i : Nat) : D → Env → Option Env := fun d ρ => if i < ρ.length then some (ρ.set i (some d)) else none
def fTup (f : List D → Env → Option Env) : D → Env → Option Env := fun d ρ => match d with
  | .tup ds => f ds ρ
  | _ => none
def fNil : List D → Env → Option Env := fun ds ρ => match ds with
  | [] => some ρ
  | _ => none
def fCons (f : D → Env → Option Env) (fs : List D → Env → Option Env) : List D → Env → Option Env := fun ds ρ => match ds with
  | d :: ds => (f d ρ).bind (fs ds)
  | [] => none
theorem sg_name {i : Nat} {x : Str} {p : Pos} (pg : PG X (.Name x p) (gName i)) (hi : i ∉ B := by decide) : SG X C B (.Name x p) (fName i) := by
  refine ⟨_, pg, fun d v o ρ ρ' σ H own Q r er dj hf hw => ?_⟩
  unfold fName at hf
  split at hf
  · rename_i hl
    cases hf
    obtain ⟨own2, e2, m2⟩ := er.set hl r dj
    exact hw _ own2 e2 m2 (fun j hj => by rw [List.getElem?_set_ne (fun z => hi (by rw [z]; exact hj))]) (List.length_set ..)
  · cases hf
theorem sgs_nil : SGs X C B [] fNil := by
  refine ⟨_, pgs_nil, fun ds vs o ρ ρ' σ H own Q r er dj hf hw => ?_⟩
  unfold fNil at hf
  split at hf
  · cases hf
    obtain ⟨rfl, rfl⟩ := r
    exact ⟨rfl, hw σ own er (fun a z => .inr z) (fun _ _ => rfl) rfl⟩
  · cases hf
theorem sgs_cons {tg : Expr} {tgs : List Expr} {f : D → Env → Option Env} {fs : List D → Env → Option Env} (h1 : SG X C B tg f) (h2 : SGs X C B tgs fs) (hs : (assignEach (tg :: tgs) X.env).map (·.2) = assign tg X.env :: (assignEach tgs X.env).map (·.2) := by rfl) : SGs X C B (tg :: tgs) (fCons f fs) := by
  obtain ⟨g, p, s⟩ := h1.ex
  obtain ⟨u, q, s2⟩ := h2.ex
  refine ⟨_, pgs_cons p q hs, fun ds vs o ρ ρ' σ H own Q r er dj hf hw => ?_⟩
  unfold fCons at hf
  split at hf
  · rename_i d ds
    simp only [Option.bind_eq_some_iff] at hf
    obtain ⟨ρ1, h1, h2⟩ := hf
    obtain ⟨v, vs', o1, o2, rfl, r1, r2, n, rfl⟩ := r
    refine ⟨v, vs', rfl, s d v o1 ρ ρ1 σ H own _ r1 er (fun a ha => dj a (List.mem_append_left _ ha)) h1 fun σ1 own1 e1 m1 b1 l1 => ?_⟩
    refine s2 ds vs' o2 ρ1 ρ' σ1 H own1 _ r2 e1 (fun a ha z => ?_) h2 fun σ2 own2 e2 m2 b2 l2 => hw σ2 own2 e2 (fun a ha => ?_) (fun j hj => (b2 j hj).trans (b1 j hj)) (l2.trans l1)
    · rcases m1 a z with q | q
      · exact n a q ha
      · exact dj a (List.mem_append_right _ ha) q
    · rcases m2 a ha with q | q
      · exact .inl (List.mem_append_right _ q)
      · rcases m1 a q with q | q
        · exact .inl (List.mem_append_left _ q)
        · exact .inr q
  · cases hf
theorem sg_tup {es : List Expr} {k k' : Nat} {p : Pos} {fs : List D → Env → Option Env} (hK : C.K = X.K) (hc : X.calm = true) (h : SGs X C B es fs) (hl : ∀ ds ρ ρ', fs ds ρ = some ρ' → ds.length = k') (hn : (assignEach es X.env).length = k' := by rfl) (hst : (assignEach es X.env).findIdx? (·.1) = none := by rfl) : SG X C B (.Tuple es k p) (fTup fs) := by
  obtain ⟨g, pg, s⟩ := h.ex
  refine ⟨_, pg_tup hc pg hn hst, fun d v o ρ ρ' σ H own Q r er dj hf hw => ?_⟩
  unfold fTup at hf
  split at hf
  · rename_i ds
    obtain ⟨a, vs, rfl, hs, rl⟩ := r
    exact ⟨a, vs, rfl, by rw [← hK]; exact hs, by rw [rl.len]; exact hl _ _ _ hf, s ds vs o ρ ρ' σ H own Q rl er dj hf hw⟩
  · cases hf
theorem fNil_len : ∀ ds ρ ρ', fNil ds ρ = some ρ' → ds.length = 0 := fun ds ρ ρ' h => by
  unfold fNil at h
  split at h
  · rfl
  · cases h
theorem fCons_len {f : D → Env → Option Env} {fs : List D → Env → Option Env} {k : Nat} (hl : ∀ ds ρ ρ', fs ds ρ = some ρ' → ds.length = k) : ∀ ds ρ ρ', fCons f fs ds ρ = some ρ' → ds.length = k + 1 := fun ds ρ ρ' h => by
  unfold fCons at h
  split at h
  · simp only [Option.bind_eq_some_iff] at h
    obtain ⟨ρ1, _, h2⟩ := h
    rw [List.length_cons, hl _ _ _ h2]
  · cases h
/-- target = value, any target -/
def sAsgG (f : D → Env → Option Env) (me : M D) : MS := fun ρ => match me ρ with
  | .ok d ρ1 => match f d ρ1 with
    | some ρ2 => .nx ρ2
    | none => .bad
  | .ex e ρ1 => .ex e ρ1
  | .bad => .bad
theorem ss_asgG {tg : Expr} {f : D → Env → Option Env} (he : SE X W C e me) (hg : SG X C B tg f) (hs : swapsWithSole [tg] e pos.line X.env = pure false := by rfl) (hw' : swappedStores [tg] e X.env = pure none := by rfl)
    (h1 : (assignEach [tg] X.env).map (·.2) = [assign tg X.env] := by rfl) : SS X W C B (.Assign [tg] e pos) (sAsgG f me) := by
  obtain ⟨t, p, s⟩ := he.ex
  obtain ⟨g, pg, sg⟩ := hg.ex
  refine ⟨_, ps_asg p pg hs hw' h1, fun ρ σ H own Dn er hw => ?_⟩
  refine s ρ σ H own _ er (poS_e (k := fun d ρ1 => match f d ρ1 with
    | some ρ2 => .nx ρ2
    | none => .bad) hw fun d ρ1 v H1 o own1 r e1 j st hw1 => ?_)
  split at hw1
  · rename_i ρ2 hf
    exact sg d v o ρ1 ρ2 σ H1 own1 _ r e1 j hf fun σ' own' e2 m2 b2 _ => hw1 σ' H1 own' e2 (st.less fun a ha => List.mem_append.mpr (m2 a ha)) b2
  · exact hw1.elim
theorem ss_for {tg iter : Expr} {body : List Stmt} {mi : M (List D)} {f : D → Env → Option Env} (hp : PassesOwn (model X.prog X.w) X.A X.env X.xe) (hc : X.calm = true) (hi : SI X W C tg iter mi) (hg : SG X C B tg f) (hb : SSs X W C B body m)
    (hs : ∀ x, foldedSetIterable iter X.env x = pure x := by intro _; rfl) : SS X W C B (.For tg iter body [] pos) (sFor mi f m) := by
  obtain ⟨wi, pi, si⟩ := hi.ex
  obtain ⟨g, pg, sg⟩ := hg.ex
  obtain ⟨tb, pb, sb⟩ := hb.ex
  refine ⟨_, ps_for hp hc pi pg pb hs, fun ρ σ H own Dn er hw => ?_⟩
  refine si ρ σ H own _ er ?_
  unfold sFor at hw
  cases hmi : mi ρ with
  | bad => rw [hmi] at hw; exact hw
  | ex e ρ1 => rw [hmi] at hw; exact fun cls d H' own' x e2 s2 => hw cls d σ H' own' x e2 s2 fun _ _ => rfl
  | ok ds ρ1 =>
    rw [hmi] at hw
    intro J H1 own1 e1 s1 hJ
    refine ⟨fun i k σ2 H2 => k + i = ds.length ∧ ∃ ρ2 own2, ER C H2 ρ2 σ2 own2 ∧ Stp H1 H2 own1 own2 ∧ (∀ j ∈ B, σ2[j]? = σ[j]?) ∧ PoS C W B (forF f m (ds.drop i) ρ2) σ H own Dn, ⟨ds.length, by simp, ρ1, own1, e1, Stp.refl fun _ z => z, fun _ _ => rfl, hw⟩, ?_⟩
    rintro i k σ2 H2 ⟨hk, ρ2, own2, e2, s2, b2, hw2⟩
    have hJi := hJ H2 own2 s2 i
    have s02 := s1.trans s2
    by_cases hi : i < ds.length
    · right
      have hd : ds[i]? = some ds[i] := List.getElem?_eq_getElem hi
      obtain ⟨go, hy⟩ := hJi.2 _ hd
      rw [List.drop_eq_getElem_cons hi] at hw2
      unfold forF at hw2
      split at hw2
      · rename_i ρ3 hf
        refine ⟨go, fun σ4 H4 => ∃ ρ4 own4, ER C H4 ρ4 σ4 own4 ∧ Stp H1 H4 own1 own4 ∧ (∀ j ∈ B, σ4[j]? = σ[j]?) ∧ PoS C W B (forF f m (ds.drop (i + 1)) ρ4) σ H own Dn, fun σ4 H4 h4 => ⟨k - 1, by omega, by omega, h4⟩, fun x H3 yy => ?_⟩
        obtain ⟨k3, r3⟩ := hy x H3 yy
        refine sg _ x [] ρ2 ρ3 σ2 H3 own2 _ r3 (e2.ext k3) (by simp) hf fun σ3 own3 e3 m3 b3 _ => ?_
        have s13 : Stp H1 H3 own1 own3 := ⟨fun a ob q na => k3 a ob (s2.keep a ob q na), fun a ha => by
          rcases m3 a ha with q | q
          · cases q
          · exact s2.sub a q⟩
        have s03 := s1.trans s13
        have b03 : ∀ j ∈ B, σ3[j]? = σ[j]? := fun j hj => (b3 j hj).trans (b2 j hj)
        refine sb ρ3 σ3 H3 own3 _ e3 ?_
        cases hm : m ρ3 with
        | nx ρ4 => rw [hm] at hw2; exact fun σ4 H4 own4 e4 s4 b4 => ⟨ρ4, own4, e4, s13.trans s4, fun j hj => (b4 j hj).trans (b03 j hj), hw2⟩
        | ct ρ4 => rw [hm] at hw2; exact fun σ4 H4 own4 e4 s4 b4 => ⟨ρ4, own4, e4, s13.trans s4, fun j hj => (b4 j hj).trans (b03 j hj), hw2⟩
        | bk ρ4 => rw [hm] at hw2; exact PoS.later (r := .nx ρ4) hw2 s03 b03
        | rt d ρ4 => rw [hm] at hw2; exact PoS.later (r := .rt d ρ4) hw2 s03 b03
        | ex e ρ4 => rw [hm] at hw2; exact PoS.later (r := .ex e ρ4) hw2 s03 b03
        | bad => rw [hm] at hw2; exact hw2
      · exact hw2.elim
    · left
      rw [List.drop_eq_nil_of_le (by omega)] at hw2
      exact ⟨hJi.1 (by omega), hw2 σ2 H2 own2 e2 s02 b2⟩
end
end Se

namespace Se
open PySem L2

/-! ### frozen behind it -/
def eFz (me : M D) : M D := fun ρ => (me ρ).bind fun d ρ1 => .ok (frz d) ρ1
mutual
theorem frz_fz : ∀ d : D, fz (frz d) = true
  | .tup ds => by show fzL (frzL ds) = true; exact frzL_fz ds
  | .lst _ ds => rfl
  | .dct _ ks ds => rfl
  | .non => rfl
  | .bl _ => rfl
  | .int _ => rfl
  | .str _ => rfl
  | .ty _ => rfl
  | .obj _ => rfl
  | .exc _ _ _ => rfl
theorem frzL_fz : ∀ ds : List D, fzL (frzL ds) = true
  | [] => rfl
  | d :: ds => by show (fz (frz d) && fzL (frzL ds)) = true; rw [frz_fz d, frzL_fz ds]; rfl
end
section
variable {X : Cx} {W : WX} {C : RC} {B : List Nat} {e a b tg : Expr} {me ma mb : M D} {pos p : Pos}
theorem se_fz (h : SE X W C e me) : SE X W C e (eFz me) := by
  obtain ⟨t, pe, s⟩ := h.ex
  refine ⟨_, pe_fz pe, fun ρ σ H own Q er hw => ?_⟩
  have hw : PoE C W ((me ρ).bind fun d ρ1 => .ok (frz d) ρ1) σ H own Q := hw
  refine s ρ σ H own _ er (poE_bind (P := fun r => PoE C W r σ H own Q) hw (fun z => z) exE fun d ρ1 v H1 o own1 r e1 j st hw1 => ?_)
  refine ⟨o, r.mut, fun H2 f => ?_⟩
  refine hw1 v H2 [] own1 (r.frz f r.mut fun _ z => z) (e1.keep f.keeps r.mut fun a ha z => j a z ha) (by simp) ⟨fun a ob q na => ?_, fun a ha => st.sub a (List.mem_append_right _ ha)⟩
  have q1 := st.keep a ob q na
  refine f.keeps a ob q1 fun z => ?_
  rcases st.sub a (List.mem_append_left _ z) with w | w
  · exact na w
  · rw [q] at w; cases w

/-! ### what is walked -/
def iSeq (K : PySem.W.Frag) (tl : TE) : TI := fun σ H R => tl σ H fun x H1 => (∃ a xs, x = .ref a ∧ SqL K H1 a xs ∧ R (Itl K a) H1) ∨ (∃ a xs, x = .ref a ∧ SqT K H1 a xs ∧ R (Itt K a) H1) ∨ ∃ z, x = .str z ∧ R (Its z) H1
theorem pi_seq {tl : TE} (hl : PE X e tl) : PI X tg e (iSeq X.K tl) := by
  refine ⟨fun pins s σ H R I h => ?_⟩
  refine thn (hl.run pins s σ H _ I h) fun v s1 ⟨x, H1, I1, r1, q1⟩ => ?_
  rcases q1 with ⟨a, xs, rfl, hq, q⟩ | ⟨a, xs, rfl, hq, q⟩ | ⟨z, rfl, q⟩
  · cases r1
    obtain ⟨_, _, pl, _⟩ := I1.list hq
    exact wpAny_pyIter_list pl.isList (pi_one (tk := s1.toks) I1 _ (turn_list a _) ⟨_, Heap.get?_push_size _ rfl, rfl, rfl⟩ q)
  · cases r1
    obtain ⟨_, _, pl, _⟩ := I1.tuple hq
    exact wpAny_pyIter_tuple pl (pi_one (tk := s1.toks) I1 _ (turn_tuple a _) ⟨_, Heap.get?_push_size _ rfl, rfl, rfl⟩ q)
  · obtain ⟨t, rfl⟩ := r1
    cases ha : z.cps.all (· < 128)
    · exact wpAny_pyIter_wide ha (pi_one (tk := s1.toks) I1 _ (turn_str _ z t "str_iterator" (.inr rfl)) ⟨_, Heap.get?_push_size _ rfl, rfl, rfl⟩ q)
    · exact wpAny_pyIter_ascii ha (pi_one (tk := s1.toks) I1 _ (turn_str _ z t "str_ascii_iterator" (.inl rfl)) ⟨_, Heap.get?_push_size _ rfl, rfl, rfl⟩ q)
def itemsD : D → Option (List D)
  | .lst false ds => some ds
  | .tup ds => some ds
  | .str z => some (z.map fun c => .str [c])
  | _ => none
/-- a frozen list, walked -/
theorem itOk_list {H : Hp} {own : List Addr} {a : Addr} {ds : List D} {vs : List V} (m : Muts H own) (h : FzL C.K H a vs) (r : RepL C H ds vs []) : ItOk C (Itl C.K a) ds H own := fun H1 own1 st i => by
  have k : Keeps H H1 own := st.keep
  have h1 := k.fzL m h
  have r1 := RepL.keep k m (by simp) r
  refine ⟨fun hi => ⟨vs, h1.sq, by rw [r.len]; exact hi⟩, fun d hd => ?_⟩
  obtain ⟨v, o, hv, rv, ho⟩ := r1.at hd
  refine ⟨⟨vs, v, h1.sq, hv⟩, fun x H2 y => ?_⟩
  obtain ⟨rfl, y⟩ := y
  have := y vs h1.sq
  rw [hv] at this; cases this
  have eo : o = [] := List.eq_nil_iff_forall_not_mem.mpr fun a ha => by simpa using ho a ha
  subst eo
  exact ⟨Ext.refl, rv⟩
theorem itOk_tup {H : Hp} {own : List Addr} {a : Addr} {ds : List D} {vs : List V} (m : Muts H own) (h : SqT C.K H a vs) (r : RepL C H ds vs []) : ItOk C (Itt C.K a) ds H own := fun H1 own1 st i => by
  have k : Keeps H H1 own := st.keep
  have h1 := k.sqT m h
  have r1 := RepL.keep k m (by simp) r
  refine ⟨fun hi => ⟨vs, h1, by rw [r.len]; exact hi⟩, fun d hd => ?_⟩
  obtain ⟨v, o, hv, rv, ho⟩ := r1.at hd
  refine ⟨⟨vs, v, h1, hv⟩, fun x H2 y => ?_⟩
  obtain ⟨rfl, y⟩ := y
  have := y vs h1
  rw [hv] at this; cases this
  have eo : o = [] := List.eq_nil_iff_forall_not_mem.mpr fun a ha => by simpa using ho a ha
  subst eo
  exact ⟨Ext.refl, rv⟩
theorem itOk_str {H : Hp} {own : List Addr} (z : List Nat) : ItOk C (Its (sx z)) (z.map fun c => .str [c]) H own := fun H1 own1 st i => by
  have hz : (sx z).cps.size = z.length := by simp [sx]
  refine ⟨fun hi => by show (sx z).cps.size ≤ i; rw [hz]; simpa using hi, fun d hd => ?_⟩
  simp only [List.getElem?_map, Option.map_eq_some_iff] at hd
  obtain ⟨c, hc, rfl⟩ := hd
  have hi := (List.getElem?_eq_some_iff.mp hc).1
  refine ⟨by show i < (sx z).cps.size; rw [hz]; exact hi, fun x H2 y => ?_⟩
  obtain ⟨rfl, c', hc', rfl⟩ := y
  have : c' = c := by
    have e : (sx z).cps[i]? = z[i]? := by simp [sx]
    rw [e, hc] at hc'; exact (Option.some.inj hc').symm
  subst this
  exact ⟨Ext.refl, rfl, rfl⟩
def iSq (me : M D) : M (List D) := fun ρ => (eFz me ρ).bind fun d ρ1 => ofO (itemsD d) ρ1
theorem si_seq (hK : C.K = X.K) (h : SE X W C e me) : SI X W C tg e (iSq me) := by
  obtain ⟨t, pe, s⟩ := (se_fz h).ex
  refine ⟨_, pi_seq pe, fun ρ σ H own R er hw => ?_⟩
  refine s ρ σ H own _ er ?_
  unfold iSq at hw
  cases hm : eFz me ρ with
  | bad => rw [hm] at hw; exact hw
  | ex e ρ1 => rw [hm] at hw; exact hw
  | ok d ρ1 =>
    rw [hm] at hw
    intro v H1 o own1 r e1 j st
    have hz : fz d = true := by
      unfold eFz at hm
      cases hm2 : me ρ with
      | bad => rw [hm2] at hm; cases hm
      | ex e ρ1 => rw [hm2] at hm; cases hm
      | ok d2 ρ2 => rw [hm2] at hm; cases hm; exact frz_fz _
    have st1 := st.less (o' := own1) fun a ha => List.mem_append_right _ ha
    simp only [RE.bind, ofO] at hw
    rw [← hK]
    cases d with
    | lst f ds =>
      cases f with
      | true => simp [fz] at hz
      | false =>
        obtain ⟨a, vs, rfl, hs, rl, _⟩ := r
        exact .inl ⟨a, vs, rfl, hs.sq, hw _ H1 own1 e1 st1 (itOk_list e1.mut hs rl)⟩
    | tup ds =>
      have eo := Rep.fz_nil hz r
      subst eo
      obtain ⟨a, vs, rfl, hs, rl⟩ := r
      exact .inr (.inl ⟨a, vs, rfl, hs, hw _ H1 own1 e1 st1 (itOk_tup e1.mut hs rl)⟩)
    | str z => exact .inr (.inr ⟨sx z, r.1, hw _ H1 own1 e1 st1 (itOk_str z)⟩)
    | _ => exact hw.elim
/-! ### range -/
def rgD (lo : Int) (n : Nat) : List D := (List.range n).map fun (i : Nat) => .int (lo + (i : Int))
theorem rgD_len (lo : Int) (n : Nat) : (rgD lo n).length = n := by simp [rgD]
theorem rgD_get {lo : Int} {n i : Nat} {d : D} (h : (rgD lo n)[i]? = some d) : i < n ∧ d = .int (lo + (i : Int)) := by
  unfold rgD at h
  simp only [List.getElem?_map, Option.map_eq_some_iff] at h
  obtain ⟨j, hj, rfl⟩ := h
  by_cases hi : i < n
  · rw [List.getElem?_range hi] at hj
    cases hj; exact ⟨hi, rfl⟩
  · rw [List.getElem?_eq_none (by simpa using hi)] at hj; cases hj
theorem itOk_range {H : Hp} {own : List Addr} (lo : Int) (n : Nat) : ItOk C (Itr lo n) (rgD lo n) H own := fun H1 own1 st i => by
  refine ⟨fun hi => by show n ≤ i; rw [rgD_len] at hi; exact hi, fun d hd => ?_⟩
  obtain ⟨hi, rfl⟩ := rgD_get hd
  refine ⟨hi, fun x H2 y => ?_⟩
  obtain ⟨rfl, rfl⟩ := y
  exact ⟨Ext.refl, rfl, rfl⟩
/-- between the bounds: said so that the kernel reckons it shallowly -/
def w62 (j : Int) : Bool := Nat.ble j.natAbs 4611686018427387903
theorem w62_ok {j : Int} (h : w62 j = true) : -(2 ^ 62) ≤ j ∧ j < 2 ^ 62 := by
  have := Nat.le_of_ble_eq_true h
  omega
theorem w62_of {j : Int} (h0 : -4611686018427387904 < j) (h1 : j < 4611686018427387904) : w62 j = true := Nat.ble_eq_true_of_le (by omega)
def rg1 : List D → Option (List D)
  | [.int j] => if w62 j = true then some (rgD 0 j.toNat) else none
  | _ => none
def rg2 : List D → Option (List D)
  | [.int i, .int j] => if w62 i = true ∧ w62 j = true then some (rgD i (j - i).toNat) else none
  | _ => none
def iArgs (g : List D → Option (List D)) (ms : M (List D)) : M (List D) := fun ρ => (ms ρ).bind fun ds ρ1 => ofO (g ds) ρ1
/-- from arguments to what is walked -/
theorem si_args {es : List Expr} {ms : M (List D)} {g : List D → Option (List D)} {r : List V → Hp → (It → Hp → Prop) → Prop} (pi : ∀ t, PA X es t → PI X tg e (fun σ H R => t σ H fun vs H1 => r vs H1 R))
    (vo : ∀ ds xs vs o H own R, RepL C H ds vs o → Muts H own → g ds = some xs → (∀ J, ItOk C J xs H own → R J H) → r vs H R) (ha : SA X W C es ms) : SI X W C tg e (iArgs g ms) := by
  obtain ⟨t, pa, s⟩ := ha.ex
  refine ⟨_, pi t pa, fun ρ σ H own R er hw => s ρ σ H own _ er ?_⟩
  unfold iArgs at hw
  cases hm : ms ρ with
  | bad => rw [hm] at hw; exact hw
  | ex e ρ1 => rw [hm] at hw; exact hw
  | ok ds ρ1 =>
    rw [hm] at hw
    intro vs H1 o own1 rr e1 j st
    simp only [RE.bind, ofO] at hw
    cases hq : g ds with
    | none => rw [hq] at hw; exact hw.elim
    | some xs =>
      rw [hq] at hw
      exact vo ds xs vs o H1 own1 R rr e1.mut hq fun J hJ => hw J H1 own1 e1 (st.less fun a ha => List.mem_append_right _ ha) hJ
theorem RepL.two' {H : Hp} {x y : D} {ws : List V} {o : List Addr} (h : RepL C H [x, y] ws o) : ∃ v w o1 o2, ws = [v, w] ∧ Rep C H x v o1 ∧ Rep C H y w o2 ∧ (∀ a ∈ o1, a ∉ o2) := by
  obtain ⟨v, vs', o1, o2, rfl, h1, h2, n, rfl⟩ := h
  obtain ⟨w, rfl, r2⟩ := h2.sing
  exact ⟨v, w, o1, o2, rfl, h1, r2, n⟩
theorem si_range1 {ms : M (List D)} (hg : Gl X "range") (hm : X.mg "range" = none) (ha : SA X W C [a] ms) (hs : starEach [a] X.env = [(false, eval a X.env)] := by rfl) : SI X W C tg (.Call (.Name "range" p) [a] [] pos) (iArgs rg1 ms) :=
  si_args (fun t pa => pi_range1 hg hm pa hs) (fun ds xs vs o H own R r mo hq hR => by
    unfold rg1 at hq
    split at hq
    · split at hq
      · rename_i jj hb
        cases hq
        obtain ⟨w, rfl, rw'⟩ := r.sing
        obtain ⟨rfl, _⟩ := rw'
        exact ⟨_, rfl, (w62_ok hb).1, (w62_ok hb).2, hR _ (itOk_range 0 _)⟩
      · cases hq
    · cases hq) ha
theorem si_range2 {ms : M (List D)} (hg : Gl X "range") (hm : X.mg "range" = none) (ha : SA X W C [a, b] ms) (hs : starEach [a, b] X.env = [(false, eval a X.env), (false, eval b X.env)] := by rfl) (hs2 : starEach [b] X.env = [(false, eval b X.env)] := by rfl) : SI X W C tg (.Call (.Name "range" p) [a, b] [] pos) (iArgs rg2 ms) :=
  si_args (fun t pa => pi_range2 hg hm pa hs hs2) (fun ds xs vs o H own R r mo hq hR => by
    unfold rg2 at hq
    split at hq
    · split at hq
      · rename_i ii jj hb
        cases hq
        obtain ⟨v, w, o1, o2, rfl, r1, r2, _⟩ := r.two'
        obtain ⟨rfl, _⟩ := r1
        obtain ⟨rfl, _⟩ := r2
        exact ⟨_, _, rfl, ⟨(w62_ok hb.1).1, (w62_ok hb.1).2, (w62_ok hb.2).1, (w62_ok hb.2).2⟩, hR _ (itOk_range _ _)⟩
      · cases hq
    · cases hq) ha
/-! ### enumerate, zip -/
def enD : Nat → List D → List D
  | _, [] => []
  | k, d :: ds => .tup [.int (k : Nat), d] :: enD (k + 1) ds
theorem enD_len : ∀ (k : Nat) (ds : List D), (enD k ds).length = ds.length
  | _, [] => rfl
  | k, d :: ds => by simp [enD, enD_len (k + 1) ds]
theorem enD_get : ∀ {k : Nat} {ds : List D} {i : Nat} {d : D}, (enD k ds)[i]? = some d → ∃ x, ds[i]? = some x ∧ d = .tup [.int ((k + i : Nat) : Int), x]
  | _, [], i, _, h => by simp [enD] at h
  | k, x :: ds, 0, d, h => by simp [enD] at h; exact ⟨x, rfl, by simp [h]⟩
  | k, x :: ds, i + 1, d, h => by
    obtain ⟨y, hy, e⟩ := enD_get (k := k + 1) (ds := ds) (i := i) (by simpa [enD] using h)
    refine ⟨y, by simpa using hy, ?_⟩
    rw [e]
    congr 4; omega
theorem RepL.at0 {H : Hp} {ds : List D} {vs : List V} {i : Nat} {d : D} (r : RepL C H ds vs []) (h : ds[i]? = some d) : ∃ v, vs[i]? = some v ∧ Rep C H d v [] := by
  obtain ⟨v, o, hv, rv, ho⟩ := r.at h
  have eo : o = [] := List.eq_nil_iff_forall_not_mem.mpr fun a ha => by simpa using ho a ha
  subst eo
  exact ⟨v, hv, rv⟩
theorem rep_pair {H : Hp} {T : Addr} {x y : D} {v w : V} (hT : H T = none) (r1 : Rep C H x v []) (r2 : Rep C H y w []) : Rep C (upd H T (.tup [v, w])) (.tup [x, y]) (.ref T) [] :=
  rep_new_tup (⟨v, [w], [], [], rfl, r1, ⟨w, [], [], [], rfl, r2, (show ([] : List V) = [] ∧ ([] : List Addr) = [] from ⟨rfl, rfl⟩), (by simp), rfl⟩, (by simp), rfl⟩) hT
theorem itOk_enum {H : Hp} {own : List Addr} {a : Addr} {ds : List D} {vs : List V} (m : Muts H own) (h : FzL C.K H a vs) (r : RepL C H ds vs []) : ItOk C (Ite C.K a) (enD 0 ds) H own := fun H1 own1 st i => by
  have k : Keeps H H1 own := st.keep
  have h1 := k.fzL m h
  have r1 := RepL.keep k m (by simp) r
  refine ⟨fun hi => ⟨vs, h1.sq, by rw [r.len]; rw [enD_len] at hi; exact hi⟩, fun d hd => ?_⟩
  obtain ⟨x, hx, rfl⟩ := enD_get hd
  obtain ⟨v, hv, rv⟩ := r1.at0 hx
  refine ⟨⟨vs, v, h1.sq, hv⟩, fun y H2 yy => ?_⟩
  obtain ⟨T, z, rfl, hT, rfl, yy⟩ := yy
  have := yy vs h1.sq
  rw [hv] at this; cases this
  refine ⟨Ext.new hT, ?_⟩
  rw [Nat.zero_add]
  exact rep_pair hT ⟨rfl, rfl⟩ rv
def enA : List D → Option (List D)
  | [.lst false ds] => some (enD 0 ds)
  | _ => none
theorem si_enum {elts : List Expr} {kk : Nat} {tpos : Pos} {ms : M (List D)} (hK : C.K = X.K) (hg : Gl X "enumerate") (hm : X.mg "enumerate" = none) (ha : SA X W C [a] ms) (hs : starEach [a] X.env = [(false, eval a X.env)] := by rfl) : SI X W C (.Tuple elts kk tpos) (.Call (.Name "enumerate" p) [a] [] pos) (iArgs enA ms) :=
  si_args (fun t pa => pi_enum hg hm pa hs) (fun ds xs vs o H own R r mo hq hR => by
    unfold enA at hq
    split at hq
    · cases hq
      obtain ⟨w, rfl, rw'⟩ := r.sing
      obtain ⟨l, us, rfl, hl, rl, _⟩ := rw'
      exact ⟨l, us, rfl, by rw [← hK]; exact hl.sq, by rw [← hK]; exact hR _ (itOk_enum mo hl rl)⟩
    · cases hq) ha
def zpD : List D → List D → List D
  | x :: xs, y :: ys => .tup [x, y] :: zpD xs ys
  | _, _ => []
theorem zpD_get : ∀ {xs ys : List D} {i : Nat} {d : D}, (zpD xs ys)[i]? = some d → ∃ x y, xs[i]? = some x ∧ ys[i]? = some y ∧ d = .tup [x, y]
  | [], _, i, d, h => by simp [zpD] at h
  | _ :: _, [], i, d, h => by simp [zpD] at h
  | x :: xs, y :: ys, 0, d, h => by simp [zpD] at h; exact ⟨x, y, rfl, rfl, h.symm⟩
  | x :: xs, y :: ys, i + 1, d, h => by
    obtain ⟨a, b, h1, h2, e⟩ := zpD_get (xs := xs) (ys := ys) (i := i) (by simpa [zpD] using h)
    exact ⟨a, b, by simpa using h1, by simpa using h2, e⟩
theorem zpD_len : ∀ (xs ys : List D), (zpD xs ys).length = min xs.length ys.length
  | [], _ => by simp [zpD]
  | _ :: _, [] => by simp [zpD]
  | x :: xs, y :: ys => by simp [zpD, zpD_len xs ys, Nat.add_min_add_right]
def zpA : List D → Option (List D)
  | [.lst false xs, .lst false ys] => some (zpD xs ys)
  | [.tup xs, .tup ys] => if fzL xs = true ∧ fzL ys = true then some (zpD xs ys) else none
  | _ => none
theorem itOk_zip {H : Hp} {own : List Addr} {a b : Addr} {xs ys : List D} {vs ws : List V} (m : Muts H own) (h : FzL C.K H a vs) (h' : FzL C.K H b ws) (r : RepL C H xs vs []) (r' : RepL C H ys ws []) : ItOk C (Itz C.K a b) (zpD xs ys) H own := fun H1 own1 st i => by
  have k : Keeps H H1 own := st.keep
  have h1 := k.fzL m h
  have h2 := k.fzL m h'
  have r1 := RepL.keep k m (by simp) r
  have r2 := RepL.keep k m (by simp) r'
  refine ⟨fun hi => ⟨vs, ws, h1.sq, h2.sq, by rw [r.len, r'.len]; rw [zpD_len] at hi; omega⟩, fun d hd => ?_⟩
  obtain ⟨x, y, hx, hy, rfl⟩ := zpD_get hd
  obtain ⟨v, hv, rv⟩ := r1.at0 hx
  obtain ⟨w, hw, rw'⟩ := r2.at0 hy
  refine ⟨⟨vs, ws, v, w, h1.sq, h2.sq, hv, hw⟩, fun z H2 yy => ?_⟩
  obtain ⟨T, p, q, rfl, hT, rfl, y1, y2⟩ := yy
  have e1 := y1 vs h1.sq
  have e2 := y2 ws h2.sq
  rw [hv] at e1; cases e1
  rw [hw] at e2; cases e2
  exact ⟨Ext.new hT, rep_pair hT rv rw'⟩
theorem itOk_zipT {H : Hp} {own : List Addr} {a b : Addr} {xs ys : List D} {vs ws : List V} (m : Muts H own) (h : SqT C.K H a vs) (h' : SqT C.K H b ws) (r : RepL C H xs vs []) (r' : RepL C H ys ws []) : ItOk C (RZ.ItzT C.K a b) (zpD xs ys) H own := fun H1 own1 st i => by
  have k : Keeps H H1 own := st.keep
  have h1 := k.sqT m h
  have h2 := k.sqT m h'
  have r1 := RepL.keep k m (by simp) r
  have r2 := RepL.keep k m (by simp) r'
  refine ⟨fun hi => ⟨vs, ws, h1, h2, by rw [r.len, r'.len]; rw [zpD_len] at hi; omega⟩, fun d hd => ?_⟩
  obtain ⟨x, y, hx, hy, rfl⟩ := zpD_get hd
  obtain ⟨v, hv, rv⟩ := r1.at0 hx
  obtain ⟨w, hw, rw'⟩ := r2.at0 hy
  refine ⟨⟨vs, ws, v, w, h1, h2, hv, hw⟩, fun z H2 yy => ?_⟩
  obtain ⟨T, p, q, rfl, hT, rfl, y1, y2⟩ := yy
  have e1 := y1 vs h1
  have e2 := y2 ws h2
  rw [hv] at e1; cases e1
  rw [hw] at e2; cases e2
  exact ⟨Ext.new hT, rep_pair hT rv rw'⟩
theorem si_zip {elts : List Expr} {kk : Nat} {tpos : Pos} {ms : M (List D)} (hK : C.K = X.K) (hg : Gl X "zip") (hm : X.mg "zip" = none) (ha : SA X W C [a, b] ms) (hs : starEach [a, b] X.env = (false, eval a X.env) :: starEach [b] X.env := by rfl) (hpl : (backTo pos (starEach [b] X.env)).any (·.1) = false := by rfl) :
    SI X W C (.Tuple elts kk tpos) (.Call (.Name "zip" p) [a, b] [] pos) (iArgs zpA ms) :=
  si_args (fun t pa => RZ.pi_zipA hg hm pa hs hpl) (fun ds xs vs o H own R r mo hq hR => by
    unfold zpA at hq
    split at hq
    · cases hq
      obtain ⟨v, w, o1, o2, rfl, r1, r2, _⟩ := r.two'
      obtain ⟨l, us, rfl, hl, rl, _⟩ := r1
      obtain ⟨l', us', rfl, hl', rl', _⟩ := r2
      exact ⟨l, l', us, us', rfl, .inl ⟨by rw [← hK]; exact hl.sq, by rw [← hK]; exact hl'.sq, by rw [← hK]; exact hR _ (itOk_zip mo hl hl' rl rl')⟩⟩
    · split at hq
      · rename_i hf
        cases hq
        obtain ⟨v, w, o1, o2, rfl, r1, r2, _⟩ := r.two'
        have e1 := Rep.fz_nil (d := .tup _) hf.1 r1
        have e2 := Rep.fz_nil (d := .tup _) hf.2 r2
        subst e1 e2
        obtain ⟨l, us, rfl, hl, rl⟩ := r1
        obtain ⟨l', us', rfl, hl', rl'⟩ := r2
        exact ⟨l, l', us, us', rfl, .inr ⟨by rw [← hK]; exact hl, by rw [← hK]; exact hl', by rw [← hK]; exact hR _ (itOk_zipT mo hl hl' rl rl')⟩⟩
      · cases hq
    · cases hq) ha
end
end Se

namespace Se
open PySem L2

/-! ### comprehensions -/
def wipeE (ρ : Env) : List Nat → Env
  | [] => ρ
  | v :: vs => (wipeE ρ vs).set v none
def compF (vs : List Nat) (f : D → Env → Option Env) (mt : M Bool) (me : M D) : List D → List D → Env → Option (List D × Env)
  | [], acc, ρ => some (acc, ρ)
  | d :: ds, acc, ρ => match f d (wipeE ρ vs) with
    | some ρ1 => match mt ρ1 with
      | .ok b ρ2 => if b = true then (match me ρ2 with
          | .ok y ρ3 => if acc.length < sizeLine then compF vs f mt me ds (acc ++ [y]) ρ3 else none
          | _ => none) else compF vs f mt me ds acc ρ2
      | _ => none
    | none => none
def eLc (vs : List Nat) (mi : M (List D)) (f : D → Env → Option Env) (mt : M Bool) (me : M D) : M D := fun ρ => match mi ρ with
  | .ok ds ρ1 => match compF vs f mt me ds [] ρ1 with
    | some (acc, ρ2) => .ok (.lst true acc) (wipeE ρ2 vs)
    | none => .bad
  | .ex e ρ1 => .ex e ρ1
  | .bad => .bad
def tTrue : M Bool := fun ρ => .ok true ρ
def W0 : WX := fun _ _ _ _ => False
section
variable {C : RC} {H : Hp}
theorem ER.wipe : ∀ {vs : List Nat} {ρ : Env} {σ : St} {own : List Addr}, ER C H ρ σ own → ∃ own1, ER C H (wipeE ρ vs) (L2.wipe σ vs) own1 ∧ ∀ a ∈ own1, a ∈ own
  | [], ρ, σ, own, h => ⟨own, h, fun _ z => z⟩
  | v :: vs, ρ, σ, own, h => by
    obtain ⟨own1, h1, m1⟩ := ER.wipe (vs := vs) h
    obtain ⟨own2, h2, m2⟩ := ER.drop (i := v) none h1
    exact ⟨own2, h2, fun a ha => m1 a (m2 a ha)⟩
theorem ER.anyAt : ∀ {ρ : Env} {σ : St} {own : List Addr} {i : Nat} {x : Option V}, ER C H (ρ.set i none) (σ.set i x) own → ER C H (ρ.set i none) σ own
  | [], σ, own, i, x, h => by
    obtain ⟨h1, h2⟩ := h
    cases σ with
    | nil => exact ⟨rfl, h2⟩
    | cons a b => cases i <;> simp at h1
  | d :: ρ, σ, own, 0, x, h => by
    cases σ with
    | nil => obtain ⟨_, _, e, _⟩ := h; simp at e
    | cons a b =>
      obtain ⟨y, σ', e, h⟩ := h
      simp at e
      obtain ⟨rfl, rfl⟩ := e
      exact ⟨a, b, rfl, h⟩
  | none :: ρ, σ, own, i + 1, x, h => by
    cases σ with
    | nil => obtain ⟨_, _, e, _⟩ := h; simp at e
    | cons a b =>
      obtain ⟨y, σ', e, h⟩ := h
      simp at e
      obtain ⟨rfl, rfl⟩ := e
      exact ⟨a, b, rfl, ER.anyAt h⟩
  | some d :: ρ, σ, own, i + 1, x, h => by
    cases σ with
    | nil => obtain ⟨_, _, _, _, e, _⟩ := h; simp at e
    | cons a b =>
      obtain ⟨v, σ', o1, o2, e, h1, h2, n, rfl⟩ := h
      simp at e
      obtain ⟨rfl, rfl⟩ := e
      exact ⟨v, b, o1, o2, rfl, h1, ER.anyAt h2, n, rfl⟩
theorem wipeE_set (ρ : Env) (i : Nat) : ∀ vs : List Nat, (wipeE ρ vs).set i none = wipeE (ρ.set i none) vs
  | [] => rfl
  | v :: vs => by
    show ((wipeE ρ vs).set v none).set i none = (wipeE (ρ.set i none) vs).set v none
    rw [← wipeE_set ρ i vs]
    by_cases e : v = i
    · subst e; rfl
    · rw [List.set_comm _ _ e]
theorem ER.unwipe : ∀ {vs : List Nat} {ρ : Env} {σ : St} {own : List Addr}, ER C H (wipeE ρ vs) (L2.wipe σ vs) own → ER C H (wipeE ρ vs) σ own
  | [], _, _, _, h => h
  | v :: vs, ρ, σ, own, h => by
    have h1 : ER C H ((wipeE ρ vs).set v none) (L2.wipe σ vs) own := ER.anyAt h
    rw [wipeE_set] at h1
    have h2 := ER.unwipe h1
    rw [← wipeE_set] at h2
    exact h2
theorem wipe_get {σ : St} {i : Nat} : ∀ {vs : List Nat}, i ∈ vs → i < σ.length → (L2.wipe σ vs)[i]? = some none
  | [], h, _ => by cases h
  | v :: vs, h, hl => by
    unfold L2.wipe
    by_cases e : v = i
    · subst e; rw [List.getElem?_set_self (by rw [wipe_length]; exact hl)]
    · rw [List.getElem?_set_ne e]
      exact wipe_get ((List.mem_cons.mp h).resolve_left fun z => e z.symm) hl
theorem wipe_eq {σ σ2 : St} {vs B : List Nat} (hl : σ2.length = (L2.wipe σ vs).length) (b : ∀ j ∈ B, σ2[j]? = (L2.wipe σ vs)[j]?) (hB : ∀ j, j < σ.length → j ∉ vs → j ∈ B) : L2.wipe σ2 vs = L2.wipe σ vs := by
  have hl' : σ2.length = σ.length := by rw [hl, wipe_length]
  apply List.ext_getElem?
  intro i
  by_cases hi : i < σ.length
  · by_cases hv : i ∈ vs
    · rw [wipe_get hv hi, wipe_get hv (by omega)]
    · rw [wipe_out hv, b i (hB i hi hv)]
  · rw [List.getElem?_eq_none (by rw [wipe_length]; omega), List.getElem?_eq_none (by rw [wipe_length]; omega)]
end
section
variable {X : Cx} {W : WX} {C : RC} {B : List Nat}
/-- the reading of a comprehension by its parts' -/
theorem snd_lc {vs : List Nat} {wi : TI} {g : TG} {tt : TT} {te : TE} {mi : M (List D)} {f : D → Env → Option Env} {mt : M Bool} {me : M D}
    (si : ∀ ρ σ H own R, ER C H ρ σ own → (match mi ρ with
      | .ok ds ρ' => ∀ J H' own', ER C H' ρ' σ own' → Stp H H' own own' → ItOk C J ds H' own' → R J H'
      | .ex e ρ' => ∀ cls d H' own', XR C H' e cls d → ER C H' ρ' σ own' → Stp H H' own own' → W cls d σ H'
      | .bad => False) → wi σ H R)
    (sg : ∀ d v o ρ ρ' σ H own Q, Rep C H d v o → ER C H ρ σ own → (∀ a ∈ o, a ∉ own) → f d ρ = some ρ' →
      (∀ σ' own', ER C H ρ' σ' own' → (∀ a ∈ own', a ∈ o ∨ a ∈ own) → (∀ j ∈ B, σ'[j]? = σ[j]?) → σ'.length = σ.length → Q σ' H) → g v σ H Q)
    (stt : ∀ ρ σ H own Q, ER C H ρ σ own → PoT C W0 (mt ρ) σ H own Q → tt σ H Q) (ste : Snd W0 C te me) (n : Nat) (hB : ∀ j, j < n → j ∉ vs → j ∈ B) :
    ∀ ρ σ H own Q, σ.length = n → ER C H ρ σ own → PoE C W (eLc vs mi f mt me ρ) σ H own Q → tLc wi g tt te vs σ H Q := by
  intro ρ σ H own Q hn er hw
  refine si ρ σ H own _ er ?_
  unfold eLc at hw
  cases hmi : mi ρ with
  | bad => rw [hmi] at hw; exact hw
  | ex e ρ1 => rw [hmi] at hw; exact hw
  | ok ds ρ1 =>
    rw [hmi] at hw
    intro J H1 own1 e1 s1 hJ p hp
    dsimp only at hw
    split at hw
    · rename_i accF ρF hc
      obtain ⟨ownW, eW, mW⟩ := ER.wipe (vs := vs) e1
      refine ⟨fun i m H2 => m + i = ds.length ∧ ∃ ρ2 own2 acc av oa, compF vs f mt me (ds.drop i) acc ρ2 = some (accF, ρF) ∧ ER C H2 (wipeE ρ2 vs) (L2.wipe σ vs) own2 ∧ H2 p = some (.lst av) ∧ RepL C H2 acc av oa ∧ p ∉ oa ∧ p ∉ own2 ∧ (∀ a ∈ oa, a ∉ own2) ∧ Stp H1 H2 own1 (oa ++ own2),
        ⟨ds.length, by simp, ρ1, ownW, [], [], [], hc, eW.ext (Ext.new hp), upd_same, ⟨rfl, rfl⟩, (by simp), fun z => ?_, (by simp), ⟨fun a ob q _ => Ext.new hp a ob q, fun a ha => .inl (mW a (by simpa using ha))⟩⟩, ?_⟩
      · obtain ⟨u, q, _⟩ := eW.mut p z
        rw [hp] at q; cases q
      · rintro i m H2 ⟨hm, ρ2, own2, acc, av, oa, hc2, e2, hD, ra, np, np2, dj, st2⟩
        have hJi := hJ H2 own2 (st2.less fun a ha => List.mem_append_right _ ha) i
        by_cases hi : i < ds.length
        · right
          obtain ⟨go, hy⟩ := hJi.2 _ (List.getElem?_eq_getElem hi)
          rw [List.drop_eq_getElem_cons hi] at hc2
          unfold compF at hc2
          split at hc2
          · rename_i ρ3 hf
            refine ⟨go, fun H4 => ∃ ρ2 own2 acc av oa, compF vs f mt me (ds.drop (i + 1)) acc ρ2 = some (accF, ρF) ∧ ER C H4 (wipeE ρ2 vs) (L2.wipe σ vs) own2 ∧ H4 p = some (.lst av) ∧ RepL C H4 acc av oa ∧ p ∉ oa ∧ p ∉ own2 ∧ (∀ a ∈ oa, a ∉ own2) ∧ Stp H1 H4 own1 (oa ++ own2),
              fun H4 h4 => ⟨m - 1, by omega, by omega, h4⟩, fun x H3 yy => ?_⟩
            obtain ⟨k3, r3⟩ := hy x H3 yy
            refine sg _ x [] (wipeE ρ2 vs) ρ3 (L2.wipe σ vs) H3 own2 _ r3 (e2.ext k3) (by simp) hf fun σ3 own3 e3 m3 b3 l3 => ⟨wipe_eq l3 b3 (by rw [hn]; exact hB), ?_⟩
            have sub3 : ∀ a ∈ own3, a ∈ own2 := fun a ha => (m3 a ha).resolve_left (by simp)
            have ew : L2.wipe σ3 vs = L2.wipe σ vs := wipe_eq l3 b3 (by rw [hn]; exact hB)
            refine stt ρ3 σ3 H3 own3 _ e3 ?_
            cases hmt : mt ρ3 with
            | bad => rw [hmt] at hc2; cases hc2
            | ex e ρ4 => rw [hmt] at hc2; cases hc2
            | ok b ρ4 =>
              rw [hmt] at hc2
              dsimp only at hc2
              intro H4 own4 e4 st4
              -- what is held through the test
              have keepA : ∀ {H5 : Hp} {own5 : List Addr}, Stp H3 H5 own3 own5 → H5 p = some (.lst av) ∧ RepL C H5 acc av oa ∧ p ∉ own5 ∧ (∀ a ∈ oa, a ∉ own5) := fun {H5 own5} st5 => by
                have hD3 := k3 _ _ hD
                have ra3 := ra.ext k3
                have d3 : ∀ a ∈ oa, a ∉ own3 := fun a ha z => dj a ha (sub3 a z)
                refine ⟨st5.keep p _ hD3 fun z => np2 (sub3 p z), ra3.keep st5.keep e3.mut d3, fun z => ?_, st5.apart ra3.mut d3⟩
                rcases st5.sub p z with q | q
                · exact np2 (sub3 p q)
                · rw [hD3] at q; cases q
              have st13 : Stp H1 H3 own1 (oa ++ own3) := ⟨fun a ob q na => k3 a ob (st2.keep a ob q na), fun a ha => by
                rcases List.mem_append.mp ha with q | q
                · exact st2.sub a (List.mem_append_left _ q)
                · exact st2.sub a (List.mem_append_right _ (sub3 a q))⟩
              cases b with
              | false =>
                rw [if_neg Bool.false_ne_true] at hc2 ⊢
                obtain ⟨q1, q2, q3, q4⟩ := keepA st4
                obtain ⟨own5, e5, m5⟩ := ER.wipe (vs := vs) e4
                rw [ew] at e5
                exact ⟨ρ4, own5, acc, av, oa, hc2, e5, q1, q2, np, fun z => q3 (m5 p z), fun a ha z => q4 a ha (m5 a z), (st13.held st4).less fun a ha => (List.mem_append.mp ha).elim (List.mem_append_left _) fun z => List.mem_append_right _ (m5 a z)⟩
              | true =>
                rw [if_pos rfl] at hc2 ⊢
                refine ste ρ4 σ3 H4 own4 _ e4 ?_
                cases hme : me ρ4 with
                | bad => rw [hme] at hc2; cases hc2
                | ex e ρ5 => rw [hme] at hc2; cases hc2
                | ok y ρ5 =>
                  rw [hme] at hc2
                  dsimp only at hc2
                  split at hc2
                  · rename_i hz
                    intro w H5 oy own5 ry e5 dy st5
                    have st35 : Stp H3 H5 own3 (oy ++ own5) := st4.trans st5
                    obtain ⟨q1, q2, q3, q4⟩ := keepA st35
                    have npy : p ∉ oy := fun z => q3 (List.mem_append_left _ z)
                    have np5 : p ∉ own5 := fun z => q3 (List.mem_append_right _ z)
                    have kk : Keeps H5 (upd H5 p (.lst (av ++ [w]))) [p] := fun b ob q nb => by
                      rw [upd_ne (fun z => nb (by simp [z]))]; exact q
                    have mm : Muts H5 [p] := fun b hb => by
                      cases List.mem_singleton.mp hb
                      exact ⟨_, q1, trivial⟩
                    have ny : ∀ {o : List Addr}, p ∉ o → ∀ a ∈ o, a ∉ [p] := fun h a ha z => h (by cases List.mem_singleton.mp z; exact ha)
                    obtain ⟨own6, e6, m6⟩ := ER.wipe (vs := vs) (e5.keep kk mm (ny np5))
                    rw [ew] at e6
                    refine ⟨av, q1, by rw [ra.len]; exact hz, ρ5, own6, acc ++ [y], av ++ [w], oa ++ oy, hc2, e6, upd_same, (q2.keep kk mm (ny np)).append ⟨w, [], oy, [], rfl, ry.keep kk mm (ny npy), (show ([] : List V) = [] ∧ ([] : List Addr) = [] from ⟨rfl, rfl⟩), (by simp), (by simp)⟩ (fun a ha z => q4 a ha (List.mem_append_left _ z)), fun z => (List.mem_append.mp z).elim np npy, fun z => np5 (m6 p z), fun a ha z => ?_, ?_⟩
                    · rcases List.mem_append.mp ha with q | q
                      · exact q4 a q (List.mem_append_right _ (m6 a z))
                      · exact dy a q (m6 a z)
                    · have st15 : Stp H1 H5 own1 (oa ++ (oy ++ own5)) := st13.held st35
                      refine ⟨fun a ob q na => ?_, fun a ha => ?_⟩
                      · have q5 := st15.keep a ob q na
                        by_cases hap : a = p
                        · subst hap; rw [hp] at q; cases q
                        · rw [upd_ne hap]; exact q5
                      · rcases List.mem_append.mp ha with q | q
                        · rcases List.mem_append.mp q with q | q
                          · exact st15.sub a (List.mem_append_left _ q)
                          · exact st15.sub a (List.mem_append_right _ (List.mem_append_left _ q))
                        · exact st15.sub a (List.mem_append_right _ (List.mem_append_right _ (m6 a q)))
                  · cases hc2
          · cases hc2
        · left
          rw [List.drop_eq_nil_of_le (by omega)] at hc2
          cases hc2
          refine ⟨hJi.1 (by omega), hw (.ref p) H2 (p :: oa) own2 ⟨p, av, oa, rfl, hD, ra, np, rfl⟩ (ER.unwipe e2) (fun a ha => ?_) ?_⟩
          · rcases List.mem_cons.mp ha with rfl | q
            · exact np2
            · exact dj a q
          · have st02 := s1.trans st2
            refine ⟨st02.keep, fun a ha => ?_⟩
            rcases List.mem_append.mp ha with q | q
            · rcases List.mem_cons.mp q with rfl | q
              · by_cases y : a ∈ own
                · exact .inl y
                · right
                  cases e : H a with
                  | none => rfl
                  | some ob => rw [s1.keep a ob e y] at hp; cases hp
              · exact st02.sub a (List.mem_append_left _ q)
            · exact st02.sub a (List.mem_append_right _ q)
    · exact hw.elim
end
end Se

namespace Se
open PySem L2

section
variable {X : Cx} {W : WX} {C : RC} {B vs : List Nat}
theorem pe_weak {e : Expr} {t t' : TE} (h : PE X e t) (k : ∀ σ H Q, t' σ H Q → t σ H Q) : PE X e t' := ⟨fun pins s σ H Q I hw => h.run pins s σ H Q I (k σ H Q hw)⟩
theorem pg_weak {e : Expr} {t t' : TG} (h : PG X e t) (k : ∀ v σ H Q, t' v σ H Q → t v σ H Q) : PG X e t' := ⟨fun pins s σ H v u Q I r hw => h.run pins s σ H v u Q I r (k v σ H Q hw)⟩
theorem pt_weak {e : Expr} {t t' : TT} (h : PT X e t) (k : ∀ σ H Q, t' σ H Q → t σ H Q) : PT X e t' := ⟨fun pins s σ H Q I hw => h.run pins s σ H Q I (k σ H Q hw)⟩
/-- the contexts of a comprehension's block -/
structure Kx where
  s : Shared
  H : Hp
  c : Addr
  cl : List (Str × Addr)
  fp : List Addr
abbrev Cx.at (X : Cx) (scope : Scope) (k : Kx) : Cx := X.blk k.s k.H scope (compEnvC scope k.cl k.c X.env) k.fp
variable {scope : Scope} {elt tg iter test : Expr} {mi : M (List D)} {f : D → Env → Option Env} {mt : M Bool} {me : M D} {pos : Pos} {own : List (Str × Nat)}
structure LcP (X : Cx) (C : RC) (B : List Nat) (scope : Scope) (tg elt : Expr) (ifs : List Expr) (f : D → Env → Option Env) (mt : M Bool) (me : M D) (g : TG) (tt : TT) (te : TE) : Prop where
  hg : ∀ k : Kx, PG (Cx.at X scope k) tg g
  ht : ∀ k : Kx, PTs (Cx.at X scope k) ifs tt
  he : ∀ k : Kx, PE (Cx.at X scope k) elt te
  sg : ∀ d v o ρ ρ' σ H own Q, Rep C H d v o → ER C H ρ σ own → (∀ a ∈ o, a ∉ own) → f d ρ = some ρ' →
      (∀ σ' own', ER C H ρ' σ' own' → (∀ a ∈ own', a ∈ o ∨ a ∈ own) → (∀ j ∈ B, σ'[j]? = σ[j]?) → σ'.length = σ.length → Q σ' H) → g v σ H Q
  stt : ∀ ρ σ H own Q, ER C H ρ σ own → PoT C W0 (mt ρ) σ H own Q → tt σ H Q
  ste : Snd W0 C te me
theorem lcp_none (hg : ∀ k : Kx, SG (Cx.at X scope k) C B tg f) (he : ∀ k : Kx, SE (Cx.at X scope k) W0 C elt me) : ∃ g tt te, LcP X C B scope tg elt [] f tTrue me g tt te := by
  refine ⟨fun v σ H Q => ∀ k : Kx, (Classical.choose (hg k).ex) v σ H Q, tYes, fun σ H Q => ∀ k : Kx, (Classical.choose (he k).ex) σ H Q, ⟨fun k => pg_weak (Classical.choose_spec (hg k).ex).1 fun v σ H Q h => h k, fun k => pts_nil, fun k => pe_weak (Classical.choose_spec (he k).ex).1 fun σ H Q h => h k, ?_, ?_, ?_⟩⟩
  · exact fun d v o ρ ρ' σ H own Q r er dj hf hw k => (Classical.choose_spec (hg k).ex).2 d v o ρ ρ' σ H own Q r er dj hf hw
  · exact fun ρ σ H own Q er hw => hw H own er (Stp.refl fun _ z => z)
  · exact fun ρ σ H own Q er hw k => (Classical.choose_spec (he k).ex).2 ρ σ H own Q er hw
theorem lcp_if (hg : ∀ k : Kx, SG (Cx.at X scope k) C B tg f) (ht : ∀ k : Kx, ST (Cx.at X scope k) W0 C test mt) (he : ∀ k : Kx, SE (Cx.at X scope k) W0 C elt me) : ∃ g tt te, LcP X C B scope tg elt [test] f mt me g tt te := by
  refine ⟨fun v σ H Q => ∀ k : Kx, (Classical.choose (hg k).ex) v σ H Q, fun σ H Q => ∀ k : Kx, (Classical.choose (ht k).ex) σ H Q, fun σ H Q => ∀ k : Kx, (Classical.choose (he k).ex) σ H Q, ⟨fun k => pg_weak (Classical.choose_spec (hg k).ex).1 fun v σ H Q h => h k, fun k => pts_one (pt_weak (Classical.choose_spec (ht k).ex).1 fun σ H Q h => h k), fun k => pe_weak (Classical.choose_spec (he k).ex).1 fun σ H Q h => h k, ?_, ?_, ?_⟩⟩
  · exact fun d v o ρ ρ' σ H own Q r er dj hf hw k => (Classical.choose_spec (hg k).ex).2 d v o ρ ρ' σ H own Q r er dj hf hw
  · exact fun ρ σ H own Q er hw k => (Classical.choose_spec (ht k).ex).2 ρ σ H own Q er hw
  · exact fun ρ σ H own Q er hw k => (Classical.choose_spec (he k).ex).2 ρ σ H own Q er hw
/-- the frame's slots are as many as its names -/
theorem pe_len {e : Expr} {t : TE} (h : PE X e t) : PE X e (fun σ H Q => σ.length = X.N.length → t σ H Q) := ⟨fun pins s σ H Q I hw => h.run pins s σ H Q I (hw I.len)⟩
theorem ps_len {st : Stmt} {t : TS} (h : PS X st t) : PS X st (fun D σ H => σ.length = X.N.length → t D σ H) := ⟨fun pins s σ H D I hw => h.run pins s σ H D I (hw I.len)⟩
theorem se_lc {ifs : List Expr} (hc : X.calm = true) (hN : X.N.Nodup) (hi : SI X W C tg iter mi) (ok : BlkOk X.N X.env.scope scope own) (hp : ∃ g tt te, LcP X C B scope tg elt ifs f mt me g tt te) (hB : ∀ j, j < X.N.length → j ∉ own.map (·.2) → j ∈ B)
    (hs : ∀ x, foldedSetIterable iter X.env x = pure x := by intro _; rfl) : SE X W C (.ListComp elt [⟨tg, iter, ifs, 0⟩] scope pos) (eLc (own.map (·.2)) mi f mt me) := by
  obtain ⟨wi, pi, si⟩ := hi.ex
  obtain ⟨g, tt, te, p⟩ := hp
  refine ⟨_, pe_len (pe_lc hc hN pi ok (fun s H c cl fp => p.hg ⟨s, H, c, cl, fp⟩) (fun s H c cl fp => p.ht ⟨s, H, c, cl, fp⟩) (fun s H c cl fp => p.he ⟨s, H, c, cl, fp⟩) hs), fun ρ σ H own Q er hw hl => ?_⟩
  exact snd_lc si p.sg p.stt p.ste X.N.length hB ρ σ H own Q hl er hw
theorem ss_lc {ifs : List Expr} {i : Nat} {y : Str} {py spos : Pos} {Bf : List Nat} (hc : X.calm = true) (hN : X.N.Nodup) (hy : X.N[i]? = some y) (hyl : X.env.scope.names.lookup y = some .local)
    (hsw : swapsWith (.ListComp elt [⟨tg, iter, ifs, 0⟩] scope pos) (some (.Name y py)) spos.line X.env = pure true) (hi : SI X W C tg iter mi) (ok : BlkOk X.N X.env.scope scope own) (hp : ∃ g tt te, LcP X C B scope tg elt ifs f mt me g tt te) (hB : ∀ j, j < X.N.length → j ∉ own.map (·.2) → j ∈ B) (hiB : i ∉ Bf)
    (hs : ∀ x, foldedSetIterable iter X.env x = pure x := by intro _; rfl) : SS X W C Bf (.Assign [.Name y py] (.ListComp elt [⟨tg, iter, ifs, 0⟩] scope pos) spos) (sAsg i (eLc (own.map (·.2)) mi f mt me)) := by
  obtain ⟨wi, pi, si⟩ := hi.ex
  obtain ⟨g, tt, te, p⟩ := hp
  refine ⟨_, ps_len (ps_setLc hc hN hy hyl hsw pi ok (fun s H c cl fp => p.hg ⟨s, H, c, cl, fp⟩) (fun s H c cl fp => p.ht ⟨s, H, c, cl, fp⟩) (fun s H c cl fp => p.he ⟨s, H, c, cl, fp⟩) hs), fun ρ σ H own Dn er hw hl => ?_⟩
  have sw := snd_lc (W := W) si p.sg p.stt p.ste X.N.length hB
  refine sw ρ σ H own _ hl er (poS_e (k := fun d ρ1 => if i < ρ1.length then .nx (ρ1.set i (some d)) else .bad) hw fun d ρ1 v H1 o own1 r e1 j st hw1 => ?_)
  split at hw1
  · rename_i hl
    obtain ⟨own2, e2, m2⟩ := e1.set hl r j
    refine hw1 _ H1 own2 e2 (st.less fun a ha => List.mem_append.mpr (m2 a ha)) fun k hk => ?_
    rw [List.getElem?_set_ne (fun z => hiB (by rw [z]; exact hk))]
  · exact hw1.elim
end

/-! ### what a def promises -/
inductive FR where
  | rt (d : D) (ds : List D) | ex (e : EX) (ds : List D) | bad
def PoF (C : RC) (r : FR) (vs : List V) (H : Hp) (own : List Addr) (Q : VK) (E : XK) : Prop := match r with
  | .rt d ds' => ∀ v H' o own', Rep C H' d v o → RepL C H' ds' vs own' → (∀ a ∈ o, a ∉ own') → Stp H H' own (o ++ own') → Q v H'
  | .ex e ds' => ∀ cls dd H' own', XR C H' e cls dd → RepL C H' ds' vs own' → Stp H H' own own' → E cls dd H'
  | .bad => False
/-- called with data ds a def does what F says -/
def spF (C : RC) (n : Nat) (F : List D → FR) : Sp := fun vs H Q E => vs.length = n ∧ ∃ ds own, RepL C H ds vs own ∧ PoF C (F ds) vs H own Q E
/-- the slots at the entry -/
def startE (n : Nat) (ds : List D) : Env := ds.map some ++ List.replicate (n - ds.length) none
/-- B: the parameters that are not rebound; the others must be frozen -/
def back (B : List Nat) (ρ : Env) : Nat → List D → Option (List D)
  | _, [] => some []
  | k, d :: ds => (if k ∈ B then (ρ[k]?).join else if fz d = true then some d else none).bind fun d' => (back B ρ (k + 1) ds).map fun r => d' :: r
def fnOf (n : Nat) (B : List Nat) (m : MS) : List D → FR := fun ds => match m (startE n ds) with
  | .nx ρ => match back B ρ 0 ds with
    | some ds' => .rt .non ds'
    | none => .bad
  | .rt d ρ => match back B ρ 0 ds with
    | some ds' => .rt d ds'
    | none => .bad
  | .ex e ρ => match back B ρ 0 ds with
    | some ds' => .ex e ds'
    | none => .bad
  | _ => .bad
section
variable {C : RC} {H : Hp}
theorem ER.nones : ∀ (k : Nat), ER C H (List.replicate k none) (List.replicate k none) []
  | 0 => ⟨rfl, rfl⟩
  | k + 1 => by
    rw [List.replicate_succ]
    exact ⟨none, _, rfl, ER.nones k⟩
theorem ER.start : ∀ {ds : List D} {vs : List V} {own : List Addr} (k : Nat), RepL C H ds vs own → ER C H (ds.map some ++ List.replicate k none) (vs.map some ++ List.replicate k none) own
  | [], _, _, k, h => by obtain ⟨rfl, rfl⟩ := h; exact ER.nones k
  | d :: ds, _, _, k, h => by
    obtain ⟨v, vs', o1, o2, rfl, h1, h2, n, rfl⟩ := h
    exact ⟨v, _, o1, o2, rfl, h1, ER.start k h2, n, rfl⟩
theorem back_set {B : List Nat} {i : Nat} : ∀ {ds : List D} {ρ : Env} {k : Nat}, i < k → Se.back B (ρ.set i none) k ds = Se.back B ρ k ds
  | [], _, _, _ => rfl
  | d :: ds, ρ, k, h => by
    simp only [Se.back]
    rw [List.getElem?_set_ne (by omega), back_set (k := k + 1) (by omega)]
/-- the parameters' data at the end -/
theorem ER.back {B : List Nat} {H0 : Hp} : ∀ {ds ds' : List D} {vs : List V} {ρ : Env} {σ : St} {o0 own : List Addr} {k : Nat}, RepL C H0 ds vs o0 → (∀ d v, fz d = true → Rep C H0 d v [] → Rep C H d v []) → ER C H ρ σ own → Se.back B ρ k ds = some ds' →
    (∀ j v, vs[j]? = some v → k + j ∈ B → σ[k + j]? = some (some v)) → ∃ own', RepL C H ds' vs own' ∧ (∀ a ∈ own', a ∈ own)
  | [], _, _, ρ, σ, _, own, k, h, _, er, hb, _ => by
    obtain ⟨rfl, _⟩ := h
    cases hb
    exact ⟨[], ⟨rfl, rfl⟩, by simp⟩
  | d :: ds, _, _, ρ, σ, _, own, k, h, hf, er, hb, hs => by
    obtain ⟨v, vs', o1, o2, rfl, h1, h2, n, rfl⟩ := h
    simp only [Se.back, Option.bind_eq_some_iff, Option.map_eq_some_iff] at hb
    obtain ⟨d', hd', ds2, hds2, rfl⟩ := hb
    have hs' : ∀ j w, vs'[j]? = some w → (k + 1) + j ∈ B → σ[(k + 1) + j]? = some (some w) := fun j w hj hB => by
      have := hs (j + 1) w (by simpa using hj) (by rw [show k + (j + 1) = (k + 1) + j by omega]; exact hB)
      rw [show k + (j + 1) = (k + 1) + j by omega] at this
      exact this
    by_cases hk : k ∈ B
    · rw [if_pos hk] at hd'
      obtain ⟨w, o, own1, e1, r, er1, dj, mo⟩ := er.take (join_some hd')
      have e2 : some (some v) = some (some w) := (hs 0 v rfl (by simpa using hk)).symm.trans (by simpa using e1)
      cases e2
      rw [← back_set (i := k) (by omega)] at hds2
      obtain ⟨own', r', m'⟩ := ER.back (k := k + 1) h2 hf er1 hds2 hs'
      refine ⟨o ++ own', ⟨v, vs', o, own', rfl, r, r', fun a ha z => dj a ha (m' a z), rfl⟩, fun a ha => (mo a).mpr ?_⟩
      exact (List.mem_append.mp ha).imp id (m' a)
    · rw [if_neg hk] at hd'
      split at hd'
      · rename_i hz
        cases hd'
        have eo := Rep.fz_nil hz h1
        subst eo
        obtain ⟨own', r', m'⟩ := ER.back (k := k + 1) h2 hf er hds2 hs'
        exact ⟨own', ⟨v, vs', [], own', rfl, hf d v hz h1, r', (by simp), rfl⟩, m'⟩
      · cases hd'
theorem Stp.keepF {H0 H1 : Hp} {own own1 : List Addr} (s : Stp H0 H1 own own1) (m : Muts H0 own) : ∀ d v, fz d = true → Rep C H0 d v [] → Rep C H1 d v [] := fun d v _ h => h.keep s.keep m (by simp)
end
section
variable {P : Program} {w : World} {K : PySem.W.Frag} {mg : Str → Option Value} {base : Heap} {C : RC}
/-- the wish of a def's body: what it lets out leaves the frame as E says -/
def WE' (E : XK) : WX := fun cls d _ H => E cls d H
/-- a def by its body -/
theorem fn_ok {x qual : Str} {st : Stmt} {f : Addr} {fd : FuncData} {N ps : List Str} {k : Nat} {B : List Nat} {m : MS} (F : Fun K x qual st f fd) (S : FnScope N ps (defScope st)) (hB : ∀ j ∈ B, j < ps.length)
    (hb : ∀ (cdv : Value) (A : Around) (outer : List PySem.Env) (s : Shared) (H : Hp) (E : XK), Room k (A.deeper (PyProof.Rows.envOfC qual (defScope st) s.heap.objs.size f cdv)) →
      ∀ W : WX, Takes (cxOf (L2.CX P w) P w K mg base N qual (defScope st) f cdv A outer s H E) W → SSs (cxOf (L2.CX P w) P w K mg base N qual (defScope st) f cdv A outer s H E) W C B (defBody st) m) :
    FnOk P w K mg base (L2.CX P w) (k + 1) f fd ps (spF C ps.length (Se.fnOf N.length B m)) := by
  refine F.okX S (fun vs H Q E h => h.1) fun cdv A outer s H vs Q E hr h => ?_
  obtain ⟨hvs, ds, own, r, hp⟩ := h
  have tk : Takes (cxOf (L2.CX P w) P w K mg base N qual (defScope st) f cdv A outer s H E) (WE' E) := takes_of rfl rfl rfl rfl
  have hl : ds.length = vs.length := r.len.symm
  have hN : N.length - vs.length = N.length - ds.length := by rw [hl]
  obtain ⟨t, pt, sn⟩ := (hb cdv A outer s H E hr (WE' E) tk).ex
  refine ⟨t, pt, ?_⟩
  have er : ER C H (startE N.length ds) (L2.start N vs) own := by
    unfold startE L2.start
    rw [hN]
    exact ER.start _ r
  refine sn _ _ H own _ er ?_
  have hst : ∀ j v, vs[j]? = some v → (L2.start N vs)[j]? = some (some v) := fun j v hj => by
    unfold L2.start
    have hjl := (List.getElem?_eq_some_iff.mp hj).1
    rw [List.getElem?_append_left (by simpa using hjl), List.getElem?_map, hj]
    rfl
  have bk : ∀ {ρ : Env} {σ' : St} {H' : Hp} {own' : List Addr} {ds' : List D}, ER C H' ρ σ' own' → Stp H H' own own' → (∀ j ∈ B, σ'[j]? = (L2.start N vs)[j]?) → back B ρ 0 ds = some ds' → ∃ o', RepL C H' ds' vs o' ∧ ∀ a ∈ o', a ∈ own' :=
    fun {ρ σ' H' own' ds'} er' st' b' hb' => ER.back r (st'.keepF r.mut) er' hb' fun j v hj hjB => by
      rw [Nat.zero_add] at hjB ⊢
      rw [b' j hjB]
      exact hst j v hj
  unfold Se.fnOf at hp
  cases hm : m (startE N.length ds) with
  | nx ρ =>
    rw [hm] at hp
    dsimp only at hp
    split at hp
    · rename_i ds' hbk
      intro σ' H' own' er' st' b'
      obtain ⟨o', r', m'⟩ := bk er' st' b' hbk
      exact hp .non H' [] o' ⟨rfl, rfl⟩ r' (by simp) (st'.less fun a ha => m' a (by simpa using ha))
    · exact (show False from hp).elim
  | rt d ρ =>
    rw [hm] at hp
    dsimp only at hp
    split at hp
    · rename_i ds' hbk
      intro v σ' H' o own' rd er' dj st' b'
      obtain ⟨o', r', m'⟩ := bk er' (st'.less fun a ha => List.mem_append_right _ ha) b' hbk
      exact hp v H' o o' rd r' (fun a ha z => dj a ha (m' a z)) (st'.less fun a ha => (List.mem_append.mp ha).elim (List.mem_append_left _) fun z => List.mem_append_right _ (m' a z))
    · exact (show False from hp).elim
  | ex e ρ =>
    rw [hm] at hp
    dsimp only at hp
    split at hp
    · rename_i ds' hbk
      intro cls dd σ' H' own' x er' st' b'
      obtain ⟨o', r', m'⟩ := bk er' st' b' hbk
      exact hp cls dd H' o' x r' (st'.less m')
    · exact (show False from hp).elim
  | bk ρ => rw [hm] at hp; exact (show False from hp).elim
  | ct ρ => rw [hm] at hp; exact (show False from hp).elim
  | bad => rw [hm] at hp; exact (show False from hp).elim
end

/-! ### calls -/
abbrev AD := D ⊕ Nat
def RepA (C : RC) (H : Hp) (σ : St) : List AD → List V → List Addr → Prop
  | [], vs, o => vs = [] ∧ o = []
  | .inl d :: as, vs, o => ∃ v vs' o1 o2, vs = v :: vs' ∧ Rep C H d v o1 ∧ RepA C H σ as vs' o2 ∧ (∀ a ∈ o1, a ∉ o2) ∧ o = o1 ++ o2
  | .inr i :: as, vs, o => ∃ v vs', vs = v :: vs' ∧ σ[i]? = some (some v) ∧ RepA C H σ as vs' o
def takeAll : List AD → Env → Option (List D × Env)
  | [], ρ => some ([], ρ)
  | .inl d :: as, ρ => (takeAll as ρ).map fun p => (d :: p.1, p.2)
  | .inr i :: as, ρ => ((ρ[i]?).join).bind fun d => (takeAll as (ρ.set i none)).map fun p => (d :: p.1, p.2)
def isHole (ρ : Env) (i : Nat) : Bool := match ρ[i]? with
  | some none => true
  | _ => false
theorem isHole_eq {ρ : Env} {i : Nat} (h : isHole ρ i = true) : ρ[i]? = some none := by
  unfold isHole at h
  split at h
  · assumption
  · cases h
def putAll : List AD → List D → Env → Option Env
  | [], [], ρ => some ρ
  | .inl _ :: as, _ :: ds, ρ => putAll as ds ρ
  | .inr i :: as, d :: ds, ρ => if isHole ρ i = true then putAll as ds (ρ.set i (some d)) else none
  | _, _, _ => none
section
variable {C : RC} {H : Hp} {σ : St}
theorem RepA.mut : ∀ {as : List AD} {vs : List V} {o : List Addr}, RepA C H σ as vs o → Muts H o
  | [], _, _, h => by obtain ⟨_, rfl⟩ := h; exact muts_nil
  | .inl d :: as, _, _, h => by
    obtain ⟨v, vs', o1, o2, _, h1, h2, _, rfl⟩ := h
    intro a ha
    exact (List.mem_append.mp ha).elim (h1.mut a) (RepA.mut h2 a)
  | .inr i :: as, _, _, h => by obtain ⟨v, vs', _, _, h⟩ := h; exact RepA.mut h
theorem RepA.keep {H' : Hp} {own : List Addr} (k : Keeps H H' own) (m : Muts H own) : ∀ {as : List AD} {vs : List V} {o : List Addr}, (∀ a ∈ o, a ∉ own) → RepA C H σ as vs o → RepA C H' σ as vs o
  | [], _, _, _, h => h
  | .inl d :: as, _, _, hd, h => by
    obtain ⟨v, vs', o1, o2, e, h1, h2, n, rfl⟩ := h
    exact ⟨v, vs', o1, o2, e, h1.keep k m fun a ha => hd a (List.mem_append_left _ ha), RepA.keep k m (fun a ha => hd a (List.mem_append_right _ ha)) h2, n, rfl⟩
  | .inr i :: as, _, _, hd, h => by
    obtain ⟨v, vs', e, s, h⟩ := h
    exact ⟨v, vs', e, s, RepA.keep k m hd h⟩
theorem takeAll_ok : ∀ {as : List AD} {vs : List V} {o own : List Addr} {ρ ρ1 : Env} {ds : List D}, RepA C H σ as vs o → ER C H ρ σ own → (∀ a ∈ o, a ∉ own) → takeAll as ρ = some (ds, ρ1) →
    ∃ oa own1, RepL C H ds vs oa ∧ ER C H ρ1 σ own1 ∧ (∀ a ∈ oa, a ∉ own1) ∧ (∀ a, a ∈ oa ∨ a ∈ own1 → a ∈ o ∨ a ∈ own)
  | [], _, _, own, ρ, ρ1, ds, h, er, dj, ht => by
    obtain ⟨rfl, rfl⟩ := h
    cases ht
    exact ⟨[], own, ⟨rfl, rfl⟩, er, by simp, fun a ha => .inr (ha.resolve_left (by simp))⟩
  | .inl d :: as, _, _, own, ρ, ρ1, ds, h, er, dj, ht => by
    obtain ⟨v, vs', o1, o2, rfl, h1, h2, n, rfl⟩ := h
    simp only [takeAll, Option.map_eq_some_iff] at ht
    obtain ⟨⟨ds', ρ'⟩, ht, e⟩ := ht
    cases e
    obtain ⟨oa, own1, r, e1, d1, m1⟩ := takeAll_ok h2 er (fun a ha => dj a (List.mem_append_right _ ha)) ht
    refine ⟨o1 ++ oa, own1, ⟨v, vs', o1, oa, rfl, h1, r, fun a ha z => ?_, rfl⟩, e1, fun a ha z => ?_, fun a ha => ?_⟩
    · rcases m1 a (.inl z) with q | q
      · exact n a ha q
      · exact dj a (List.mem_append_left _ ha) q
    · rcases List.mem_append.mp ha with q | q
      · rcases m1 a (.inr z) with w | w
        · exact n a q w
        · exact dj a (List.mem_append_left _ q) w
      · exact d1 a q z
    · rcases ha with q | q
      · rcases List.mem_append.mp q with q | q
        · exact .inl (List.mem_append_left _ q)
        · exact (m1 a (.inl q)).imp (List.mem_append_right _) id
      · exact (m1 a (.inr q)).imp (List.mem_append_right _) id
  | .inr i :: as, _, o, own, ρ, ρ1, ds, h, er, dj, ht => by
    obtain ⟨v, vs', rfl, hs, h⟩ := h
    simp only [takeAll, Option.bind_eq_some_iff, Option.map_eq_some_iff] at ht
    obtain ⟨d, hd, ⟨ds', ρ'⟩, ht, e⟩ := ht
    cases e
    obtain ⟨v', od, own0, e1, rd, er1, dj1, mo⟩ := er.take (join_some hd)
    rw [hs] at e1; cases e1
    obtain ⟨oa, own1, r, e2, d2, m2⟩ := takeAll_ok h er1 (fun a ha z => dj a ha ((mo a).mpr (.inr z))) ht
    refine ⟨od ++ oa, own1, ⟨v, vs', od, oa, rfl, rd, r, fun a ha z => ?_, rfl⟩, e2, fun a ha z => ?_, fun a ha => ?_⟩
    · rcases m2 a (.inl z) with q | q
      · exact dj a q ((mo a).mpr (.inl ha))
      · exact dj1 a ha q
    · rcases List.mem_append.mp ha with q | q
      · rcases m2 a (.inr z) with w | w
        · exact dj a w ((mo a).mpr (.inl q))
        · exact dj1 a q w
      · exact d2 a q z
    · have up : ∀ x, x ∈ o ∨ x ∈ own0 → x ∈ o ∨ x ∈ own := fun x hx => hx.imp id fun z => (mo x).mpr (.inr z)
      rcases ha with q | q
      · rcases List.mem_append.mp q with q | q
        · exact .inr ((mo a).mpr (.inl q))
        · exact up a (m2 a (.inl q))
      · exact up a (m2 a (.inr q))
theorem putAll_ok : ∀ {as : List AD} {vs : List V} {o oa own : List Addr} {ρ ρ1 : Env} {ds : List D} {H0 : Hp}, RepA C H0 σ as vs o → RepL C H ds vs oa → ER C H ρ σ own → (∀ a ∈ oa, a ∉ own) → putAll as ds ρ = some ρ1 →
    ∃ own1, ER C H ρ1 σ own1 ∧ ∀ a ∈ own1, a ∈ oa ∨ a ∈ own
  | [], _, _, _, own, ρ, ρ1, [], H0, h, r, er, dj, hp => by cases hp; exact ⟨own, er, fun a z => .inr z⟩
  | [], _, _, _, own, ρ, ρ1, _ :: _, H0, h, r, er, dj, hp => by cases hp
  | .inl _ :: _, _, _, _, own, ρ, ρ1, [], H0, h, r, er, dj, hp => by cases hp
  | .inr _ :: _, _, _, _, own, ρ, ρ1, [], H0, h, r, er, dj, hp => by cases hp
  | .inl d :: as, _, _, _, own, ρ, ρ1, d' :: ds, H0, h, r, er, dj, hp => by
    obtain ⟨v, vs', o1, o2, rfl, _, h2, n, rfl⟩ := h
    obtain ⟨v', vs2, p1, p2, e, r1, r2, n2, rfl⟩ := r
    cases e
    obtain ⟨own1, e1, m1⟩ := putAll_ok h2 r2 er (fun a ha => dj a (List.mem_append_right _ ha)) (show putAll as ds ρ = some ρ1 from hp)
    exact ⟨own1, e1, fun a ha => (m1 a ha).imp (List.mem_append_right _) id⟩
  | .inr i :: as, _, _, _, own, ρ, ρ1, d' :: ds, H0, h, r, er, dj, hp => by
    obtain ⟨v, vs', rfl, hs, h2⟩ := h
    obtain ⟨v', vs2, p1, p2, e, r1, r2, n2, rfl⟩ := r
    cases e
    simp only [putAll] at hp
    split at hp
    · rename_i hi
      obtain ⟨own0, e0, m0⟩ := ER.put er (isHole_eq hi) hs r1 fun a ha => dj a (List.mem_append_left _ ha)
      obtain ⟨own1, e1, m1⟩ := putAll_ok h2 r2 e0 (fun a ha z => by
        rcases (m0 a).mp z with q | q
        · exact n2 a q ha
        · exact dj a (List.mem_append_right _ ha) q) hp
      refine ⟨own1, e1, fun a ha => ?_⟩
      rcases m1 a ha with q | q
      · exact .inl (List.mem_append_right _ q)
      · exact ((m0 a).mp q).imp (List.mem_append_left _) id
    · cases hp
end
end Se

namespace Se
open PySem L2

/-! ### data without a handled exception -/
mutual
def ne : D → Bool
  | .exc _ _ _ => false
  | .tup ds => neL ds
  | .lst _ ds => neL ds
  | .dct _ _ ds => neL ds
  | .non => true
  | .bl _ => true
  | .int _ => true
  | .str _ => true
  | .ty _ => true
  | .obj _ => true
def neL : List D → Bool
  | [] => true
  | d :: ds => ne d && neL ds
end
section
variable {C C' : RC} {H : Hp}
mutual
theorem Rep.cx (hK : C'.K = C.K) : ∀ {d : D} {v : V} {o : List Addr}, ne d = true → Rep C H d v o → Rep C' H d v o
  | .non, _, _, _, h => h
  | .bl _, _, _, _, h => h
  | .int _, _, _, _, h => h
  | .str _, _, _, _, h => h
  | .ty _, _, _, _, h => h
  | .obj _, _, _, _, h => h
  | .exc _ _ _, _, _, n, h => by cases n
  | .tup ds, _, _, n, h => by
    obtain ⟨a, vs, e, q, h⟩ := h
    exact ⟨a, vs, e, hK ▸ q, RepL.cx hK n h⟩
  | .lst false ds, _, _, n, h => by
    obtain ⟨a, vs, e, q, h, rfl⟩ := h
    exact ⟨a, vs, e, hK ▸ q, RepL.cx hK n h, rfl⟩
  | .lst true ds, _, _, n, h => by
    obtain ⟨a, vs, o', e, q, h, z, rfl⟩ := h
    exact ⟨a, vs, o', e, q, RepL.cx hK n h, z, rfl⟩
  | .dct false ks ds, _, _, n, h => by
    obtain ⟨a, vs, ob, e, q, l, h, rfl⟩ := h
    exact ⟨a, vs, ob, e, q, l, RepL.cx hK n h, rfl⟩
  | .dct true ks ds, _, _, n, h => by
    obtain ⟨a, vs, o', e, q, l, h, z, rfl⟩ := h
    exact ⟨a, vs, o', e, q, l, RepL.cx hK n h, z, rfl⟩
theorem RepL.cx (hK : C'.K = C.K) : ∀ {ds : List D} {vs : List V} {o : List Addr}, neL ds = true → RepL C H ds vs o → RepL C' H ds vs o
  | [], _, _, _, h => h
  | d :: ds, _, _, n, h => by
    obtain ⟨v, vs', o1, o2, e, h1, h2, z, rfl⟩ := h
    have n' : (ne d && neL ds) = true := n
    rw [Bool.and_eq_true] at n'
    exact ⟨v, vs', o1, o2, e, Rep.cx hK n'.1 h1, RepL.cx hK n'.2 h2, z, rfl⟩
end
mutual
theorem Rep.ne0 (hC : C.hx = none) : ∀ {d : D} {v : V} {o : List Addr}, Rep C H d v o → ne d = true
  | .non, _, _, _ => rfl
  | .bl _, _, _, _ => rfl
  | .int _, _, _, _ => rfl
  | .str _, _, _, _ => rfl
  | .ty _, _, _, _ => rfl
  | .obj _, _, _, _ => rfl
  | .exc _ _ _, _, _, h => by
    obtain ⟨a, d, vs, _, e, _⟩ := h
    rw [hC] at e; cases e
  | .tup ds, _, _, h => by obtain ⟨a, vs, e, q, h⟩ := h; exact RepL.ne0 hC h
  | .lst false ds, _, _, h => by obtain ⟨a, vs, e, q, h, _⟩ := h; exact RepL.ne0 hC h
  | .lst true ds, _, _, h => by obtain ⟨a, vs, o', e, q, h, _⟩ := h; exact RepL.ne0 hC h
  | .dct false ks ds, _, _, h => by obtain ⟨a, vs, ob, e, q, l, h, _⟩ := h; exact RepL.ne0 hC h
  | .dct true ks ds, _, _, h => by obtain ⟨a, vs, o', e, q, l, h, _⟩ := h; exact RepL.ne0 hC h
theorem RepL.ne0 (hC : C.hx = none) : ∀ {ds : List D} {vs : List V} {o : List Addr}, RepL C H ds vs o → neL ds = true
  | [], _, _, _ => rfl
  | d :: ds, _, _, h => by
    obtain ⟨v, vs', o1, o2, e, h1, h2, z, rfl⟩ := h
    show (ne d && neL ds) = true
    rw [Rep.ne0 hC h1, RepL.ne0 hC h2]
    rfl
end
theorem XR.cx (hK : C'.K = C.K) {e : EX} {cls : Value} {d : Option Addr} (n : neL e.ds = true) (h : XR C H e cls d) : XR C' H e cls d := by
  obtain ⟨h1, dd, vs, h2, h3, h4, h5⟩ := h
  exact ⟨h1, dd, vs, h2, h3, h4, RepL.cx hK n h5⟩
theorem XR.ne0 (hC : C.hx = none) {e : EX} {cls : Value} {d : Option Addr} (h : XR C H e cls d) : neL e.ds = true := by
  obtain ⟨h1, dd, vs, h2, h3, h4, h5⟩ := h
  exact RepL.ne0 hC h5
end
abbrev C0 (K : PySem.W.Frag) : RC := ⟨K, none⟩

/-! ### a def by its body: calm, and within an except suite -/
abbrev XC (P : Program) (w : World) (K : PySem.W.Frag) (mg : Str → Option Value) (base : Heap) (N : List Str) (qual : Str) (sc : Scope) (f : Addr) (cdv : Value) (A : Around) (outer : List PySem.Env) (s : Shared) (H : Hp) (E : XK) : Cx := cxOf (L2N.CX P w) P w K mg base N qual sc f cdv A outer s H E
section
variable {P : Program} {w : World} {K : PySem.W.Frag} {mg : Str → Option Value} {base : Heap} {C : RC}
theorem body_ok {X : Cx} {body : List Stmt} {N ps : List Str} {B : List Nat} {m : MS} {vs : List V} {H : Hp} {Q : VK} {E : XK} (hb : SSs X (WE' E) C B body m) (h : spF C ps.length (Se.fnOf N.length B m) vs H Q E) :
    ∃ t, PSs X body t ∧ t { nx := fun _ H' => Q .non H', rt := Q } (L2.start N vs) H := by
  obtain ⟨hvs, ds, own, r, hp⟩ := h
  have hl : ds.length = vs.length := r.len.symm
  have hN : N.length - vs.length = N.length - ds.length := by rw [hl]
  obtain ⟨t, pt, sn⟩ := hb.ex
  refine ⟨t, pt, ?_⟩
  have er : ER C H (startE N.length ds) (L2.start N vs) own := by
    unfold startE L2.start
    rw [hN]
    exact ER.start _ r
  refine sn _ _ H own _ er ?_
  have hst : ∀ j v, vs[j]? = some v → (L2.start N vs)[j]? = some (some v) := fun j v hj => by
    unfold L2.start
    have hjl := (List.getElem?_eq_some_iff.mp hj).1
    rw [List.getElem?_append_left (by simpa using hjl), List.getElem?_map, hj]
    rfl
  have bk : ∀ {ρ : Env} {σ' : St} {H' : Hp} {own' : List Addr} {ds' : List D}, ER C H' ρ σ' own' → Stp H H' own own' → (∀ j ∈ B, σ'[j]? = (L2.start N vs)[j]?) → back B ρ 0 ds = some ds' → ∃ o', RepL C H' ds' vs o' ∧ ∀ a ∈ o', a ∈ own' :=
    fun {ρ σ' H' own' ds'} er' st' b' hb' => ER.back r (st'.keepF r.mut) er' hb' fun j v hj hjB => by
      rw [Nat.zero_add] at hjB ⊢
      rw [b' j hjB]
      exact hst j v hj
  unfold Se.fnOf at hp
  cases hm : m (startE N.length ds) with
  | nx ρ =>
    rw [hm] at hp
    dsimp only at hp
    split at hp
    · rename_i ds' hbk
      intro σ' H' own' er' st' b'
      obtain ⟨o', r', m'⟩ := bk er' st' b' hbk
      exact hp .non H' [] o' ⟨rfl, rfl⟩ r' (by simp) (st'.less fun a ha => m' a (by simpa using ha))
    · exact (show False from hp).elim
  | rt d ρ =>
    rw [hm] at hp
    dsimp only at hp
    split at hp
    · rename_i ds' hbk
      intro v σ' H' o own' rd er' dj st' b'
      obtain ⟨o', r', m'⟩ := bk er' (st'.less fun a ha => List.mem_append_right _ ha) b' hbk
      exact hp v H' o o' rd r' (fun a ha z => dj a ha (m' a z)) (st'.less fun a ha => (List.mem_append.mp ha).elim (List.mem_append_left _) fun z => List.mem_append_right _ (m' a z))
    · exact (show False from hp).elim
  | ex e ρ =>
    rw [hm] at hp
    dsimp only at hp
    split at hp
    · rename_i ds' hbk
      intro cls dd σ' H' own' x er' st' b'
      obtain ⟨o', r', m'⟩ := bk er' st' b' hbk
      exact hp cls dd H' o' x r' (st'.less m')
    · exact (show False from hp).elim
  | bk ρ => rw [hm] at hp; exact (show False from hp).elim
  | ct ρ => rw [hm] at hp; exact (show False from hp).elim
  | bad => rw [hm] at hp; exact (show False from hp).elim
variable {x qual : Str} {params : Arguments} {body : List Stmt} {sc : Scope} {f : Addr} {fd : FuncData} {N ps : List Str} {k : Nat} {B : List Nat} {m : MS}
theorem fnN (F : FunD K x qual params body sc [] [] f fd) (S : FnScope N ps sc)
    (hb : ∀ (cdv : Value) (A : Around) (outer : List PySem.Env) (s : Shared) (H : Hp) (E : XK), Room k (A.deeper (PyProof.Rows.envOfC qual sc s.heap.objs.size f cdv)) →
      ∀ W : WX, L2N.Takes (XC P w K mg base N qual sc f cdv A outer s H E) W → SSs (XC P w K mg base N qual sc f cdv A outer s H E) W C B body m) :
    FnOk P w K mg base (L2N.CX P w) (k + 1) f fd ps (spF C ps.length (Se.fnOf N.length B m)) := by
  refine F.ok S (fun vs H Q E h => h.1) fun cdv A outer s H vs Q E hr h => ?_
  exact body_ok (hb cdv A outer s H E hr (WE' E) (L2N.takes_of rfl rfl rfl rfl)) h
abbrev XH (P : Program) (w : World) (K : PySem.W.Frag) (mg : Str → Option Value) (base : Heap) (N : List Str) (qual : Str) (sc : Scope) (f : Addr) (cdv : Value) (A : Around) (outer : List PySem.Env) (s : Shared) (H : Hp) (E : XK) (p : Addr × Obj) : Cx := L2H.cxH (L2N.CX P w) P w K mg base N qual sc f cdv A outer s H E p
theorem fnH (F : FunD K x qual params body sc [] [] f fd) (S : FnScope N ps sc)
    (hb : ∀ (cdv : Value) (A : Around) (outer : List PySem.Env) (s : Shared) (H : Hp) (E : XK) (p : Addr × Obj), L2H.RoomH k (A.deeper (PyProof.Rows.envOfC qual sc s.heap.objs.size f cdv)) → L2H.HotC (XH P w K mg base N qual sc f cdv A outer s H E p) →
      ∀ W : WX, L2N.Takes (XH P w K mg base N qual sc f cdv A outer s H E p) W → SSs (XH P w K mg base N qual sc f cdv A outer s H E p) W C B body m) :
    L2H.FnH P w K mg base (L2N.CX P w) (k + 1) f fd ps (spF C ps.length (Se.fnOf N.length B m)) := by
  obtain ⟨oc, od, dV, kV, doc, pm, an, cdv, ct, osl, rfl, lk, hcd, _, _⟩ := F.ex
  refine L2H.fn_ofH lk hcd S (fun vs H Q E h => h.1) fun A outer s H vs Q E p hot hr h => ?_
  refine body_ok (hb cdv A outer s H E p hr ⟨p, hot, ?_⟩ (WE' E) (L2N.takes_of rfl rfl rfl rfl)) h
  exact List.mem_singleton.mpr rfl
end

/-! ### a callee, as it is called from X -/
structure Cal (X : Cx) (f : Addr) (fd : FuncData) (ps : List Str) (sp : Sp) : Prop where
  len : ∀ vs H Q E, sp vs H Q E → vs.length = ps.length
  run : ∀ (E : XK) (pins : List (Addr × Obj)) (σ : St) (H : Hp) (s : Shared) (Q : VK) (us : List Value) (kvs : List (Str × Value)) (ws : List Value) (vs : List V), Inv X pins σ H s → L2.PassesAt (L2N.CX X.prog X.w) X σ E → BindsTo s fd ⟨us, kvs⟩ (ps.zip ws) → Vals vs ws → sp vs H Q E →
    wpAny (model X.prog X.w) X.A (call (.ref f) us kvs) (EP X pins σ Q) X.xe s
section
variable {X : Cx} {k : Nat} {f : Addr} {fd : FuncData} {ps : List Str} {sp : Sp}
theorem EP.of {pins : List (Addr × Obj)} {σ : St} {H : Hp} {s s' : Shared} {Q : VK} {E : XK} {r : Except Value Flow} (I : Inv X pins σ H s) (hx : L2.PassesAt (L2N.CX X.prog X.w) X σ E) (hq : L2.CR (L2N.CX X.prog X.w) X.stack X.prog X.w H s Q E r s') :
    (match (generalizing := false) r with
      | .error e => X.xe e s'
      | .ok (.ret u) => EP X pins σ Q u s'
      | .ok _ => False) := by
  cases r with
  | error e => exact hx pins H s e s' I hq
  | ok fl => cases fl with
    | ret u => exact I.after hq
    | _ => exact hq
theorem cal_calm (F : FnOk X.prog X.w X.K X.mg X.base (L2N.CX X.prog X.w) k f fd ps sp) (hr : Room k X.A) : Cal X f fd ps sp := ⟨F.len, fun E pins σ H s Q us kvs ws vs I hx hb r h => by
  refine wpAny_call (codeAny_mono (F.run X.A X.stack s H ⟨us, kvs⟩ ws vs Q E hr I.env0 hb r h) fun r' s' hq => ?_)
  have z := EP.of I hx hq
  cases r' with
  | error e => exact z
  | ok fl => cases fl <;> exact z⟩
theorem cal_hot (F : L2H.FnH X.prog X.w X.K X.mg X.base (L2N.CX X.prog X.w) k f fd ps sp) (hr : L2H.RoomH k X.A) (hc : L2H.HotC X) : Cal X f fd ps sp := ⟨F.len, fun E pins σ H s Q us kvs ws vs I hx hb r h => by
  obtain ⟨p, hot, hp⟩ := hc
  have P1 := I.pin p (List.mem_append_left _ hp)
  have hpin : L2H.PinOk X.stack H s p := ⟨P1.1, P1.2.1, fun hm => (List.mem_cons.mp (I.stkSub p.1 hm)).elim P1.2.2.1 P1.2.2.2.1, P1.2.2.2.2⟩
  refine wpAny_call (codeAny_mono (F.run X.A X.stack s H ⟨us, kvs⟩ ws vs Q E p hr hot hpin I.env0 hb r h) fun r' s' hq => ?_)
  have z := EP.of I hx hq
  cases r' with
  | error e => exact z
  | ok fl => cases fl <;> exact z⟩
end

/-! ### arguments: values, or slots that are lent -/
def PoB (C : RC) (W : WX) (r : RE (List AD)) (σ : St) (H : Hp) (own : List Addr) (Q : List V → Hp → Prop) : Prop := match r with
  | .ok as ρ' => ∀ vs H' o own', RepA C H' σ as vs o → ER C H' ρ' σ own' → (∀ a ∈ o, a ∉ own') → Stp H H' own (o ++ own') → Q vs H'
  | .ex e ρ' => ∀ cls d H' own', XR C H' e cls d → ER C H' ρ' σ own' → Stp H H' own own' → W cls d σ H'
  | .bad => False
structure SAB (X : Cx) (W : WX) (C : RC) (es : List Expr) (m : M (List AD)) : Prop where
  ex : ∃ t, PA X es t ∧ ∀ ρ σ H own Q, ER C H ρ σ own → PoB C W (m ρ) σ H own Q → t σ H Q
def bNil : M (List AD) := fun ρ => .ok [] ρ
def bVal (ma : M D) (ms : M (List AD)) : M (List AD) := fun ρ => (ma ρ).bind fun d ρ1 => (ms ρ1).bind fun as ρ2 => .ok (.inl d :: as) ρ2
def bBor (i : Nat) (ms : M (List AD)) : M (List AD) := fun ρ => match (ρ[i]?).join with
  | some _ => (ms ρ).bind fun as ρ2 => .ok (.inr i :: as) ρ2
  | none => .bad
section
variable {X : Cx} {W : WX} {C : RC} {e : Expr} {es : List Expr} {ma : M D} {ms : M (List AD)}
theorem poB_bind {σ : St} {H : Hp} {own : List Addr} {β : Type} {r : RE (List AD)} {k : List AD → Env → RE β} {P : RE β → Prop} {Q1 : List V → Hp → Prop} (hw : P (r.bind k)) (hb : ¬ P .bad) (hex : ExOk C W σ H own fun e ρ' => P (.ex e ρ'))
    (hok : ∀ as ρ' vs H' o own', RepA C H' σ as vs o → ER C H' ρ' σ own' → (∀ a ∈ o, a ∉ own') → Stp H H' own (o ++ own') → P (k as ρ') → Q1 vs H') : PoB C W r σ H own Q1 := by
  cases r with
  | ok as ρ' => exact fun vs H' o own' r1 r2 r3 r4 => hok as ρ' vs H' o own' r1 r2 r3 r4 hw
  | ex e ρ' => exact hex e ρ' hw
  | bad => exact (hb hw).elim
theorem exB {σ : St} {H : Hp} {own : List Addr} {Q : List V → Hp → Prop} : ExOk C W σ H own fun e ρ' => PoB C W (.ex e ρ') σ H own Q := fun _ _ h => h
theorem sab_nil : SAB X W C [] bNil := ⟨_, pa_nil, fun ρ σ H own Q er hw => hw [] H [] own ⟨rfl, rfl⟩ er (by simp) (Stp.refl (by simp))⟩
theorem sab_val (ha : SE X W C e ma) (hr : SAB X W C es ms) (hs : starEach (e :: es) X.env = (false, eval e X.env) :: starEach es X.env := by rfl) : SAB X W C (e :: es) (bVal ma ms) := by
  obtain ⟨ta, pa, sa⟩ := ha.ex
  obtain ⟨tr, pr, sr⟩ := hr.ex
  refine ⟨_, pa_cons pa pr hs, fun ρ σ H own Q er hw => ?_⟩
  have hw : PoB C W ((ma ρ).bind fun d ρ1 => (ms ρ1).bind fun as ρ2 => .ok (.inl d :: as) ρ2) σ H own Q := hw
  refine sa ρ σ H own _ er (poE_bind (P := fun r => PoB C W r σ H own Q) hw (fun z => z) exB fun d1 ρ1 v1 H1 o1 own1 r1 e1 j1 s1 hw1 => ?_)
  refine sr ρ1 σ H1 own1 _ e1 (poB_bind (P := fun r => PoB C W r σ H own Q) hw1 (fun z => z) (exB.at s1) fun as ρ2 vs H2 o2 own2 r2 e2 j2 s2 hw2 => ?_)
  have j12 : ∀ a ∈ o1, a ∉ o2 ++ own2 := s2.apart r1.mut j1
  refine hw2 (v1 :: vs) H2 (o1 ++ o2) own2 ⟨v1, vs, o1, o2, rfl, r1.keep s2.keep e1.mut j1, r2, fun a ha z => j12 a ha (List.mem_append_left _ z), rfl⟩ e2 (fun a ha z => ?_) ?_
  · rcases List.mem_append.mp ha with q | q
    · exact j12 a q (List.mem_append_right _ z)
    · exact j2 a q z
  · exact (s1.held s2).less fun a ha => by simpa [List.append_assoc] using ha
theorem sab_bor {i : Nat} {x : Str} {pos : Pos} (h : PE X (.Name x pos) (tVar i)) (hr : SAB X W C es ms) (hs : starEach (.Name x pos :: es) X.env = (false, eval (.Name x pos) X.env) :: starEach es X.env := by rfl) : SAB X W C (.Name x pos :: es) (bBor i ms) := by
  obtain ⟨tr, pr, sr⟩ := hr.ex
  refine ⟨_, pa_cons h pr hs, fun ρ σ H own Q er hw => ?_⟩
  unfold bBor at hw
  split at hw
  · rename_i d hd
    obtain ⟨v, o, own1, e1, r, er1, n, m⟩ := er.take (join_some hd)
    refine ⟨v, e1, sr ρ σ H own _ er (poB_bind (P := fun r => PoB C W r σ H own Q) hw (fun z => z) exB fun as ρ2 vs H2 o2 own2 r2 e2 j2 s2 hw2 => ?_)⟩
    exact hw2 (v :: vs) H2 o2 own2 ⟨v, vs, rfl, e1, r2⟩ e2 j2 s2
  · exact hw.elim
end

/-! ### a call of a def -/
def fin (as : List AD) (ρ : Env) (r : FR) : RE D := match r with
  | .rt d ds' => match putAll as ds' ρ with
    | some ρ' => .ok d ρ'
    | none => .bad
  | .ex e ds' => match putAll as ds' ρ with
    | some ρ' => .ex e ρ'
    | none => .bad
  | .bad => .bad
def eCall (n : Nat) (F : List D → FR) (ma : M (List AD)) : M D := fun ρ => (ma ρ).bind fun as ρ1 => match takeAll as ρ1 with
  | some (ds, ρ2) => if ds.length = n ∧ neL ds = true then fin as ρ2 (F ds) else .bad
  | none => .bad
def tCal (sp : Sp) (W : WX) (t : TA) : TE := fun σ H Q => t σ H fun vs H1 => sp vs H1 Q (WE W σ)
section
variable {X : Cx} {W : WX} {C : RC} {e : Expr} {es : List Expr} {x : Str} {f : Addr} {fd : FuncData} {ps : List Str} {sp : Sp} {t : TA} {p pos : Pos} {ma : M (List AD)} {F : List D → FR} {n : Nat}
theorem passN (tk : L2N.Takes X W) (σ : St) : L2.PassesAt (L2N.CX X.prog X.w) X σ (WE W σ) := L2N.passAt tk σ
theorem pe_cal (c : Cal X f fd ps sp) (tk : L2N.Takes X W) (hg : Gl X x) (hm : X.mg x = some (.ref f)) (hk : PySem.W.keepIn X.K (.ref f) = true) (hb : Binds X.K fd ps []) (ha : PA X (e :: es) t) (hd : (x == ("__debug__" : Str)) = false := by decide)
    (he : starEach (e :: es) X.env = (false, eval e X.env) :: starEach es X.env := by rfl) (hp : (backTo pos (starEach es X.env)).any (·.1) = false := by rfl) : PE X (.Call (.Name x p) (e :: es) [] pos) (tCal sp W t) :=
  ⟨fun pins s σ H Q I h => wpAny_Call_Name_kw (ld_glob I hg hm (PySem.W.callWith_K (h₀ := X.base) I.ok.mod.kin hk (thn (ha.run pos pins s σ H _ I h) fun us s1 ⟨vs, H1, I1, r, q⟩ => ⟨I1.kIn, by
    have b := hb s1 us I1.kIn (by rw [List.append_nil, ← r.length]; exact c.len _ _ _ _ q)
    rw [List.append_nil] at b
    exact c.run (WE W σ) pins σ H1 s1 Q us [] us vs I1 (passN tk σ) b r q⟩) he hp) hd)⟩
theorem pe_cal0 (c : Cal X f fd ps sp) (tk : L2N.Takes X W) (hg : Gl X x) (hm : X.mg x = some (.ref f)) (hk : PySem.W.keepIn X.K (.ref f) = true) (hb : Binds X.K fd ps []) (hd : (x == ("__debug__" : Str)) = false := by decide) : PE X (.Call (.Name x p) [] [] pos) (tCal sp W tNil) :=
  ⟨fun pins s σ H Q I h => wpAny_Call_Name_kw (ld_glob I hg hm (PySem.W.callWith_K0 I.kIn hk (by
    have b := hb s [] I.kIn (by rw [List.append_nil]; exact c.len _ _ _ _ h)
    rw [List.append_nil] at b
    exact c.run (WE W σ) pins σ H s Q [] [] [] [] I (passN tk σ) b .nil h)) hd)⟩
/-- f(k = v, ..): g puts the values in the parameters' order -/
structure Bk (K : PySem.W.Frag) (fd : FuncData) (ps ks : List Str) (pm : List Nat) : Prop where
  to : ∀ (s : Shared) (ws : List Value), K.In s.heap → ws.length = ks.length → BindsTo s fd ⟨[], ks.zip ws⟩ (ps.zip (pm.map fun j => ws.getD j .none))
  ok : ∀ j ∈ pm, j < ks.length
  nd : pm.Nodup
  all : pm.length = ks.length
  len : ps.length = ks.length
theorem sound_call (hK : C.K = X.K) {σ : St} {H : Hp} {own : List Addr} {Q : VK} {as : List AD} {ρ1 : Env} {vs : List V} {H1 : Hp} {o1 own1 : List Addr} (hn : n = ps.length)
    (r1 : RepA C H1 σ as vs o1) (e1 : ER C H1 ρ1 σ own1) (j1 : ∀ a ∈ o1, a ∉ own1) (s1 : Stp H H1 own (o1 ++ own1))
    (hw : PoE C W (match takeAll as ρ1 with
      | some (ds, ρ2) => if ds.length = n ∧ neL ds = true then fin as ρ2 (F ds) else .bad
      | none => .bad) σ H own Q) : spF (C0 X.K) ps.length F vs H1 Q (WE W σ) := by
  split at hw
  · rename_i ds ρ2 ht
    split at hw
    · rename_i hc
      obtain ⟨oa, own2, r2, e2, j2, m2⟩ := takeAll_ok r1 e1 j1 ht
      have m12 : ∀ a ∈ oa ++ own2, a ∈ o1 ++ own1 := fun a ha => List.mem_append.mpr (m2 a (List.mem_append.mp ha))
      refine ⟨by rw [r2.len, hc.1, hn], ds, oa, RepL.cx hK.symm hc.2 r2, ?_⟩
      have back2 : ∀ {H' : Hp} {ds' : List D} {o' own' : List Addr} {ρ3 : Env}, RepL (C0 X.K) H' ds' vs own' → Stp H1 H' oa (o' ++ own') → putAll as ds' ρ2 = some ρ3 → ∃ own3, ER C H' ρ3 σ own3 ∧ (∀ a ∈ own3, a ∈ own' ∨ a ∈ own2) ∧ (∀ a ∈ o', a ∉ own2) := fun {H' ds' o' own' ρ3} r' st' hp => by
        have ap : ∀ a ∈ o' ++ own', a ∉ own2 := fun a ha z => by
          rcases st'.sub a ha with q | q
          · exact j2 a q z
          · obtain ⟨u, e, _⟩ := e2.mut a z
            rw [e] at q; cases q
        obtain ⟨own3, e3, m3⟩ := putAll_ok r1 (RepL.cx hK (RepL.ne0 rfl r') r') (e2.keep st'.keep r2.mut fun a ha z => j2 a z ha) (fun a ha => ap a (List.mem_append_right _ ha)) hp
        exact ⟨own3, e3, m3, fun a ha => ap a (List.mem_append_left _ ha)⟩
      have stt : ∀ {H' : Hp} {o' own' own3 : List Addr}, Stp H1 H' oa (o' ++ own') → (∀ a ∈ own3, a ∈ own' ∨ a ∈ own2) → Stp H H' own (o' ++ own3) := fun {H' o' own' own3} st' m3 => by
        refine (s1.less m12).trans ⟨fun x ob e n => st'.keep x ob e fun z => n (List.mem_append_left _ z), fun x hx => ?_⟩
        rcases List.mem_append.mp hx with q | q
        · exact (st'.sub x (List.mem_append_left _ q)).imp (List.mem_append_left _) id
        · rcases m3 x q with q | q
          · exact (st'.sub x (List.mem_append_right _ q)).imp (List.mem_append_left _) id
          · exact .inl (List.mem_append_right _ q)
      unfold fin at hw
      cases hF : F ds with
      | rt d ds' =>
        rw [hF] at hw
        dsimp only at hw
        split at hw
        · rename_i ρ3 hp
          intro v H' o own' rv r' dj st'
          obtain ⟨own3, e3, m3, a2⟩ := back2 r' st' hp
          exact hw v H' o own3 (Rep.cx hK (Rep.ne0 rfl rv) rv) e3 (fun a ha z => (m3 a z).elim (dj a ha) (a2 a ha)) (stt st' m3)
        · exact hw.elim
      | ex e ds' =>
        rw [hF] at hw
        dsimp only at hw
        split at hw
        · rename_i ρ3 hp
          intro cls dd H' own' x r' st'
          obtain ⟨own3, e3, m3, _⟩ := back2 (o' := []) r' (by simpa using st') hp
          exact hw cls dd H' own3 (XR.cx hK (XR.ne0 rfl x) x) e3 (by simpa using stt (o' := []) (by simpa using st') m3)
        · exact hw.elim
      | bad => rw [hF] at hw; exact hw.elim
    · exact hw.elim
  · exact hw.elim
theorem snd_call (hK : C.K = X.K) (hn : n = ps.length) (sa : ∀ ρ σ H own Q, ER C H ρ σ own → PoB C W (ma ρ) σ H own Q → t σ H Q) : Snd W C (tCal (spF (C0 X.K) ps.length F) W t) (eCall n F ma) := fun ρ σ H own Q er hw =>
  sa ρ σ H own _ er (poB_bind (P := fun r => PoE C W r σ H own Q) hw (fun z => z) (fun _ _ h => h) fun as ρ1 vs H1 o1 own1 r1 e1 j1 s1 hw1 => sound_call hK hn r1 e1 j1 s1 hw1)
theorem se_call (hK : C.K = X.K) (c : Cal X f fd ps (spF (C0 X.K) ps.length F)) (tk : L2N.Takes X W) (hg : Gl X x) (hm : X.mg x = some (.ref f)) (hk : PySem.W.keepIn X.K (.ref f) = true) (hb : Binds X.K fd ps []) (hn : n = ps.length) (ha : SAB X W C (e :: es) ma) (hd : (x == ("__debug__" : Str)) = false := by decide)
    (he : starEach (e :: es) X.env = (false, eval e X.env) :: starEach es X.env := by rfl) (hp : (backTo pos (starEach es X.env)).any (·.1) = false := by rfl) : SE X W C (.Call (.Name x p) (e :: es) [] pos) (eCall n F ma) := by
  obtain ⟨t, pt, st⟩ := ha.ex
  exact ⟨_, pe_cal c tk hg hm hk hb pt hd he hp, snd_call hK hn st⟩
theorem se_call0 (hK : C.K = X.K) (c : Cal X f fd ps (spF (C0 X.K) ps.length F)) (tk : L2N.Takes X W) (hg : Gl X x) (hm : X.mg x = some (.ref f)) (hk : PySem.W.keepIn X.K (.ref f) = true) (hb : Binds X.K fd ps []) (hn : n = ps.length) (hd : (x == ("__debug__" : Str)) = false := by decide) :
    SE X W C (.Call (.Name x p) [] [] pos) (eCall n F bNil) :=
  ⟨_, pe_cal0 c tk hg hm hk hb hd, snd_call hK hn fun ρ σ H own Q er hw => hw [] H [] own ⟨rfl, rfl⟩ er (by simp) (Stp.refl (by simp))⟩
end
end Se

namespace Se
open PySem L2

/-! ### an own exception's __init__: self.f = f, field by field -/
def spI (C : Addr) (ns : List Str) : Sp := fun vs H Q _ => ∃ (a : Addr) (ws : List V), vs = .ref a :: ws ∧ ws.length = ns.length ∧ H a = some (exo a C none) ∧
  ∀ dx H', H dx = none → dx ≠ a → H' a = some (exo a C (some dx)) → H' dx = some (exd dx (ns.zip ws).reverse) → (∀ b, b ≠ a → b ≠ dx → H' b = H b) → Q .non H'
def tIni (K : PySem.W.Frag) : List Str → Nat → TS
  | [], _ => tNext
  | n :: ns, k => tSeq (tOst K n (tVar 0) (tVar k)) (tIni K ns (k + 1))
theorem ini_go {K : PySem.W.Frag} {C a dx : Addr} (T : OexC K C) : ∀ (ns : List Str) (ws : List V) (k : Nat) (fs : List (Str × V)) (σ : St) (H : Hp) (Dn : Ends), σ[0]? = some (some (.ref a)) → (∀ j v, ws[j]? = some v → σ[k + j]? = some (some v)) →
    ws.length = ns.length → fs.length + ns.length ≤ 900 → (∀ n ∈ ns, PySem.W.findIn K (.ref C) n = some none) → H a = some (exo a C (some dx)) → H dx = some (exd dx fs) → dx ≠ a →
    (∀ H', H' a = some (exo a C (some dx)) → H' dx = some (exd dx ((ns.zip ws).reverse ++ fs)) → (∀ b, b ≠ a → b ≠ dx → H' b = H b) → Dn.nx σ H') → tIni K ns k Dn σ H
  | [], ws, k, fs, σ, H, Dn, _, _, hl, _, _, ea, ed, _, q => q H ea (by simpa using ed) fun _ _ _ => rfl
  | n :: ns, [], _, _, _, _, _, _, _, hl, _, _, _, _, _, _ => by cases hl
  | n :: ns, y :: ws, k, fs, σ, H, Dn, h0, hs, hl, hb, hf, ea, ed, na, q => by
    have hb' : fs.length + (ns.length + 1) ≤ 900 := hb
    refine ⟨y, hs 0 y rfl, .ref a, h0, a, C, rfl, T, hf n List.mem_cons_self, .inr ⟨dx, fs, ea, ed, by omega, ?_⟩⟩
    refine ini_go T ns ws (k + 1) ((n, y) :: fs) σ _ Dn h0 (fun j v hj => ?_) (Nat.succ.inj hl) (by rw [List.length_cons]; omega) (fun m hm => hf m (List.mem_cons_of_mem _ hm)) ((upd_ne (Ne.symm na)).trans ea) upd_same na fun H' e1 e2 e3 => ?_
    · have := hs (j + 1) v hj
      rwa [show k + (j + 1) = k + 1 + j by omega] at this
    · refine q H' e1 ?_ fun b hb1 hb2 => (e3 b hb1 hb2).trans (upd_ne hb2)
      rw [e2, List.zip_cons_cons, List.reverse_cons, List.append_assoc]
      rfl
theorem ini_ok {K : PySem.W.Frag} {C : Addr} (T : OexC K C) {n : Str} {ns : List Str} {N : List Str} {vs : List V} {H : Hp} {Q : VK} {E : XK} (hf : ∀ m ∈ n :: ns, PySem.W.findIn K (.ref C) m = some none) (hl : (n :: ns).length ≤ 900) (h : spI C (n :: ns) vs H Q E) :
    tIni K (n :: ns) 1 { nx := fun _ H' => Q .non H', rt := Q } (L2.start N vs) H := by
  obtain ⟨a, ws, rfl, hw, ea, q⟩ := h
  have hst : ∀ j v, (V.ref a :: ws)[j]? = some v → (L2.start N (V.ref a :: ws))[j]? = some (some v) := fun j v hj => by
    unfold L2.start
    have hjl := (List.getElem?_eq_some_iff.mp hj).1
    rw [List.getElem?_append_left (by simpa using hjl), List.getElem?_map, hj]
    rfl
  match ws, hw with
  | y :: ws, hw =>
    refine ⟨y, hst 1 y rfl, .ref a, hst 0 _ rfl, a, C, rfl, T, hf n List.mem_cons_self, .inl ⟨ea, fun dx nd na => ?_⟩⟩
    have hl' : ns.length + 1 ≤ 900 := hl
    refine ini_go T ns ws 2 [(n, y)] _ _ _ (hst 0 _ rfl) (fun j v hj => ?_) (Nat.succ.inj hw) (by rw [List.length_singleton]; omega) (fun m hm => hf m (List.mem_cons_of_mem _ hm)) upd_same ((upd_ne na).trans upd_same) na fun H' e1 e2 e3 => ?_
    · rw [show 2 + j = (j + 1) + 1 by omega]
      exact hst (j + 1 + 1) v hj
    · refine q dx H' nd na e1 ?_ fun b hb1 hb2 => (e3 b hb1 hb2).trans ((upd_ne hb1).trans (upd_ne hb2))
      rw [e2, List.zip_cons_cons, List.reverse_cons]
/-- the body, statement by statement -/
def Inis (X : Cx) : List Stmt → List Str → Nat → Prop
  | [], [], _ => True
  | st :: r, n :: ns, k => PS X st (tOst X.K n (tVar 0) (tVar k)) ∧ Inis X r ns (k + 1)
  | _, _, _ => False
theorem inis_ps {X : Cx} : ∀ {b : List Stmt} {ns : List Str} {k : Nat}, Inis X b ns k → PSs X b (tIni X.K ns k)
  | [], [], _, _ => pss_nil
  | st :: r, n :: ns, k, h => pss_cons h.1 (inis_ps h.2)
  | [], _ :: _, _, h => h.elim
  | _ :: _, [], _, h => h.elim
section
variable {P : Program} {w : World} {K : PySem.W.Frag} {mg : Str → Option Value} {base : Heap} {x qual n : Str} {params : Arguments} {body : List Stmt} {sc : Scope} {f C : Addr} {fd : FuncData} {N ps ns : List Str} {k : Nat}
theorem iniN (F : FunD K x qual params body sc [] [] f fd) (S : FnScope N ps sc) (T : OexC K C) (hf : ∀ m ∈ n :: ns, PySem.W.findIn K (.ref C) m = some none) (hl : (n :: ns).length ≤ 900) (hp : ps.length = ns.length + 2)
    (hb : ∀ (cdv : Value) (A : Around) (outer : List PySem.Env) (s : Shared) (H : Hp) (E : XK), Inis (XC P w K mg base N qual sc f cdv A outer s H E) body (n :: ns) 1) : FnOk P w K mg base (L2N.CX P w) (k + 1) f fd ps (spI C (n :: ns)) := by
  refine F.ok S (fun vs H Q E h => ?_) fun cdv A outer s H vs Q E hr h => ⟨_, inis_ps (hb cdv A outer s H E), ini_ok T hf hl h⟩
  obtain ⟨a, ws, rfl, hw, _⟩ := h
  rw [hp, List.length_cons, hw]
  rfl
theorem iniH (F : FunD K x qual params body sc [] [] f fd) (S : FnScope N ps sc) (T : OexC K C) (hf : ∀ m ∈ n :: ns, PySem.W.findIn K (.ref C) m = some none) (hl : (n :: ns).length ≤ 900) (hp : ps.length = ns.length + 2)
    (hb : ∀ (cdv : Value) (A : Around) (outer : List PySem.Env) (s : Shared) (H : Hp) (E : XK) (p : Addr × Obj), Inis (XH P w K mg base N qual sc f cdv A outer s H E p) body (n :: ns) 1) : L2H.FnH P w K mg base (L2N.CX P w) (k + 1) f fd ps (spI C (n :: ns)) := by
  obtain ⟨oc, od, dV, kV, doc, pm, an, cdv, ct, osl, rfl, lk, hcd, _, _⟩ := F.ex
  refine L2H.fn_ofH lk hcd S (fun vs H Q E h => ?_) fun A outer s H vs Q E p hot hr h => ⟨_, inis_ps (hb cdv A outer s H E p), ini_ok T hf hl h⟩
  obtain ⟨a, ws, rfl, hw, _⟩ := h
  rw [hp, List.length_cons, hw]
  rfl
end

/-! ### C(e, ..): the exception, made while none is handled -/
theorem no_CX {X : Cx} : Passes (L2N.CX X.prog X.w) X (fun _ _ _ => False) := fun pins σ H s e s' I c => by
  obtain ⟨_, _, _, _, _, _, _, _, _, _, _, _, z⟩ := c
  exact z.elim
theorem pmkN {X : Cx} {x : Str} {e : Expr} {es : List Expr} {ta : TA} {p pos : Pos} {C fI : Addr} {k : Nat} {fd : FuncData} {ps : List Str} {sp : Sp} (T : OexC X.K C) (iC : PySem.W.findIn X.K (.ref C) "__init__" = some (some (.ref fI)))
    (tI : PySem.W.typeIn X.K (.ref fI) = some (.type "function")) (F1 : FnOk X.prog X.w X.K X.mg X.base (L2N.CX X.prog X.w) k fI fd ps sp) (hr : Room (k + 1) X.A) (hb : Binds X.K fd ps []) (hg : Gl X x) (hm : X.mg x = some (.ref C)) (ha : PA X (e :: es) ta)
    (hd : (x == ("__debug__" : Str)) = false := by decide) (he : starEach (e :: es) X.env = (false, eval e X.env) :: starEach es X.env := by rfl) (hp : (backTo pos (starEach es X.env)).any (·.1) = false := by rfl) :
    L2N.PMk X (.Call (.Name x p) (e :: es) [] pos) (tMkO C sp [] ta) := by
  intro pins s0 σ H Q I h
  obtain ⟨c0, c1, c2, c3, bm, c4, c5, c6, c7, c8, k0, k1, k2, k3, k5, hC, hbm⟩ := T.cls
  refine wpAny_Call_Name_kw (ld_glob I hg hm (PySem.W.callWith_K (h₀ := X.base) I.ok.mod.kin T.kC (thn (ha.run pos pins s0 σ H _ I h) fun uv s1 z => ?_) he hp) hd)
  obtain ⟨ys, H1, I1, r1, hz, q1⟩ := z
  refine ⟨I1.kIn, ?_⟩
  show wpAny _ _ (call (.ref C) uv) _ _ _
  obtain ⟨hh, gg, dd, tt, oo⟩ := s1
  have z1 : hh.objs.size ≤ hh.objs.size + 1 := Nat.le_succ _
  have q2 := q1 (hh.objs.size + 1) (I1.hok.fresh z1)
  rw [List.append_nil] at q2
  have grow : ∀ b o, hh.get? b = some o → ((hh.push (PySem.W.kdv_tup uv)).push (PySem.HandSPX.excO C hh.objs.size)).get? b = some o := fun b o z => Heap.get?_push_of_some _ (Heap.get?_push_of_some _ z)
  have here : ((hh.push (PySem.W.kdv_tup uv)).push (PySem.HandSPX.excO C hh.objs.size)).get? (hh.objs.size + 1) = some (PySem.HandSPX.excO C hh.objs.size) := by heap_get
  have I2 : Inv X pins σ (upd H1 (hh.objs.size + 1) (exo (hh.objs.size + 1) C none)) ⟨(hh.push (PySem.W.kdv_tup uv)).push (PySem.HandSPX.excO C hh.objs.size), gg, dd, tt, oo⟩ := I1.laid (t' := tt) (a := hh.objs.size + 1) (o := exo (hh.objs.size + 1) C none) grow z1 (exo_ok here)
  have r2 : Vals (V.ref (hh.objs.size + 1) :: ys) (Value.ref (hh.objs.size + 1) :: uv) := .cons rfl r1
  have b2 := hb _ (Value.ref (hh.objs.size + 1) :: uv) I2.kIn (by rw [List.append_nil, ← r2.length]; exact F1.len _ _ _ _ q2)
  rw [List.append_nil] at b2
  have small : uv.length ≤ sizeLine := by
    have z := Paired.length r1
    rw [sizeLine_eq]
    omega
  refine wpAny_call (PySem.HandSPX.call_own F.excBase_ValueError (fun Y => PySem.HandSPX.refsVE_contains Y bm hbm) (I1.kIn _ _ hC) (PySem.W.looks_findIn I1.kIn iC) (fun self => PySem.W.bind_fn I1.kIn self tI) small
    (codeAny_mono (F1.run _ X.stack _ _ ⟨Value.ref (hh.objs.size + 1) :: uv, []⟩ (Value.ref (hh.objs.size + 1) :: uv) _ _ (fun _ _ _ => False) (hr.make C uv []) (I2.env0.make C uv []) b2 r2 q2) fun r s2 hq => ?_))
  cases r with
  | error er => exact no_CX pins σ _ _ er s2 I2 hq
  | ok fl =>
    cases fl with
    | ret u =>
      obtain ⟨v, H2, os2, bare2, un2, hok2, rv, ev, d, fs, ea, ed, hd1, q3⟩ := hq
      subst ev
      obtain ⟨h2, g2, d2, t2, o2⟩ := s2
      obtain ⟨t0, G, J, kG, ge, hoe, na⟩ := mk_end0 (d2 := d2) (t2 := t2) I1 z1 grow un2 hok2 os2 bare2 ea ed hd1
      exact ⟨rv, hh.objs.size + 1, _, _, ⟨G, g2, d2, t2, o2⟩, _, .ref C, some d, rfl, J, kG, ge, hoe, ⟨rfl, rfl, fun vs hv => by cases hv; rfl⟩, rfl, rfl, na, rfl, bare2, raises_own T.exC T.tyC, q3⟩
    | _ => exact False.elim hq

/-! ### raise C(e, ..) -/
def sRaise (C : Addr) (ns : List Str) (ma : M (List D)) : MS := fun ρ => match ma ρ with
  | .ok ds ρ1 => if fzL ds = true ∧ ds.length = ns.length then .ex ⟨C, ns.reverse, ds.reverse⟩ ρ1 else .bad
  | .ex e ρ1 => .ex e ρ1
  | .bad => .bad
section
variable {X : Cx} {W : WX} {C : RC} {B : List Nat} {e : Expr} {es : List Expr} {ma : M (List D)}
theorem RepL.rev {H : Hp} : ∀ {ds : List D} {vs : List V}, RepL C H ds vs [] → RepL C H ds.reverse vs.reverse []
  | [], _, h => by obtain ⟨rfl, _⟩ := h; exact ⟨rfl, rfl⟩
  | d :: ds, _, h => by
    obtain ⟨v, vs', o1, o2, rfl, h1, h2, _, e⟩ := h
    have e' := List.append_eq_nil_iff.mp e.symm
    rw [e'.1] at h1
    rw [e'.2] at h2
    rw [List.reverse_cons, List.reverse_cons]
    exact RepL.app (RepL.rev h2) ⟨v, [], [], [], rfl, h1, ⟨rfl, rfl⟩, by simp, rfl⟩
theorem ss_raise {Ca : Addr} {ns : List Str} {x : Str} {p pos pos' : Pos} {sp : Sp} (ha : SA X W C (e :: es) ma) (tk : L2N.Takes X W) (hl : ns.length ≤ 900)
    (hp : ∀ ta, PA X (e :: es) ta → L2N.PMk X (.Call (.Name x p) (e :: es) [] pos) (tMkO Ca (spI Ca ns) [] ta)) (hr : ∀ {t : St → Hp → XK → Prop}, L2N.PMk X (.Call (.Name x p) (e :: es) [] pos) t → PS X (.Raise (some (.Call (.Name x p) (e :: es) [] pos)) none pos') (fun _ σ H => t σ H fun cls d H' => W cls d σ H')) :
    SS X W C B (.Raise (some (.Call (.Name x p) (e :: es) [] pos)) none pos') (sRaise Ca ns ma) := by
  obtain ⟨t, pt, st⟩ := ha.ex
  refine ⟨_, hr (hp t pt), fun ρ σ H own Dn er hw => ?_⟩
  refine st ρ σ H own _ er ?_
  unfold sRaise at hw
  cases hm : ma ρ with
  | bad => rw [hm] at hw; exact hw.elim
  | ex e ρ1 =>
    rw [hm] at hw
    intro cls d H' own' x er' st'
    exact hw cls d σ H' own' x er' st' fun _ _ => rfl
  | ok ds ρ1 =>
    rw [hm] at hw
    dsimp only at hw
    split at hw
    · rename_i hc
      intro vs H1 o own1 r e1 dj st1
      have eo := RepL.fz_nil hc.1 r
      subst eo
      refine ⟨by rw [r.len]; omega, fun a na => ⟨a, vs, by rw [List.append_nil], by rw [r.len]; exact hc.2, upd_same, fun dx H2 nd nda e2 e3 e4 => ⟨rfl, dx, _, e2, e3, ?_, ?_⟩⟩⟩
      · rwa [upd_ne nda] at nd
      · have nd1 : H1 dx = none := by rwa [upd_ne nda] at nd
        have hH : ∀ b, b ≠ dx → (upd (del H2 a) dx (.xd (ns.zip vs).reverse)) b = H1 b := fun b hb => by
          rw [upd_ne hb]
          by_cases hba : b = a
          · rw [hba, del_same, na]
          · rw [del_ne hba, e4 b hba hb, upd_ne hba]
        have kp : ∀ b ob, H1 b = some ob → (upd (del H2 a) dx (.xd (ns.zip vs).reverse)) b = some ob := fun b ob hb => (hH b fun z => by rw [z, nd1] at hb; cases hb).trans hb
        have k1 : Keeps H1 (upd (del H2 a) dx (.xd (ns.zip vs).reverse)) [] := fun b ob hb _ => kp b ob hb
        refine hw _ _ σ _ own1 ⟨rfl, dx, vs.reverse, rfl, ?_, ?_, RepL.rev (r.keep k1 muts_nil (by simp))⟩ (e1.keep k1 muts_nil (by simp)) ⟨fun b ob hb hn => kp b ob (st1.keep b ob hb hn), fun b hb => st1.sub b (by simpa using hb)⟩ fun _ _ => rfl
        · rw [upd_same]
          have e5 : (ns.zip vs).reverse = ns.reverse.zip vs.reverse := by
            rw [List.zip_eq_zipWith, List.zip_eq_zipWith, List.reverse_zipWith (by rw [r.len]; exact hc.2.symm)]
          rw [e5]
        · show ns.reverse.length = ds.reverse.length
          rw [List.length_reverse, List.length_reverse]
          exact hc.2.symm
    · exact hw.elim
/-- while none is handled -/
theorem ss_raiseN {Ca fI : Addr} {k : Nat} {fd : FuncData} {ps ns : List Str} {x : Str} {p pos pos' : Pos} (hc : X.calm = true) (ha : SA X W C (e :: es) ma) (tk : L2N.Takes X W) (hl : ns.length ≤ 900) (T : OexC X.K Ca) (iC : PySem.W.findIn X.K (.ref Ca) "__init__" = some (some (.ref fI)))
    (tI : PySem.W.typeIn X.K (.ref fI) = some (.type "function")) (F1 : FnOk X.prog X.w X.K X.mg X.base (L2N.CX X.prog X.w) k fI fd ps (spI Ca ns)) (hr : Room (k + 1) X.A) (hb : Binds X.K fd ps []) (hg : Gl X x) (hm : X.mg x = some (.ref Ca))
    (hd : (x == ("__debug__" : Str)) = false := by decide) (he : starEach (e :: es) X.env = (false, eval e X.env) :: starEach es X.env := by rfl) (hp : (backTo pos (starEach es X.env)).any (·.1) = false := by rfl) :
    SS X W C B (.Raise (some (.Call (.Name x p) (e :: es) [] pos)) none pos') (sRaise Ca ns ma) :=
  ss_raise (sp := spI Ca ns) ha tk hl (fun ta pa => pmkN T iC tI F1 hr hb hg hm pa hd he hp) fun h => L2N.ps_raise hc tk h
end
end Se

namespace Se
open PySem L2

/-! ### try: body, except c as n: suite -/
def neE (ρ : Env) : Bool := ρ.all fun x => match x with
  | some d => ne d
  | none => true
def noW : WX := fun _ _ _ _ => False
def outS (i : Nat) : SR → SR
  | .nx ρ => if neE (ρ.set i none) = true then .nx (ρ.set i none) else .bad
  | .rt d ρ => if neE (ρ.set i none) = true ∧ ne d = true then .rt d (ρ.set i none) else .bad
  | .bk ρ => if neE (ρ.set i none) = true then .bk (ρ.set i none) else .bad
  | .ct ρ => if neE (ρ.set i none) = true then .ct (ρ.set i none) else .bad
  | .ex _ _ => .bad
  | .bad => .bad
def sTry (i : Nat) (mt : Addr → Option Bool) (mb ms : MS) : MS := fun ρ => match mb ρ with
  | .ex e ρ1 => match mt e.cls with
    | some true => if i < ρ1.length then outS i (ms (ρ1.set i (some (.exc e.cls e.ns e.ds)))) else .bad
    | some false => .ex e ρ1
    | none => .bad
  | r => r
section
variable {C C' : RC} {H : Hp}
theorem ER.cx (hK : C'.K = C.K) : ∀ {ρ : Env} {σ : St} {o : List Addr}, neE ρ = true → ER C H ρ σ o → ER C' H ρ σ o
  | [], _, _, _, h => h
  | none :: ρ, _, _, n, h => by
    obtain ⟨x, σ', e, h⟩ := h
    exact ⟨x, σ', e, ER.cx hK (by simpa [neE] using n) h⟩
  | some d :: ρ, _, _, n, h => by
    obtain ⟨v, σ', o1, o2, e, h1, h2, z, rfl⟩ := h
    have n' : ne d = true ∧ neE ρ = true := by simpa [neE] using n
    exact ⟨v, σ', o1, o2, e, Rep.cx hK n'.1 h1, ER.cx hK n'.2 h2, z, rfl⟩
theorem ER.ne0 (hC : C.hx = none) : ∀ {ρ : Env} {σ : St} {o : List Addr}, ER C H ρ σ o → neE ρ = true
  | [], _, _, _ => rfl
  | none :: ρ, _, _, h => by
    obtain ⟨x, σ', e, h⟩ := h
    simpa [neE] using ER.ne0 hC h
  | some d :: ρ, _, _, h => by
    obtain ⟨v, σ', o1, o2, e, h1, h2, z, rfl⟩ := h
    have h3 := ER.ne0 hC h2
    have h4 := Rep.ne0 hC h1
    simp only [neE, List.all_cons, Bool.and_eq_true] at h3 ⊢
    exact ⟨h4, h3⟩
theorem ER.wipe1 : ∀ {ρ : Env} {σ : St} {o : List Addr} {i : Nat}, ER C H ρ σ o → ∃ o', ER C H (ρ.set i none) (σ.set i none) o' ∧ ∀ a ∈ o', a ∈ o
  | [], _, _, _, h => by obtain ⟨rfl, rfl⟩ := h; exact ⟨[], ⟨rfl, rfl⟩, fun _ z => z⟩
  | none :: ρ, _, _, 0, h => by obtain ⟨x, σ', rfl, h⟩ := h; exact ⟨_, ⟨none, σ', rfl, h⟩, fun _ z => z⟩
  | some d :: ρ, _, _, 0, h => by
    obtain ⟨v, σ', o1, o2, rfl, h1, h2, z, rfl⟩ := h
    exact ⟨o2, ⟨none, σ', rfl, h2⟩, fun a z => List.mem_append_right _ z⟩
  | none :: ρ, _, _, i + 1, h => by
    obtain ⟨x, σ', rfl, h⟩ := h
    obtain ⟨o', h', m⟩ := ER.wipe1 (i := i) h
    exact ⟨o', ⟨x, _, rfl, h'⟩, m⟩
  | some d :: ρ, _, _, i + 1, h => by
    obtain ⟨v, σ', o1, o2, rfl, h1, h2, z, rfl⟩ := h
    obtain ⟨o', h', m⟩ := ER.wipe1 (i := i) h2
    exact ⟨o1 ++ o', ⟨v, _, o1, o', rfl, h1, h', fun a ha q => z a ha (m a q), rfl⟩, fun a ha => List.mem_append.mpr ((List.mem_append.mp ha).imp id (m a))⟩
end
/-- the suite's data: the exception at a -/
abbrev Cs (K : PySem.W.Frag) (a c d : Addr) : RC := ⟨K, some (a, c, d)⟩
structure TP (X : Cx) (B : List Nat) (body : List Stmt) (mb : MS) (tb : WX → TS) : Prop where
  p : ∀ (W : WX) (pn : List (Addr × Obj)) (xe : Value → Shared → Prop), L2N.Takes (X.tr pn xe) W → PassesOwn (model X.prog X.w) X.A X.env xe → PSs (X.tr pn xe) body (tb W)
  s : ∀ (W : WX) (ρ : Env) (σ : St) (H : Hp) (own : List Addr) (Dn : Ends), ER (C0 X.K) H ρ σ own → PoS (C0 X.K) W B (mb ρ) σ H own Dn → tb W Dn σ H
theorem tp_of {X : Cx} {B : List Nat} {body : List Stmt} {mb : MS} (h : ∀ (W : WX) (pn : List (Addr × Obj)) (xe : Value → Shared → Prop), L2N.Takes (X.tr pn xe) W → PassesOwn (model X.prog X.w) X.A X.env xe → SSs (X.tr pn xe) W (C0 X.K) B body mb) : ∃ tb, TP X B body mb tb := by
  refine ⟨fun W Dn σ H => ∀ (pn : List (Addr × Obj)) (xe : Value → Shared → Prop) (t1 : L2N.Takes (X.tr pn xe) W) (t2 : PassesOwn (model X.prog X.w) X.A X.env xe), Classical.choose (h W pn xe t1 t2).ex Dn σ H, ⟨fun W pn xe t1 t2 => ⟨fun pins s σ H Dn I hw => ?_⟩, fun W ρ σ H own Dn er hw pn xe t1 t2 => ?_⟩⟩
  · exact (Classical.choose_spec (h W pn xe t1 t2).ex).1.run pins s σ H Dn I (hw pn xe t1 t2)
  · exact (Classical.choose_spec (h W pn xe t1 t2).ex).2 ρ σ H own Dn er hw
structure UP (X : Cx) (B : List Nat) (body : List Stmt) (ms : MS) (ts : Addr → Value → Option Addr → TS) : Prop where
  p : ∀ (a : Addr) (oe : Obj) (cls : Value) (d : Option Addr) (pn : List (Addr × Obj)), L2N.Zn cls d oe → (∃ vs, oe.data = .fields vs) → PSs (X.suite a ((a, oe) :: pn)) body (ts a cls d)
  s : ∀ (a c dd : Addr) (ρ : Env) (σ : St) (H : Hp) (own : List Addr) (Dn : Ends), ER (Cs X.K a c dd) H ρ σ own → PoS (Cs X.K a c dd) noW B (ms ρ) σ H own Dn → ts a (.ref c) (some dd) Dn σ H
/-- the facts that hold in the suite -/
structure Sut (X : Cx) (a c dd : Addr) (Y : Cx) : Prop where
  eq : ∃ (oe : Obj) (pn : List (Addr × Obj)), Y = X.suite a ((a, oe) :: pn) ∧ L2N.Zn (.ref c) (some dd) oe ∧ ∃ vs, oe.data = .fields vs
theorem up_of {X : Cx} {B : List Nat} {body : List Stmt} {ms : MS} (h : ∀ (a c dd : Addr) (oe : Obj) (pn : List (Addr × Obj)), Sut X a c dd (X.suite a ((a, oe) :: pn)) → SSs (X.suite a ((a, oe) :: pn)) noW (Cs X.K a c dd) B body ms) : ∃ ts, UP X B body ms ts := by
  refine ⟨fun a cls d Dn σ H => ∃ c dd, cls = .ref c ∧ d = some dd ∧ ∀ (oe : Obj) (pn : List (Addr × Obj)) (z : Sut X a c dd (X.suite a ((a, oe) :: pn))), Classical.choose (h a c dd oe pn z).ex Dn σ H, ⟨fun a oe cls d pn hz hf => ⟨fun pins s σ H Dn I hw => ?_⟩, fun a c dd ρ σ H own Dn er hw => ⟨c, dd, rfl, rfl, fun oe pn z => ?_⟩⟩⟩
  · obtain ⟨c, dd, rfl, rfl, hw⟩ := hw
    have z : Sut X a c dd (X.suite a ((a, oe) :: pn)) := ⟨oe, pn, rfl, hz, hf⟩
    exact (Classical.choose_spec (h a c dd oe pn z).ex).1.run pins s σ H Dn I (hw oe pn z)
  · exact (Classical.choose_spec (h a c dd oe pn z).ex).2 ρ σ H own Dn er hw
theorem ss_try {X : Cx} {W : WX} {B : List Nat} {x n : Str} {c : Value} {i : Nat} {body suite : List Stmt} {b₀ : Stmt} {np pos pos' : Pos} {mb ms : MS} {mt : Addr → Option Bool} (hs : X.stack = X.env :: X.outer) (hf : X.env.frame = some X.env.locals) (hN : X.N.Nodup) (hi : X.N[i]? = some n)
    (hln : X.env.kindOf n = some .local) (hc : Names X x c) (tk : L2N.Takes X W) (hiB : i ∉ B) (hmt : ∀ k b, mt k = some b → PySem.W.exmOne X.K (.ref k) c = some b) (hb : ∃ tb, TP X B body mb tb) (hu : ∃ ts, UP X B (b₀ :: suite) ms ts) :
    SS X W (C0 X.K) B (.Try body [.ExceptHandler (some (.Name x np)) (some n) (b₀ :: suite) pos'] [] [] pos) (sTry i mt mb ms) := by
  obtain ⟨tb, tp⟩ := hb
  obtain ⟨ts, up⟩ := hu
  refine ⟨_, L2N.ps_try_as hs hf hN hi hln hc tk tp.p up.p, fun ρ σ H own Dn er hw => ?_⟩
  refine tp.s _ ρ σ H own Dn er ?_
  have hw : PoS (C0 X.K) W B (match mb ρ with
    | .ex e ρ1 => match mt e.cls with
      | some true => if i < ρ1.length then outS i (ms (ρ1.set i (some (.exc e.cls e.ns e.ds)))) else .bad
      | some false => .ex e ρ1
      | none => .bad
    | r => r) σ H own Dn := hw
  cases hm : mb ρ with
  | nx _ => rw [hm] at hw; exact hw
  | rt _ _ => rw [hm] at hw; exact hw
  | bk _ => rw [hm] at hw; exact hw
  | ct _ => rw [hm] at hw; exact hw
  | bad => rw [hm] at hw; exact hw
  | ex e ρ1 =>
    rw [hm] at hw
    dsimp only at hw
    intro cls d σ1 H1 own1 xr er1 st1 hB1
    obtain ⟨rfl, dd, vs, rfl, hd, hl, rl⟩ := id xr
    cases ht : mt e.cls with
    | none => rw [ht] at hw; exact hw.elim
    | some b =>
      rw [ht] at hw
      refine ⟨b, hmt _ _ ht, fun eb a na => ?_, fun eb => ?_⟩
      · subst eb
        dsimp only at hw
        split at hw
        · rename_i hil
          have er2 : ER (Cs X.K a e.cls dd) H1 ρ1 σ1 own1 := ER.cx (C := C0 X.K) (C' := Cs X.K a e.cls dd) rfl (ER.ne0 rfl er1) er1
          have re : Rep (Cs X.K a e.cls dd) H1 (.exc e.cls e.ns e.ds) (.ref a) [] := ⟨a, dd, vs, rfl, rfl, hd, hl, RepL.cx (C := C0 X.K) (C' := Cs X.K a e.cls dd) rfl (RepL.ne0 rfl rl) rl, rfl⟩
          obtain ⟨own2, er3, m3⟩ := er2.set hil re (by simp)
          refine up.s a e.cls dd _ _ H1 own2 _ er3 ?_
          have st2 : Stp H H1 own own2 := st1.less fun a ha => (m3 a ha).resolve_left (by simp)
          have hset : ∀ {σ' : St}, (∀ j ∈ B, σ'[j]? = (σ1.set i (some (.ref a)))[j]?) → ∀ j ∈ B, (σ'.set i none)[j]? = σ[j]? := fun {σ'} h j hj => by
            have nij : i ≠ j := fun z => hiB (z ▸ hj)
            rw [List.getElem?_set_ne nij, h j hj, List.getElem?_set_ne nij, hB1 j hj]
          have hsetR : ∀ {σ' : St}, (∀ j ∈ B, σ'[j]? = (σ1.set i (some (.ref a)))[j]?) → ∀ j ∈ B, σ'[j]? = σ[j]? := fun {σ'} h j hj => by
            have nij : i ≠ j := fun z => hiB (z ▸ hj)
            rw [h j hj, List.getElem?_set_ne nij, hB1 j hj]
          cases hms : ms (ρ1.set i (some (.exc e.cls e.ns e.ds))) with
          | bad => rw [hms] at hw; exact hw.elim
          | ex _ _ => rw [hms] at hw; exact hw.elim
          | nx ρ2 =>
            rw [hms] at hw
            dsimp only [outS] at hw
            split at hw
            · rename_i hne
              intro σ' H' own' e' s' b'
              obtain ⟨o4, e4, m4⟩ := ER.wipe1 (i := i) e'
              exact hw _ H' o4 (ER.cx (C := Cs X.K a e.cls dd) (C' := C0 X.K) rfl hne e4) ((st2.trans s').less m4) (hset b')
            · exact hw.elim
          | bk ρ2 =>
            rw [hms] at hw
            dsimp only [outS] at hw
            split at hw
            · rename_i hne
              intro σ' H' own' e' s' b'
              obtain ⟨o4, e4, m4⟩ := ER.wipe1 (i := i) e'
              exact hw _ H' o4 (ER.cx (C := Cs X.K a e.cls dd) (C' := C0 X.K) rfl hne e4) ((st2.trans s').less m4) (hset b')
            · exact hw.elim
          | ct ρ2 =>
            rw [hms] at hw
            dsimp only [outS] at hw
            split at hw
            · rename_i hne
              intro σ' H' own' e' s' b'
              obtain ⟨o4, e4, m4⟩ := ER.wipe1 (i := i) e'
              exact hw _ H' o4 (ER.cx (C := Cs X.K a e.cls dd) (C' := C0 X.K) rfl hne e4) ((st2.trans s').less m4) (hset b')
            · exact hw.elim
          | rt d ρ2 =>
            rw [hms] at hw
            dsimp only [outS] at hw
            split at hw
            · rename_i hne
              intro v σ' H' o own' rv e' dj s' b'
              obtain ⟨o4, e4, m4⟩ := ER.wipe1 (i := i) e'
              refine hw v _ H' o o4 (Rep.cx (C := Cs X.K a e.cls dd) (C' := C0 X.K) rfl hne.2 rv) (ER.cx (C := Cs X.K a e.cls dd) (C' := C0 X.K) rfl hne.1 e4) (fun a ha z => dj a ha (m4 a z)) ((st2.trans s').less fun a ha => ?_) (hset b')
              exact (List.mem_append.mp ha).elim (List.mem_append_left _) fun z => List.mem_append_right _ (m4 a z)
            · exact hw.elim
        · exact hw.elim
      · subst eb
        exact hw _ _ σ1 H1 own1 xr er1 st1 hB1

/-! ### the handled exception: e.f, isinstance(e, c) -/
theorem Sut.takes {X Y : Cx} {a c dd : Addr} (_h : Sut X a c dd Y) : L2N.Takes Y noW := fun u s' x => by
  obtain ⟨_, _, _, _, _, _, _, _, _, _, _, _, _, _, _, _, z⟩ := x
  exact z.elim
theorem Sut.hot {X : Cx} {a c dd : Addr} {oe : Obj} {pn : List (Addr × Obj)} (h : Sut X a c dd (X.suite a ((a, oe) :: pn))) : L2H.HotC (X.suite a ((a, oe) :: pn)) := by
  obtain ⟨oe', pn', e, hz, vs, hf⟩ := h
  have e1 : (X.suite a ((a, oe) :: pn)).pn = (X.suite a ((a, oe') :: pn')).pn := congrArg Cx.pn e
  have e2 : (a, oe) = (a, oe') := (List.cons.inj e1).1
  have e3 : oe = oe' := (Prod.mk.inj e2).2
  subst e3
  exact ⟨(a, oe), ⟨rfl, vs, hf, hz.2.2 vs hf⟩, List.mem_cons_self⟩
theorem Sut.zn {X : Cx} {a c dd : Addr} {oe : Obj} {pn : List (Addr × Obj)} (h : Sut X a c dd (X.suite a ((a, oe) :: pn))) : Zc (.ref c) (some dd) oe ∧ ∃ vs, oe.data = .fields vs := by
  obtain ⟨oe', pn', e, hz, hf⟩ := h
  have e1 : (X.suite a ((a, oe) :: pn)).pn = (X.suite a ((a, oe') :: pn')).pn := congrArg Cx.pn e
  have e3 : oe = oe' := (Prod.mk.inj (List.cons.inj e1).1).2
  subst e3
  exact ⟨hz.zc, hf⟩
/-- the class's instances let their field be read -/
def xfD (K : PySem.W.Frag) (c : Addr) (n : Str) : Bool := xfB K c && decide (PySem.W.findIn K (.ref c) n = some none)
def xfG (K : PySem.W.Frag) (n : Str) : D → Option D
  | .exc c ns ds => if xfD K c n = true ∧ fzL ds = true then (ns.zip ds).lookup n else none
  | _ => none
def vXf (K : PySem.W.Frag) (n : Str) (i : Nat) : Env → Option D := fun ρ => ((ρ[i]?).join).bind (xfG K n)
theorem lookC {β : Type} (m g : Str) (z : β) (l : List (Str × β)) : ((m, z) :: l).lookup g = if g = m then some z else l.lookup g := by
  by_cases q : g = m
  · rw [if_pos q, q]
    simp [List.lookup]
  · have q2 : (g == m) = false := by simpa using q
    rw [if_neg q]
    simp [List.lookup, q2]
theorem lookup_zip {C : RC} {H : Hp} {n : Str} : ∀ {ns : List Str} {ds : List D} {vs : List V} {d : D}, RepL C H ds vs [] → (ns.zip ds).lookup n = some d → ∃ v, (ns.zip vs).lookup n = some v ∧ Rep C H d v []
  | [], _, _, _, _, h => by cases h
  | _ :: _, [], _, _, _, h => by cases h
  | m :: ns, d0 :: ds, _, d, r, h => by
    obtain ⟨v, vs', o1, o2, rfl, r1, r2, _, e⟩ := r
    have e' := List.append_eq_nil_iff.mp e.symm
    rw [e'.1] at r1
    rw [e'.2] at r2
    rw [List.zip_cons_cons, lookC] at h ⊢
    split at h
    · rename_i hb
      cases h
      rw [if_pos hb]
      exact ⟨v, rfl, r1⟩
    · rename_i hb
      rw [if_neg hb]
      exact lookup_zip r2 h
theorem xfG_some {K : PySem.W.Frag} {a c dd : Addr} {n : Str} {d1 d : D} {H : Hp} {v : V} {o : List Addr} (r : Rep (Cs K a c dd) H d1 v o) (h : xfG K n d1 = some d) : xfD K c n = true ∧ v = .ref a ∧ ∃ fs v2, H dd = some (.xd fs) ∧ fs.lookup n = some v2 ∧ Rep (Cs K a c dd) H d v2 [] := by
  unfold xfG at h
  split at h
  · obtain ⟨a1, d2, vs, e1, e2, e3, e4, rl, _⟩ := r
    cases e2
    split at h
    · rename_i hh
      obtain ⟨v2, hv, rv⟩ := lookup_zip rl h
      exact ⟨hh.1, e1, _, v2, e3, hv, rv⟩
    · cases h
  · cases h
theorem sv_xf {X : Cx} {a c dd : Addr} {oe : Obj} {pn : List (Addr × Obj)} {x n : Str} {i : Nat} {p pos : Pos} (h : Sut X a c dd (X.suite a ((a, oe) :: pn))) (he : PE (X.suite a ((a, oe) :: pn)) (.Name x p) (tVar i))
    (hb : attributeBase (.Name x p) n X.env (eval (.Name x p) X.env) = eval (.Name x p) X.env := by rfl) : SV (X.suite a ((a, oe) :: pn)) (Cs X.K a c dd) (.Attribute (.Name x p) n pos) (vXf X.K n i) := by
  obtain ⟨hz, hf⟩ := h.zn
  by_cases hx : xfD X.K c n = true
  · have hx' := Bool.and_eq_true_iff.mp hx
    refine ⟨_, pe_xf (xfB_ok hx'.1) (of_decide_eq_true hx'.2) hz hf he hb, fun ρ σ H own Q er d hd hw => ?_⟩
    simp only [vXf, Option.bind_eq_some_iff] at hd
    obtain ⟨d1, h1, h2⟩ := hd
    obtain ⟨v, o, own1, e1, r, _⟩ := er.take (join_some h1)
    obtain ⟨_, ev, fs, v2, e3, hv, rv⟩ := xfG_some r h2
    exact ⟨v, e1, ev, rfl, dd, fs, v2, rfl, e3, hv, hw v2 H [] rv Ext.refl⟩
  · refine ⟨fun _ _ _ => False, ⟨fun pins s σ H Q I z => z.elim⟩, fun ρ σ H own Q er d hd hw => ?_⟩
    simp only [vXf, Option.bind_eq_some_iff] at hd
    obtain ⟨d1, h1, h2⟩ := hd
    obtain ⟨v, o, own1, e1, r, _⟩ := er.take (join_some h1)
    exact hx (xfG_some r h2).1
end Se

namespace Se
open PySem L2

/-! ### built-in functions over data -/
def gLen : List D → Option D
  | [.str x] => if x.length ≤ sizeLine then some (.int x.length) else none
  | [.tup ds] => some (.int ds.length)
  | [.lst _ ds] => some (.int ds.length)
  | _ => none
def gInt : List D → Option D
  | [.int i] => some (.int i)
  | [.bl b] => some (.int (if b then 1 else 0))
  | _ => none
def gAbs : List D → Option D
  | [.int i] => some (.int (if i < 0 then -i else i))
  | _ => none
def gTup : List D → Option D
  | [.tup ds] => if fzL ds = true then some (.tup ds) else none
  | [.lst _ ds] => if fzL ds = true then some (.tup ds) else none
  | _ => none
def gLst : List D → Option D
  | [.tup ds] => if fzL ds = true then some (.lst true ds) else none
  | [.lst _ ds] => if fzL ds = true then some (.lst true ds) else none
  | _ => none
def gStr : List D → Option D
  | [.int i] => if i.natAbs.log2 < 1920 then some (.str (toString i : Str).cps.toList) else none
  | [.str x] => some (.str x)
  | _ => none
theorem sx_cps (x : Str) : sx x.cps.toList = x := SX.S_tl x
section
variable {X : Cx} {C : RC}
theorem repw1 {H : Hp} {d : D} {vs : List V} (h : RepW C H [d] vs) : ∃ v o, vs = [v] ∧ Rep C H d v o := by
  have hl := h.len
  obtain ⟨v, o, h1, h2⟩ := h.at (i := 0) (d := d) rfl
  match vs, hl, h1 with
  | [w], _, h1 => cases h1; exact ⟨_, o, rfl, h2⟩
theorem repw2 {H : Hp} {d e : D} {vs : List V} (h : RepW C H [d, e] vs) : ∃ v w o p, vs = [v, w] ∧ Rep C H d v o ∧ Rep C H e w p := by
  have hl := h.len
  obtain ⟨v, o, h1, h2⟩ := h.at (i := 0) (d := d) rfl
  obtain ⟨w, p, h3, h4⟩ := h.at (i := 1) (d := e) rfl
  match vs, hl, h1, h3 with
  | [a, b], _, h1, h3 => cases h1; cases h3; exact ⟨_, _, o, p, rfl, h2, h4⟩
theorem vo_len : VOn C (fun xs H Q => ∃ x n, xs = [x] ∧ LenV C.K x H n ∧ Q (.int n) H) gLen := by
  intro ds d vs H Q r hg q
  unfold gLen at hg
  split at hg
  · obtain ⟨v, o, rfl, rv⟩ := repw1 r
    split at hg
    · rename_i hz
      cases hg
      rw [rv.1]
      exact ⟨_, _, rfl, ⟨by rw [sx_len]; exact hz, rfl⟩, q _ _ [] (by rw [sx_len]; exact ⟨rfl, rfl⟩) Ext.refl (by simp)⟩
    · cases hg
  · obtain ⟨v, o, rfl, rv⟩ := repw1 r
    cases hg
    obtain ⟨a, ws, rfl, hr, w⟩ := rv.tupS
    exact ⟨_, _, rfl, .inr ⟨ws, hr, rfl⟩, q _ _ [] (by rw [w.len]; exact ⟨rfl, rfl⟩) Ext.refl (by simp)⟩
  · obtain ⟨v, o, rfl, rv⟩ := repw1 r
    cases hg
    obtain ⟨a, ws, rfl, hr, w⟩ := rv.lstS
    exact ⟨_, _, rfl, .inl ⟨ws, .inl hr, rfl⟩, q _ _ [] (by rw [w.len]; exact ⟨rfl, rfl⟩) Ext.refl (by simp)⟩
  · cases hg
theorem vo_int1 : VOn C (fun xs H Q => (∃ i, xs = [.int i] ∧ Q (.int i) H) ∨ ∃ k, xs = [.bl k] ∧ Q (.int (if k then 1 else 0)) H) gInt := by
  intro ds d vs H Q r hg q
  unfold gInt at hg
  split at hg
  · obtain ⟨v, o, rfl, rv⟩ := repw1 r
    cases hg
    rw [rv.1]
    exact .inl ⟨_, rfl, q _ _ [] ⟨rfl, rfl⟩ Ext.refl (by simp)⟩
  · obtain ⟨v, o, rfl, rv⟩ := repw1 r
    cases hg
    rw [rv.1]
    exact .inr ⟨_, rfl, q _ _ [] ⟨rfl, rfl⟩ Ext.refl (by simp)⟩
  · cases hg
theorem vo_abs : VOn C (fun xs H Q => ∃ i, xs = [.int i] ∧ Q (.int (if i < 0 then -i else i)) H) gAbs := by
  intro ds d vs H Q r hg q
  unfold gAbs at hg
  split at hg
  · obtain ⟨v, o, rfl, rv⟩ := repw1 r
    cases hg
    rw [rv.1]
    exact ⟨_, rfl, q _ _ [] ⟨rfl, rfl⟩ Ext.refl (by simp)⟩
  · cases hg
theorem vo_tup : VOn C (fun xs H Q => ∃ p ys, xs = [.ref p] ∧ ((SqL C.K H p ys ∧ ∀ l, H l = none → Q (.ref l) (upd H l (.tup ys))) ∨ (SqT C.K H p ys ∧ Q (.ref p) H))) gTup := by
  intro ds d vs H Q r hg q
  unfold gTup at hg
  split at hg
  · obtain ⟨v, o, rfl, rv⟩ := repw1 r
    split at hg
    · rename_i hf
      cases hg
      obtain ⟨a, ws, rfl, hr, w⟩ := rv.tupS
      exact ⟨a, ws, rfl, .inr ⟨hr, q _ _ [] ⟨a, ws, rfl, hr, w.fz hf⟩ Ext.refl (by simp)⟩⟩
    · cases hg
  · obtain ⟨v, o, rfl, rv⟩ := repw1 r
    split at hg
    · rename_i hf
      cases hg
      obtain ⟨a, ws, rfl, hr, w⟩ := rv.lstS
      exact ⟨a, ws, rfl, .inl ⟨.inl hr, fun l hl => q _ _ [] (rep_new_tup (w.fz hf) hl) (Ext.new hl) (by simp)⟩⟩
    · cases hg
  · cases hg
theorem vo_lst : VOn C (fun xs H Q => ∃ p ys, xs = [.ref p] ∧ (SqL C.K H p ys ∨ SqT C.K H p ys) ∧ ∀ l, H l = none → Q (.ref l) (upd H l (.lst ys))) gLst := by
  intro ds d vs H Q r hg q
  unfold gLst at hg
  split at hg
  · obtain ⟨v, o, rfl, rv⟩ := repw1 r
    split at hg
    · rename_i hf
      cases hg
      obtain ⟨a, ws, rfl, hr, w⟩ := rv.tupS
      exact ⟨a, ws, rfl, .inr hr, fun l hl => q _ _ [l] (rep_new_lst (w.fz hf) hl) (Ext.new hl) (one_none hl)⟩
    · cases hg
  · obtain ⟨v, o, rfl, rv⟩ := repw1 r
    split at hg
    · rename_i hf
      cases hg
      obtain ⟨a, ws, rfl, hr, w⟩ := rv.lstS
      exact ⟨a, ws, rfl, .inl (.inl hr), fun l hl => q _ _ [l] (rep_new_lst (w.fz hf) hl) (Ext.new hl) (one_none hl)⟩
    · cases hg
  · cases hg
abbrev rStrA : List V → Hp → VK → Prop := fun xs H Q => (∃ i, xs = [.int i] ∧ i.natAbs.log2 < 1920 ∧ Q (.str (toString i)) H) ∨ ∃ a, xs = [.str a] ∧ Q (.str a) H
theorem call_strA : CallR X (.type "str") rStrA := fun pins s σ H xs us Q I r h => h.elim (call_str_int pins s σ H xs us Q I r) (SkE.call_str_str pins s σ H xs us Q I r)
theorem vo_str : VOn C rStrA gStr := by
  intro ds d vs H Q r hg q
  unfold gStr at hg
  split at hg
  · obtain ⟨v, o, rfl, rv⟩ := repw1 r
    split at hg
    · rename_i hz
      cases hg
      rw [rv.1]
      exact .inl ⟨_, rfl, hz, q _ _ [] ⟨by rw [sx_cps], rfl⟩ Ext.refl (by simp)⟩
    · cases hg
  · obtain ⟨v, o, rfl, rv⟩ := repw1 r
    cases hg
    rw [rv.1]
    exact .inr ⟨_, rfl, q _ _ [] ⟨rfl, rfl⟩ Ext.refl (by simp)⟩
  · cases hg
/-! ### isinstance -/
def tyD : D → Option String
  | .non => some "NoneType"
  | .bl _ => some "bool"
  | .int _ => some "int"
  | .str _ => some "str"
  | .tup _ => some "tuple"
  | .lst _ _ => some "list"
  | .dct _ _ _ => some "dict"
  | _ => none
def clD : D → Option Value
  | .ty n => some (.type n)
  | .obj a => some (.ref a)
  | _ => none
def clsD : List D → Option (List Value)
  | [] => some []
  | d :: ds => (clD d).bind fun c => (clsD ds).map fun cs => c :: cs
def isK (K : PySem.W.Frag) (t : Value) : D → Option Bool
  | .tup cs => (clsD cs).bind fun us => PySem.W.kitAny K t us
  | c => (clD c).bind fun u => PySem.W.kitOne K t u
def gIsi (K : PySem.W.Frag) : List D → Option D
  | [x, c] => (tyD x).bind fun t => (isK K (.type t) c).map D.bl
  | _ => none
theorem tyX_of {H : Hp} {d : D} {v : V} {o : List Addr} {t : String} (r : Rep C H d v o) (h : tyD d = some t) : TyX C.K H v (.type t) := by
  match d, h with
  | .non, h => cases h; rw [r.1]; exact .base .non
  | .bl b, h => cases h; rw [r.1]; exact .base (.bl b)
  | .int i, h => cases h; rw [r.1]; exact .base (.int i)
  | .str x, h => cases h; rw [r.1]; exact .base (.str _)
  | .tup ds, h =>
    cases h
    obtain ⟨a, vs, rfl, (e | ⟨ob, e⟩) | ⟨ob, its, n, e, e2, _⟩, _⟩ := r
    · exact .base (.tup e)
    · exact .fTuple e
    · exact .kTuple e e2
  | .lst f ds, h =>
    cases h
    obtain ⟨a, vs, rfl, e | ⟨ob, e⟩, _⟩ := r.lstS
    · exact .base (.lst e)
    · exact .base (.frz e)
  | .dct false ks ds, h => cases h; obtain ⟨a, vs, ob, rfl, e, _⟩ := r; exact .fDict e
  | .dct true ks ds, h => cases h; obtain ⟨a, vs, o', rfl, e, _⟩ := r; exact .base (.dK e)
theorem cl_of {H : Hp} {d : D} {v : V} {o : List Addr} {u : Value} (r : Rep C H d v o) (h : clD d = some u) : ClsV v u := by
  match d, h with
  | .ty n, h => cases h; rw [r.1]; exact .ty n
  | .obj a, h => cases h; rw [r.1]; exact .own a
theorem cls_of {H : Hp} : ∀ {ds : List D} {vs : List V} {us : List Value}, RepW C H ds vs → clsD ds = some us → Paired ClsV vs us
  | [], vs, us, r, h => by
    cases h
    have := r.len
    match vs, this with
    | [], _ => exact .nil
  | d :: ds, vs, us, r, h => by
    simp only [clsD, Option.bind_eq_some_iff, Option.map_eq_some_iff] at h
    obtain ⟨c, h1, cs, h2, rfl⟩ := h
    obtain ⟨v, vs', o, rfl, r1, r2⟩ := r
    exact .cons (cl_of r1 h1) (cls_of r2 h2)
/-- isinstance(x, c) or isinstance(x, (c1, ..)) -/
def rIsQ (K : PySem.W.Frag) : List V → Hp → VK → Prop := fun xs H Q => ∃ (x : V) (tp : Addr) (cs : List V) (t : Value) (us : List Value) (b : Bool), xs = [x, .ref tp] ∧ SqT K H tp cs ∧ Paired ClsV cs us ∧ TyX K H x t ∧ PySem.W.kitAny K t us = some b ∧ Q (.bl b) H
theorem call_isQ : CallR X (.builtin "isinstance") (rIsQ X.K) := by
  intro pins s σ H xs us Q I r h
  obtain ⟨x, tp, cs, t, ws, b, rfl, hT, k, ty, e, q⟩ := h
  obtain ⟨u1, u2, rfl, r1, r2⟩ := vals2 r
  cases (show u2 = Value.ref tp from r2)
  obtain ⟨P, Z, p, hx⟩ := kit_of I r1 ty
  obtain ⟨its, rv, ⟨⟨oc, od, dt, sl⟩, ho, h2, n, h3⟩, _⟩ := I.tuple hT
  have e3 := ClsV.all k rv
  simp only at h2 h3
  subst e3 h2 h3
  exact PySem.W.kia_tup Z I.kIn p ho e hx fun tk => ⟨.bl b, H, I.tok tk, rfl, q⟩
abbrev rIsiA (K : PySem.W.Frag) : List V → Hp → VK → Prop := fun xs H Q => rIsi K xs H Q ∨ rIsQ K xs H Q
theorem call_isiA : CallR X (.builtin "isinstance") (rIsiA X.K) := fun pins s σ H xs us Q I r h => h.elim (call_isi pins s σ H xs us Q I r) (call_isQ pins s σ H xs us Q I r)
theorem vo_isi : VOn C (rIsiA C.K) (gIsi C.K) := by
  intro ds d vs H Q r hg q
  unfold gIsi at hg
  split at hg
  · rename_i x c
    simp only [Option.bind_eq_some_iff, Option.map_eq_some_iff] at hg
    obtain ⟨t, ht, b, hb, rfl⟩ := hg
    obtain ⟨v, w, o, p, rfl, rv, rw'⟩ := repw2 r
    have ty := tyX_of rv ht
    have fin := q (.bl b) H [] ⟨rfl, rfl⟩ Ext.refl (by simp)
    unfold isK at hb
    split at hb
    · simp only [Option.bind_eq_some_iff] at hb
      obtain ⟨us, h1, h2⟩ := hb
      obtain ⟨a, ws, rfl, hr, w⟩ := rw'.tupS
      exact .inr ⟨v, a, ws, _, us, b, rfl, hr, cls_of w h1, ty, h2, fin⟩
    · simp only [Option.bind_eq_some_iff] at hb
      obtain ⟨u, h1, h2⟩ := hb
      exact .inl ⟨v, w, _, u, b, rfl, cl_of rw' h1, ty, h2, fin⟩
  · cases hg
end
/-! ### slices, texts' methods -/
def cutL {α : Type} (xs : List α) (lo hi : Option Int) : List α := (xs.drop (HT.sIx xs.length 0 lo)).take (HT.sIx xs.length xs.length hi - HT.sIx xs.length 0 lo)
def gSl (d : D) (lo hi : Option Int) : Option D := match d with
  | .str x => if x.length ≤ sizeLine then some (.str (cutL x lo hi)) else none
  | .lst _ ds => if fzL ds = true then some (.lst true (cutL ds lo hi)) else none
  | .tup ds => if fzL ds = true then some (.tup (cutL ds lo hi)) else none
  | _ => none
structure SO (X : Cx) (C : RC) (e : Option Expr) (f : Env → Option (Option Int)) : Prop where
  ex : ∃ t, PO X e t ∧ ∀ ρ σ H own Q, ER C H ρ σ own → ∀ z, f ρ = some z → (∀ H', Ext H H' → Q z H') → t σ H Q
def oNone : Env → Option (Option Int) := fun _ => some none
def oSome (f : Env → Option D) : Env → Option (Option Int) := fun ρ => match f ρ with
  | some (.int i) => some (some i)
  | _ => none
def vSl (f : Env → Option D) (l h : Env → Option (Option Int)) : Env → Option D := fun ρ => (f ρ).bind fun d => (l ρ).bind fun lo => (h ρ).bind fun hi => gSl d lo hi
abbrev rSl (K : PySem.W.Frag) : V → Option Int → Option Int → Hp → VK → Prop := fun x lo hi H Q => rSlS x lo hi H Q ∨ rSlL K x lo hi H Q ∨ rSlA K x lo hi H Q
theorem sl_all {X : Cx} : SlR X (rSl X.K) := SlR.or sl_str (SlR.or sl_list sl_tupA)
section
variable {X : Cx} {W : WX} {C : RC} {e : Expr} {lo hi : Option Expr} {f : Env → Option D} {fl fh : Env → Option (Option Int)} {p2 pos : Pos}
theorem so_none : SO X C none oNone := ⟨_, po_none, fun ρ σ H own Q er z hz q => by
  cases hz
  exact q H Ext.refl⟩
theorem so_some (h : SV X C e f) : SO X C (some e) (oSome f) := by
  obtain ⟨t, p, s⟩ := h.ex
  refine ⟨_, po_some p, fun ρ σ H own Q er z hz q => ?_⟩
  unfold oSome at hz
  split at hz
  · rename_i i hi
    cases hz
    refine s ρ σ H own _ er _ hi fun v H' o r k => ?_
    exact ⟨i, r.1, q H' k⟩
  · cases hz
theorem RepL.cut {H : Hp} {ds : List D} {vs : List V} (lo hi : Option Int) (r : RepL C H ds vs []) : RepL C H (cutL ds lo hi) (cutV vs lo hi) [] := by
  unfold cutL cutV
  rw [r.len]
  exact RepL.take0 _ (RepL.drop0 _ r)
theorem cutL_whole {α : Type} {xs : List α} {lo hi : Option Int} (h : HT.sIx xs.length 0 lo = 0 ∧ HT.sIx xs.length xs.length hi = xs.length) : cutL xs lo hi = xs := by
  unfold cutL
  rw [h.1, h.2]
  simp
theorem snd_sl {H : Hp} {d d' : D} {v : V} {o : List Addr} {lo hi : Option Int} {Q : VK} (r : Rep C H d v o) (hg : gSl d lo hi = some d') (q : ∀ v' H' o', Rep C H' d' v' o' → Ext H H' → (∀ a ∈ o', H a = none) → Q v' H') : rSl C.K v lo hi H Q := by
  unfold gSl at hg
  split at hg
  · split at hg
    · rename_i hz
      cases hg
      rw [r.1]
      refine .inl ⟨_, rfl, by rw [sx_len]; exact hz, q _ _ [] ⟨?_, rfl⟩ Ext.refl (by simp)⟩
      unfold cutS cutL
      rw [sx_list, sx_len]
      rfl
    · cases hg
  · split at hg
    · rename_i hf
      cases hg
      obtain ⟨a, ws, rfl, hr, w⟩ := r.lstS
      exact .inr (.inl ⟨a, ws, rfl, .inl hr, fun p hp => q _ _ [p] (rep_new_lst ((w.fz hf).cut lo hi) hp) (Ext.new hp) (one_none hp)⟩)
    · cases hg
  · split at hg
    · rename_i hf
      cases hg
      obtain ⟨a, ws, rfl, hr, w⟩ := r.tupS
      have wl := w.len
      refine .inr (.inr ⟨a, ws, rfl, hr, fun hc => ?_, fun _ p hp => q _ _ [] (rep_new_tup ((w.fz hf).cut lo hi) hp) (Ext.new hp) (by simp)⟩)
      refine q _ _ [] ?_ Ext.refl (by simp)
      rw [cutL_whole (by rw [← wl]; exact hc)]
      exact ⟨a, ws, rfl, hr, w.fz hf⟩
    · cases hg
  · cases hg
theorem ext_trans {H1 H2 H3 : Hp} (a : Ext H1 H2) (b : Ext H2 H3) : Ext H1 H3 := fun x u z => b x u (a x u z)
theorem sl_core (hK : C.K = X.K) (he : SV X C e f) (hl : SO X C lo fl) (hh : SO X C hi fh) : ∃ t, PE X (.Subscript e (.Slice lo hi none p2) pos) t ∧ ∀ ρ σ H own Q, ER C H ρ σ own → ∀ d, vSl f fl fh ρ = some d → (∀ v H' o, Rep C H' d v o → Ext H H' → (∀ a ∈ o, H a = none) → Q v H') → t σ H Q := by
  obtain ⟨t, p, s⟩ := he.ex
  obtain ⟨tl, pl, sl⟩ := hl.ex
  obtain ⟨th, ph, sh⟩ := hh.ex
  refine ⟨_, pe_slice sl_all p pl ph, fun ρ σ H own Q er d hd q => ?_⟩
  simp only [vSl, Option.bind_eq_some_iff] at hd
  obtain ⟨d0, h1, zl, h2, zh, h3, h4⟩ := hd
  refine s ρ σ H own _ er d0 h1 fun v H1 o1 r1 k1 => ?_
  refine sl ρ σ H1 own _ (er.ext k1) zl h2 fun H2 k2 => ?_
  refine sh ρ σ H2 own _ ((er.ext k1).ext k2) zh h3 fun H3 k3 => ?_
  rw [← hK]
  refine snd_sl ((r1.ext k2).ext k3) h4 fun v' H' o' r' k' n' => q v' H' o' r' (ext_trans (ext_trans (ext_trans k1 k2) k3) k') fun a ha => ?_
  cases z : H a with
  | none => rfl
  | some u =>
    have n2 := n' a ha
    rw [k3 a u (k2 a u (k1 a u z))] at n2
    cases n2
theorem sv_sl (hK : C.K = X.K) (he : SV X C e f) (hl : SO X C lo fl) (hh : SO X C hi fh) : SV X C (.Subscript e (.Slice lo hi none p2) pos) (vSl f fl fh) := by
  obtain ⟨t, p, s⟩ := sl_core (p2 := p2) (pos := pos) hK he hl hh
  exact ⟨t, p, fun ρ σ H own Q er d hd q => s ρ σ H own Q er d hd fun v H' o r k _ => q v H' o r k⟩
theorem sev_sl (hK : C.K = X.K) (he : SV X C e f) (hl : SO X C lo fl) (hh : SO X C hi fh) : SE X W C (.Subscript e (.Slice lo hi none p2) pos) (eV (vSl f fl fh)) := by
  obtain ⟨t, p, s⟩ := sl_core (p2 := p2) (pos := pos) hK he hl hh
  refine ⟨t, p, fun ρ σ H own Q er hw => ?_⟩
  unfold eV ofO at hw
  split at hw
  · rename_i d hd
    exact s ρ σ H own Q er d hd fun v H' o r k n => fin_v hw er Ext.refl r k n
  · exact hw.elim
end
end Se

namespace Se
open PySem L2

/-! ### a text's method of one argument, of none -/
def eBm (g : List Nat → D → Option D) (f : Env → Option D) (mb : M D) : M D := fun ρ => match f ρ with
  | some (.str x) => (mb ρ).bind fun d ρ1 => ofO (g x d) ρ1
  | _ => .bad
def eBm0 (g : List Nat → Option D) (f : Env → Option D) : M D := fun ρ => match f ρ with
  | some (.str x) => ofO (g x) ρ
  | _ => .bad
abbrev VM1 (C : RC) (r : V → List V → Hp → VK → Prop) (g : List Nat → D → Option D) : Prop := ∀ (x : List Nat) (d2 d : D) (v2 : V) (H : Hp) (o2 : List Addr) (Q : VK), Rep C H d2 v2 o2 → g x d2 = some d →
  (∀ v H' o, Rep C H' d v o → Ext H H' → (∀ a ∈ o, H a = none) → Q v H') → r (.str (sx x)) [v2] H Q
abbrev VM0 (C : RC) (r : V → List V → Hp → VK → Prop) (g : List Nat → Option D) : Prop := ∀ (x : List Nat) (d : D) (H : Hp) (Q : VK), g x = some d →
  (∀ v H' o, Rep C H' d v o → Ext H H' → (∀ a ∈ o, H a = none) → Q v H') → r (.str (sx x)) [] H Q
section
variable {X : Cx} {W : WX} {C : RC} {e o a : Expr} {f : Env → Option D} {mb : M D} {r : V → List V → Hp → VK → Prop}
theorem se_bm {g : List Nat → D → Option D} (pe : ∀ to ta, PE X o to → PE X a ta → PE X e (tM1 r to ta)) (vm : VM1 C r g) (ho : SV X C o f) (ha : SE X W C a mb) : SE X W C e (eBm g f mb) := by
  obtain ⟨to, po, so⟩ := ho.ex
  obtain ⟨ta, pa, sa⟩ := ha.ex
  refine ⟨_, pe to ta po pa, fun ρ σ H own Q er hw => ?_⟩
  unfold eBm at hw
  split at hw
  · rename_i x hx
    refine so ρ σ H own _ er _ hx fun v H1 o1 r1 k1 => ⟨⟨_, r1.1⟩, ?_⟩
    have s0 : Stp H H1 own ([] ++ own) := ⟨fun b ob q _ => k1 b ob q, fun b z => .inl (by simpa using z)⟩
    refine sa ρ σ H1 own _ (er.ext k1) (poE_bind (P := fun r => PoE C W r σ H own Q) hw (fun z => z) (exE.at s0) fun d ρ1 v2 H2 o2 own2 r2 e2 j2 s2 hw2 => ?_)
    unfold ofO at hw2
    split at hw2
    · rename_i d' hd'
      rw [r1.1]
      refine vm x d d' v2 H2 o2 Q r2 hd' fun v' H' o' r' k' n' => hw2.fin (s0.trans s2 |> fun z => ?_) e2 j2 k' r' fun b hb => .inr (n' b hb)
      exact z
    · exact hw2.elim
  · exact hw.elim
theorem se_bm0 {g : List Nat → Option D} (pe : ∀ to, PE X o to → PE X e (tM0 r to)) (vm : VM0 C r g) (ho : SV X C o f) : SE X W C e (eBm0 g f) := by
  obtain ⟨to, po, so⟩ := ho.ex
  refine ⟨_, pe to po, fun ρ σ H own Q er hw => ?_⟩
  unfold eBm0 at hw
  split at hw
  · rename_i x hx
    refine so ρ σ H own _ er _ hx fun v H1 o1 r1 k1 => ⟨⟨_, r1.1⟩, ?_⟩
    unfold ofO at hw
    split at hw
    · rename_i d' hd'
      rw [r1.1]
      exact vm x d' H1 Q hd' fun v' H' o' r' k' n' => fin_v hw er k1 r' k' n'
    · exact hw.elim
  · exact hw.elim
end
def gSplit (x : List Nat) : D → Option D
  | .str b => if b ≠ [] ∧ b.all (· < 256) = true ∧ x.length + 2 ≤ sizeLine then some (.lst true ((TL.spl b 0 [] x).map D.str)) else none
  | _ => none
def strsD : List D → Option (List (List Nat))
  | [] => some []
  | .str x :: ds => (strsD ds).map fun r => x :: r
  | _ => none
def joinD (a : List Nat) (ds : List D) : Option D := (strsD ds).bind fun ys => if (ys.map (·.length)).sum + ys.length * a.length ≤ 16777216 then some (.str (TL.joinL a ys)) else none
def gJoin (a : List Nat) : D → Option D
  | .lst _ ds => joinD a ds
  | .tup ds => joinD a ds
  | _ => none
section
variable {X : Cx} {C : RC}
theorem strs_rep {H : Hp} : ∀ (ys : List (List Nat)), RepL C H (ys.map D.str) (ys.map fun y => V.str (sx y)) []
  | [] => ⟨rfl, rfl⟩
  | y :: ys => ⟨_, _, [], [], rfl, ⟨rfl, rfl⟩, strs_rep ys, by simp, rfl⟩
theorem strs_of {H : Hp} : ∀ {ds : List D} {vs : List V} {ys : List (List Nat)}, RepW C H ds vs → strsD ds = some ys → vs = (ys.map sx).map V.str
  | [], vs, ys, r, h => by cases h; cases r; rfl
  | d :: ds, vs, ys, r, h => by
    obtain ⟨v, vs', o, rfl, r1, r2⟩ := r
    match d, h with
    | .str x, h =>
      simp only [strsD, Option.map_eq_some_iff] at h
      obtain ⟨zs, h1, rfl⟩ := h
      rw [r1.1, strs_of r2 h1]
      rfl
abbrev rSplit : V → List V → Hp → VK → Prop := fun x xs H Q => ∃ a b, x = .str a ∧ xs = [.str b] ∧ (b.length == 0) = false ∧ a.length + 2 ≤ sizeLine ∧ rNewStrs (Txt.split a b) H Q
theorem vm_split : VM1 C rSplit gSplit := by
  intro x d2 d v2 H o2 Q r hg q
  unfold gSplit at hg
  split at hg
  · split at hg
    · rename_i hc
      cases hg
      rw [r.1]
      refine ⟨_, _, rfl, rfl, ?_, by rw [sx_len]; exact hc.2.2, fun p hp => ?_⟩
      · rename_i b
        rw [sx_len]
        cases b with
        | nil => exact absurd rfl hc.1
        | cons c b => rfl
      · rw [show Txt.split (sx x) (sx _) = _ from SX.split_S hc.1 hc.2.1, List.map_map]
        exact q _ _ [p] (rep_new_lst (strs_rep _) hp) (Ext.new hp) (one_none hp)
    · cases hg
  · cases hg
abbrev rJoinA (K : PySem.W.Frag) : V → List V → Hp → VK → Prop := fun x xs H Q => ∃ a p, ∃ ys : List Str, x = .str a ∧ xs = [.ref p] ∧ (SqL K H p (ys.map V.str) ∨ SqT K H p (ys.map V.str)) ∧
      (ys.map (·.length)).sum + ys.length * a.length ≤ 16777216 ∧ Q (.str (Txt.join a ys)) H
theorem vm_join : VM1 C (rJoinA C.K) gJoin := by
  intro x d2 d v2 H o2 Q r hg q
  have core : ∀ {ds : List D} {ws : List V} {p : Addr}, RepW C H ds ws → joinD x ds = some d → v2 = .ref p → (SqL C.K H p ws ∨ SqT C.K H p ws) → rJoinA C.K (.str (sx x)) [v2] H Q := fun {ds ws p} w h ev hs => by
    simp only [joinD, Option.bind_eq_some_iff] at h
    obtain ⟨ys, h1, h2⟩ := h
    split at h2
    · rename_i hz
      cases h2
      have e := strs_of w h1
      subst e
      refine ⟨_, p, ys.map sx, rfl, by rw [ev], hs, ?_, q _ _ [] ⟨?_, rfl⟩ Ext.refl (by simp)⟩
      · rw [List.map_map, List.length_map, sx_len, show (ys.map ((fun z : Str => z.length) ∘ sx)) = ys.map (·.length) from List.map_congr_left fun y _ => sx_len y]
        exact hz
      · rw [show Txt.join (sx x) (ys.map sx) = _ from SX.join_S x ys]
        rfl
    · cases h2
  unfold gJoin at hg
  split at hg
  · obtain ⟨a, ws, e, hr, w⟩ := r.lstS
    exact core w hg e (.inl (.inl hr))
  · obtain ⟨a, ws, e, hr, w⟩ := r.tupS
    exact core w hg e (.inr hr)
  · cases hg
/-! ### * -/
def repD {α : Type} (k : Nat) (xs : List α) : List α := (List.replicate k xs).flatten
def gMulA : D → D → Option D
  | .int i, .int j => if CMulA i j then some (.int (i * j)) else none
  | .str x, .int k => if -(2 ^ 63) ≤ k ∧ k < 2 ^ 63 ∧ x.length * k.toNat ≤ sizeLine then some (.str (repD k.toNat x)) else none
  | .lst true ds, .int k => if fzL ds = true ∧ -(2 ^ 63) ≤ k ∧ k < 2 ^ 63 ∧ ds.length * k.toNat ≤ sizeLine then some (.lst true (repD k.toNat ds)) else none
  | .tup ds, .int k => if fzL ds = true ∧ ds ≠ [] ∧ 2 ≤ k ∧ k ≤ 1000 ∧ ds.length ≤ 1000 then some (.tup (repD k.toNat ds)) else none
  | _, _ => none
abbrev rMulA (K : PySem.W.Frag) : R2 := fun x y H Q => rI CMul (fun i j => .int (i * j)) x y H Q ∨ rI CMulW (fun i j => .int (i * j)) x y H Q ∨ rMulS x y H Q ∨ rRep x y H Q ∨ rRepT K x y H Q
theorem op_mulA : OpR X (binaryOp .Mult) (rMulA X.K) := OpR.or op_mul (OpR.or op_mulW (OpR.or op_mulS (OpR.or op_rep op_repT)))
theorem vo_mul : VO2 C (rMulA C.K) gMulA := by
  intro d1 d2 d v1 v2 H o1 o2 Q r1 r2 hg q
  unfold gMulA at hg
  split at hg
  · split at hg
    · rename_i hc
      cases hg
      rw [r1.1, r2.1]
      have z := q _ H [] ⟨rfl, rfl⟩ Ext.refl (by simp)
      rcases hc with hc | hc
      · exact .inl ⟨_, _, rfl, rfl, hc, z⟩
      · exact .inr (.inl ⟨_, _, rfl, rfl, hc, z⟩)
    · cases hg
  · split at hg
    · rename_i hc
      cases hg
      rw [r1.1, r2.1]
      refine .inr (.inr (.inl ⟨_, _, rfl, rfl, hc.1, hc.2.1, by rw [sx_len]; exact hc.2.2, q _ H [] ⟨?_, rfl⟩ Ext.refl (by simp)⟩))
      unfold strRep repD
      rw [sx_list]
      rfl
    · cases hg
  · split at hg
    · rename_i hc
      cases hg
      rw [r2.1]
      obtain ⟨a, vs, o', rfl, hr, rl, _⟩ := r1
      refine .inr (.inr (.inr (.inl ⟨a, _, vs, rfl, rfl, hr, hc.2.1, hc.2.2.1, by rw [rl.len]; exact hc.2.2.2, fun p hp => ?_⟩)))
      exact q _ _ [p] (rep_new_lst (RepL.rep _ (rl.w.fz hc.1)) hp) (Ext.new hp) (one_none hp)
    · cases hg
  · split at hg
    · rename_i hc
      cases hg
      rw [r2.1]
      obtain ⟨a, ws, rfl, hr, w⟩ := r1.tupS
      refine .inr (.inr (.inr (.inr ⟨a, _, ws, rfl, rfl, hr, fun z => ?_, hc.2.2.1, hc.2.2.2.1, by rw [w.len]; exact hc.2.2.2.2, fun p hp => ?_⟩)))
      · have := w.len
        rw [z] at this
        rename_i ds k
        cases ds with
        | nil => exact hc.2.1 rfl
        | cons _ _ => cases this
      · exact q _ _ [] (rep_new_tup (RepL.rep _ (w.fz hc.1)) hp) (Ext.new hp) (by simp)
    · cases hg
  · cases hg
end
/-! ### x op= e, over integers -/
def sAug (i : Nat) (g : Int → Int → Int) (me : M D) : MS := fun ρ => match (ρ[i]?).join with
  | some (.int a) => match me ρ with
    | .ok (.int b) ρ1 => if i < ρ1.length then .nx (ρ1.set i (some (.int (g a b)))) else .bad
    | .ex e ρ1 => .ex e ρ1
    | _ => .bad
  | _ => .bad
section
variable {X : Cx} {W : WX} {C : RC} {B : List Nat}
theorem ss_aug {i : Nat} {x : Str} {e : Expr} {op : Operator} {g : Int → Int → Int} {p pos : Pos} {me : M D} (pe : ∀ te, PE X e te → PS X (.AugAssign (.Name x p) op e pos) (tAug i te (ipI g))) (he : SE X W C e me) (hB : i ∉ B) : SS X W C B (.AugAssign (.Name x p) op e pos) (sAug i g me) := by
  obtain ⟨t, pt, st⟩ := he.ex
  refine ⟨_, pe t pt, fun ρ σ H own Dn er hw => ?_⟩
  unfold sAug at hw
  split at hw
  · rename_i a ha
    obtain ⟨v, o, own1, e1, r, _⟩ := er.take (join_some ha)
    refine ⟨v, e1, st ρ σ H own _ er ?_⟩
    rw [r.1]
    cases hm : me ρ with
    | bad => rw [hm] at hw; exact hw.elim
    | ex e ρ1 =>
      rw [hm] at hw
      intro cls d H' own' x er' st'
      exact hw cls d σ H' own' x er' st' fun _ _ => rfl
    | ok d ρ1 =>
      rw [hm] at hw
      intro v2 H1 o2 own2 r2 e2 j2 s2
      cases d with
      | int b =>
        dsimp only at hw
        split at hw
        · rename_i hl
          refine ⟨a, b, rfl, r2.1, ?_⟩
          obtain ⟨own3, e3, m3⟩ := e2.set (d := .int (g a b)) (v := .int (g a b)) (o := []) hl ⟨rfl, rfl⟩ (by simp)
          refine hw _ H1 own3 e3 (s2.less fun b hb => List.mem_append_right _ ((m3 b hb).resolve_left (by simp))) fun k hk => ?_
          rw [List.getElem?_set_ne (fun z => hB (by rw [z]; exact hk))]
        · exact hw.elim
      | _ => exact hw.elim
  · exact hw.elim
end
end Se

namespace Se
open PySem L2
/-! short names for the rules; printed by genQ.py -/
abbrev KX (X : Cx) (z : Option (Addr × Addr × Addr)) : RC := ⟨X.K, z⟩
section
variable {X : Cx} {W : WX} {z : Option (Addr × Addr × Addr)} {a b : Expr} {pos : Pos} {fa fb : Env → Option D} {ma mb : M D}
theorem vv_of {C : RC} {r : R2} {g : D → D → Option D} (vo : VO2 C r g) : VV2 C r g := fun d1 d2 d v1 v2 H o1 o2 Q r1 r2 hg q => vo d1 d2 d v1 v2 H o1 o2 Q r1 r2 hg fun v H' o r k _ => q v H' o r k

theorem sv_add (ha : SV X (KX X z) a fa) (hb : SV X (KX X z) b fb) : SV X (KX X z) (.BinOp a .Add b pos) (vOp2 gAdd fa fb) := sv_op2 (fun _ _ p q => pe_op op_addA p q) (vv_of vo_add) ha hb
theorem sev_add (ha : SV X (KX X z) a fa) (hb : SV X (KX X z) b fb) : SE X W (KX X z) (.BinOp a .Add b pos) (eV (vOp2 gAdd fa fb)) := sev_op2 (fun _ _ p q => pe_op op_addA p q) vo_add ha hb
theorem se_add (ha : SE X W (KX X z) a ma) (hb : SE X W (KX X z) b mb) : SE X W (KX X z) (.BinOp a .Add b pos) (eOp2 gAdd ma mb) := se_op2 (fun _ _ p q => pe_op op_addA p q) vo_add ha hb
theorem sv_sub (ha : SV X (KX X z) a fa) (hb : SV X (KX X z) b fb) : SV X (KX X z) (.BinOp a .Sub b pos) (vOp2 gSub fa fb) := sv_op2 (fun _ _ p q => pe_op op_sub p q) (vv_of vo_sub) ha hb
theorem sev_sub (ha : SV X (KX X z) a fa) (hb : SV X (KX X z) b fb) : SE X W (KX X z) (.BinOp a .Sub b pos) (eV (vOp2 gSub fa fb)) := sev_op2 (fun _ _ p q => pe_op op_sub p q) vo_sub ha hb
theorem se_sub (ha : SE X W (KX X z) a ma) (hb : SE X W (KX X z) b mb) : SE X W (KX X z) (.BinOp a .Sub b pos) (eOp2 gSub ma mb) := se_op2 (fun _ _ p q => pe_op op_sub p q) vo_sub ha hb
theorem sv_mul (ha : SV X (KX X z) a fa) (hb : SV X (KX X z) b fb) : SV X (KX X z) (.BinOp a .Mult b pos) (vOp2 gMulA fa fb) := sv_op2 (fun _ _ p q => pe_op op_mulA p q) (vv_of vo_mul) ha hb
theorem sev_mul (ha : SV X (KX X z) a fa) (hb : SV X (KX X z) b fb) : SE X W (KX X z) (.BinOp a .Mult b pos) (eV (vOp2 gMulA fa fb)) := sev_op2 (fun _ _ p q => pe_op op_mulA p q) vo_mul ha hb
theorem se_mul (ha : SE X W (KX X z) a ma) (hb : SE X W (KX X z) b mb) : SE X W (KX X z) (.BinOp a .Mult b pos) (eOp2 gMulA ma mb) := se_op2 (fun _ _ p q => pe_op op_mulA p q) vo_mul ha hb
theorem sv_div (ha : SV X (KX X z) a fa) (hb : SV X (KX X z) b fb) : SV X (KX X z) (.BinOp a .FloorDiv b pos) (vOp2 gDiv fa fb) := sv_op2 (fun _ _ p q => pe_op op_divA p q) (vv_of vo_div) ha hb
theorem sev_div (ha : SV X (KX X z) a fa) (hb : SV X (KX X z) b fb) : SE X W (KX X z) (.BinOp a .FloorDiv b pos) (eV (vOp2 gDiv fa fb)) := sev_op2 (fun _ _ p q => pe_op op_divA p q) vo_div ha hb
theorem se_div (ha : SE X W (KX X z) a ma) (hb : SE X W (KX X z) b mb) : SE X W (KX X z) (.BinOp a .FloorDiv b pos) (eOp2 gDiv ma mb) := se_op2 (fun _ _ p q => pe_op op_divA p q) vo_div ha hb
theorem sv_mod (ha : SV X (KX X z) a fa) (hb : SV X (KX X z) b fb) : SV X (KX X z) (.BinOp a .Mod b pos) (vOp2 gMod fa fb) := sv_op2 (fun _ _ p q => pe_op op_mod p q) (vv_of vo_mod) ha hb
theorem sev_mod (ha : SV X (KX X z) a fa) (hb : SV X (KX X z) b fb) : SE X W (KX X z) (.BinOp a .Mod b pos) (eV (vOp2 gMod fa fb)) := sev_op2 (fun _ _ p q => pe_op op_mod p q) vo_mod ha hb
theorem se_mod (ha : SE X W (KX X z) a ma) (hb : SE X W (KX X z) b mb) : SE X W (KX X z) (.BinOp a .Mod b pos) (eOp2 gMod ma mb) := se_op2 (fun _ _ p q => pe_op op_mod p q) vo_mod ha hb
theorem sv_pow (ha : SV X (KX X z) a fa) (hb : SV X (KX X z) b fb) : SV X (KX X z) (.BinOp a .Pow b pos) (vOp2 gPow fa fb) := sv_op2 (fun _ _ p q => pe_op op_pow p q) (vv_of vo_pow) ha hb
theorem sev_pow (ha : SV X (KX X z) a fa) (hb : SV X (KX X z) b fb) : SE X W (KX X z) (.BinOp a .Pow b pos) (eV (vOp2 gPow fa fb)) := sev_op2 (fun _ _ p q => pe_op op_pow p q) vo_pow ha hb
theorem se_pow (ha : SE X W (KX X z) a ma) (hb : SE X W (KX X z) b mb) : SE X W (KX X z) (.BinOp a .Pow b pos) (eOp2 gPow ma mb) := se_op2 (fun _ _ p q => pe_op op_pow p q) vo_pow ha hb
theorem sv_eq (hu : X.A.units + 64 < cLine) (ha : SV X (KX X z) a fa) (hb : SV X (KX X z) b fb) (hm : behindInMarks .Eq b = false := by first | exact nobehind _ (by decide) (by decide) | rfl) : SV X (KX X z) (.Compare a [.Eq] [b] pos) (vOp2 gEq fa fb) := sv_op2 (fun _ _ p q => pe_cmpR (op_eqA hu) p q hm) (vv_of vo_eq) ha hb
theorem sev_eq (hu : X.A.units + 64 < cLine) (ha : SV X (KX X z) a fa) (hb : SV X (KX X z) b fb) (hm : behindInMarks .Eq b = false := by first | exact nobehind _ (by decide) (by decide) | rfl) : SE X W (KX X z) (.Compare a [.Eq] [b] pos) (eV (vOp2 gEq fa fb)) := sev_op2 (fun _ _ p q => pe_cmpR (op_eqA hu) p q hm) vo_eq ha hb
theorem se_eq (hu : X.A.units + 64 < cLine) (ha : SE X W (KX X z) a ma) (hb : SE X W (KX X z) b mb) (hm : behindInMarks .Eq b = false := by first | exact nobehind _ (by decide) (by decide) | rfl) : SE X W (KX X z) (.Compare a [.Eq] [b] pos) (eOp2 gEq ma mb) := se_op2 (fun _ _ p q => pe_cmpR (op_eqA hu) p q hm) vo_eq ha hb
theorem stv_eq (hu : X.A.units + 64 < cLine) (ha : SV X (KX X z) a fa) (hb : SV X (KX X z) b fb) (hm : behindInMarks .Eq b = false := by first | exact nobehind _ (by decide) (by decide) | rfl) : ST X W (KX X z) (.Compare a [.Eq] [b] pos) (Se.tB (eV (vOp2 gEq fa fb))) := stv_op2 (fun _ _ p q => pt_cmpR (op_eqA hu) p q hm) vo_eq ha hb
theorem st_eq (hu : X.A.units + 64 < cLine) (ha : SE X W (KX X z) a ma) (hb : SE X W (KX X z) b mb) (hm : behindInMarks .Eq b = false := by first | exact nobehind _ (by decide) (by decide) | rfl) : ST X W (KX X z) (.Compare a [.Eq] [b] pos) (Se.tB (eOp2 gEq ma mb)) := st_op2 (fun _ _ p q => pt_cmpR (op_eqA hu) p q hm) vo_eq ha hb
theorem sv_ne (hu : X.A.units + 64 < cLine) (ha : SV X (KX X z) a fa) (hb : SV X (KX X z) b fb) (hm : behindInMarks .NotEq b = false := by first | exact nobehind _ (by decide) (by decide) | rfl) : SV X (KX X z) (.Compare a [.NotEq] [b] pos) (vOp2 gNe fa fb) := sv_op2 (fun _ _ p q => pe_cmpR (op_neA hu) p q hm) (vv_of vo_ne) ha hb
theorem sev_ne (hu : X.A.units + 64 < cLine) (ha : SV X (KX X z) a fa) (hb : SV X (KX X z) b fb) (hm : behindInMarks .NotEq b = false := by first | exact nobehind _ (by decide) (by decide) | rfl) : SE X W (KX X z) (.Compare a [.NotEq] [b] pos) (eV (vOp2 gNe fa fb)) := sev_op2 (fun _ _ p q => pe_cmpR (op_neA hu) p q hm) vo_ne ha hb
theorem se_ne (hu : X.A.units + 64 < cLine) (ha : SE X W (KX X z) a ma) (hb : SE X W (KX X z) b mb) (hm : behindInMarks .NotEq b = false := by first | exact nobehind _ (by decide) (by decide) | rfl) : SE X W (KX X z) (.Compare a [.NotEq] [b] pos) (eOp2 gNe ma mb) := se_op2 (fun _ _ p q => pe_cmpR (op_neA hu) p q hm) vo_ne ha hb
theorem stv_ne (hu : X.A.units + 64 < cLine) (ha : SV X (KX X z) a fa) (hb : SV X (KX X z) b fb) (hm : behindInMarks .NotEq b = false := by first | exact nobehind _ (by decide) (by decide) | rfl) : ST X W (KX X z) (.Compare a [.NotEq] [b] pos) (Se.tB (eV (vOp2 gNe fa fb))) := stv_op2 (fun _ _ p q => pt_cmpR (op_neA hu) p q hm) vo_ne ha hb
theorem st_ne (hu : X.A.units + 64 < cLine) (ha : SE X W (KX X z) a ma) (hb : SE X W (KX X z) b mb) (hm : behindInMarks .NotEq b = false := by first | exact nobehind _ (by decide) (by decide) | rfl) : ST X W (KX X z) (.Compare a [.NotEq] [b] pos) (Se.tB (eOp2 gNe ma mb)) := st_op2 (fun _ _ p q => pt_cmpR (op_neA hu) p q hm) vo_ne ha hb
theorem sv_lt (ha : SV X (KX X z) a fa) (hb : SV X (KX X z) b fb) (hm : behindInMarks .Lt b = false := by first | exact nobehind _ (by decide) (by decide) | rfl) : SV X (KX X z) (.Compare a [.Lt] [b] pos) (vOp2 (gCmp fun i j => decide (i < j)) fa fb) := sv_op2 (fun _ _ p q => pe_cmpR op_lt p q hm) (vv_of (vo_cmp _)) ha hb
theorem sev_lt (ha : SV X (KX X z) a fa) (hb : SV X (KX X z) b fb) (hm : behindInMarks .Lt b = false := by first | exact nobehind _ (by decide) (by decide) | rfl) : SE X W (KX X z) (.Compare a [.Lt] [b] pos) (eV (vOp2 (gCmp fun i j => decide (i < j)) fa fb)) := sev_op2 (fun _ _ p q => pe_cmpR op_lt p q hm) (vo_cmp _) ha hb
theorem se_lt (ha : SE X W (KX X z) a ma) (hb : SE X W (KX X z) b mb) (hm : behindInMarks .Lt b = false := by first | exact nobehind _ (by decide) (by decide) | rfl) : SE X W (KX X z) (.Compare a [.Lt] [b] pos) (eOp2 (gCmp fun i j => decide (i < j)) ma mb) := se_op2 (fun _ _ p q => pe_cmpR op_lt p q hm) (vo_cmp _) ha hb
theorem stv_lt (ha : SV X (KX X z) a fa) (hb : SV X (KX X z) b fb) (hm : behindInMarks .Lt b = false := by first | exact nobehind _ (by decide) (by decide) | rfl) : ST X W (KX X z) (.Compare a [.Lt] [b] pos) (Se.tB (eV (vOp2 (gCmp fun i j => decide (i < j)) fa fb))) := stv_op2 (fun _ _ p q => pt_cmpR op_lt p q hm) (vo_cmp _) ha hb
theorem st_lt (ha : SE X W (KX X z) a ma) (hb : SE X W (KX X z) b mb) (hm : behindInMarks .Lt b = false := by first | exact nobehind _ (by decide) (by decide) | rfl) : ST X W (KX X z) (.Compare a [.Lt] [b] pos) (Se.tB (eOp2 (gCmp fun i j => decide (i < j)) ma mb)) := st_op2 (fun _ _ p q => pt_cmpR op_lt p q hm) (vo_cmp _) ha hb
theorem sv_le (ha : SV X (KX X z) a fa) (hb : SV X (KX X z) b fb) (hm : behindInMarks .LtE b = false := by first | exact nobehind _ (by decide) (by decide) | rfl) : SV X (KX X z) (.Compare a [.LtE] [b] pos) (vOp2 (gCmp fun i j => decide (i ≤ j)) fa fb) := sv_op2 (fun _ _ p q => pe_cmpR op_le p q hm) (vv_of (vo_cmp _)) ha hb
theorem sev_le (ha : SV X (KX X z) a fa) (hb : SV X (KX X z) b fb) (hm : behindInMarks .LtE b = false := by first | exact nobehind _ (by decide) (by decide) | rfl) : SE X W (KX X z) (.Compare a [.LtE] [b] pos) (eV (vOp2 (gCmp fun i j => decide (i ≤ j)) fa fb)) := sev_op2 (fun _ _ p q => pe_cmpR op_le p q hm) (vo_cmp _) ha hb
theorem se_le (ha : SE X W (KX X z) a ma) (hb : SE X W (KX X z) b mb) (hm : behindInMarks .LtE b = false := by first | exact nobehind _ (by decide) (by decide) | rfl) : SE X W (KX X z) (.Compare a [.LtE] [b] pos) (eOp2 (gCmp fun i j => decide (i ≤ j)) ma mb) := se_op2 (fun _ _ p q => pe_cmpR op_le p q hm) (vo_cmp _) ha hb
theorem stv_le (ha : SV X (KX X z) a fa) (hb : SV X (KX X z) b fb) (hm : behindInMarks .LtE b = false := by first | exact nobehind _ (by decide) (by decide) | rfl) : ST X W (KX X z) (.Compare a [.LtE] [b] pos) (Se.tB (eV (vOp2 (gCmp fun i j => decide (i ≤ j)) fa fb))) := stv_op2 (fun _ _ p q => pt_cmpR op_le p q hm) (vo_cmp _) ha hb
theorem st_le (ha : SE X W (KX X z) a ma) (hb : SE X W (KX X z) b mb) (hm : behindInMarks .LtE b = false := by first | exact nobehind _ (by decide) (by decide) | rfl) : ST X W (KX X z) (.Compare a [.LtE] [b] pos) (Se.tB (eOp2 (gCmp fun i j => decide (i ≤ j)) ma mb)) := st_op2 (fun _ _ p q => pt_cmpR op_le p q hm) (vo_cmp _) ha hb
theorem sv_gt (ha : SV X (KX X z) a fa) (hb : SV X (KX X z) b fb) (hm : behindInMarks .Gt b = false := by first | exact nobehind _ (by decide) (by decide) | rfl) : SV X (KX X z) (.Compare a [.Gt] [b] pos) (vOp2 (gCmp fun i j => decide (i > j)) fa fb) := sv_op2 (fun _ _ p q => pe_cmpR op_gt p q hm) (vv_of (vo_cmp _)) ha hb
theorem sev_gt (ha : SV X (KX X z) a fa) (hb : SV X (KX X z) b fb) (hm : behindInMarks .Gt b = false := by first | exact nobehind _ (by decide) (by decide) | rfl) : SE X W (KX X z) (.Compare a [.Gt] [b] pos) (eV (vOp2 (gCmp fun i j => decide (i > j)) fa fb)) := sev_op2 (fun _ _ p q => pe_cmpR op_gt p q hm) (vo_cmp _) ha hb
theorem se_gt (ha : SE X W (KX X z) a ma) (hb : SE X W (KX X z) b mb) (hm : behindInMarks .Gt b = false := by first | exact nobehind _ (by decide) (by decide) | rfl) : SE X W (KX X z) (.Compare a [.Gt] [b] pos) (eOp2 (gCmp fun i j => decide (i > j)) ma mb) := se_op2 (fun _ _ p q => pe_cmpR op_gt p q hm) (vo_cmp _) ha hb
theorem stv_gt (ha : SV X (KX X z) a fa) (hb : SV X (KX X z) b fb) (hm : behindInMarks .Gt b = false := by first | exact nobehind _ (by decide) (by decide) | rfl) : ST X W (KX X z) (.Compare a [.Gt] [b] pos) (Se.tB (eV (vOp2 (gCmp fun i j => decide (i > j)) fa fb))) := stv_op2 (fun _ _ p q => pt_cmpR op_gt p q hm) (vo_cmp _) ha hb
theorem st_gt (ha : SE X W (KX X z) a ma) (hb : SE X W (KX X z) b mb) (hm : behindInMarks .Gt b = false := by first | exact nobehind _ (by decide) (by decide) | rfl) : ST X W (KX X z) (.Compare a [.Gt] [b] pos) (Se.tB (eOp2 (gCmp fun i j => decide (i > j)) ma mb)) := st_op2 (fun _ _ p q => pt_cmpR op_gt p q hm) (vo_cmp _) ha hb
theorem sv_ge (ha : SV X (KX X z) a fa) (hb : SV X (KX X z) b fb) (hm : behindInMarks .GtE b = false := by first | exact nobehind _ (by decide) (by decide) | rfl) : SV X (KX X z) (.Compare a [.GtE] [b] pos) (vOp2 (gCmp fun i j => decide (i ≥ j)) fa fb) := sv_op2 (fun _ _ p q => pe_cmpR op_ge p q hm) (vv_of (vo_cmp _)) ha hb
theorem sev_ge (ha : SV X (KX X z) a fa) (hb : SV X (KX X z) b fb) (hm : behindInMarks .GtE b = false := by first | exact nobehind _ (by decide) (by decide) | rfl) : SE X W (KX X z) (.Compare a [.GtE] [b] pos) (eV (vOp2 (gCmp fun i j => decide (i ≥ j)) fa fb)) := sev_op2 (fun _ _ p q => pe_cmpR op_ge p q hm) (vo_cmp _) ha hb
theorem se_ge (ha : SE X W (KX X z) a ma) (hb : SE X W (KX X z) b mb) (hm : behindInMarks .GtE b = false := by first | exact nobehind _ (by decide) (by decide) | rfl) : SE X W (KX X z) (.Compare a [.GtE] [b] pos) (eOp2 (gCmp fun i j => decide (i ≥ j)) ma mb) := se_op2 (fun _ _ p q => pe_cmpR op_ge p q hm) (vo_cmp _) ha hb
theorem stv_ge (ha : SV X (KX X z) a fa) (hb : SV X (KX X z) b fb) (hm : behindInMarks .GtE b = false := by first | exact nobehind _ (by decide) (by decide) | rfl) : ST X W (KX X z) (.Compare a [.GtE] [b] pos) (Se.tB (eV (vOp2 (gCmp fun i j => decide (i ≥ j)) fa fb))) := stv_op2 (fun _ _ p q => pt_cmpR op_ge p q hm) (vo_cmp _) ha hb
theorem st_ge (ha : SE X W (KX X z) a ma) (hb : SE X W (KX X z) b mb) (hm : behindInMarks .GtE b = false := by first | exact nobehind _ (by decide) (by decide) | rfl) : ST X W (KX X z) (.Compare a [.GtE] [b] pos) (Se.tB (eOp2 (gCmp fun i j => decide (i ≥ j)) ma mb)) := st_op2 (fun _ _ p q => pt_cmpR op_ge p q hm) (vo_cmp _) ha hb
theorem sv_in (ha : SV X (KX X z) a fa) (hb : SV X (KX X z) b fb) (hm : behindInMarks .In b = false := by first | exact nobehind _ (by decide) (by decide) | rfl) : SV X (KX X z) (.Compare a [.In] [b] pos) (vOp2 gIn fa fb) := sv_op2 (fun _ _ p q => pe_cmpR op_inA p q hm) (vv_of vo_in) ha hb
theorem sev_in (ha : SV X (KX X z) a fa) (hb : SV X (KX X z) b fb) (hm : behindInMarks .In b = false := by first | exact nobehind _ (by decide) (by decide) | rfl) : SE X W (KX X z) (.Compare a [.In] [b] pos) (eV (vOp2 gIn fa fb)) := sev_op2 (fun _ _ p q => pe_cmpR op_inA p q hm) vo_in ha hb
theorem se_in (ha : SE X W (KX X z) a ma) (hb : SE X W (KX X z) b mb) (hm : behindInMarks .In b = false := by first | exact nobehind _ (by decide) (by decide) | rfl) : SE X W (KX X z) (.Compare a [.In] [b] pos) (eOp2 gIn ma mb) := se_op2 (fun _ _ p q => pe_cmpR op_inA p q hm) vo_in ha hb
theorem stv_in (ha : SV X (KX X z) a fa) (hb : SV X (KX X z) b fb) (hm : behindInMarks .In b = false := by first | exact nobehind _ (by decide) (by decide) | rfl) : ST X W (KX X z) (.Compare a [.In] [b] pos) (Se.tB (eV (vOp2 gIn fa fb))) := stv_op2 (fun _ _ p q => pt_cmpR op_inA p q hm) vo_in ha hb
theorem st_in (ha : SE X W (KX X z) a ma) (hb : SE X W (KX X z) b mb) (hm : behindInMarks .In b = false := by first | exact nobehind _ (by decide) (by decide) | rfl) : ST X W (KX X z) (.Compare a [.In] [b] pos) (Se.tB (eOp2 gIn ma mb)) := st_op2 (fun _ _ p q => pt_cmpR op_inA p q hm) vo_in ha hb
theorem sv_nin (ha : SV X (KX X z) a fa) (hb : SV X (KX X z) b fb) (hm : behindInMarks .NotIn b = false := by first | exact nobehind _ (by decide) (by decide) | rfl) : SV X (KX X z) (.Compare a [.NotIn] [b] pos) (vOp2 gNin fa fb) := sv_op2 (fun _ _ p q => pe_cmpR op_ninA p q hm) (vv_of vo_nin) ha hb
theorem sev_nin (ha : SV X (KX X z) a fa) (hb : SV X (KX X z) b fb) (hm : behindInMarks .NotIn b = false := by first | exact nobehind _ (by decide) (by decide) | rfl) : SE X W (KX X z) (.Compare a [.NotIn] [b] pos) (eV (vOp2 gNin fa fb)) := sev_op2 (fun _ _ p q => pe_cmpR op_ninA p q hm) vo_nin ha hb
theorem se_nin (ha : SE X W (KX X z) a ma) (hb : SE X W (KX X z) b mb) (hm : behindInMarks .NotIn b = false := by first | exact nobehind _ (by decide) (by decide) | rfl) : SE X W (KX X z) (.Compare a [.NotIn] [b] pos) (eOp2 gNin ma mb) := se_op2 (fun _ _ p q => pe_cmpR op_ninA p q hm) vo_nin ha hb
theorem stv_nin (ha : SV X (KX X z) a fa) (hb : SV X (KX X z) b fb) (hm : behindInMarks .NotIn b = false := by first | exact nobehind _ (by decide) (by decide) | rfl) : ST X W (KX X z) (.Compare a [.NotIn] [b] pos) (Se.tB (eV (vOp2 gNin fa fb))) := stv_op2 (fun _ _ p q => pt_cmpR op_ninA p q hm) vo_nin ha hb
theorem st_nin (ha : SE X W (KX X z) a ma) (hb : SE X W (KX X z) b mb) (hm : behindInMarks .NotIn b = false := by first | exact nobehind _ (by decide) (by decide) | rfl) : ST X W (KX X z) (.Compare a [.NotIn] [b] pos) (Se.tB (eOp2 gNin ma mb)) := st_op2 (fun _ _ p q => pt_cmpR op_ninA p q hm) vo_nin ha hb
theorem sv_is (ha : SV X (KX X z) a fa) (hb : SV X (KX X z) b fb) (hm : behindInMarks .Is b = false := by first | exact nobehind _ (by decide) (by decide) | rfl) : SV X (KX X z) (.Compare a [.Is] [b] pos) (vOp2 gIs fa fb) := sv_op2 (fun _ _ p q => pe_cmpR op_isA p q hm) (vv_of vo_is) ha hb
theorem sev_is (ha : SV X (KX X z) a fa) (hb : SV X (KX X z) b fb) (hm : behindInMarks .Is b = false := by first | exact nobehind _ (by decide) (by decide) | rfl) : SE X W (KX X z) (.Compare a [.Is] [b] pos) (eV (vOp2 gIs fa fb)) := sev_op2 (fun _ _ p q => pe_cmpR op_isA p q hm) vo_is ha hb
theorem se_is (ha : SE X W (KX X z) a ma) (hb : SE X W (KX X z) b mb) (hm : behindInMarks .Is b = false := by first | exact nobehind _ (by decide) (by decide) | rfl) : SE X W (KX X z) (.Compare a [.Is] [b] pos) (eOp2 gIs ma mb) := se_op2 (fun _ _ p q => pe_cmpR op_isA p q hm) vo_is ha hb
theorem stv_is (ha : SV X (KX X z) a fa) (hb : SV X (KX X z) b fb) (hm : behindInMarks .Is b = false := by first | exact nobehind _ (by decide) (by decide) | rfl) : ST X W (KX X z) (.Compare a [.Is] [b] pos) (Se.tB (eV (vOp2 gIs fa fb))) := stv_op2 (fun _ _ p q => pt_cmpR op_isA p q hm) vo_is ha hb
theorem st_is (ha : SE X W (KX X z) a ma) (hb : SE X W (KX X z) b mb) (hm : behindInMarks .Is b = false := by first | exact nobehind _ (by decide) (by decide) | rfl) : ST X W (KX X z) (.Compare a [.Is] [b] pos) (Se.tB (eOp2 gIs ma mb)) := st_op2 (fun _ _ p q => pt_cmpR op_isA p q hm) vo_is ha hb
theorem sv_isn (ha : SV X (KX X z) a fa) (hb : SV X (KX X z) b fb) (hm : behindInMarks .IsNot b = false := by first | exact nobehind _ (by decide) (by decide) | rfl) : SV X (KX X z) (.Compare a [.IsNot] [b] pos) (vOp2 gIsn fa fb) := sv_op2 (fun _ _ p q => pe_cmpR op_isnA p q hm) (vv_of vo_isn) ha hb
theorem sev_isn (ha : SV X (KX X z) a fa) (hb : SV X (KX X z) b fb) (hm : behindInMarks .IsNot b = false := by first | exact nobehind _ (by decide) (by decide) | rfl) : SE X W (KX X z) (.Compare a [.IsNot] [b] pos) (eV (vOp2 gIsn fa fb)) := sev_op2 (fun _ _ p q => pe_cmpR op_isnA p q hm) vo_isn ha hb
theorem se_isn (ha : SE X W (KX X z) a ma) (hb : SE X W (KX X z) b mb) (hm : behindInMarks .IsNot b = false := by first | exact nobehind _ (by decide) (by decide) | rfl) : SE X W (KX X z) (.Compare a [.IsNot] [b] pos) (eOp2 gIsn ma mb) := se_op2 (fun _ _ p q => pe_cmpR op_isnA p q hm) vo_isn ha hb
theorem stv_isn (ha : SV X (KX X z) a fa) (hb : SV X (KX X z) b fb) (hm : behindInMarks .IsNot b = false := by first | exact nobehind _ (by decide) (by decide) | rfl) : ST X W (KX X z) (.Compare a [.IsNot] [b] pos) (Se.tB (eV (vOp2 gIsn fa fb))) := stv_op2 (fun _ _ p q => pt_cmpR op_isnA p q hm) vo_isn ha hb
theorem st_isn (ha : SE X W (KX X z) a ma) (hb : SE X W (KX X z) b mb) (hm : behindInMarks .IsNot b = false := by first | exact nobehind _ (by decide) (by decide) | rfl) : ST X W (KX X z) (.Compare a [.IsNot] [b] pos) (Se.tB (eOp2 gIsn ma mb)) := st_op2 (fun _ _ p q => pt_cmpR op_isnA p q hm) vo_isn ha hb

/-! subscripts -/
theorem sv_ix (ha : SV X (KX X z) a fa) (hb : SV X (KX X z) b fb) (hs : PlainIx b := by exact fun _ _ => rfl) : SV X (KX X z) (.Subscript a b pos) (vOp2 ixv fa fb) := sv_op2 (fun _ _ p q => pe_ix ix_seq p q hs) vv_ix ha hb
theorem sev_ix (ha : SV X (KX X z) a fa) (hb : SV X (KX X z) b fb) (hs : PlainIx b := by exact fun _ _ => rfl) : SE X W (KX X z) (.Subscript a b pos) (eV (vOp2 gIx fa fb)) := sev_op2 (fun _ _ p q => pe_ix ix_seq p q hs) vo_ix ha hb
theorem se_ix (ha : SE X W (KX X z) a ma) (hb : SE X W (KX X z) b mb) (hs : PlainIx b := by exact fun _ _ => rfl) : SE X W (KX X z) (.Subscript a b pos) (eOp2 gIx ma mb) := se_op2 (fun _ _ p q => pe_ix ix_seq p q hs) vo_ix ha hb
theorem se_ixn {i : Nat} {x : Str} {p : Pos} (hv : PE X (.Name x p) (tVar i)) (hb : SE X W (KX X z) b mb) (hs : PlainIx b := by exact fun _ _ => rfl) : SE X W (KX X z) (.Subscript (.Name x p) b pos) (eIxVar gIx i mb) := se_ixvar hv (fun _ _ p q => pe_ix ix_seq p q hs) vo_ix hb
/-! minus -/
theorem sv_neg (ha : SV X (KX X z) a fa) : SV X (KX X z) (.UnaryOp .USub a pos) (vOp1 gNeg fa) := sv_op1 (fun _ p => pe_un un_neg p) vo_neg ha
theorem sev_neg (ha : SV X (KX X z) a fa) : SE X W (KX X z) (.UnaryOp .USub a pos) (eV (vOp1 gNeg fa)) := sev_op1 (fun _ p => pe_un un_neg p) vo_neg ha
theorem se_neg (ha : SE X W (KX X z) a ma) : SE X W (KX X z) (.UnaryOp .USub a pos) (eOp1 gNeg ma) := se_op1 (fun _ p => pe_un un_neg p) vo_neg ha
/-! truth -/
theorem stv_t {e : Expr} {f : Env → Option D} (h : SV X (KX X z) e f) (he : ∀ whole, isTrue e X.env whole = (do let v ← whole; standAt e.pos; holding [v] (truthy v)) := by intro _; rfl) : ST X W (KX X z) e (tV f) := stv_tru he rfl h
theorem st_t {e : Expr} (h : SE X W (KX X z) e ma) (he : ∀ whole, isTrue e X.env whole = (do let v ← whole; standAt e.pos; holding [v] (truthy v)) := by intro _; rfl) : ST X W (KX X z) e (tE ma) := st_tru he rfl h
/-! a name's slot; a global text, integer, class -/
theorem nm {i : Nat} {x : Str} {p : Pos} (hN : X.N[i]? = some x := by rfl) (hv : Vis X.env.scope x := by first | exact .inl rfl | exact .inr (.inl rfl) | exact .inr (.inr rfl)) (hd : (x == ("__debug__" : Str)) = false := by decide) (hc : (x == ("__classdict__" : Str)) = false := by decide) : PE X (.Name x p) (tVar i) := pe_var hN hv hd hc
theorem sv_n {i : Nat} {x : Str} {p : Pos} (hN : X.N[i]? = some x := by rfl) (hv : Vis X.env.scope x := by first | exact .inl rfl | exact .inr (.inl rfl) | exact .inr (.inr rfl)) (hd : (x == ("__debug__" : Str)) = false := by decide) (hc : (x == ("__classdict__" : Str)) = false := by decide) : SV X (KX X z) (.Name x p) (vVar i) := sv_var (pe_var hN hv hd hc)
theorem se_n {i : Nat} {x : Str} {p : Pos} (hN : X.N[i]? = some x := by rfl) (hv : Vis X.env.scope x := by first | exact .inl rfl | exact .inr (.inl rfl) | exact .inr (.inr rfl)) (hd : (x == ("__debug__" : Str)) = false := by decide) (hc : (x == ("__classdict__" : Str)) = false := by decide) : SE X W (KX X z) (.Name x p) (eVar i) := se_var (pe_var hN hv hd hc)
theorem se_m {i : Nat} {x : Str} {p : Pos} (hN : X.N[i]? = some x := by rfl) (hv : Vis X.env.scope x := by first | exact .inl rfl | exact .inr (.inl rfl) | exact .inr (.inr rfl)) (hd : (x == ("__debug__" : Str)) = false := by decide) (hc : (x == ("__classdict__" : Str)) = false := by decide) : SE X W (KX X z) (.Name x p) (eMove i) := se_move (pe_var hN hv hd hc)
theorem sp_n {i : Nat} {x : Str} {p : Pos} (hN : X.N[i]? = some x := by rfl) (hv : Vis X.env.scope x := by first | exact .inl rfl | exact .inr (.inl rfl) | exact .inr (.inr rfl)) (hd : (x == ("__debug__" : Str)) = false := by decide) (hc : (x == ("__classdict__" : Str)) = false := by decide) : SP X (KX X z) (.Name x p) (pVar i) := sp_var (pe_var hN hv hd hc)
theorem gt_s {x : Str} {p : Pos} {l : List Nat} (h : ∃ t, X.mg x = some (.str (sx l) t)) (hg : Gl X x := by rfl) (hd : (x == ("__debug__" : Str)) = false := by decide) : PE X (.Name x p) (tC (.str (sx l))) := by
  obtain ⟨t, h⟩ := h
  exact pe_glob hg h ⟨t, rfl⟩ hd
theorem sv_gs {x : Str} {p : Pos} {l : List Nat} (h : ∃ t, X.mg x = some (.str (sx l) t)) (hg : Gl X x := by rfl) (hd : (x == ("__debug__" : Str)) = false := by decide) : SV X (KX X z) (.Name x p) (vLit (.str l)) := sv_c (gt_s h hg hd) fun _ => ⟨rfl, rfl⟩
theorem se_gs {x : Str} {p : Pos} {l : List Nat} (h : ∃ t, X.mg x = some (.str (sx l) t)) (hg : Gl X x := by rfl) (hd : (x == ("__debug__" : Str)) = false := by decide) : SE X W (KX X z) (.Name x p) (eLit (.str l)) := se_c (gt_s h hg hd) fun _ => ⟨rfl, rfl⟩
theorem gt_i {x : Str} {p : Pos} {i : Int} (h : ∃ t, X.mg x = some (.int i t)) (hg : Gl X x) (hd : (x == ("__debug__" : Str)) = false := by decide) : PE X (.Name x p) (tC (.int i)) := by
  obtain ⟨t, h⟩ := h
  exact pe_glob hg h ⟨t, rfl⟩ hd
theorem sv_gi {x : Str} {p : Pos} {i : Int} (h : ∃ t, X.mg x = some (.int i t)) (hg : Gl X x := by rfl) (hd : (x == ("__debug__" : Str)) = false := by decide) : SV X (KX X z) (.Name x p) (vLit (.int i)) := sv_c (gt_i h hg hd) fun _ => ⟨rfl, rfl⟩
theorem se_gi {x : Str} {p : Pos} {i : Int} (h : ∃ t, X.mg x = some (.int i t)) (hg : Gl X x := by rfl) (hd : (x == ("__debug__" : Str)) = false := by decide) : SE X W (KX X z) (.Name x p) (eLit (.int i)) := se_c (gt_i h hg hd) fun _ => ⟨rfl, rfl⟩
theorem sv_gc {x : Str} {p : Pos} {c : Addr} (h : X.mg x = some (.ref c)) (hg : Gl X x := by rfl) (hd : (x == ("__debug__" : Str)) = false := by decide) : SV X (KX X z) (.Name x p) (vLit (.obj c)) := sv_c (v := .ref c) (pe_glob hg h rfl hd) fun _ => ⟨rfl, rfl⟩
theorem sv_bt {x : Str} {n : String} {p : Pos} (hm : X.mg x = none) (hv : bootBuiltins x = some (.type n)) (hg : Gl X x := by rfl) (hn : x ≠ "__name__" := by decide) (hd : (x == ("__debug__" : Str)) = false := by decide) : SV X (KX X z) (.Name x p) (vLit (.ty n)) := sv_ty hg hm hv hn hd

theorem sv_clen {es : List Expr} {p : Pos} {fs : Env → Option (List D)} (hm : X.mg "len" = none) (ha : SW X (KX X z) (a :: es) fs) (hg : Gl X "len" := by rfl) (he : starEach (a :: es) X.env = (false, eval a X.env) :: starEach es X.env := by rfl) (hp : (backTo pos (starEach es X.env)).any (·.1) = false := by rfl) : SV X (KX X z) (.Call (.Name "len" p) (a :: es) [] pos) (vOpn gLen fs) := sv_opn (fun _ q => pe_callB call_len hg hm PyProof.Rows.Boot.«len» q (by decide) (by decide) he hp) vo_len ha
theorem sev_clen {es : List Expr} {p : Pos} {fs : Env → Option (List D)} (hm : X.mg "len" = none) (ha : SW X (KX X z) (a :: es) fs) (hg : Gl X "len" := by rfl) (he : starEach (a :: es) X.env = (false, eval a X.env) :: starEach es X.env := by rfl) (hp : (backTo pos (starEach es X.env)).any (·.1) = false := by rfl) : SE X W (KX X z) (.Call (.Name "len" p) (a :: es) [] pos) (eV (vOpn gLen fs)) := sev_opn (fun _ q => pe_callB call_len hg hm PyProof.Rows.Boot.«len» q (by decide) (by decide) he hp) vo_len ha
theorem se_clen {es : List Expr} {p : Pos} {ms : M (List D)} (hm : X.mg "len" = none) (ha : SA X W (KX X z) (a :: es) ms) (hg : Gl X "len" := by rfl) (he : starEach (a :: es) X.env = (false, eval a X.env) :: starEach es X.env := by rfl) (hp : (backTo pos (starEach es X.env)).any (·.1) = false := by rfl) : SE X W (KX X z) (.Call (.Name "len" p) (a :: es) [] pos) (eOpn gLen ms) := se_opn (fun _ q => pe_callB call_len hg hm PyProof.Rows.Boot.«len» q (by decide) (by decide) he hp) vo_len ha
theorem sv_cabs {es : List Expr} {p : Pos} {fs : Env → Option (List D)} (hm : X.mg "abs" = none) (ha : SW X (KX X z) (a :: es) fs) (hg : Gl X "abs" := by rfl) (he : starEach (a :: es) X.env = (false, eval a X.env) :: starEach es X.env := by rfl) (hp : (backTo pos (starEach es X.env)).any (·.1) = false := by rfl) : SV X (KX X z) (.Call (.Name "abs" p) (a :: es) [] pos) (vOpn gAbs fs) := sv_opn (fun _ q => pe_callB call_abs hg hm PyProof.Rows.Boot.«abs» q (by decide) (by decide) he hp) vo_abs ha
theorem sev_cabs {es : List Expr} {p : Pos} {fs : Env → Option (List D)} (hm : X.mg "abs" = none) (ha : SW X (KX X z) (a :: es) fs) (hg : Gl X "abs" := by rfl) (he : starEach (a :: es) X.env = (false, eval a X.env) :: starEach es X.env := by rfl) (hp : (backTo pos (starEach es X.env)).any (·.1) = false := by rfl) : SE X W (KX X z) (.Call (.Name "abs" p) (a :: es) [] pos) (eV (vOpn gAbs fs)) := sev_opn (fun _ q => pe_callB call_abs hg hm PyProof.Rows.Boot.«abs» q (by decide) (by decide) he hp) vo_abs ha
theorem se_cabs {es : List Expr} {p : Pos} {ms : M (List D)} (hm : X.mg "abs" = none) (ha : SA X W (KX X z) (a :: es) ms) (hg : Gl X "abs" := by rfl) (he : starEach (a :: es) X.env = (false, eval a X.env) :: starEach es X.env := by rfl) (hp : (backTo pos (starEach es X.env)).any (·.1) = false := by rfl) : SE X W (KX X z) (.Call (.Name "abs" p) (a :: es) [] pos) (eOpn gAbs ms) := se_opn (fun _ q => pe_callB call_abs hg hm PyProof.Rows.Boot.«abs» q (by decide) (by decide) he hp) vo_abs ha
theorem sv_cisi {es : List Expr} {p : Pos} {fs : Env → Option (List D)} (hm : X.mg "isinstance" = none) (ha : SW X (KX X z) (a :: es) fs) (hg : Gl X "isinstance" := by rfl) (he : starEach (a :: es) X.env = (false, eval a X.env) :: starEach es X.env := by rfl) (hp : (backTo pos (starEach es X.env)).any (·.1) = false := by rfl) : SV X (KX X z) (.Call (.Name "isinstance" p) (a :: es) [] pos) (vOpn (gIsi X.K) fs) := sv_opn (fun _ q => pe_callB call_isiA hg hm PyProof.Rows.Boot.«isinstance» q (by decide) (by decide) he hp) vo_isi ha
theorem sev_cisi {es : List Expr} {p : Pos} {fs : Env → Option (List D)} (hm : X.mg "isinstance" = none) (ha : SW X (KX X z) (a :: es) fs) (hg : Gl X "isinstance" := by rfl) (he : starEach (a :: es) X.env = (false, eval a X.env) :: starEach es X.env := by rfl) (hp : (backTo pos (starEach es X.env)).any (·.1) = false := by rfl) : SE X W (KX X z) (.Call (.Name "isinstance" p) (a :: es) [] pos) (eV (vOpn (gIsi X.K) fs)) := sev_opn (fun _ q => pe_callB call_isiA hg hm PyProof.Rows.Boot.«isinstance» q (by decide) (by decide) he hp) vo_isi ha
theorem se_cisi {es : List Expr} {p : Pos} {ms : M (List D)} (hm : X.mg "isinstance" = none) (ha : SA X W (KX X z) (a :: es) ms) (hg : Gl X "isinstance" := by rfl) (he : starEach (a :: es) X.env = (false, eval a X.env) :: starEach es X.env := by rfl) (hp : (backTo pos (starEach es X.env)).any (·.1) = false := by rfl) : SE X W (KX X z) (.Call (.Name "isinstance" p) (a :: es) [] pos) (eOpn (gIsi X.K) ms) := se_opn (fun _ q => pe_callB call_isiA hg hm PyProof.Rows.Boot.«isinstance» q (by decide) (by decide) he hp) vo_isi ha
theorem sv_cint {es : List Expr} {p : Pos} {fs : Env → Option (List D)} (hm : X.mg "int" = none) (ha : SW X (KX X z) (a :: es) fs) (hg : Gl X "int" := by rfl) (he : starEach (a :: es) X.env = (false, eval a X.env) :: starEach es X.env := by rfl) (hp : (backTo pos (starEach es X.env)).any (·.1) = false := by rfl) : SV X (KX X z) (.Call (.Name "int" p) (a :: es) [] pos) (vOpn gInt fs) := sv_opn (fun _ q => pe_callTy call_int1 hg hm PyProof.Rows.Boot.«int» q (by decide) (by decide) he hp) vo_int1 ha
theorem sev_cint {es : List Expr} {p : Pos} {fs : Env → Option (List D)} (hm : X.mg "int" = none) (ha : SW X (KX X z) (a :: es) fs) (hg : Gl X "int" := by rfl) (he : starEach (a :: es) X.env = (false, eval a X.env) :: starEach es X.env := by rfl) (hp : (backTo pos (starEach es X.env)).any (·.1) = false := by rfl) : SE X W (KX X z) (.Call (.Name "int" p) (a :: es) [] pos) (eV (vOpn gInt fs)) := sev_opn (fun _ q => pe_callTy call_int1 hg hm PyProof.Rows.Boot.«int» q (by decide) (by decide) he hp) vo_int1 ha
theorem se_cint {es : List Expr} {p : Pos} {ms : M (List D)} (hm : X.mg "int" = none) (ha : SA X W (KX X z) (a :: es) ms) (hg : Gl X "int" := by rfl) (he : starEach (a :: es) X.env = (false, eval a X.env) :: starEach es X.env := by rfl) (hp : (backTo pos (starEach es X.env)).any (·.1) = false := by rfl) : SE X W (KX X z) (.Call (.Name "int" p) (a :: es) [] pos) (eOpn gInt ms) := se_opn (fun _ q => pe_callTy call_int1 hg hm PyProof.Rows.Boot.«int» q (by decide) (by decide) he hp) vo_int1 ha
theorem sv_ctuple {es : List Expr} {p : Pos} {fs : Env → Option (List D)} (hm : X.mg "tuple" = none) (ha : SW X (KX X z) (a :: es) fs) (hg : Gl X "tuple" := by rfl) (he : starEach (a :: es) X.env = (false, eval a X.env) :: starEach es X.env := by rfl) (hp : (backTo pos (starEach es X.env)).any (·.1) = false := by rfl) : SV X (KX X z) (.Call (.Name "tuple" p) (a :: es) [] pos) (vOpn gTup fs) := sv_opn (fun _ q => pe_callTy call_tuple_of hg hm PyProof.Rows.Boot.«tuple» q (by decide) (by decide) he hp) vo_tup ha
theorem sev_ctuple {es : List Expr} {p : Pos} {fs : Env → Option (List D)} (hm : X.mg "tuple" = none) (ha : SW X (KX X z) (a :: es) fs) (hg : Gl X "tuple" := by rfl) (he : starEach (a :: es) X.env = (false, eval a X.env) :: starEach es X.env := by rfl) (hp : (backTo pos (starEach es X.env)).any (·.1) = false := by rfl) : SE X W (KX X z) (.Call (.Name "tuple" p) (a :: es) [] pos) (eV (vOpn gTup fs)) := sev_opn (fun _ q => pe_callTy call_tuple_of hg hm PyProof.Rows.Boot.«tuple» q (by decide) (by decide) he hp) vo_tup ha
theorem se_ctuple {es : List Expr} {p : Pos} {ms : M (List D)} (hm : X.mg "tuple" = none) (ha : SA X W (KX X z) (a :: es) ms) (hg : Gl X "tuple" := by rfl) (he : starEach (a :: es) X.env = (false, eval a X.env) :: starEach es X.env := by rfl) (hp : (backTo pos (starEach es X.env)).any (·.1) = false := by rfl) : SE X W (KX X z) (.Call (.Name "tuple" p) (a :: es) [] pos) (eOpn gTup ms) := se_opn (fun _ q => pe_callTy call_tuple_of hg hm PyProof.Rows.Boot.«tuple» q (by decide) (by decide) he hp) vo_tup ha
theorem sv_clist {es : List Expr} {p : Pos} {fs : Env → Option (List D)} (hm : X.mg "list" = none) (ha : SW X (KX X z) (a :: es) fs) (hg : Gl X "list" := by rfl) (he : starEach (a :: es) X.env = (false, eval a X.env) :: starEach es X.env := by rfl) (hp : (backTo pos (starEach es X.env)).any (·.1) = false := by rfl) : SV X (KX X z) (.Call (.Name "list" p) (a :: es) [] pos) (vOpn gLst fs) := sv_opn (fun _ q => pe_callTy call_list_of hg hm PyProof.Rows.Boot.«list» q (by decide) (by decide) he hp) vo_lst ha
theorem sev_clist {es : List Expr} {p : Pos} {fs : Env → Option (List D)} (hm : X.mg "list" = none) (ha : SW X (KX X z) (a :: es) fs) (hg : Gl X "list" := by rfl) (he : starEach (a :: es) X.env = (false, eval a X.env) :: starEach es X.env := by rfl) (hp : (backTo pos (starEach es X.env)).any (·.1) = false := by rfl) : SE X W (KX X z) (.Call (.Name "list" p) (a :: es) [] pos) (eV (vOpn gLst fs)) := sev_opn (fun _ q => pe_callTy call_list_of hg hm PyProof.Rows.Boot.«list» q (by decide) (by decide) he hp) vo_lst ha
theorem se_clist {es : List Expr} {p : Pos} {ms : M (List D)} (hm : X.mg "list" = none) (ha : SA X W (KX X z) (a :: es) ms) (hg : Gl X "list" := by rfl) (he : starEach (a :: es) X.env = (false, eval a X.env) :: starEach es X.env := by rfl) (hp : (backTo pos (starEach es X.env)).any (·.1) = false := by rfl) : SE X W (KX X z) (.Call (.Name "list" p) (a :: es) [] pos) (eOpn gLst ms) := se_opn (fun _ q => pe_callTy call_list_of hg hm PyProof.Rows.Boot.«list» q (by decide) (by decide) he hp) vo_lst ha
theorem sv_cstr {es : List Expr} {p : Pos} {fs : Env → Option (List D)} (hm : X.mg "str" = none) (ha : SW X (KX X z) (a :: es) fs) (hg : Gl X "str" := by rfl) (he : starEach (a :: es) X.env = (false, eval a X.env) :: starEach es X.env := by rfl) (hp : (backTo pos (starEach es X.env)).any (·.1) = false := by rfl) : SV X (KX X z) (.Call (.Name "str" p) (a :: es) [] pos) (vOpn gStr fs) := sv_opn (fun _ q => pe_callTy call_strA hg hm PyProof.Rows.Boot.«str» q (by decide) (by decide) he hp) vo_str ha
theorem sev_cstr {es : List Expr} {p : Pos} {fs : Env → Option (List D)} (hm : X.mg "str" = none) (ha : SW X (KX X z) (a :: es) fs) (hg : Gl X "str" := by rfl) (he : starEach (a :: es) X.env = (false, eval a X.env) :: starEach es X.env := by rfl) (hp : (backTo pos (starEach es X.env)).any (·.1) = false := by rfl) : SE X W (KX X z) (.Call (.Name "str" p) (a :: es) [] pos) (eV (vOpn gStr fs)) := sev_opn (fun _ q => pe_callTy call_strA hg hm PyProof.Rows.Boot.«str» q (by decide) (by decide) he hp) vo_str ha
theorem se_cstr {es : List Expr} {p : Pos} {ms : M (List D)} (hm : X.mg "str" = none) (ha : SA X W (KX X z) (a :: es) ms) (hg : Gl X "str" := by rfl) (he : starEach (a :: es) X.env = (false, eval a X.env) :: starEach es X.env := by rfl) (hp : (backTo pos (starEach es X.env)).any (·.1) = false := by rfl) : SE X W (KX X z) (.Call (.Name "str" p) (a :: es) [] pos) (eOpn gStr ms) := se_opn (fun _ q => pe_callTy call_strA hg hm PyProof.Rows.Boot.«str» q (by decide) (by decide) he hp) vo_str ha
end
end Se

namespace Se
open PySem L2

/-! ### isinstance of the handled exception -/
def excB (K : PySem.W.Frag) (c : Addr) : Bool := (PySem.W.clsIn K c).isSome && decide (PySem.W.findIn K (.ref c) "__getattribute__" = some (some (.builtin "BaseException.__getattribute__"))) && decide (PySem.W.findIn K (.ref c) "__getattr__" = some none) &&
  decide (PySem.W.subIn K (.ref c) (.type "BaseException") = some true) && decide (PySem.W.findIn K (.ref c) "__class__" = some (some (.builtin "object.__class__"))) && decide (PySem.W.specialIn K (.builtin "object.__class__") "__get__" = some (some (.builtin "getset_descriptor.__get__"))) &&
  decide (PySem.W.takesIn K (.builtin "object.__class__") = some true) && decide (PySem.W.mroIn K c (.type "object") = some true)
def gIsX (K : PySem.W.Frag) : List D → Option D
  | [.exc c _ _, y] => if excB K c = true then (isK K (.ref c) y).map D.bl else none
  | _ => none
def rIsX (K : PySem.W.Frag) (a c dd : Addr) : List V → Hp → VK → Prop := fun xs H Q => ∃ (y : V) (b : Bool) (fs : List (Str × V)), xs = [.ref a, y] ∧ H dd = some (.xd fs) ∧
  ((∃ u, ClsV y u ∧ PySem.W.kitOne K (.ref c) u = some b) ∨ ∃ (tp : Addr) (cs : List V) (us : List Value), y = .ref tp ∧ SqT K H tp cs ∧ Paired ClsV cs us ∧ PySem.W.kitAny K (.ref c) us = some b) ∧ Q (.bl b) H
section
variable {X : Cx} {a c dd : Addr} {oe : Obj} {pn : List (Addr × Obj)}
theorem call_isX (hb : excB X.K c = true) (h : Sut X a c dd (X.suite a ((a, oe) :: pn))) : CallR (X.suite a ((a, oe) :: pn)) (.builtin "isinstance") (rIsX X.K a c dd) := by
  intro pins s σ H xs us Q I r q
  obtain ⟨y, b, fs, rfl, hd, hy, q⟩ := q
  obtain ⟨u1, u2, rfl, r1, r2⟩ := vals2 r
  cases (show u1 = Value.ref a from r1)
  obtain ⟨hz, vs, hf⟩ := h.zn
  obtain ⟨ha, _⟩ := I.pin (a, oe) (List.mem_append_left _ List.mem_cons_self)
  have hx : ObjOk X.prog X.w H s.heap dd (.xd fs) := I.hok dd _ hd
  obtain ⟨mA, hns, _⟩ := hx
  obtain ⟨od, ho, _⟩ := lookIn_ns hns
  have J : PySem.W.InstAt s.heap a oe c (some od) := ⟨ha, hz.1, by unfold PySem.W.notCls; rw [hf] <;> rfl, by rw [hz.2]; exact ho⟩
  simp only [excB, Bool.and_eq_true, decide_eq_true_eq] at hb
  obtain ⟨⟨⟨⟨⟨⟨⟨b1, b2⟩, b3⟩, b4⟩, b5⟩, b6⟩, b7⟩, b8⟩ := hb
  have Z := PySem.W.kitx_exc (x := a) (ox := oe) (od := some od) b1 b2 b3 b4 b5 b6 b7 b8
  rcases hy with ⟨u, k, e⟩ | ⟨tp, cs, ws, rfl, hT, k, e⟩
  · have e2 := k.eq r2
    subst e2
    exact PySem.W.kia_one Z I.kIn J e (fun z => nomatch z) fun tk => ⟨.bl b, H, I.tok tk, rfl, q⟩
  · cases (show u2 = Value.ref tp from r2)
    obtain ⟨its, rv, ⟨⟨oc, od, dt, sl⟩, ho, h2, n, h3⟩, _⟩ := I.tuple hT
    have e3 := ClsV.all k rv
    simp only at h2 h3
    subst e3 h2 h3
    exact PySem.W.kia_tup Z I.kIn J ho e (fun z => nomatch z) fun tk => ⟨.bl b, H, I.tok tk, rfl, q⟩
theorem vo_isX : VOn (Cs X.K a c dd) (rIsX X.K a c dd) (gIsX X.K) := by
  intro ds d vs H Q r hg q
  unfold gIsX at hg
  split at hg
  · split at hg
    · simp only [Option.map_eq_some_iff] at hg
      obtain ⟨b, hb, rfl⟩ := hg
      obtain ⟨v, w, o, p, rfl, rv, rw'⟩ := repw2 r
      obtain ⟨a1, d2, ws, rfl, e2, e3, _⟩ := rv
      cases e2
      have fin := q (.bl b) H [] ⟨rfl, rfl⟩ Ext.refl (by simp)
      unfold isK at hb
      split at hb
      · simp only [Option.bind_eq_some_iff] at hb
        obtain ⟨us, h1, h2⟩ := hb
        obtain ⟨tp, zs, rfl, hr, w⟩ := rw'.tupS
        exact ⟨_, b, _, rfl, e3, .inr ⟨tp, zs, us, rfl, hr, cls_of w h1, h2⟩, fin⟩
      · simp only [Option.bind_eq_some_iff] at hb
        obtain ⟨u, h1, h2⟩ := hb
        exact ⟨_, b, _, rfl, e3, .inl ⟨u, cl_of rw' h1, h2⟩, fin⟩
    · cases hg
  · cases hg
theorem sv_isX {e : Expr} {es : List Expr} {p pos : Pos} {fs : Env → Option (List D)} (h : Sut X a c dd (X.suite a ((a, oe) :: pn))) (hm : X.mg "isinstance" = none) (ha : SW (X.suite a ((a, oe) :: pn)) (Cs X.K a c dd) (e :: es) fs) (hg : Gl X "isinstance" := by rfl)
    (he : starEach (e :: es) X.env = (false, eval e X.env) :: starEach es X.env := by rfl) (hp : (backTo pos (starEach es X.env)).any (·.1) = false := by rfl) : SV (X.suite a ((a, oe) :: pn)) (Cs X.K a c dd) (.Call (.Name "isinstance" p) (e :: es) [] pos) (vOpn (gIsX X.K) fs) := by
  by_cases hb : excB X.K c = true
  · exact sv_opn (fun _ q => pe_callB (call_isX hb h) hg hm PyProof.Rows.Boot.«isinstance» q (by decide) (by decide) he hp) vo_isX ha
  · obtain ⟨t, pt, st⟩ := ha.ex
    refine ⟨tCB (fun xs H Q => False) t, ⟨fun pins s σ H Q I z => ?_⟩, fun ρ σ H own Q er d hd hw => ?_⟩
    · exact (pe_callB (X := X.suite a ((a, oe) :: pn)) (r := fun _ _ _ => False) (fun _ _ _ _ _ _ _ _ _ z => z.elim) hg hm PyProof.Rows.Boot.«isinstance» pt (by decide) (by decide) he hp).run pins s σ H Q I z
    · simp only [vOpn, Option.bind_eq_some_iff] at hd
      obtain ⟨ds, h1, h2⟩ := hd
      refine st ρ σ H own _ er ds h1 fun vs H1 r1 k1 => ?_
      unfold gIsX at h2
      split at h2
      · split at h2
        · rename_i hh
          obtain ⟨v, w, o, p, rfl, rv, rw'⟩ := repw2 r1
          obtain ⟨a1, d2, ws, rfl, e2, _⟩ := rv
          cases e2
          exact hb hh
        · cases h2
      · cases h2
end

/-! ### methods of lists and texts -/
def vBm (g : List Nat → D → Option D) (f fa : Env → Option D) : Env → Option D := fun ρ => (f ρ).bind fun d => match d with
  | .str x => (fa ρ).bind (g x)
  | _ => none
def vBm0 (g : List Nat → Option D) (f : Env → Option D) : Env → Option D := fun ρ => (f ρ).bind fun d => match d with
  | .str x => g x
  | _ => none
section
variable {X : Cx} {W : WX} {C : RC} {e o a : Expr} {f fa : Env → Option D} {r : V → List V → Hp → VK → Prop}
theorem bm_core {g : List Nat → D → Option D} (pe : ∀ to ta, PE X o to → PE X a ta → PE X e (tM1 r to ta)) (vm : VM1 C r g) (ho : SV X C o f) (ha : SV X C a fa) : ∃ t, PE X e t ∧ ∀ ρ σ H own Q, ER C H ρ σ own → ∀ d, vBm g f fa ρ = some d →
    (∀ v H' o, Rep C H' d v o → Ext H H' → (∀ a ∈ o, H a = none) → Q v H') → t σ H Q := by
  obtain ⟨to, po, so⟩ := ho.ex
  obtain ⟨ta, pa, sa⟩ := ha.ex
  refine ⟨_, pe to ta po pa, fun ρ σ H own Q er d hd q => ?_⟩
  simp only [vBm, Option.bind_eq_some_iff] at hd
  obtain ⟨d1, h1, h2⟩ := hd
  split at h2
  · simp only [Option.bind_eq_some_iff] at h2
    obtain ⟨d2, h3, h4⟩ := h2
    refine so ρ σ H own _ er _ h1 fun v H1 o1 r1 k1 => ⟨⟨_, r1.1⟩, ?_⟩
    refine sa ρ σ H1 own _ (er.ext k1) d2 h3 fun v2 H2 o2 r2 k2 => ?_
    rw [r1.1]
    refine vm _ d2 d v2 H2 o2 Q r2 h4 fun v' H' o' r' k' n' => q v' H' o' r' (ext_trans (ext_trans k1 k2) k') fun b hb => ?_
    cases z : H b with
    | none => rfl
    | some u =>
      have n2 := n' b hb
      rw [k2 b u (k1 b u z)] at n2
      cases n2
  · cases h2
theorem sv_bm {g : List Nat → D → Option D} (pe : ∀ to ta, PE X o to → PE X a ta → PE X e (tM1 r to ta)) (vm : VM1 C r g) (ho : SV X C o f) (ha : SV X C a fa) : SV X C e (vBm g f fa) := by
  obtain ⟨t, p, s⟩ := bm_core pe vm ho ha
  exact ⟨t, p, fun ρ σ H own Q er d hd q => s ρ σ H own Q er d hd fun v H' o r k _ => q v H' o r k⟩
theorem sev_bm {g : List Nat → D → Option D} (pe : ∀ to ta, PE X o to → PE X a ta → PE X e (tM1 r to ta)) (vm : VM1 C r g) (ho : SV X C o f) (ha : SV X C a fa) : SE X W C e (eV (vBm g f fa)) := by
  obtain ⟨t, p, s⟩ := bm_core pe vm ho ha
  refine ⟨t, p, fun ρ σ H own Q er hw => ?_⟩
  unfold eV ofO at hw
  split at hw
  · rename_i d hd
    exact s ρ σ H own Q er d hd fun v H' o r k n => fin_v hw er Ext.refl r k n
  · exact hw.elim
end
section
variable {X : Cx} {W : WX} {z : Option (Addr × Addr × Addr)} {o e : Expr} {p : Env → Option (Nat × List Sel)} {ap pos : Pos} {ms : M (List D)} {fs : Env → Option (List D)} {f fa : Env → Option D} {mb : M D}
abbrev Few (X : Cx) (pos : Pos) (es : List Expr) : Prop :=
  ((backTo pos (starEach es X.env)).all (fun x => !x.1) && (backToKw pos (keywordEach [] X.env)).all (fun x => x.1.isSome) && decide (es.length + ([] : List Keyword).length + (if ([] : List Keyword).isEmpty then 0 else 1) < 30)) = true
abbrev St1 (X : Cx) (e : Expr) (es : List Expr) : Prop := starEach (e :: es) X.env = (false, eval e X.env) :: starEach es X.env
abbrev Bs (X : Cx) (o : Expr) (n : Str) : Prop := attributeBase o n X.env (eval o X.env) = eval o X.env
theorem se_append (hp : SP X (KX X z) o p) (ha : SA X W (KX X z) [e] ms) (h1 : Bs X o "append" := by rfl) (h2 : Few X pos [e] := by rfl) (h3 : (ap.endLine == pos.line) = true := by rfl) (h4 : St1 X e [] := by rfl) : SE X W (KX X z) (.Call (.Attribute o "append" ap) [e] [] pos) (eMut gmAppend p ms) :=
  se_mut (fun _ _ q t => pe_bm F.plainAttrs_list F.slot_list_append F.type_list_append mt_append q t h1 h2 h3 h4 rfl) vm_append hp ha
theorem se_popAt (hp : SP X (KX X z) o p) (ha : SA X W (KX X z) [e] ms) (h1 : Bs X o "pop" := by rfl) (h2 : Few X pos [e] := by rfl) (h3 : (ap.endLine == pos.line) = true := by rfl) (h4 : St1 X e [] := by rfl) : SE X W (KX X z) (.Call (.Attribute o "pop" ap) [e] [] pos) (eMut gmPopAt p ms) :=
  se_mut (fun _ _ q t => pe_bm F.plainAttrs_list F.slot_list_pop F.type_list_pop mt_popAt q t h1 h2 h3 h4 rfl) vm_popAt hp ha
theorem se_appendQ (hp : SP X (KX X z) o p) (ha : SW X (KX X z) [e] fs) (h1 : Bs X o "append" := by rfl) (h2 : Few X pos [e] := by rfl) (h3 : (ap.endLine == pos.line) = true := by rfl) (h4 : St1 X e [] := by rfl) : SE X W (KX X z) (.Call (.Attribute o "append" ap) [e] [] pos) (eMutQ gmAppend p fs) :=
  se_mutQ (fun _ _ q t => pe_bm F.plainAttrs_list F.slot_list_append F.type_list_append mt_append q t h1 h2 h3 h4 rfl) vm_append hp ha
theorem se_popAtQ (hp : SP X (KX X z) o p) (ha : SW X (KX X z) [e] fs) (h1 : Bs X o "pop" := by rfl) (h2 : Few X pos [e] := by rfl) (h3 : (ap.endLine == pos.line) = true := by rfl) (h4 : St1 X e [] := by rfl) : SE X W (KX X z) (.Call (.Attribute o "pop" ap) [e] [] pos) (eMutQ gmPopAt p fs) :=
  se_mutQ (fun _ _ q t => pe_bm F.plainAttrs_list F.slot_list_pop F.type_list_pop mt_popAt q t h1 h2 h3 h4 rfl) vm_popAt hp ha
theorem se_pop (hp : SP X (KX X z) o p) (h1 : Bs X o "pop" := by rfl) (h3 : (ap.endLine == pos.line) = true := by rfl) : SE X W (KX X z) (.Call (.Attribute o "pop" ap) [] [] pos) (eMutQ gmPop p wNil) :=
  se_mut0 (fun _ q => pe_bm0 F.plainAttrs_list F.slot_list_pop F.type_list_pop mt_pop q h1 h3) vm_pop hp
theorem sv_join (ho : SV X (KX X z) o f) (ha : SV X (KX X z) e fa) (h1 : starEach [e] X.env = [(false, eval e X.env)] := by rfl) (h2 : Bs X o "join" := by rfl) (h3 : (ap.endLine == pos.line) = true := by rfl) : SV X (KX X z) (.Call (.Attribute o "join" ap) [e] [] pos) (vBm gJoin f fa) := sv_bm (fun _ _ p q => pe_join p q h1 h2 h3) vm_join ho ha
theorem sev_join (ho : SV X (KX X z) o f) (ha : SV X (KX X z) e fa) (h1 : starEach [e] X.env = [(false, eval e X.env)] := by rfl) (h2 : Bs X o "join" := by rfl) (h3 : (ap.endLine == pos.line) = true := by rfl) : SE X W (KX X z) (.Call (.Attribute o "join" ap) [e] [] pos) (eV (vBm gJoin f fa)) := sev_bm (fun _ _ p q => pe_join p q h1 h2 h3) vm_join ho ha
theorem se_join (ho : SV X (KX X z) o f) (ha : SE X W (KX X z) e mb) (h1 : starEach [e] X.env = [(false, eval e X.env)] := by rfl) (h2 : Bs X o "join" := by rfl) (h3 : (ap.endLine == pos.line) = true := by rfl) : SE X W (KX X z) (.Call (.Attribute o "join" ap) [e] [] pos) (eBm gJoin f mb) := se_bm (fun _ _ p q => pe_join p q h1 h2 h3) vm_join ho ha
theorem sv_split (ho : SV X (KX X z) o f) (ha : SV X (KX X z) e fa) (h1 : starEach [e] X.env = [(false, eval e X.env)] := by rfl) (h2 : Bs X o "split" := by rfl) (h3 : (ap.endLine == pos.line) = true := by rfl) : SV X (KX X z) (.Call (.Attribute o "split" ap) [e] [] pos) (vBm gSplit f fa) := sv_bm (fun _ _ p q => pe_split p q h1 h2 h3) vm_split ho ha
theorem sev_split (ho : SV X (KX X z) o f) (ha : SV X (KX X z) e fa) (h1 : starEach [e] X.env = [(false, eval e X.env)] := by rfl) (h2 : Bs X o "split" := by rfl) (h3 : (ap.endLine == pos.line) = true := by rfl) : SE X W (KX X z) (.Call (.Attribute o "split" ap) [e] [] pos) (eV (vBm gSplit f fa)) := sev_bm (fun _ _ p q => pe_split p q h1 h2 h3) vm_split ho ha
theorem se_split (ho : SV X (KX X z) o f) (ha : SE X W (KX X z) e mb) (h1 : starEach [e] X.env = [(false, eval e X.env)] := by rfl) (h2 : Bs X o "split" := by rfl) (h3 : (ap.endLine == pos.line) = true := by rfl) : SE X W (KX X z) (.Call (.Attribute o "split" ap) [e] [] pos) (eBm gSplit f mb) := se_bm (fun _ _ p q => pe_split p q h1 h2 h3) vm_split ho ha
/-! statements -/
theorem ss_setn {B : List Nat} {i : Nat} {x : Str} {py : Pos} {me : M D} (he : SE X W (KX X z) e me) (hN : X.N.Nodup) (hi : X.N[i]? = some x := by rfl) (hl : Loc X.env.scope x := by first | exact .inl rfl | exact .inr rfl) (hB : i ∉ B := by decide)
    (hf : X.fn x = true ∨ X.env.scope.names.lookup x = some .local := by first | exact .inl rfl | exact .inr rfl) (hs : swapsWith e (some (.Name x py)) pos.line X.env = pure false := by rfl) : SS X W (KX X z) B (.Assign [.Name x py] e pos) (sAsg i me) :=
  ss_asg (fun _ q => ps_set hN hi hl q hs hf) he hB
theorem ss_incn {B : List Nat} {i : Nat} {x : Str} {py : Pos} {me : M D} (he : SE X W (KX X z) e me) (hN : X.N.Nodup) (hi : X.N[i]? = some x := by rfl) (hl : Loc X.env.scope x := by first | exact .inl rfl | exact .inr rfl) (hB : i ∉ B := by decide)
    (hf : X.fn x = true ∨ X.env.scope.names.lookup x = some .local := by first | exact .inl rfl | exact .inr rfl) : SS X W (KX X z) B (.AugAssign (.Name x py) .Add e pos) (sAug i (fun i j => i + j) me) := ss_aug (fun _ q => ps_aug hN hi hl q ip_add hf) he hB
theorem ss_decn {B : List Nat} {i : Nat} {x : Str} {py : Pos} {me : M D} (he : SE X W (KX X z) e me) (hN : X.N.Nodup) (hi : X.N[i]? = some x := by rfl) (hl : Loc X.env.scope x := by first | exact .inl rfl | exact .inr rfl) (hB : i ∉ B := by decide)
    (hf : X.fn x = true ∨ X.env.scope.names.lookup x = some .local := by first | exact .inl rfl | exact .inr rfl) : SS X W (KX X z) B (.AugAssign (.Name x py) .Sub e pos) (sAug i (fun i j => i - j) me) := ss_aug (fun _ q => ps_aug hN hi hl q ip_sub hf) he hB
theorem sg_n {B : List Nat} {i : Nat} {x : Str} {py : Pos} (hN : X.N.Nodup) (hi : X.N[i]? = some x := by rfl) (hl : Loc X.env.scope x := by first | exact .inl rfl | exact .inr rfl) (hB : i ∉ B := by decide)
    (hf : X.fn x = true ∨ X.env.scope.names.lookup x = some .local := by first | exact .inl rfl | exact .inr rfl) : SG X (KX X z) B (.Name x py) (fName i) := sg_name (pg_name hN hi hl hf) hB
end
end Se

namespace Se
open PySem L2

/-! ### a tuple of constants, seen -/
def vTup (fs : Env → Option (List D)) : Env → Option D := fun ρ => (fs ρ).bind fun ds => if ds.length ≤ sizeLine ∧ fzL ds = true then some (.tup ds) else none
section
variable {X : Cx} {W : WX} {C : RC} {e : Expr} {es : List Expr} {fs : Env → Option (List D)} {pos : Pos}
theorem tup_core {x1} (h : SW X C es fs) : ∃ t, PE X (.Tuple es x1 pos) t ∧ ∀ ρ σ H own Q, ER C H ρ σ own → ∀ d, vTup fs ρ = some d → (∀ v H', Rep C H' d v [] → Ext H H' → Q v H') → t σ H Q := by
  obtain ⟨t, p, s⟩ := h.ex
  refine ⟨_, pe_tup p, fun ρ σ H own Q er d hd q => ?_⟩
  simp only [vTup, Option.bind_eq_some_iff] at hd
  obtain ⟨ds, h1, h2⟩ := hd
  split at h2
  · rename_i hz
    cases h2
    refine s ρ σ H own _ er ds h1 fun vs H1 r k => ⟨by rw [r.len]; exact hz.1, fun q' hp => ?_⟩
    exact q _ _ (rep_new_tup (r.fz hz.2) hp) (ext_trans k (Ext.new hp))
  · cases h2
theorem sv_tup {x1} (h : SW X C es fs) : SV X C (.Tuple es x1 pos) (vTup fs) := by
  obtain ⟨t, p, s⟩ := tup_core (x1 := x1) (pos := pos) h
  exact ⟨t, p, fun ρ σ H own Q er d hd q => s ρ σ H own Q er d hd fun v H' r k => q v H' [] r k⟩
theorem sev_tup {x1} (h : SW X C es fs) : SE X W C (.Tuple es x1 pos) (eV (vTup fs)) := by
  obtain ⟨t, p, s⟩ := tup_core (x1 := x1) (pos := pos) h
  refine ⟨t, p, fun ρ σ H own Q er hw => ?_⟩
  unfold eV ofO at hw
  split at hw
  · rename_i d hd
    exact s ρ σ H own Q er d hd fun v H' r k => fin_v hw er Ext.refl r k (by simp)
  · exact hw.elim
end
theorem takes0 {Y : Cx} : L2N.Takes Y W0 := fun u s' x => by
  obtain ⟨_, _, _, _, _, _, _, _, _, _, _, _, _, _, _, _, z⟩ := x
  exact z.elim

/-! ### calls with keywords -/
structure SKB (X : Cx) (W : WX) (C : RC) (kws : List Keyword) (m : M (List AD)) : Prop where
  ex : ∃ t, PK X kws t ∧ ∀ ρ σ H own Q, ER C H ρ σ own → PoB C W (m ρ) σ H own Q → t σ H Q
structure BkI (K : PySem.W.Frag) (fd : FuncData) (ps : List Str) : Prop where
  to : ∀ (s : Shared) (ws : List Value), K.In s.heap → ws.length = ps.length → BindsTo s fd ⟨[], ps.zip ws⟩ (ps.zip ws)
theorem bkI {K : PySem.W.Frag} {x qual : Str} {params : Arguments} {body : List Stmt} {sc : Scope} {f : Addr} {fd : FuncData} {ps : List Str} (F : FunD K x qual params body sc [] [] f fd)
    (h : ∀ (kV doc pm : Value) (an : Option Addr) (cdv ct : Value) (ws : List Value), ws.length = ps.length → bindArgs (PySem.W.fnOf x qual params body sc .none kV doc pm an cdv ct) ⟨[], ps.zip ws⟩ = pure (ps.zip ws)) : BkI K fd ps := by
  obtain ⟨oc, od, dV, kV, doc, pm, an, cdv, ct, osl, rfl, lk, hcd, hD, hK⟩ := F.ex
  rcases hD with ⟨_, rfl⟩ | ⟨e, _⟩
  · exact ⟨fun s ws _ hl => .of_eq (h kV doc pm an cdv ct ws hl)⟩
  · exact absurd rfl e
section
variable {X : Cx} {W : WX} {C : RC} {e : Expr} {kws : List Keyword} {ma : M D} {ms : M (List AD)} {nm : Option Str} {kp : Pos}
theorem skw_nil : SKB X W C [] bNil := ⟨_, pk_nil, fun ρ σ H own Q er hw => hw [] H [] own ⟨rfl, rfl⟩ er (by simp) (Stp.refl (by simp))⟩
theorem skw_val (ha : SE X W C e ma) (hr : SKB X W C kws ms) : SKB X W C (⟨nm, e, kp⟩ :: kws) (bVal ma ms) := by
  obtain ⟨ta, pa, sa⟩ := ha.ex
  obtain ⟨tr, pr, sr⟩ := hr.ex
  refine ⟨_, pk_cons pa pr, fun ρ σ H own Q er hw => ?_⟩
  have hw : PoB C W ((ma ρ).bind fun d ρ1 => (ms ρ1).bind fun as ρ2 => .ok (.inl d :: as) ρ2) σ H own Q := hw
  refine sa ρ σ H own _ er (poE_bind (P := fun r => PoB C W r σ H own Q) hw (fun z => z) exB fun d1 ρ1 v1 H1 o1 own1 r1 e1 j1 s1 hw1 => ?_)
  refine sr ρ1 σ H1 own1 _ e1 (poB_bind (P := fun r => PoB C W r σ H own Q) hw1 (fun z => z) (exB.at s1) fun as ρ2 vs H2 o2 own2 r2 e2 j2 s2 hw2 => ?_)
  have j12 : ∀ a ∈ o1, a ∉ o2 ++ own2 := s2.apart r1.mut j1
  refine hw2 (v1 :: vs) H2 (o1 ++ o2) own2 ⟨v1, vs, o1, o2, rfl, r1.keep s2.keep e1.mut j1, r2, fun a ha z => j12 a ha (List.mem_append_left _ z), rfl⟩ e2 (fun a ha z => ?_) ?_
  · rcases List.mem_append.mp ha with q | q
    · exact j12 a q (List.mem_append_right _ z)
    · exact j2 a q z
  · exact (s1.held s2).less fun a ha => by simpa [List.append_assoc] using ha
theorem skw_bor {i : Nat} {x : Str} {pos : Pos} (h : PE X (.Name x pos) (tVar i)) (hr : SKB X W C kws ms) : SKB X W C (⟨nm, .Name x pos, kp⟩ :: kws) (bBor i ms) := by
  obtain ⟨tr, pr, sr⟩ := hr.ex
  refine ⟨_, pk_cons h pr, fun ρ σ H own Q er hw => ?_⟩
  unfold bBor at hw
  split at hw
  · rename_i d hd
    obtain ⟨v, o, own1, e1, r, er1, n, m⟩ := er.take (join_some hd)
    refine ⟨v, e1, sr ρ σ H own _ er (poB_bind (P := fun r => PoB C W r σ H own Q) hw (fun z => z) exB fun as ρ2 vs H2 o2 own2 r2 e2 j2 s2 hw2 => ?_)⟩
    exact hw2 (v :: vs) H2 o2 own2 ⟨v, vs, rfl, e1, r2⟩ e2 j2 s2
  · exact hw.elim
/-- f(k = v, ..), the keywords in the parameters' order -/
theorem se_callK {f : Addr} {fd : FuncData} {ps : List Str} {F : List D → FR} {n : Nat} {x : Str} {p pos : Pos} {k : Keyword} (hK : C.K = X.K) (c : Cal X f fd ps (spF (C0 X.K) ps.length F)) (tk : L2N.Takes X W) (hg : Gl X x) (hm : X.mg x = some (.ref f)) (hk : PySem.W.keepIn X.K (.ref f) = true)
    (hb : BkI X.K fd ps) (hn : n = ps.length) (ha : SKB X W C (k :: kws) ms) (hall : (backToKw pos (keywordEach (k :: kws) X.env)).all (·.1.isSome) = true := by rfl) (hks : (backToKw pos (keywordEach (k :: kws) X.env)).filterMap (·.1) = ps := by rfl) (hd : (x == ("__debug__" : Str)) = false := by decide)
    (hp : ((backTo pos (starEach [] X.env)).any (·.1) || (backToKw pos (keywordEach (k :: kws) X.env)).any (·.1.isNone)) = false := by rfl) : SE X W C (.Call (.Name x p) [] (k :: kws) pos) (eCall n F ms) := by
  obtain ⟨t, pt, st⟩ := ha.ex
  refine ⟨tCal (spF (C0 X.K) ps.length F) W t, ⟨fun pins s σ H Q I h => wpAny_Call_Name_kw (ld_glob I hg hm (PySem.W.callWith_KW0 (h₀ := X.base) I.ok.mod.kin hk hall (thn (pt.run pos pins s σ H _ I h) fun us s1 ⟨vs, H1, I1, r, q⟩ => ⟨I1.kIn, by
    rw [hks]
    exact c.run (WE W σ) pins σ H1 s1 Q [] (ps.zip us) us vs I1 (passN tk σ) (hb.to s1 us I1.kIn (by rw [← r.length]; exact c.len _ _ _ _ q)) r q⟩) hp) hd)⟩, snd_call hK hn st⟩
end

/-! ### what is shown of a def, of an error's class -/
def FK (P : Program) (w : World) (K : PySem.W.Frag) (mg : Str → Option Value) (base : Heap) (x : Str) (ps : List Str) (st : Stmt) (k : Nat) (F : List D → FR) : Prop :=
  ∃ f fd, mg x = some (.ref f) ∧ FunD K x x (defArgs st) (defBody st) (defScope st) [] [] f fd ∧ Binds K fd ps [] ∧ FnOk P w K mg base (L2N.CX P w) k f fd ps (spF (C0 K) ps.length F)
def FKH (P : Program) (w : World) (K : PySem.W.Frag) (mg : Str → Option Value) (base : Heap) (x : Str) (ps : List Str) (st : Stmt) (k : Nat) (F : List D → FR) : Prop :=
  ∃ f fd, mg x = some (.ref f) ∧ FunD K x x (defArgs st) (defBody st) (defScope st) [] [] f fd ∧ Binds K fd ps [] ∧ L2H.FnH P w K mg base (L2N.CX P w) k f fd ps (spF (C0 K) ps.length F)
def FI (P : Program) (w : World) (K : PySem.W.Frag) (mg : Str → Option Value) (base : Heap) (c : Addr) (ps ns : List Str) : Prop :=
  OexC K c ∧ ∃ f fd, PySem.W.findIn K (.ref c) "__init__" = some (some (.ref f)) ∧ PySem.W.typeIn K (.ref f) = some (.type "function") ∧ Binds K fd ps [] ∧ FnOk P w K mg base (L2N.CX P w) 1 f fd ps (spI c ns)
def clsB (s : Stmt) : List Stmt := match s with
  | .ClassDef _ _ _ b _ _ _ _ _ _ _ => b
  | _ => []
end Se

namespace Se
open PySem L2

/-! ### the head: facts of the written part, as Bools -/
/-- the written part, its lists left out -/
def isLst (o : Obj) : Bool := decide (o.cls = .type "list")
def frL (g : Addr → Option Obj) (as : List Addr) : PySem.W.Frag := (He.frG g as).filter fun q => !isLst q.2
theorem frL_mem {g : Addr → Option Obj} {as : List Addr} {a : Addr} {o : Obj} (h : (frL g as).lookup a = some o) : g a = some o ∧ isLst o = false := by
  have m := List.mem_filter.mp (He.lookup_mem h)
  exact ⟨He.frG_mem m.1, by simpa using m.2⟩
def hookG (n : Nat) (fa : List He.Fa) (fn : List He.DefD) (ex : PySem.W.Frag → List Bool) : PySem.W.Hook where
  α := He.AlD × Bool
  obs := fun s => (He.obsD fa fn (frL s.heap.get? (He.asD s.heap.get? n)), (ex (frL s.heap.get? (He.asD s.heap.get? n))).all id)
  val := fun _ => (He.valD fn, true)
  says := fun _ h => ∃ K : PySem.W.Frag, K.In h ∧ He.SaysD fa fn K ∧ (ex K).all id = true ∧ ∀ a o, K.lookup a = some o → o.cls ≠ .type "list"
  of := fun _ _ e => ⟨_, fun a o h => (frL_mem h).1, congrArg (fun q : He.AlD × Bool => q.1) e, congrArg (fun q : He.AlD × Bool => q.2) e, fun a o h => of_decide_eq_false (frL_mem h).2⟩
  keeps := fun _ _ _ h k => by
    obtain ⟨K, hK, c⟩ := h
    exact ⟨K, PySem.W.Frag.In.keeps hK k, c⟩
def obG (n : Nat) (fa : List He.Fa) (fn : List He.DefD) (ex : PySem.W.Frag → List Bool) (g : Addr → Option Obj) : He.AlD × Bool := (He.obsD fa fn (frL g (He.asD g n)), (ex (frL g (He.asD g n))).all id)
theorem obG_eq {n : Nat} {fa : List He.Fa} {fn : List He.DefD} {ex : PySem.W.Frag → List Bool} {g : Addr → Option Obj} {s : Shared} (h : ∀ a, g a = s.heap.get? a) : obG n fa fn ex g = (hookG n fa fn ex).obs s := by
  have e : g = s.heap.get? := funext h
  subst e
  rfl
theorem exAt {l : List Bool} (h : l.all id = true) (i : Nat) {b : Bool} (e : l[i]? = some b) : b = true := List.all_eq_true.mp h b (List.mem_of_getElem? e)
/-- an error's class over ValueError, with an __init__ of its own -/
def oexB (K : PySem.W.Frag) (c : Addr) : Bool :=
  (match K.lookup c with
    | some ⟨.type ty, _, .cls cl, slt⟩ => (match cl.mro, slt.toList with
      | .ref c' :: up, [_, _, _, _, some (.builtin mk), _] => ty == "type" && c' == c && mk == "ValueError.__new__" && !cl.hasDel && cl.hasDict && PySem.HandSPX.refsVE up
      | _, _ => false)
    | _ => false) && decide (PySem.W.findIn K (.ref c) "__setattr__" = some (some (.builtin "object.__setattr__"))) && decide (PySem.W.subIn K (.ref c) (.type "BaseException") = some true) && decide (PySem.W.typeIn K (.ref c) = some (.type "type")) && PySem.W.keepIn K (.ref c)
theorem oexB_ok {K : PySem.W.Frag} {c : Addr} (h : oexB K c = true) : OexC K c := by
  unfold oexB at h
  simp only [Bool.and_eq_true, decide_eq_true_eq] at h
  obtain ⟨⟨⟨⟨h1, h2⟩, h3⟩, h4⟩, h5⟩ := h
  refine ⟨?_, h2, h3, h4, h5⟩
  split at h1
  · rename_i ty dd cl slt ho
    split at h1
    · rename_i c' up k0 k1 k2 k3 mk k5 hm hs
      simp only [Bool.and_eq_true, beq_iff_eq, Bool.not_eq_true'] at h1
      obtain ⟨⟨⟨⟨⟨rfl, rfl⟩, rfl⟩, hdel⟩, hdi⟩, ht⟩ := h1
      obtain ⟨nm, bs, mro, ns, qn, hd, sn, sub, ab, col, del⟩ := cl
      dsimp only at hm hdel hdi
      subst hm hdel hdi
      have e : slt = #[k0, k1, k2, k3, some (.builtin "ValueError.__new__"), k5] := by
        obtain ⟨l⟩ := slt
        simp only at hs
        rw [hs]
      subst e
      exact ⟨nm, qn, ns, bs, up, sn, sub, ab, col, dd, k0, k1, k2, k3, k5, ho, ht⟩
    · cases h1
  · cases h1
def noB (K : PySem.W.Frag) (c : Addr) (ns : List Str) : Bool := ns.all fun m => decide (PySem.W.findIn K (.ref c) m = some none)
theorem noB_ok {K : PySem.W.Frag} {c : Addr} {ns : List Str} (h : noB K c ns = true) : ∀ m ∈ ns, PySem.W.findIn K (.ref c) m = some none := fun m hm => of_decide_eq_true (List.all_eq_true.mp h m hm)
/-- a def of the top, a class's method -/
def dD (x : Str) (st : Stmt) : He.DefD := ⟨(x, none), x, x, defArgs st, defBody st, defScope st, [], []⟩
def dM (c m q : Str) (st : Stmt) : He.DefD := ⟨(c, some m), m, q, defArgs st, defBody st, defScope st, [], []⟩
theorem d_of {K : PySem.W.Frag} {mg : Str → Option Value} {fa : List He.Fa} {fn : List He.DefD} {h : Heap} {x : Str} {st : Stmt} {ps : List Str} (X : K.In h) (G : h.Ns mainGlobals mg) (c : He.SaysD fa fn K) (i j : Nat) (hi : fn[i]? = some (dD x st)) (hj : fa[j]? = some (.glo x))
    (hb : ∀ (kV doc pm : Value) (an : Option Addr) (cdv ct : Value) (us : List Value), us.length = ps.length → bindArgs (PySem.W.fnOf x x (defArgs st) (defBody st) (defScope st) .none kV doc pm an cdv ct) ⟨us, []⟩ = pure (ps.zip us)) :
    ∃ f fd, mg x = some (.ref f) ∧ FunD K x x (defArgs st) (defBody st) (defScope st) [] [] f fd ∧ Binds K fd ps [] := by
  obtain ⟨fd, F⟩ := c.def_ i hi
  have F' : FunD K x x (defArgs st) (defBody st) (defScope st) [] [] (He.ga K x) fd := F
  exact ⟨_, fd, He.glo_ok X G (c.fact j hj), F', F'.bindsN hb⟩
theorem i_of {K : PySem.W.Frag} {fa : List He.Fa} {fn : List He.DefD} {x q : Str} {st : Stmt} {ps : List Str} (c : He.SaysD fa fn K) (i : Nat) (hi : fn[i]? = some (dM x "__init__" q st)) (h1 : PySem.W.findIn K (.ref (He.ga K x)) "__init__" = some (some (.ref (He.ma K (He.ga K x) "__init__"))))
    (h2 : PySem.W.typeIn K (.ref (He.ma K (He.ga K x) "__init__")) = some (.type "function"))
    (hb : ∀ (kV doc pm : Value) (an : Option Addr) (cdv ct : Value) (us : List Value), us.length = ps.length → bindArgs (PySem.W.fnOf "__init__" q (defArgs st) (defBody st) (defScope st) .none kV doc pm an cdv ct) ⟨us, []⟩ = pure (ps.zip us)) :
    ∃ f fd, PySem.W.findIn K (.ref (He.ga K x)) "__init__" = some (some (.ref f)) ∧ PySem.W.typeIn K (.ref f) = some (.type "function") ∧ FunD K "__init__" q (defArgs st) (defBody st) (defScope st) [] [] f fd ∧ Binds K fd ps [] := by
  obtain ⟨fd, F⟩ := c.def_ i hi
  have F' : FunD K "__init__" q (defArgs st) (defBody st) (defScope st) [] [] (He.ma K (He.ga K x) "__init__") fd := F
  exact ⟨_, fd, h1, h2, F', F'.bindsN hb⟩
theorem s_of {K : PySem.W.Frag} {mg : Str → Option Value} {h : Heap} {x : Str} {l : List Nat} (X : K.In h) (G : h.Ns mainGlobals mg) (c : (He.Fa.str x (sx l)).ok K = true) : ∃ t, mg x = some (.str (sx l) t) := He.str_ok X G c
/-! ### the law's promise -/
theorem ints_rep {C : RC} {H : Hp} : ∀ ns : List Int, RepL C H (ns.map D.int) (ns.map V.int) []
  | [] => ⟨rfl, rfl⟩
  | _ :: ns => ⟨_, _, [], [], rfl, ⟨rfl, rfl⟩, ints_rep ns, by simp, rfl⟩
theorem law_sp {H : Hp} {a : Addr} {ns : List Int} {F : List D → FR} {K : PySem.W.Frag} {ps : List Str} (hp : ps.length = 1) (hO : Only H) (hS : SqL K H a (ns.map V.int)) (hK : ∀ a o, K.lookup a = some o → o.cls ≠ .type "list")
    (h : ∃ ds', F [.lst false (ns.map D.int)] = .rt (.bl true) ds') : spF (C0 K) ps.length F [.ref a] H (fun v _ => v = .bl true) fun _ _ _ => False := by
  obtain ⟨ds', h⟩ := h
  refine ⟨hp.symm, [.lst false (ns.map D.int)], [], ⟨.ref a, [], [], [], rfl, ?_, ⟨rfl, rfl⟩, by simp, rfl⟩, ?_⟩
  · rcases hS with (e | ⟨o, e⟩) | ⟨o, its, n, e, e2, _⟩
    · rcases hO a with z | ⟨o, xs, z⟩
      · rw [e] at z; cases z
      · rw [e] at z; cases z
    · exact ⟨a, _, rfl, ⟨o, e⟩, ints_rep ns, rfl⟩
    · exact absurd e2 (hK a o e)
  · rw [h]
    intro v H' o own' r _ _ _
    exact r.1
/-- whichever world -/
def CXa (P : Program) : CXT := fun outer H s E u s' => ∃ w, L2N.CX P w outer H s E u s'
theorem noCX {P : Program} : ∀ (H : Hp) (s : Shared) (e : Value) (s' : Shared), CXa P [] H s (fun _ _ _ => False) e s' → False := fun H s e s' c => by
  obtain ⟨_, _, _, _, _, _, _, _, _, _, _, _, _, z⟩ := c
  exact z
theorem okA {P : Program} {w : World} {K : PySem.W.Frag} {mg : Str → Option Value} {base : Heap} {k : Nat} {f : Addr} {fd : FuncData} {ps : List Str} {sp : Sp} (F : FnOk P w K mg base (L2N.CX P w) k f fd ps sp) : FnOk P w K mg base (CXa P) k f fd ps sp :=
  ⟨F.len, fun A outer s H args us vs Q E hr he hb hv hs => codeAny_mono (F.run A outer s H args us vs Q E hr he hb hv hs) fun r s' q => by
    cases r with
    | error e => exact ⟨w, q⟩
    | ok fl => cases fl <;> exact q⟩
theorem funD_one {K : PySem.W.Frag} {x q : Str} {a : Arguments} {b : List Stmt} {sc : Scope} {f : Addr} {fd fd' : FuncData} (F : FunD K x q a b sc [] [] f fd) (F' : FunD K x q a b sc [] [] f fd') : fd = fd' := by
  obtain ⟨_, _, _, _, _, _, _, _, _, _, _, l1, _⟩ := F.ex
  obtain ⟨_, _, _, _, _, _, _, _, _, _, _, l2, _⟩ := F'.ex
  rw [l1] at l2
  have e := congrArg Obj.data (Option.some.inj l2)
  injection e
/-- the law, by what is shown of its def -/
theorem law_F {P : Program} {w : World} {K : PySem.W.Frag} {mg : Str → Option Value} {x y : Str} {st : Stmt} {k : Nat} {F : List D → FR} {h : Heap} {fa : Addr} (KX : K.In h) (hmg : mg x = some (.ref fa)) (hK : ∀ a o, K.lookup a = some o → o.cls ≠ .type "list")
    (hd : ∃ f fd, mg x = some (.ref f) ∧ FunD K x x (defArgs st) (defBody st) (defScope st) [] [] f fd ∧ Binds K fd [y] []) (hf : ∀ base, FK P w K mg base x [y] st k F) (ht : ∀ ns : List Int, ns.length ≤ 63 → ∃ ds, F [.lst false (ns.map D.int)] = .rt (.bl true) ds)
    (hb : ∀ (kV doc pm : Value) (an : Option Addr) (cdv ct : Value) (us : List Value), us.length = [y].length → bindArgs (PySem.W.fnOf x x (defArgs st) (defBody st) (defScope st) .none kV doc pm an cdv ct) ⟨us, []⟩ = pure ([y].zip us)) :
    ∃ (K : PySem.W.Frag) (fd : FuncData) (sp : Sp), K.In h ∧ (∀ (s : Shared) (u : Value), BindsTo s fd ⟨[u], []⟩ [(y, u)]) ∧
        (∀ (H : Hp) (a : Addr) (ns : List Int), ns.length ≤ 63 → Only H → SqL K H a (ns.map V.int) → sp [.ref a] H (fun v _ => v = .bl true) fun _ _ _ => False) ∧
        ∀ base : Heap, K.In base → base.Ns mainGlobals mg → FnOk P w K mg base (CXa P) k fa fd [y] sp := by
  obtain ⟨f, fd, hm, F1, _⟩ := hd
  have e := hm.symm.trans hmg
  cases e
  refine ⟨K, fd, spF (C0 K) [y].length F, KX, fun s u => FunD.bindsA F1 hb s [u] rfl, fun H a ns hl hO hS => law_sp rfl hO hS hK (ht ns hl), fun base _ _ => ?_⟩
  obtain ⟨f2, fd2, hm2, F2, _, ok⟩ := hf base
  have e2 := hm2.symm.trans hmg
  cases e2
  rw [funD_one F1 F2]
  exact okA ok
end Se

/-! rules by which simp reckons a meaning: no function is entered before its argument is known -/
namespace Se
open PySem L2

def seqK (r : SR) (n : MS) : SR := match r with
  | .nx ρ => n ρ
  | r => r
def asgK (i : Nat) (r : RE D) : SR := match r with
  | .ok d ρ => if i < ρ.length then .nx (ρ.set i (some d)) else .bad
  | .ex e ρ => .ex e ρ
  | .bad => .bad
def exprK (r : RE D) : SR := match r with
  | .ok _ ρ => .nx ρ
  | .ex e ρ => .ex e ρ
  | .bad => .bad
def retK (r : RE D) : SR := match r with
  | .ok d ρ => .rt d ρ
  | .ex e ρ => .ex e ρ
  | .bad => .bad
def ifK (r : RE Bool) (m n : MS) : SR := match r with
  | .ok b ρ => if b = true then m ρ else n ρ
  | .ex e ρ => .ex e ρ
  | .bad => .bad
def raiseK (c : Addr) (ns : List Str) (r : RE (List D)) : SR := match r with
  | .ok ds ρ => if fzL ds = true ∧ ds.length = ns.length then .ex ⟨c, ns.reverse, ds.reverse⟩ ρ else .bad
  | .ex e ρ => .ex e ρ
  | .bad => .bad
def forK (r : RE (List D)) (f : D → Env → Option Env) (m : MS) : SR := match r with
  | .ok ds ρ => forF f m ds ρ
  | .ex e ρ => .ex e ρ
  | .bad => .bad
def varK (i : Nat) (x : Option (Option D)) (ρ : Env) : RE D := match x with
  | some (some d) => if fz d = true then .ok d ρ else .ok (frz d) (ρ.set i (some (frz d)))
  | _ => .bad
def movK (i : Nat) (x : Option (Option D)) (ρ : Env) : RE D := match x with
  | some (some d) => .ok d (ρ.set i none)
  | _ => .bad
def qK (x : Option D) (ρ : Env) : RE D := match x with
  | some d => if fz d = true then .ok d ρ else .bad
  | none => .bad
def b2 (g : D → D → Option D) (r : RE D) (mb : M D) : RE D := r.bind fun a ρ1 => (mb ρ1).bind fun b ρ2 => ofO (g a b) ρ2
def b1 (g : D → D → Option D) (a : D) (r : RE D) : RE D := r.bind fun b ρ => ofO (g a b) ρ
def o2 (g : D → D → Option D) (x y : Option D) : Option D := x.bind fun a => y.bind fun b => g a b
def c2 (r : RE D) (ms : M (List D)) : RE (List D) := r.bind fun d ρ1 => (ms ρ1).bind fun ds ρ2 => .ok (d :: ds) ρ2
def c1 (d : D) (r : RE (List D)) : RE (List D) := r.bind fun ds ρ => .ok (d :: ds) ρ
def w2 (x : Option D) (y : Option (List D)) : Option (List D) := x.bind fun d => y.bind fun ds => some (d :: ds)
def nK (g : List D → Option D) (r : RE (List D)) : RE D := r.bind fun ds ρ => ofO (g ds) ρ
def tB1 (r : RE D) : RE Bool := r.bind fun d ρ => match d with
  | .bl b => .ok b ρ
  | _ => .bad
def tE1 (r : RE D) : RE Bool := r.bind fun d ρ => ofO (truD d) ρ
def and1 (r : RE Bool) (n : M Bool) : RE Bool := r.bind fun b ρ => if b = true then n ρ else .ok false ρ
def or1 (r : RE Bool) (n : M Bool) : RE Bool := r.bind fun b ρ => if b = true then .ok true ρ else n ρ
def not1 (r : RE Bool) : RE Bool := r.bind fun b ρ => .ok (!b) ρ
def eIf1 (r : RE Bool) (ma mb : M D) : RE D := r.bind fun b ρ => if b = true then ma ρ else mb ρ
def eAnd1 (r : RE D) (mb : M D) : RE D := r.bind fun d ρ => match d with
  | .bl b => if b = true then mb ρ else .ok (.bl false) ρ
  | _ => .bad
def eOr1 (r : RE D) (mb : M D) : RE D := r.bind fun d ρ => match d with
  | .bl b => if b = true then .ok (.bl true) ρ else mb ρ
  | _ => .bad
def eNot1 (r : RE D) : RE D := r.bind fun d ρ => match d with
  | .bl b => .ok (.bl (!b)) ρ
  | _ => .bad
def tupK (r : RE (List D)) : RE D := r.bind fun ds ρ => if ds.length ≤ sizeLine then .ok (.tup ds) ρ else .bad
def lstK (r : RE (List D)) : RE D := r.bind fun ds ρ => if ds.length ≤ sizeLine then .ok (.lst true ds) ρ else .bad
def bmK (g : List Nat → D → Option D) (x : Option D) (mb : M D) (ρ : Env) : RE D := match x with
  | some (.str z) => (mb ρ).bind fun d ρ1 => ofO (g z d) ρ1
  | _ => .bad
def bm1 (g : List Nat → D → Option D) (z : List Nat) (r : RE D) : RE D := r.bind fun d ρ => ofO (g z d) ρ
def bvK (g : List Nat → D → Option D) (x y : Option D) : Option D := x.bind fun d => match d with
  | .str z => y.bind (g z)
  | _ => none
def ixK (g : D → D → Option D) (i : Nat) (x : Option (Option D)) (mb : M D) (ρ : Env) : RE D := match x with
  | some (some _) => (mb ρ).bind fun k ρ1 => ofO (((ρ1[i]?).join).bind fun d => g d k) ρ1
  | _ => .bad
def ix1 (g : D → D → Option D) (i : Nat) (r : RE D) : RE D := r.bind fun k ρ => ofO (((ρ[i]?).join).bind fun d => g d k) ρ
def ix2 (g : D → D → Option D) (x : Option (Option D)) (k : D) : Option D := (x.join).bind fun d => g d k
def slK (x : Option D) (l h : Option (Option Int)) : Option D := x.bind fun d => l.bind fun lo => h.bind fun hi => gSl d lo hi
def osK (x : Option D) : Option (Option Int) := match x with
  | some (.int i) => some (some i)
  | _ => none
def tvK (x : Option D) (ρ : Env) : RE Bool := ofO (x.bind truD) ρ
def fzK (r : RE D) : RE D := r.bind fun d ρ => .ok (frz d) ρ
def itK (r : RE D) : RE (List D) := r.bind fun d ρ => ofO (itemsD d) ρ
def iaK (g : List D → Option (List D)) (r : RE (List D)) : RE (List D) := r.bind fun ds ρ => ofO (g ds) ρ
def bv2 (r : RE D) (ms : M (List AD)) : RE (List AD) := r.bind fun d ρ1 => (ms ρ1).bind fun as ρ2 => .ok (.inl d :: as) ρ2
def bv1 (d : D) (r : RE (List AD)) : RE (List AD) := r.bind fun as ρ => .ok (.inl d :: as) ρ
def bb2 (i : Nat) (x : Option (Option D)) (r : RE (List AD)) : RE (List AD) := match x with
  | some (some _) => r.bind fun as ρ2 => .ok (.inr i :: as) ρ2
  | _ => .bad
def callK (n : Nat) (F : List D → FR) (r : RE (List AD)) : RE D := r.bind fun as ρ1 => match takeAll as ρ1 with
  | some (ds, ρ2) => if ds.length = n ∧ neL ds = true then fin as ρ2 (F ds) else .bad
  | none => .bad
def call1 (n : Nat) (F : List D → FR) (as : List AD) (x : Option (List D × Env)) : RE D := match x with
  | some (ds, ρ2) => if ds.length = n ∧ neL ds = true then fin as ρ2 (F ds) else .bad
  | none => .bad
def finK (x : Option Env) (d : D) : RE D := match x with
  | some ρ => .ok d ρ
  | none => .bad
def finX (x : Option Env) (e : EX) : RE D := match x with
  | some ρ => .ex e ρ
  | none => .bad
def tkD (d : D) (x : Option (List D × Env)) : Option (List D × Env) := x.map fun p => (d :: p.1, p.2)
def tkS (i : Nat) (x : Option (Option D)) (as : List AD) (ρ : Env) : Option (List D × Env) := (x.join).bind fun d => (takeAll as (ρ.set i none)).map fun p => (d :: p.1, p.2)
def ptS (i : Nat) (x : Option (Option D)) (d : D) (as : List AD) (ds : List D) (ρ : Env) : Option Env := match x with
  | some none => putAll as ds (ρ.set i (some d))
  | _ => none
def bkK (r : SR) (B : List Nat) (ds : List D) : FR := match r with
  | .nx ρ => match back B ρ 0 ds with
    | some ds' => .rt .non ds'
    | none => .bad
  | .rt d ρ => match back B ρ 0 ds with
    | some ds' => .rt d ds'
    | none => .bad
  | .ex e ρ => match back B ρ 0 ds with
    | some ds' => .ex e ds'
    | none => .bad
  | _ => .bad
def bkR (x : Option (List D)) (d : D) : FR := match x with
  | some ds' => .rt d ds'
  | none => .bad
def bkX (x : Option (List D)) (e : EX) : FR := match x with
  | some ds' => .ex e ds'
  | none => .bad
def mutK (g : GM) (ys : List D) (i : Nat) (π : List Sel) (ρ : Env) (x : Option (Option D)) : RE D := match x with
  | some (some d) => (match getP d π with
    | some l => if isOwnL l = true ∧ fzL ys = true then match updP d π (leafM g ys), valM g ys l with
        | some d', some v => .ok v (ρ.set i (some d'))
        | _, _ => .bad
      else .bad
    | none => .bad)
  | _ => .bad
def mutQ (g : GM) (p : Option (Nat × List Sel)) (y : Option (List D)) (ρ : Env) : RE D := match p, y with
  | some (i, π), some ys => mutK g ys i π ρ (ρ[i]?)
  | _, _ => .bad
def mutA (i : Nat) (ρ : Env) (x y : Option D) : RE D := match x, y with
  | some d', some v => .ok v (ρ.set i (some d'))
  | _, _ => .bad
def mutE (g : GM) (ms : M (List D)) (p : Option (Nat × List Sel)) (ρ : Env) : RE D := match p with
  | some (i, π) => match (ρ[i]?).join with
    | some d => match getP d π with
      | some l => if isOwnL l = true then (ms (ρ.set i none)).bind fun ys ρ1 => match ρ1[i]?, updP d π (leafM g ys), valM g ys l with
          | some none, some d', some v => .ok v (ρ1.set i (some d'))
          | _, _, _ => .bad
        else .bad
      | none => .bad
    | none => .bad
  | none => .bad
def mutF (g : GM) (i : Nat) (π : List Sel) (d l : D) (r : RE (List D)) : RE D := r.bind fun ys ρ1 => match ρ1[i]?, updP d π (leafM g ys), valM g ys l with
          | some none, some d', some v => .ok v (ρ1.set i (some d'))
          | _, _, _ => .bad
def mutG (i : Nat) (ρ : Env) (h : Option (Option D)) (x y : Option D) : RE D := match h, x, y with
  | some none, some d', some v => .ok v (ρ.set i (some d'))
  | _, _, _ => .bad
def setK (r : RE D) (p : Env → Option (Nat × List Sel)) (fk : Env → Option D) : SR := match r with
  | .ok y ρ1 => (match p ρ1, fk ρ1 with
    | some (i, π), some (.int k) => match (ρ1[i]?).join with
      | some d => match updP d π (leafSet k y) with
        | some d' => .nx (ρ1.set i (some d'))
        | none => .bad
      | none => .bad
    | _, _ => .bad)
  | .ex e ρ1 => .ex e ρ1
  | .bad => .bad
def setA (i : Nat) (ρ : Env) (x : Option D) : SR := match x with
  | some d' => .nx (ρ.set i (some d'))
  | none => .bad
def setB (y : D) (ρ : Env) (i : Nat) (π : List Sel) (k : Int) (x : Option (Option D)) : SR := match x with
  | some (some d) => setA i ρ (updP d π (leafSet k y))
  | _ => .bad
def setC (y : D) (ρ : Env) (p : Option (Nat × List Sel)) (k : Option D) : SR := match p, k with
  | some (i, π), some (.int k) => setB y ρ i π k (ρ[i]?)
  | _, _ => .bad
section
variable {m n : MS} {ρ : Env} {i : Nat} {me ma mb : M D} {d a b : D} {e : EX} {mc na nb : M Bool} {f fa fb : Env → Option D} {g : D → D → Option D} {ms : M (List D)} {fs : Env → Option (List D)} {ds : List D} {gn : List D → Option D} {F : List D → FR} {as : List AD} {B : List Nat} {mbs : M (List AD)} {k : Nat}
@[simp] theorem u1 : sNil ρ = .nx ρ := (rfl)
@[simp] theorem u2 : sSeq m n ρ = seqK (m ρ) n := (rfl)
@[simp] theorem u3 : seqK (.nx ρ) n = n ρ := (rfl)
@[simp] theorem u4 : seqK (.rt d ρ) n = .rt d ρ := (rfl)
@[simp] theorem u5 : seqK (.ex e ρ) n = .ex e ρ := (rfl)
@[simp] theorem u6 : seqK (.bk ρ) n = .bk ρ := (rfl)
@[simp] theorem u7 : seqK (.ct ρ) n = .ct ρ := (rfl)
@[simp] theorem u8 : sAsg i me ρ = asgK i (me ρ) := (rfl)
@[simp] theorem u9 : asgK i (.ok d ρ) = if i < ρ.length then .nx (ρ.set i (some d)) else .bad := (rfl)
@[simp] theorem u10 : asgK i (.ex e ρ) = .ex e ρ := (rfl)
@[simp] theorem u11 : sExpr me ρ = exprK (me ρ) := (rfl)
@[simp] theorem u12 : exprK (.ok d ρ) = .nx ρ := (rfl)
@[simp] theorem u13 : exprK (.ex e ρ) = .ex e ρ := (rfl)
@[simp] theorem u14 : sRet me ρ = retK (me ρ) := (rfl)
@[simp] theorem u15 : retK (.ok d ρ) = .rt d ρ := (rfl)
@[simp] theorem u16 : retK (.ex e ρ) = .ex e ρ := (rfl)
@[simp] theorem u17 : sIf mc m n ρ = ifK (mc ρ) m n := (rfl)
@[simp] theorem u18 : ifK (.ok true ρ) m n = m ρ := (rfl)
@[simp] theorem u19 : ifK (.ok false ρ) m n = n ρ := (rfl)
@[simp] theorem u20 : sBreak ρ = .bk ρ := (rfl)
@[simp] theorem u21 : sCont ρ = .ct ρ := (rfl)
@[simp] theorem u22 : eLit d ρ = .ok d ρ := (rfl)
@[simp] theorem u23 : vLit d ρ = some d := (rfl)
@[simp] theorem u24 : vVar i ρ = (ρ[i]?).join := (rfl)
@[simp] theorem u25 : eVar i ρ = varK i (ρ[i]?) ρ := by unfold eVar varK; rcases ρ[i]? with _ | _ | d <;> rfl
@[simp] theorem u26 : varK i (some (some d)) ρ = if fz d = true then .ok d ρ else .ok (frz d) (ρ.set i (some (frz d))) := (rfl)
@[simp] theorem u27 : eMove i ρ = movK i (ρ[i]?) ρ := by unfold eMove movK; rcases ρ[i]? with _ | _ | d <;> rfl
@[simp] theorem u28 : movK i (some (some d)) ρ = .ok d (ρ.set i none) := (rfl)
@[simp] theorem u29 : eQ f ρ = qK (f ρ) ρ := (rfl)
@[simp] theorem u30 : qK (some d) ρ = if fz d = true then .ok d ρ else .bad := (rfl)
@[simp] theorem u31 : eV f ρ = ofO (f ρ) ρ := (rfl)
@[simp] theorem u32 {α : Type} {x : α} : ofO (some x) ρ = .ok x ρ := (rfl)
@[simp] theorem u33 : eOp2 g ma mb ρ = b2 g (ma ρ) mb := (rfl)
@[simp] theorem u34 : b2 g (.ok a ρ) mb = b1 g a (mb ρ) := (rfl)
@[simp] theorem u35 : b2 g (.ex e ρ) mb = .ex e ρ := (rfl)
@[simp] theorem u36 : b1 g a (.ok b ρ) = ofO (g a b) ρ := (rfl)
@[simp] theorem u37 : b1 g a (.ex e ρ) = .ex e ρ := (rfl)
@[simp] theorem u38 : vOp2 g fa fb ρ = o2 g (fa ρ) (fb ρ) := (rfl)
@[simp] theorem u39 : o2 g (some a) (some b) = g a b := (rfl)
@[simp] theorem u40 : aNil ρ = .ok [] ρ := (rfl)
@[simp] theorem u41 : aCons ma ms ρ = c2 (ma ρ) ms := (rfl)
@[simp] theorem u42 : c2 (.ok d ρ) ms = c1 d (ms ρ) := (rfl)
@[simp] theorem u43 : c2 (.ex e ρ) ms = .ex e ρ := (rfl)
@[simp] theorem u44 : c1 d (.ok ds ρ) = .ok (d :: ds) ρ := (rfl)
@[simp] theorem u45 : c1 d (.ex e ρ) = .ex e ρ := (rfl)
@[simp] theorem u46 : wNil ρ = some [] := (rfl)
@[simp] theorem u47 : wCons f fs ρ = w2 (f ρ) (fs ρ) := (rfl)
@[simp] theorem u48 : w2 (some d) (some ds) = some (d :: ds) := (rfl)
@[simp] theorem u49 : vOpn gn fs ρ = (fs ρ).bind gn := (rfl)
@[simp] theorem u50 : eOpn gn ms ρ = nK gn (ms ρ) := (rfl)
@[simp] theorem u51 : nK gn (.ok ds ρ) = ofO (gn ds) ρ := (rfl)
@[simp] theorem u52 : nK gn (.ex e ρ) = .ex e ρ := (rfl)
@[simp] theorem u53 : Se.tB ma ρ = tB1 (ma ρ) := (rfl)
@[simp] theorem u54 {b : Bool} : tB1 (.ok (.bl b) ρ) = .ok b ρ := (rfl)
@[simp] theorem u55 : tB1 (.ex e ρ) = .ex e ρ := (rfl)
@[simp] theorem u56 : tV f ρ = tvK (f ρ) ρ := (rfl)
@[simp] theorem u57 : tvK (some d) ρ = ofO (truD d) ρ := (rfl)
@[simp] theorem u58 : tE ma ρ = tE1 (ma ρ) := (rfl)
@[simp] theorem u59 : tE1 (.ok d ρ) = ofO (truD d) ρ := (rfl)
@[simp] theorem u60 : tE1 (.ex e ρ) = .ex e ρ := (rfl)
@[simp] theorem u61 : tAndM na nb ρ = and1 (na ρ) nb := (rfl)
@[simp] theorem u62 : and1 (.ok true ρ) nb = nb ρ := (rfl)
@[simp] theorem u63 : and1 (.ok false ρ) nb = .ok false ρ := (rfl)
@[simp] theorem u64 : tOrM na nb ρ = or1 (na ρ) nb := (rfl)
@[simp] theorem u65 : or1 (.ok true ρ) nb = .ok true ρ := (rfl)
@[simp] theorem u66 : or1 (.ok false ρ) nb = nb ρ := (rfl)
@[simp] theorem u67 : tNotM na ρ = not1 (na ρ) := (rfl)
@[simp] theorem u68 {b : Bool} : not1 (.ok b ρ) = .ok (!b) ρ := (rfl)
@[simp] theorem u69 : eIf mc ma mb ρ = eIf1 (mc ρ) ma mb := (rfl)
@[simp] theorem u70 : eIf1 (.ok true ρ) ma mb = ma ρ := (rfl)
@[simp] theorem u71 : eIf1 (.ok false ρ) ma mb = mb ρ := (rfl)
@[simp] theorem u72 : eAnd ma mb ρ = eAnd1 (ma ρ) mb := (rfl)
@[simp] theorem u73 : eAnd1 (.ok (.bl true) ρ) mb = mb ρ := (rfl)
@[simp] theorem u74 : eAnd1 (.ok (.bl false) ρ) mb = .ok (.bl false) ρ := (rfl)
@[simp] theorem u75 : eOr ma mb ρ = eOr1 (ma ρ) mb := (rfl)
@[simp] theorem u76 : eOr1 (.ok (.bl true) ρ) mb = .ok (.bl true) ρ := (rfl)
@[simp] theorem u77 : eOr1 (.ok (.bl false) ρ) mb = mb ρ := (rfl)
@[simp] theorem u78 : eNot ma ρ = eNot1 (ma ρ) := (rfl)
@[simp] theorem u79 {b : Bool} : eNot1 (.ok (.bl b) ρ) = .ok (.bl (!b)) ρ := (rfl)
@[simp] theorem u80 : eTup ms ρ = tupK (ms ρ) := (rfl)
@[simp] theorem u81 : tupK (.ok ds ρ) = if ds.length ≤ sizeLine then .ok (.tup ds) ρ else .bad := (rfl)
@[simp] theorem u82 : eLst ms ρ = lstK (ms ρ) := (rfl)
@[simp] theorem u83 : lstK (.ok ds ρ) = if ds.length ≤ sizeLine then .ok (.lst true ds) ρ else .bad := (rfl)
@[simp] theorem u84 {gm : List Nat → D → Option D} : eBm gm f mb ρ = bmK gm (f ρ) mb ρ := (rfl)
@[simp] theorem u85 {gm : List Nat → D → Option D} {z : List Nat} : bmK gm (some (.str z)) mb ρ = bm1 gm z (mb ρ) := (rfl)
@[simp] theorem u86 {gm : List Nat → D → Option D} {z : List Nat} : bm1 gm z (.ok d ρ) = ofO (gm z d) ρ := (rfl)
@[simp] theorem u87 {gm : List Nat → D → Option D} : vBm gm f fa ρ = bvK gm (f ρ) (fa ρ) := (rfl)
@[simp] theorem u88 {gm : List Nat → D → Option D} {z : List Nat} : bvK gm (some (.str z)) (some d) = gm z d := (rfl)
@[simp] theorem u89 : eIxVar g i mb ρ = ixK g i (ρ[i]?) mb ρ := by unfold eIxVar ixK; rcases ρ[i]? with _ | _ | d <;> rfl
@[simp] theorem u90 : ixK g i (some (some d)) mb ρ = ix1 g i (mb ρ) := (rfl)
@[simp] theorem u91 : ix1 g i (.ok b ρ) = ofO (ix2 g (ρ[i]?) b) ρ := (rfl)
@[simp] theorem u92 : ix2 g (some (some d)) b = g d b := (rfl)
@[simp] theorem u93 {l h : Env → Option (Option Int)} : vSl f l h ρ = slK (f ρ) (l ρ) (h ρ) := (rfl)
@[simp] theorem u94 {lo hi : Option Int} : slK (some d) (some lo) (some hi) = gSl d lo hi := (rfl)
@[simp] theorem u95 : oNone ρ = some none := (rfl)
@[simp] theorem u96 : oSome f ρ = osK (f ρ) := (rfl)
@[simp] theorem u97 {j : Int} : osK (some (.int j)) = some (some j) := (rfl)
@[simp] theorem u98 : eFz me ρ = fzK (me ρ) := (rfl)
@[simp] theorem u99 : fzK (.ok d ρ) = .ok (frz d) ρ := (rfl)
@[simp] theorem u100 : iSq me ρ = itK (fzK (me ρ)) := (rfl)
@[simp] theorem u101 : itK (.ok d ρ) = ofO (itemsD d) ρ := (rfl)
@[simp] theorem u102 {gl : List D → Option (List D)} : iArgs gl ms ρ = iaK gl (ms ρ) := (rfl)
@[simp] theorem u103 {gl : List D → Option (List D)} : iaK gl (.ok ds ρ) = ofO (gl ds) ρ := (rfl)
@[simp] theorem u104 {mi : M (List D)} {ft : D → Env → Option Env} : sFor mi ft m ρ = forK (mi ρ) ft m := (rfl)
@[simp] theorem u105 {ft : D → Env → Option Env} : forK (.ok ds ρ) ft m = forF ft m ds ρ := (rfl)
@[simp] theorem u106 : bNil ρ = .ok [] ρ := (rfl)
@[simp] theorem u107 : bVal ma mbs ρ = bv2 (ma ρ) mbs := (rfl)
@[simp] theorem u108 : bv2 (.ok d ρ) mbs = bv1 d (mbs ρ) := (rfl)
@[simp] theorem u109 : bv2 (.ex e ρ) mbs = .ex e ρ := (rfl)
@[simp] theorem u110 : bv1 d (.ok as ρ) = .ok (.inl d :: as) ρ := (rfl)
@[simp] theorem u111 : bv1 d (.ex e ρ) = .ex e ρ := (rfl)
@[simp] theorem u112 : bBor i mbs ρ = bb2 i (ρ[i]?) (mbs ρ) := by unfold bBor bb2; rcases ρ[i]? with _ | _ | d <;> rfl
@[simp] theorem u113 : bb2 i (some (some d)) (.ok as ρ) = .ok (.inr i :: as) ρ := (rfl)
@[simp] theorem u114 : eCall k F mbs ρ = callK k F (mbs ρ) := (rfl)
@[simp] theorem u115 : callK k F (.ok as ρ) = call1 k F as (takeAll as ρ) := (rfl)
@[simp] theorem u116 : callK k F (.ex e ρ) = .ex e ρ := (rfl)
@[simp] theorem u117 : call1 k F as (some (ds, ρ)) = if ds.length = k ∧ neL ds = true then fin as ρ (F ds) else .bad := (rfl)
@[simp] theorem u118 : takeAll [] ρ = some ([], ρ) := (rfl)
@[simp] theorem u119 : takeAll (.inl d :: as) ρ = tkD d (takeAll as ρ) := (rfl)
@[simp] theorem u120 {ρ1 : Env} : tkD d (some (ds, ρ1)) = some (d :: ds, ρ1) := (rfl)
@[simp] theorem u121 : takeAll (.inr i :: as) ρ = tkS i (ρ[i]?) as ρ := (rfl)
@[simp] theorem u122 : tkS i (some (some d)) as ρ = tkD d (takeAll as (ρ.set i none)) := (rfl)
@[simp] theorem u123 : fin as ρ (.rt d ds) = finK (putAll as ds ρ) d := (rfl)
@[simp] theorem u124 : fin as ρ (.ex e ds) = finX (putAll as ds ρ) e := (rfl)
@[simp] theorem u125 : finK (some ρ) d = .ok d ρ := (rfl)
@[simp] theorem u126 : finX (some ρ) e = .ex e ρ := (rfl)
@[simp] theorem u127 : putAll [] [] ρ = some ρ := (rfl)
@[simp] theorem u128 : putAll (.inl a :: as) (d :: ds) ρ = putAll as ds ρ := (rfl)
@[simp] theorem u129 : putAll (.inr i :: as) (d :: ds) ρ = ptS i (ρ[i]?) d as ds ρ := by
  unfold ptS
  show (if isHole ρ i = true then _ else _) = _
  unfold isHole
  rcases ρ[i]? with _ | _ | d <;> rfl
@[simp] theorem u130 : ptS i (some none) d as ds ρ = putAll as ds (ρ.set i (some d)) := (rfl)
theorem u131 : Se.fnOf k B m ds = bkK (m (startE k ds)) B ds := rfl
@[simp] theorem u132 : bkK (.rt d ρ) B ds = bkR (back B ρ 0 ds) d := (rfl)
@[simp] theorem u133 : bkK (.nx ρ) B ds = bkR (back B ρ 0 ds) .non := (rfl)
@[simp] theorem u134 : bkK (.ex e ρ) B ds = bkX (back B ρ 0 ds) e := (rfl)
@[simp] theorem u135 : bkR (some ds) d = .rt d ds := (rfl)
@[simp] theorem u136 : bkX (some ds) e = .ex e ds := (rfl)
@[simp] theorem u137 {gm : GM} {p : Env → Option (Nat × List Sel)} : eMutQ gm p fs ρ = mutQ gm (p ρ) (fs ρ) ρ := by
  unfold eMutQ mutQ
  rcases p ρ with _ | ⟨i, π⟩
  · rfl
  · rcases fs ρ with _ | ys
    · dsimp only
      generalize ρ[i]? = x
      rcases x with _ | _ | d
      · rfl
      · rfl
      · cases hg : getP d π <;> simp [hg]
    · dsimp only
      unfold mutK
      generalize ρ[i]? = x
      rcases x with _ | _ | d
      · rfl
      · rfl
      · simp only [Option.join_some]
        cases hg : getP d π with
        | none => rfl
        | some l => (try dsimp only) <;> (split <;> rfl)
@[simp] theorem u138 {gm : GM} {π : List Sel} : mutQ gm (some (i, π)) (some ds) ρ = mutK gm ds i π ρ (ρ[i]?) := (rfl)
@[simp] theorem u139 : pVar i ρ = some (i, []) := (rfl)
@[simp] theorem u140 {me : M D} {p : Env → Option (Nat × List Sel)} {fk : Env → Option D} : sSet me p fk ρ = setK (me ρ) p fk := (rfl)
@[simp] theorem u141 {p : Env → Option (Nat × List Sel)} {fk : Env → Option D} : setK (.ok d ρ) p fk = setC d ρ (p ρ) (fk ρ) := by
  show (match p ρ, fk ρ with
    | some (i, π), some (.int k) => (match (ρ[i]?).join with
      | some d' => match updP d' π (leafSet k d) with
        | some d' => SR.nx (ρ.set i (some d'))
        | none => .bad
      | none => .bad)
    | _, _ => .bad) = setC d ρ (p ρ) (fk ρ)
  generalize p ρ = y
  generalize fk ρ = q
  unfold setC
  rcases y with _ | ⟨i, π⟩
  · rcases q with _ | q
    · rfl
    · cases q <;> rfl
  · rcases q with _ | q
    · rfl
    · cases q with
      | int k =>
        dsimp only
        unfold setB setA
        generalize ρ[i]? = x
        rcases x with _ | _ | x
        · rfl
        · rfl
        · rfl
      | _ => rfl
@[simp] theorem u142 {π : List Sel} {j : Int} : setC d ρ (some (i, π)) (some (.int j)) = setB d ρ i π j (ρ[i]?) := (rfl)
@[simp] theorem u143 {π : List Sel} {j : Int} : setB d ρ i π j (some (some a)) = setA i ρ (updP a π (leafSet j d)) := (rfl)
@[simp] theorem u144 : setA i ρ (some d) = .nx (ρ.set i (some d)) := (rfl)
@[simp] theorem u145 {c : Addr} {ns : List Str} : sRaise c ns ms ρ = raiseK c ns (ms ρ) := (rfl)
@[simp] theorem u146 {c : Addr} {ns : List Str} : raiseK c ns (.ok ds ρ) = if fzL ds = true ∧ ds.length = ns.length then .ex ⟨c, ns.reverse, ds.reverse⟩ ρ else .bad := (rfl)
end
/-! operations -/
section
variable {i j : Int} {x y : List Nat} {ds es : List D} {b c : Bool} {d : D}
@[simp] theorem g1 : gAdd (.int i) (.int j) = some (.int (i + j)) := (rfl)
@[simp] theorem g2 : gAdd (.str x) (.str y) = if x.length + y.length ≤ sizeLine then some (.str (x ++ y)) else none := (rfl)
@[simp] theorem g3 : gSub (.int i) (.int j) = some (.int (i - j)) := (rfl)
@[simp] theorem g4 : gMulA (.int i) (.int j) = if CMulA i j then some (.int (i * j)) else none := (rfl)
@[simp] theorem g5 : gDiv (.int i) (.int j) = if CDiv i j ∨ CDivW i j then some (.int (i / j)) else none := (rfl)
@[simp] theorem g6 : gMod (.int i) (.int j) = if 0 < j then some (.int (i % j)) else none := (rfl)
@[simp] theorem g7 {p : Int → Int → Bool} : gCmp p (.int i) (.int j) = some (.bl (p i j)) := (rfl)
@[simp] theorem g8 : gEq (.int i) (.int j) = some (.bl (decide (i = j))) := by simp [gEq, eqD, scD, scal]
@[simp] theorem g9 : gNe (.int i) (.int j) = some (.bl (!decide (i = j))) := by simp [gNe, eqD, scD, scal]
theorem sx_iff {x y : List Nat} : sx x = sx y ↔ x = y := ⟨sx_inj, fun h => by rw [h]⟩
@[simp] theorem g10 : gEq (.str x) (.str y) = some (.bl (decide (x = y))) := by simp [gEq, eqD, scD, scal, sx_iff]
@[simp] theorem g11 : gNe (.str x) (.str y) = some (.bl (!decide (x = y))) := by simp [gNe, eqD, scD, scal, sx_iff]
@[simp] theorem g12 {k : Nat} : gIn (.str [k]) (.str y) = some (.bl (decide (k ∈ y))) := (rfl)
@[simp] theorem g13 {k : Nat} : gNin (.str [k]) (.str y) = some (.bl (!decide (k ∈ y))) := (rfl)
@[simp] theorem g14 : gLen [.str x] = if x.length ≤ sizeLine then some (.int x.length) else none := (rfl)
@[simp] theorem g15 : gLen [.lst b ds] = some (.int ds.length) := (rfl)
@[simp] theorem g16 : gLen [.tup ds] = some (.int ds.length) := (rfl)
@[simp] theorem g17 : gInt [.int i] = some (.int i) := (rfl)
@[simp] theorem g18 : gInt [.bl b] = some (.int (if b then 1 else 0)) := (rfl)
@[simp] theorem g19 : gAbs [.int i] = some (.int (if i < 0 then -i else i)) := (rfl)
@[simp] theorem g20 : gTup [.lst b ds] = if fzL ds = true then some (.tup ds) else none := (rfl)
@[simp] theorem g21 : gTup [.tup ds] = if fzL ds = true then some (.tup ds) else none := (rfl)
@[simp] theorem g22 : ixv (.lst b ds) (.int i) = ixD ds i := (rfl)
@[simp] theorem g23 : ixv (.tup ds) (.int i) = ixD ds i := (rfl)
@[simp] theorem g24 : ixv (.str x) (.int i) = if x.length ≤ sizeLine then (ixD x i).map fun c => .str [c] else none := (rfl)
@[simp] theorem g25 : gAdd (.lst b ds) (.lst c es) = if fzL ds = true ∧ fzL es = true ∧ ds.length + es.length ≤ sizeLine then some (.lst true (ds ++ es)) else none := (rfl)
@[simp] theorem z1 : fz (.int i) = true := (rfl)
@[simp] theorem z2 : fz (.str x) = true := (rfl)
@[simp] theorem z3 : fz (.bl b) = true := (rfl)
@[simp] theorem z4 : fz .non = true := (rfl)
@[simp] theorem z5 : fz (.tup ds) = fzL ds := (rfl)
@[simp] theorem z6 : fz (.lst true ds) = false := (rfl)
@[simp] theorem z7 : fz (.lst false ds) = true := (rfl)
@[simp] theorem z8 : fzL [] = true := (rfl)
@[simp] theorem z9 : fzL (d :: ds) = (fz d && fzL ds) := (rfl)
@[simp] theorem z10 : frz (.int i) = .int i := (rfl)
@[simp] theorem z11 : frz (.str x) = .str x := (rfl)
@[simp] theorem z12 : frz (.lst b ds) = .lst false (frzL ds) := (rfl)
@[simp] theorem z13 : frz (.tup ds) = .tup (frzL ds) := (rfl)
@[simp] theorem z14 : frzL [] = [] := (rfl)
@[simp] theorem z15 : frzL (d :: ds) = frz d :: frzL ds := (rfl)
@[simp] theorem z16 : ne (.int i) = true := (rfl)
@[simp] theorem z17 : ne (.str x) = true := (rfl)
@[simp] theorem z18 : ne (.bl b) = true := (rfl)
@[simp] theorem z19 : ne (.lst b ds) = neL ds := (rfl)
@[simp] theorem z20 : ne (.tup ds) = neL ds := (rfl)
@[simp] theorem z21 : neL [] = true := (rfl)
@[simp] theorem z22 : neL (d :: ds) = (ne d && neL ds) := (rfl)
@[simp] theorem z23 : frz (.bl b) = .bl b := (rfl)
@[simp] theorem z24 : ne .non = true := (rfl)
@[simp] theorem t1 : truD (.bl b) = some b := (rfl)
@[simp] theorem t2 : truD (.int i) = some (i != 0) := (rfl)
@[simp] theorem t3 : truD (.lst b ds) = some (!ds.isEmpty) := (rfl)
end
/-! paths, changes, what is given back -/
def pxK (p : Option (Nat × List Sel)) (x : Option D) : Option (Nat × List Sel) := p.bind fun q => match x with
  | some (.int k) => some (q.1, q.2 ++ [.ix k])
  | _ => none
def bk1 (B : List Nat) (ρ : Env) (k : Nat) (ds : List D) (x : Option D) : Option (List D) := x.bind fun d => (back B ρ (k + 1) ds).map fun r => d :: r
def bk2 (d : D) (x : Option (List D)) : Option (List D) := x.map fun r => d :: r
section
variable {ρ : Env} {i k : Nat} {π : List Sel} {p : Env → Option (Nat × List Sel)} {f : Env → Option D} {j : Int} {d l : D} {ds ys : List D} {B : List Nat} {gm : GM} {b : Bool}
@[simp] theorem w1 : pIx p f ρ = pxK (p ρ) (f ρ) := (rfl)
@[simp] theorem w02 : pxK (some (i, π)) (some (.int j)) = some (i, π ++ [.ix j]) := (rfl)
@[simp] theorem w3 : back B ρ k [] = some [] := (rfl)
@[simp] theorem w4 : back B ρ k (d :: ds) = bk1 B ρ k ds (if k ∈ B then (ρ[k]?).join else if fz d = true then some d else none) := (rfl)
@[simp] theorem w5 : bk1 B ρ k ds (some d) = bk2 d (back B ρ (k + 1) ds) := (rfl)
@[simp] theorem w6 : bk2 d (some ds) = some (d :: ds) := (rfl)
@[simp] theorem w7 : isOwnL (.lst true ds) = true := (rfl)
@[simp] theorem w8 : getP d [] = some d := getP_nil d
@[simp] theorem w9 : getP (.lst true ds) (.ix j :: π) = (nrm ds.length j).bind fun j => (ds[j]?).bind fun x => getP x π := (rfl)
@[simp] theorem w10 {fn : D → Option D} : updP d [] fn = fn d := by cases d <;> rfl
@[simp] theorem w11 {fn : D → Option D} : updP (.lst true ds) (.ix j :: π) fn = (nrm ds.length j).bind fun j => (ds[j]?).bind fun x => (updP x π fn).map fun y => .lst true (ds.set j y) := (rfl)
@[simp] theorem w12 : leafM gm ys (.lst true ds) = (gm ds ys).map fun p => .lst true p.1 := (rfl)
@[simp] theorem w13 : valM gm ys (.lst true ds) = (gm ds ys).map fun p => p.2 := (rfl)
@[simp] theorem w14 : leafSet j d (.lst true ds) = (nrm ds.length j).map fun j => .lst true (ds.set j d) := (rfl)
@[simp] theorem w15 : gmAppend ds [d] = if ds.length < sizeLine then some (ds ++ [d], .non) else none := (rfl)
@[simp] theorem w16 : gmPopAt ds [.int j] = if -(2 ^ 63) ≤ j ∧ j < 2 ^ 63 then (nrm ds.length j).bind fun j => (ds[j]?).map fun x => (ds.eraseIdx j, x) else none := (rfl)
@[simp] theorem w17 : mutK gm ys i π ρ (some (some d)) = (match getP d π with
    | some l => if isOwnL l = true ∧ fzL ys = true then mutA i ρ (updP d π (leafM gm ys)) (valM gm ys l) else .bad
    | none => .bad) := by
  unfold mutK mutA
  dsimp only
@[simp] theorem w18 {v : D} : mutA i ρ (some d) (some v) = .ok v (ρ.set i (some d)) := (rfl)
end
theorem szl : sizeLine = 16777216 := sizeLine_eq
end Se

/-! loops by what stays true; small facts for plain laws -/
namespace Se
open PySem L2

theorem forF_inv {f : D → Env → Option Env} {m : MS} (I : Nat → Env → Prop) : ∀ (ds : List D) (k : Nat) (ρ : Env), I k ρ → (∀ i d ρ, ds[i]? = some d → I (k + i) ρ → ∃ ρ1 ρ2, f d ρ = some ρ1 ∧ (m ρ1 = .nx ρ2 ∨ m ρ1 = .ct ρ2) ∧ I (k + i + 1) ρ2) → ∃ ρ', forF f m ds ρ = .nx ρ' ∧ I (k + ds.length) ρ'
  | [], k, ρ, h, _ => ⟨ρ, rfl, h⟩
  | d :: ds, k, ρ, h, st => by
    obtain ⟨ρ1, ρ2, h1, h2, h3⟩ := st 0 d ρ rfl h
    obtain ⟨ρ', h4, h5⟩ := forF_inv I ds (k + 1) ρ2 h3 fun i d' ρ0 hd hi => by
      have e : k + 1 + i = k + (i + 1) := by omega
      rw [e] at hi ⊢
      exact st (i + 1) d' ρ0 hd hi
    refine ⟨ρ', ?_, by rw [List.length_cons]; rw [show k + (ds.length + 1) = k + 1 + ds.length by omega]; exact h5⟩
    unfold forF
    rw [h1]
    dsimp only
    rcases h2 with h2 | h2 <;> rw [h2] <;> exact h4
/-- over range(lo, lo + n) -/
theorem forF_range {f : D → Env → Option Env} {m : MS} (I : Nat → Env → Prop) {lo : Int} {n : Nat} {ρ : Env} (h0 : I 0 ρ) (st : ∀ i ρ, i < n → I i ρ → ∃ ρ1 ρ2, f (.int (lo + i)) ρ = some ρ1 ∧ (m ρ1 = .nx ρ2 ∨ m ρ1 = .ct ρ2) ∧ I (i + 1) ρ2) :
    ∃ ρ', forF f m (rgD lo n) ρ = .nx ρ' ∧ I n ρ' := by
  obtain ⟨ρ', h1, h2⟩ := forF_inv (f := f) (m := m) I (rgD lo n) 0 ρ h0 fun i d ρ hd hi => by
    obtain ⟨hlt, rfl⟩ := rgD_get hd
    rw [Nat.zero_add] at hi ⊢
    exact st i ρ hlt hi
  rw [Nat.zero_add, rgD_len] at h2
  exact ⟨ρ', h1, h2⟩
theorem whileF_inv {mc : M Bool} {m : MS} (I : Nat → Env → Prop) : ∀ (n k : Nat) (ρ : Env), n < k → I n ρ → (∀ n ρ, I n ρ → (∃ ρ1, mc ρ = .ok false ρ1 ∧ I 0 ρ1) ∨ ∃ ρ1 ρ2 n', mc ρ = .ok true ρ1 ∧ (m ρ1 = .nx ρ2 ∨ m ρ1 = .ct ρ2) ∧ n' < n ∧ I n' ρ2) → ∃ ρ', whileF mc m k ρ = .nx ρ' ∧ I 0 ρ'
  | n, 0, ρ, hk, _, _ => absurd hk (Nat.not_lt_zero _)
  | n, k + 1, ρ, hk, h, st => by
    rcases st n ρ h with ⟨ρ1, h1, h2⟩ | ⟨ρ1, ρ2, n', h1, h2, h3, h4⟩
    · exact ⟨ρ1, by unfold whileF; rw [h1]; rfl, h2⟩
    · obtain ⟨ρ', h5, h6⟩ := whileF_inv I n' k ρ2 (by omega) h4 st
      refine ⟨ρ', ?_, h6⟩
      unfold whileF
      rw [h1]
      dsimp only
      rw [if_pos rfl]
      rcases h2 with h2 | h2 <;> rw [h2] <;> exact h5
@[simp] theorem x1 {mc : M Bool} {m : MS} {ρ : Env} : sWhile mc m ρ = whileF mc m wF ρ := (rfl)
@[simp] theorem x2 {i : Nat} {d : D} {ρ : Env} : fName i d ρ = if i < ρ.length then some (ρ.set i (some d)) else none := (rfl)
theorem cm7 {i j : Int} (h1 : -(2 ^ 64) < j) (h2 : j < 2 ^ 64) : CMulA i j := .inl (.inr ⟨h1, h2⟩)
theorem cm8 {i j : Int} (h1 : -(2 ^ 64) < i) (h2 : i < 2 ^ 64) : CMulA i j := .inl (.inl ⟨h1, h2⟩)
theorem fzL_ints (l : List Int) : fzL (l.map D.int) = true := by induction l <;> simp_all
theorem neL_ints (l : List Int) : neL (l.map D.int) = true := by induction l <;> simp_all
theorem fzL_strs (l : List (List Nat)) : fzL (l.map D.str) = true := by induction l <;> simp_all
theorem neL_strs (l : List (List Nat)) : neL (l.map D.str) = true := by induction l <;> simp_all
theorem strsD_map (l : List (List Nat)) : strsD (l.map D.str) = some l := by
  induction l with
  | nil => rfl
  | cons a l ih => simp [strsD, ih]
theorem frzL_strs (l : List (List Nat)) : frzL (l.map D.str) = l.map D.str := by induction l <;> simp_all
theorem joinL_nil (l : List (List Nat)) : TL.joinL [] l = l.flatten := by
  match l with
  | [] => rfl
  | [p] => simp [TL.joinL]
  | p :: q :: r => simp [TL.joinL, joinL_nil (q :: r)]
/-! x.m(e) with effects, comprehensions -/
def mE2 (g : GM) (ms : M (List D)) (i : Nat) (π : List Sel) (ρ : Env) (x : Option (Option D)) : RE D := match x with
  | some (some d) => (match getP d π with
    | some l => if isOwnL l = true then mutF g i π d l (ms (ρ.set i none)) else .bad
    | none => .bad)
  | _ => .bad
def mE3 (g : GM) (ms : M (List D)) (i : Nat) (π : List Sel) (ρ : Env) (d : D) (y : Option D) : RE D := match y with
  | some l => if isOwnL l = true then mutF g i π d l (ms (ρ.set i none)) else .bad
  | none => .bad
section
variable {g : GM} {ms : M (List D)} {p : Env → Option (Nat × List Sel)} {ρ : Env} {i : Nat} {π : List Sel} {d l v : D} {ys ds : List D} {e : EX}
@[simp] theorem x3 : eMut g p ms ρ = mutE g ms (p ρ) ρ := (rfl)
@[simp] theorem x4 : mutE g ms (some (i, π)) ρ = mE2 g ms i π ρ (ρ[i]?) := by
  unfold mutE mE2
  dsimp only
  generalize ρ[i]? = x
  rcases x with _ | _ | d
  · rfl
  · rfl
  · simp only [Option.join_some]
    cases hg : getP d π <;> rfl
@[simp] theorem x5 : mE2 g ms i π ρ (some (some d)) = mE3 g ms i π ρ d (getP d π) := (rfl)
@[simp] theorem x6 : mE3 g ms i π ρ d (some l) = if isOwnL l = true then mutF g i π d l (ms (ρ.set i none)) else .bad := (rfl)
@[simp] theorem x7 : mutF g i π d l (.ok ys ρ) = mutG i ρ (ρ[i]?) (updP d π (leafM g ys)) (valM g ys l) := by
  unfold mutF mutG
  show (match ρ[i]?, updP d π (leafM g ys), valM g ys l with
    | some none, some d', some v => RE.ok v (ρ.set i (some d'))
    | _, _, _ => .bad) = _
  rcases ρ[i]? with _ | _ | x <;> rcases updP d π (leafM g ys) with _ | y <;> rcases valM g ys l with _ | z <;> rfl
@[simp] theorem x8 : mutG i ρ (some none) (some d) (some v) = .ok v (ρ.set i (some d)) := (rfl)
def lcE (vs : List Nat) (x : Option (List D × Env)) : RE D := match x with
  | some (acc, ρ) => .ok (.lst true acc) (wipeE ρ vs)
  | none => .bad
def lcK (vs : List Nat) (f : D → Env → Option Env) (mt : M Bool) (me : M D) (r : RE (List D)) : RE D := match r with
  | .ok ds ρ => lcE vs (compF vs f mt me ds [] ρ)
  | .ex e ρ => .ex e ρ
  | .bad => .bad
variable {vs : List Nat} {mi : M (List D)} {f : D → Env → Option Env} {mt : M Bool} {me : M D}
@[simp] theorem x9 : eLc vs mi f mt me ρ = lcK vs f mt me (mi ρ) := by
  unfold eLc lcK lcE
  cases mi ρ with
  | ok ds ρ1 =>
    (try dsimp only) <;> (rcases compF vs f mt me ds [] ρ1 with _ | ⟨a, b⟩ <;> rfl)
  | ex e ρ1 => rfl
  | bad => rfl
@[simp] theorem x10 : lcK vs f mt me (.ok ds ρ) = lcE vs (compF vs f mt me ds [] ρ) := (rfl)
@[simp] theorem x11 : lcE vs (some (ds, ρ)) = .ok (.lst true ds) (wipeE ρ vs) := (rfl)
@[simp] theorem x12 : wipeE ρ [] = ρ := (rfl)
@[simp] theorem x13 {j : Nat} {js : List Nat} : wipeE ρ (j :: js) = (wipeE ρ js).set j none := (rfl)
theorem compF_inv (I : Nat → List D → Env → Prop) : ∀ (ds : List D) (k : Nat) (acc : List D) (ρ : Env), I k acc ρ → acc.length + ds.length ≤ sizeLine →
    (∀ i d acc ρ, ds[i]? = some d → I (k + i) acc ρ → ∃ ρ1 ρ2 y, f d (wipeE ρ vs) = some ρ1 ∧ me ρ1 = .ok y ρ2 ∧ I (k + i + 1) (acc ++ [y]) ρ2) → ∃ acc' ρ', compF vs f tTrue me ds acc ρ = some (acc', ρ') ∧ I (k + ds.length) acc' ρ'
  | [], k, acc, ρ, h, _, _ => ⟨acc, ρ, rfl, h⟩
  | d :: ds, k, acc, ρ, h, hz, st => by
    obtain ⟨ρ1, ρ2, y, h1, h2, h3⟩ := st 0 d acc ρ rfl h
    rw [List.length_cons] at hz
    obtain ⟨acc', ρ', h4, h5⟩ := compF_inv I ds (k + 1) (acc ++ [y]) ρ2 h3 (by rw [List.length_append, List.length_singleton]; omega) fun i d' acc0 ρ0 hd hi => by
      have e : k + 1 + i = k + (i + 1) := by omega
      rw [e] at hi ⊢
      exact st (i + 1) d' acc0 ρ0 hd hi
    refine ⟨acc', ρ', ?_, by rw [List.length_cons]; rw [show k + (ds.length + 1) = k + 1 + ds.length by omega]; exact h5⟩
    unfold compF
    rw [h1]
    dsimp only [tTrue]
    rw [if_pos rfl, h2]
    dsimp only
    rw [if_pos (by omega)]
    exact h4
end
theorem strsD_chars (l : List Nat) : strsD (l.map fun c => D.str [c]) = some (l.map fun c => [c]) := by
  have := strsD_map (l.map fun c => [c])
  rwa [List.map_map] at this
theorem flat_chars (l : List Nat) : (l.map fun c => [c]).flatten = l := by induction l <;> simp_all
theorem gJoin_chars {b : Bool} {l : List Nat} (h : l.length ≤ 16777216) : gJoin [] (.lst b (l.map fun c => .str [c])) = some (.str l) := by
  have e : ((l.map fun c => [c]).map (·.length)).sum = l.length := by clear h; induction l <;> simp_all; omega
  show joinD [] _ = _
  unfold joinD
  rw [strsD_chars, Option.bind_some, e]
  simp [h, joinL_nil, flat_chars]
theorem gJoin_strs {b : Bool} {l : List (List Nat)} (h : l.flatten.length ≤ 16777216) : gJoin [] (.lst b (l.map .str)) = some (.str l.flatten) := by
  have e : (l.map (·.length)).sum = l.flatten.length := by rw [List.length_flatten]
  show joinD [] _ = _
  unfold joinD
  rw [strsD_map, Option.bind_some, if_pos (by rw [e]; simpa using h), joinL_nil]
end Se

/-! try, the handled exception, isinstance: rules by which simp reckons -/
namespace Se
open PySem L2
def tryX (i : Nat) (b : Option Bool) (e : EX) (ms : MS) (ρ : Env) : SR := match b with
  | some true => if i < ρ.length then outS i (ms (ρ.set i (some (.exc e.cls e.ns e.ds)))) else .bad
  | some false => .ex e ρ
  | none => .bad
def tryK (i : Nat) (mt : Addr → Option Bool) (r : SR) (ms : MS) : SR := match r with
  | .ex e ρ => tryX i (mt e.cls) e ms ρ
  | r => r
def tpK (x : Option (List D)) : Option D := x.bind fun ds => if ds.length ≤ sizeLine ∧ fzL ds = true then some (.tup ds) else none
def xfK (K : PySem.W.Frag) (n : Str) (x : Option D) : Option D := x.bind (xfG K n)
section
variable {i : Nat} {mt : Addr → Option Bool} {mb ms : MS} {ρ : Env} {d : D} {e : EX} {b : Bool} {K : PySem.W.Frag} {c : Addr} {ns : List Str} {ds : List D} {n : Str} {t : Value}
@[simp] theorem v1 : sTry i mt mb ms ρ = tryK i mt (mb ρ) ms := by
  unfold sTry tryK tryX
  cases mb ρ with
  | ex e ρ1 => (try dsimp only) <;> (rcases mt e.cls with _ | _ | _ <;> rfl)
  | _ => rfl
@[simp] theorem v2 : tryK i mt (.nx ρ) ms = .nx ρ := (rfl)
@[simp] theorem v3 : tryK i mt (.rt d ρ) ms = .rt d ρ := (rfl)
@[simp] theorem v4 : tryK i mt (.ex e ρ) ms = tryX i (mt e.cls) e ms ρ := (rfl)
@[simp] theorem v5 : tryX i (some true) e ms ρ = if i < ρ.length then outS i (ms (ρ.set i (some (.exc e.cls e.ns e.ds)))) else .bad := (rfl)
@[simp] theorem v6 : tryX i (some false) e ms ρ = .ex e ρ := (rfl)
@[simp] theorem v7 : outS i (.nx ρ) = if neE (ρ.set i none) = true then .nx (ρ.set i none) else .bad := (rfl)
@[simp] theorem v8 : outS i (.rt d ρ) = if neE (ρ.set i none) = true ∧ ne d = true then .rt d (ρ.set i none) else .bad := (rfl)
@[simp] theorem v9 : neE [] = true := (rfl)
@[simp] theorem v10 : neE (none :: ρ) = neE ρ := (rfl)
@[simp] theorem v11 : neE (some d :: ρ) = (ne d && neE ρ) := (rfl)
@[simp] theorem v12 : vXf K n i ρ = xfK K n (ρ[i]?).join := (rfl)
@[simp] theorem v13 : xfK K n (some (.exc c ns ds)) = if xfD K c n = true ∧ fzL ds = true then (ns.zip ds).lookup n else none := (rfl)
@[simp] theorem v14 {y : D} : gIsX K [.exc c ns ds, y] = if excB K c = true then (isK K (.ref c) y).map D.bl else none := (rfl)
@[simp] theorem v15 {a : Addr} : isK K t (.obj a) = PySem.W.kitOne K t (.ref a) := (rfl)
@[simp] theorem v16 {x : String} : isK K t (.ty x) = PySem.W.kitOne K t (.type x) := (rfl)
@[simp] theorem v17 : isK K t (.tup ds) = (clsD ds).bind fun us => PySem.W.kitAny K t us := (rfl)
@[simp] theorem v18 : clsD [] = some [] := (rfl)
@[simp] theorem v19 : clsD (d :: ds) = (clD d).bind fun c => (clsD ds).map fun cs => c :: cs := (rfl)
@[simp] theorem v20 {a : Addr} : clD (.obj a) = some (.ref a) := (rfl)
@[simp] theorem v21 {x : String} : clD (.ty x) = some (.type x) := (rfl)
@[simp] theorem v22 : PySem.W.kitAny K t [] = some false := (rfl)
theorem kia_f {c : Value} {r : List Value} (h : PySem.W.kitOne K t c = some false) : PySem.W.kitAny K t (c :: r) = PySem.W.kitAny K t r := by
  show (match PySem.W.kitOne K t c with
    | some true => some true
    | some false => PySem.W.kitAny K t r
    | none => none) = _
  rw [h]
theorem kia_t {c : Value} {r : List Value} (h : PySem.W.kitOne K t c = some true) : PySem.W.kitAny K t (c :: r) = some true := by
  show (match PySem.W.kitOne K t c with
    | some true => some true
    | some false => PySem.W.kitAny K t r
    | none => none) = _
  rw [h]
@[simp] theorem v23 : fz (.exc c ns ds) = true := (rfl)
@[simp] theorem v24 : fz (.obj c) = true := (rfl)
@[simp] theorem v26 {fs : Env → Option (List D)} : vTup fs ρ = tpK (fs ρ) := (rfl)
@[simp] theorem v27 : tpK (some ds) = if ds.length ≤ sizeLine ∧ fzL ds = true then some (.tup ds) else none := (rfl)
@[simp] theorem v25 {x : String} : fz (.ty x) = true := (rfl)
theorem rg1_of {j : Int} (h0 : -4611686018427387904 < j) (h1 : j < 4611686018427387904) : rg1 [.int j] = some (rgD 0 j.toNat) := if_pos (w62_of h0 h1)
theorem rg1_nat {n : Nat} (h : n ≤ 1000000000) : rg1 [.int n] = some (rgD 0 n) := by
  rw [rg1_of (by omega) (by omega)]
  simp
theorem rg2_of {i j : Int} (h0 : -4611686018427387904 < i) (h1 : i < 4611686018427387904) (h2 : -4611686018427387904 < j) (h3 : j < 4611686018427387904) : rg2 [.int i, .int j] = some (rgD i (j - i).toNat) := if_pos ⟨w62_of h0 h1, w62_of h2 h3⟩
theorem cutL_take {α : Type} {xs : List α} {k : Nat} : cutL xs none (some (k : Int)) = xs.take k := by
  unfold cutL
  rw [HT.sIx_none, HT.sIx_nat, List.drop_zero, Nat.sub_zero]
  by_cases h : k ≤ xs.length
  · rw [Nat.min_eq_left h]
  · rw [Nat.min_eq_right (by omega), List.take_length, List.take_of_length_le (by omega)]
theorem cutL_drop {α : Type} {xs : List α} {k : Nat} : cutL xs (some (k : Int)) none = xs.drop k := by
  unfold cutL
  rw [HT.sIx_none, HT.sIx_nat]
  by_cases h : k ≤ xs.length
  · rw [Nat.min_eq_left h, List.take_of_length_le (by rw [List.length_drop]; omega)]
  · rw [Nat.min_eq_right (by omega), List.drop_length, List.drop_of_length_le (by omega), List.take_nil]
theorem cutL_range {α : Type} {xs : List α} {i j : Nat} (h : i ≤ j) : cutL xs (some (i : Int)) (some (j : Int)) = (xs.drop i).take (j - i) := by
  unfold cutL
  rw [HT.sIx_nat, HT.sIx_nat]
  by_cases h1 : i ≤ xs.length
  · rw [Nat.min_eq_left h1]
    by_cases h2 : j ≤ xs.length
    · rw [Nat.min_eq_left h2]
    · rw [Nat.min_eq_right (by omega), List.take_of_length_le (by rw [List.length_drop]; omega), List.take_of_length_le (by rw [List.length_drop]; omega)]
  · rw [Nat.min_eq_right (show xs.length ≤ i by omega), Nat.min_eq_right (show xs.length ≤ j by omega), List.drop_length, List.drop_of_length_le (show xs.length ≤ i by omega), List.take_nil, List.take_nil]
theorem gMulA_str {x : List Nat} {k : Int} (h1 : -9223372036854775808 ≤ k) (h2 : k < 9223372036854775808) (h3 : x.length * k.toNat ≤ 16777216) : gMulA (.str x) (.int k) = some (.str (repD k.toNat x)) := by
  simp [gMulA, h1, h2, h3, szl]
end
end Se

namespace K02
open PySem L2 Se
abbrev top (i : Nat) : Stmt := PySem.Challenge.pw_anysizes_k02_tokens_of.main.body.getD i (.Pass ⟨0, 0, 0, 0⟩)
abbrev inC (i j : Nat) : Stmt := (clsB (top i)).getD j (.Pass ⟨0, 0, 0, 0⟩)
abbrev s__law_start : Stmt := top 18
theorem sc__law_start : FnScope ["script", "salt", "great", "cell"] ["script"] (defScope s__law_start) := ⟨rfl, rfl, rfl, by decide +kernel, rfl, by decide +kernel, by decide +kernel⟩
abbrev s__law_next : Stmt := top 19
theorem sc__law_next : FnScope ["store", "many", "mixed", "digit"] ["store", "many"] (defScope s__law_next) := ⟨rfl, rfl, rfl, by decide +kernel, rfl, by decide +kernel, by decide +kernel⟩
abbrev s__law_odd : Stmt := top 21
theorem sc__law_odd : FnScope ["store", "odd"] ["store"] (defScope s__law_odd) := ⟨rfl, rfl, rfl, by decide +kernel, rfl, by decide +kernel, by decide +kernel⟩
abbrev s__law_gap : Stmt := top 22
theorem sc__law_gap : FnScope ["store", "needed", "pick", "remark", "k"] ["store", "needed"] (defScope s__law_gap) := ⟨rfl, rfl, rfl, by decide +kernel, rfl, by decide +kernel, by decide +kernel⟩
abbrev s__law_word : Stmt := top 20
theorem sc__law_word : FnScope ["store", "many", "letters", "signs", "k"] ["store", "many"] (defScope s__law_word) := ⟨rfl, rfl, rfl, by decide +kernel, rfl, by decide +kernel, by decide +kernel⟩
abbrev s__law_pieces : Stmt := top 23
theorem sc__law_pieces : FnScope ["store", "kept", "pieces", "ahead", "flat", "k", "pick", "gap", "token"] ["store"] (defScope s__law_pieces) := ⟨rfl, rfl, rfl, by decide +kernel, rfl, by decide +kernel, by decide +kernel⟩
abbrev s__law_read : Stmt := top 24
theorem sc__law_read : FnScope ["source", "letters", "tokens", "row", "begin", "at", "sign", "behind"] ["source"] (defScope s__law_read) := ⟨rfl, rfl, rfl, by decide +kernel, rfl, by decide +kernel, by decide +kernel⟩
abbrev s__law_string : Stmt := top 26
theorem sc__law_string : FnScope ["got", "due"] ["got", "due"] (defScope s__law_string) := ⟨rfl, rfl, rfl, by decide +kernel, rfl, by decide +kernel, by decide +kernel⟩
abbrev s__law_number : Stmt := top 25
theorem sc__law_number : FnScope ["got", "due"] ["got", "due"] (defScope s__law_number) := ⟨rfl, rfl, rfl, by decide +kernel, rfl, by decide +kernel, by decide +kernel⟩
abbrev s__law_alike : Stmt := top 27
theorem sc__law_alike : FnScope ["got", "due", "k", "token"] ["got", "due"] (defScope s__law_alike) := ⟨rfl, rfl, rfl, by decide +kernel, rfl, by decide +kernel, by decide +kernel⟩
abbrev s_end_of : Stmt := top 13
theorem sc_end_of : FnScope ["line", "place", "signs"] ["line", "place", "signs"] (defScope s_end_of) := ⟨rfl, rfl, rfl, by decide +kernel, rfl, by decide +kernel, by decide +kernel⟩
abbrev s_token_at : Stmt := top 14
theorem sc_token_at : FnScope ["number", "line", "place", "end"] ["number", "line", "place"] (defScope s_token_at) := ⟨rfl, rfl, rfl, by decide +kernel, rfl, by decide +kernel, by decide +kernel⟩
abbrev s_line_tokens : Stmt := top 15
theorem sc_line_tokens : FnScope ["number", "line", "found", "place", "token"] ["number", "line"] (defScope s_line_tokens) := ⟨rfl, rfl, rfl, by decide +kernel, rfl, by decide +kernel, by decide +kernel⟩
abbrev s_tokens_of : Stmt := top 16
theorem sc_tokens_of : FnScope ["text", "found", "at", "line"] ["text"] (defScope s_tokens_of) := ⟨rfl, rfl, rfl, by decide +kernel, rfl, by decide +kernel, by decide +kernel⟩
abbrev s__law_asked : Stmt := top 28
theorem sc__law_asked : FnScope ["source", "due", "named", "e", "got"] ["source", "due", "named"] (defScope s__law_asked) := ⟨rfl, rfl, rfl, by decide +kernel, rfl, by decide +kernel, by decide +kernel⟩
abbrev s__law_faults : Stmt := top 29
theorem sc__law_faults : FnScope ["store", "pick", "long", "odd", "near"] ["store"] (defScope s__law_faults) := ⟨rfl, rfl, rfl, by decide +kernel, rfl, by decide +kernel, by decide +kernel⟩
abbrev s__law_spoilt : Stmt := top 30
theorem sc__law_spoilt : FnScope ["store", "pieces", "faults", "k", "first", "later", "turn", "source", "due", "place"] ["store", "pieces"] (defScope s__law_spoilt) := ⟨rfl, rfl, rfl, by decide +kernel, rfl, by decide +kernel, by decide +kernel⟩
abbrev s__law_wide : Stmt := top 31
theorem sc__law_wide : FnScope ["store", "unit", "body", "source", "ends"] ["store"] (defScope s__law_wide) := ⟨rfl, rfl, rfl, by decide +kernel, rfl, by decide +kernel, by decide +kernel⟩
abbrev s_law : Stmt := top 32
theorem sc_law : FnScope ["script", "store", "pieces", "source", "due", "at", "mid", "bent", "bare"] ["script"] (defScope s_law) := ⟨rfl, rfl, rfl, by decide +kernel, rfl, by decide +kernel, by decide +kernel⟩
/-- what is asked of the written part -/
structure Z (K : PySem.W.Frag) (mg : Str → Option Value) : Prop where
  c_BadCommand : mg "BadCommand" = some (.ref (He.ga K "BadCommand"))
  c_BadSource : mg "BadSource" = some (.ref (He.ga K "BadSource"))
  c_BadText : mg "BadText" = some (.ref (He.ga K "BadText"))
  c_CallError : mg "CallError" = some (.ref (He.ga K "CallError"))
  c_DataError : mg "DataError" = some (.ref (He.ga K "DataError"))
  c_SizeError : mg "SizeError" = some (.ref (He.ga K "SizeError"))
  c_TextError : mg "TextError" = some (.ref (He.ga K "TextError"))
  g_SIGNS : ∃ t, mg "SIGNS" = some (.str (sx [61, 44, 59, 40, 41, 123, 125]) t)
  g_SMALL_LETTERS : ∃ t, mg "SMALL_LETTERS" = some (.str (sx [97, 98, 99, 100, 101, 102, 103, 104, 105, 106, 107, 108, 109, 110, 111, 112, 113, 114, 115, 116, 117, 118, 119, 120, 121, 122]) t)
  g_TEN_FIGURES : ∃ t, mg "TEN_FIGURES" = some (.str (sx [48, 49, 50, 51, 52, 53, 54, 55, 56, 57]) t)
  g_WORD_MOST : ∃ t, mg "WORD_MOST" = some (.int 12 t)
  n_ValueError : mg "ValueError" = none
  n_abs : mg "abs" = none
  n_bool : mg "bool" = none
  n_enumerate : mg "enumerate" = none
  n_int : mg "int" = none
  n_isinstance : mg "isinstance" = none
  n_len : mg "len" = none
  n_range : mg "range" = none
  n_str : mg "str" = none
  n_tuple : mg "tuple" = none
  d__law_start : ∃ f fd, mg "_law_start" = some (.ref f) ∧ FunD K "_law_start" "_law_start" (defArgs s__law_start) (defBody s__law_start) (defScope s__law_start) [] [] f fd ∧ Binds K fd ["script"] []
  d__law_next : ∃ f fd, mg "_law_next" = some (.ref f) ∧ FunD K "_law_next" "_law_next" (defArgs s__law_next) (defBody s__law_next) (defScope s__law_next) [] [] f fd ∧ Binds K fd ["store", "many"] []
  d__law_odd : ∃ f fd, mg "_law_odd" = some (.ref f) ∧ FunD K "_law_odd" "_law_odd" (defArgs s__law_odd) (defBody s__law_odd) (defScope s__law_odd) [] [] f fd ∧ Binds K fd ["store"] []
  d__law_gap : ∃ f fd, mg "_law_gap" = some (.ref f) ∧ FunD K "_law_gap" "_law_gap" (defArgs s__law_gap) (defBody s__law_gap) (defScope s__law_gap) [] [] f fd ∧ Binds K fd ["store", "needed"] []
  d__law_word : ∃ f fd, mg "_law_word" = some (.ref f) ∧ FunD K "_law_word" "_law_word" (defArgs s__law_word) (defBody s__law_word) (defScope s__law_word) [] [] f fd ∧ Binds K fd ["store", "many"] []
  d__law_pieces : ∃ f fd, mg "_law_pieces" = some (.ref f) ∧ FunD K "_law_pieces" "_law_pieces" (defArgs s__law_pieces) (defBody s__law_pieces) (defScope s__law_pieces) [] [] f fd ∧ Binds K fd ["store"] []
  d__law_read : ∃ f fd, mg "_law_read" = some (.ref f) ∧ FunD K "_law_read" "_law_read" (defArgs s__law_read) (defBody s__law_read) (defScope s__law_read) [] [] f fd ∧ Binds K fd ["source"] []
  d__law_string : ∃ f fd, mg "_law_string" = some (.ref f) ∧ FunD K "_law_string" "_law_string" (defArgs s__law_string) (defBody s__law_string) (defScope s__law_string) [] [] f fd ∧ Binds K fd ["got", "due"] []
  d__law_number : ∃ f fd, mg "_law_number" = some (.ref f) ∧ FunD K "_law_number" "_law_number" (defArgs s__law_number) (defBody s__law_number) (defScope s__law_number) [] [] f fd ∧ Binds K fd ["got", "due"] []
  d__law_alike : ∃ f fd, mg "_law_alike" = some (.ref f) ∧ FunD K "_law_alike" "_law_alike" (defArgs s__law_alike) (defBody s__law_alike) (defScope s__law_alike) [] [] f fd ∧ Binds K fd ["got", "due"] []
  d_end_of : ∃ f fd, mg "end_of" = some (.ref f) ∧ FunD K "end_of" "end_of" (defArgs s_end_of) (defBody s_end_of) (defScope s_end_of) [] [] f fd ∧ Binds K fd ["line", "place", "signs"] []
  d_token_at : ∃ f fd, mg "token_at" = some (.ref f) ∧ FunD K "token_at" "token_at" (defArgs s_token_at) (defBody s_token_at) (defScope s_token_at) [] [] f fd ∧ Binds K fd ["number", "line", "place"] []
  d_line_tokens : ∃ f fd, mg "line_tokens" = some (.ref f) ∧ FunD K "line_tokens" "line_tokens" (defArgs s_line_tokens) (defBody s_line_tokens) (defScope s_line_tokens) [] [] f fd ∧ Binds K fd ["number", "line"] []
  d_tokens_of : ∃ f fd, mg "tokens_of" = some (.ref f) ∧ FunD K "tokens_of" "tokens_of" (defArgs s_tokens_of) (defBody s_tokens_of) (defScope s_tokens_of) [] [] f fd ∧ Binds K fd ["text"] []
  d__law_asked : ∃ f fd, mg "_law_asked" = some (.ref f) ∧ FunD K "_law_asked" "_law_asked" (defArgs s__law_asked) (defBody s__law_asked) (defScope s__law_asked) [] [] f fd ∧ Binds K fd ["source", "due", "named"] []
  d__law_faults : ∃ f fd, mg "_law_faults" = some (.ref f) ∧ FunD K "_law_faults" "_law_faults" (defArgs s__law_faults) (defBody s__law_faults) (defScope s__law_faults) [] [] f fd ∧ Binds K fd ["store"] []
  d__law_spoilt : ∃ f fd, mg "_law_spoilt" = some (.ref f) ∧ FunD K "_law_spoilt" "_law_spoilt" (defArgs s__law_spoilt) (defBody s__law_spoilt) (defScope s__law_spoilt) [] [] f fd ∧ Binds K fd ["store", "pieces"] []
  d__law_wide : ∃ f fd, mg "_law_wide" = some (.ref f) ∧ FunD K "_law_wide" "_law_wide" (defArgs s__law_wide) (defBody s__law_wide) (defScope s__law_wide) [] [] f fd ∧ Binds K fd ["store"] []
  d_law : ∃ f fd, mg "law" = some (.ref f) ∧ FunD K "law" "law" (defArgs s_law) (defBody s_law) (defScope s_law) [] [] f fd ∧ Binds K fd ["script"] []
  i_BadSource : OexC K (He.ga K "BadSource") ∧ (∀ m ∈ (["line", "place", "word"] : List Str), PySem.W.findIn K (.ref (He.ga K "BadSource")) m = some none) ∧ ∃ f fd, PySem.W.findIn K (.ref (He.ga K "BadSource")) "__init__" = some (some (.ref f)) ∧ PySem.W.typeIn K (.ref f) = some (.type "function") ∧ FunD K "__init__" "BadSource.__init__" (defArgs (inC 6 0)) (defBody (inC 6 0)) (defScope (inC 6 0)) [] [] f fd ∧ Binds K fd ["self", "line", "place", "word"] []
  e_BadSource_SizeError : PySem.W.exmOne K (.ref (He.ga K "BadSource")) (.ref (He.ga K "SizeError")) = some true
  k_BadSource_BadCommand : PySem.W.kitOne K (.ref (He.ga K "BadSource")) (.ref (He.ga K "BadCommand")) = some false
  k_BadSource_BadSource : PySem.W.kitOne K (.ref (He.ga K "BadSource")) (.ref (He.ga K "BadSource")) = some true
  k_BadSource_BadText : PySem.W.kitOne K (.ref (He.ga K "BadSource")) (.ref (He.ga K "BadText")) = some false
  k_BadSource_CallError : PySem.W.kitOne K (.ref (He.ga K "BadSource")) (.ref (He.ga K "CallError")) = some false
  k_BadSource_DataError : PySem.W.kitOne K (.ref (He.ga K "BadSource")) (.ref (He.ga K "DataError")) = some false
  k_BadSource_TextError : PySem.W.kitOne K (.ref (He.ga K "BadSource")) (.ref (He.ga K "TextError")) = some true
  k_BadSource_ValueError : PySem.W.kitOne K (.ref (He.ga K "BadSource")) (.type "ValueError") = some true
  t_BadSource_line : xfD K (He.ga K "BadSource") "line" = true
  t_BadSource_place : xfD K (He.ga K "BadSource") "place" = true
  t_BadSource_word : xfD K (He.ga K "BadSource") "word" = true
  b_BadSource : excB K (He.ga K "BadSource") = true

theorem sc_BadSource : FnScope ["self", "line", "place", "word"] ["self", "line", "place", "word"] (defScope (inC 6 0)) := ⟨rfl, rfl, rfl, by decide +kernel, rfl, by decide +kernel, by decide +kernel⟩
theorem fi_BadSource {P : Program} {w : World} {K : PySem.W.Frag} {mg : Str → Option Value} {base : Heap} (z : Z K mg) : FI P w K mg base (He.ga K "BadSource") ["self", "line", "place", "word"] ["line", "place", "word"] := by
  obtain ⟨T, hf, f, fd, h1, h2, F, hb⟩ := z.i_BadSource
  exact ⟨T, f, fd, h1, h2, hb, iniN F sc_BadSource T hf (by decide) rfl fun cdv A outer s H E => ⟨ps_ost (nm (i := 0)) (nm (i := 1)), ps_ost (nm (i := 0)) (nm (i := 2)), ps_ost (nm (i := 0)) (nm (i := 3)), trivial⟩⟩
def b__law_start_1 (K : PySem.W.Frag) : MS := sSeq (sAsg 1 (eV (vOp2 gMod (vOpn gInt (wCons (vOp2 gAdd (vOp2 gMulA (vVar 1) (vLit (.int 4409))) (vVar 3)) (wNil))) (vLit (.int 1000003))))) (sSeq (sIf (Se.tB (eV (vOp2 (gCmp fun i j => decide (i ≥ j)) (vOpn gAbs (wCons (vVar 3) (wNil))) (vOp2 gPow (vLit (.int 10)) (vLit (.int 18)))))) (sSeq (sExpr (eMutQ gmAppend (pVar 2) (wCons (vOpn gAbs (wCons (vVar 3) (wNil))) (wNil)))) (sNil)) (sNil)) (sNil))
def m__law_start (K : PySem.W.Frag) : MS := sSeq (sAsg 1 (eLit (.int 2207))) (sSeq (sAsg 2 (eLst (aNil))) (sSeq (sFor (iSq (eVar 0)) (fName 3) (b__law_start_1 K)) (sSeq (sRet (eLst (aCons (eMove 2) (aCons (eLit (.int 0)) (aCons (eMove 1) (aCons (eLit (.int 0)) (aNil))))))) (sNil))))
def F__law_start (K : PySem.W.Frag) : List D → FR := Se.fnOf 4 [] (m__law_start K)
theorem ff__law_start {P : Program} {w : World} {K : PySem.W.Frag} {mg : Str → Option Value} {base : Heap} (z : Z K mg) : FK P w K mg base "_law_start" ["script"] (s__law_start) 1 (F__law_start K) := by
  obtain ⟨f, fd, hm, F, hb⟩ := z.d__law_start
  refine ⟨f, fd, hm, F, hb, ?_⟩
  have q := fnN (P := P) (w := w) (mg := mg) (base := base) (k := 0) (C := C0 K) (B := []) (m := m__law_start K) F sc__law_start
  refine q ?_
  intro cdv A outer s H E hr W tk
  have hu : (XC P w K mg base ["script", "salt", "great", "cell"] "_law_start" (defScope s__law_start) f cdv A outer s H E).A.units + 64 < cLine := by have := hr.un; simp only [XC, cxOf]; omega
  have hpo : PassesOwn (model P w) (XC P w K mg base ["script", "salt", "great", "cell"] "_law_start" (defScope s__law_start) f cdv A outer s H E).A (XC P w K mg base ["script", "salt", "great", "cell"] "_law_start" (defScope s__law_start) f cdv A outer s H E).env (XC P w K mg base ["script", "salt", "great", "cell"] "_law_start" (defScope s__law_start) f cdv A outer s H E).xe := PassesOwn.leaving
  exact sss_cons (ss_setn (i := 1) (se_int) sc__law_start.nd) (sss_cons (ss_setn (i := 2) (se_lst (sa_nil)) sc__law_start.nd) (sss_cons (ss_for hpo rfl (si_seq rfl (se_n (i := 0))) (sg_n sc__law_start.nd (i := 3)) (sss_cons (ss_setn (i := 1) (sev_mod (sv_cint z.n_int (sw_cons (sv_add (sv_mul (sv_n (i := 1)) (sv_int)) (sv_n (i := 3))) (sw_nil))) (sv_int)) sc__law_start.nd) (sss_cons (ss_if (stv_ge (sv_cabs z.n_abs (sw_cons (sv_n (i := 3)) (sw_nil))) (sv_pow (sv_int) (sv_int))) (sss_cons (ss_expr (se_appendQ (sp_n (i := 2)) (sw_cons (sv_cabs z.n_abs (sw_cons (sv_n (i := 3)) (sw_nil))) (sw_nil)))) (sss_nil)) (sss_nil)) (sss_nil)))) (sss_cons (ss_ret (se_lst (sa_cons (se_m (i := 2)) (sa_cons (se_int) (sa_cons (se_m (i := 1)) (sa_cons (se_int) (sa_nil))))))) (sss_nil))))
def m__law_next (K : PySem.W.Frag) : MS := sSeq (sIf (tAndM (Se.tB (eV (vOp2 gEq (vOp2 ixv (vVar 0) (vLit (.int 3))) (vLit (.int 0))))) (Se.tB (eV (vOp2 (gCmp fun i j => decide (i > j)) (vOpn gLen (wCons (vOp2 ixv (vVar 0) (vLit (.int 0))) (wNil))) (vLit (.int 0)))))) (sSeq (sSet (eMutQ gmPopAt (pIx (pVar 0) (vLit (.int 0))) (wCons (vLit (.int 0)) (wNil))) (pVar 0) (vLit (.int 3))) (sNil)) (sNil)) (sSeq (sIf (Se.tB (eV (vOp2 (gCmp fun i j => decide (i > j)) (vOp2 ixv (vVar 0) (vLit (.int 3))) (vLit (.int 0))))) (sSeq (sAsg 3 (eV (vOp2 gMod (vOpn gInt (wCons (vOp2 ixv (vVar 0) (vLit (.int 3))) (wNil))) (vVar 1)))) (sSeq (sSet (eV (vOp2 gDiv (vOp2 ixv (vVar 0) (vLit (.int 3))) (vVar 1))) (pVar 0) (vLit (.int 3))) (sSeq (sRet (eMove 3)) (sNil)))) (sNil)) (sSeq (sSet (eV (vOp2 gAdd (vOp2 ixv (vVar 0) (vLit (.int 1))) (vLit (.int 1)))) (pVar 0) (vLit (.int 1))) (sSeq (sAsg 2 (eV (vOp2 gMod (vOpn gInt (wCons (vOp2 gMulA (vOp2 gAdd (vOp2 ixv (vVar 0) (vLit (.int 2))) (vOp2 gMulA (vOp2 ixv (vVar 0) (vLit (.int 1))) (vLit (.int 7129)))) (vOp2 gAdd (vOp2 gAdd (vOp2 ixv (vVar 0) (vLit (.int 2))) (vOp2 gMulA (vLit (.int 3)) (vOp2 ixv (vVar 0) (vLit (.int 1))))) (vLit (.int 11)))) (wNil))) (vLit (.int 998244353))))) (sSeq (sAsg 2 (eV (vOp2 gMod (vOpn gInt (wCons (vOp2 gAdd (vOp2 gMulA (vVar 2) (vLit (.int 40961))) (vOp2 gMulA (vOp2 gMulA (vOp2 ixv (vVar 0) (vLit (.int 1))) (vOp2 ixv (vVar 0) (vLit (.int 1)))) (vLit (.int 57)))) (wNil))) (vLit (.int 1000000007))))) (sSeq (sRet (eV (vOp2 gMod (vOp2 gDiv (vVar 2) (vLit (.int 61))) (vVar 1)))) (sNil))))))
def F__law_next (K : PySem.W.Frag) : List D → FR := Se.fnOf 4 [0] (m__law_next K)
theorem ff__law_next {P : Program} {w : World} {K : PySem.W.Frag} {mg : Str → Option Value} {base : Heap} (z : Z K mg) : FK P w K mg base "_law_next" ["store", "many"] (s__law_next) 1 (F__law_next K) := by
  obtain ⟨f, fd, hm, F, hb⟩ := z.d__law_next
  refine ⟨f, fd, hm, F, hb, ?_⟩
  have q := fnN (P := P) (w := w) (mg := mg) (base := base) (k := 0) (C := C0 K) (B := [0]) (m := m__law_next K) F sc__law_next
  refine q ?_
  intro cdv A outer s H E hr W tk
  have hu : (XC P w K mg base ["store", "many", "mixed", "digit"] "_law_next" (defScope s__law_next) f cdv A outer s H E).A.units + 64 < cLine := by have := hr.un; simp only [XC, cxOf]; omega
  have hpo : PassesOwn (model P w) (XC P w K mg base ["store", "many", "mixed", "digit"] "_law_next" (defScope s__law_next) f cdv A outer s H E).A (XC P w K mg base ["store", "many", "mixed", "digit"] "_law_next" (defScope s__law_next) f cdv A outer s H E).env (XC P w K mg base ["store", "many", "mixed", "digit"] "_law_next" (defScope s__law_next) f cdv A outer s H E).xe := PassesOwn.leaving
  exact sss_cons (ss_if (stw_t (stw_and (stv_eq hu (sv_ix (sv_n (i := 0)) (sv_int)) (sv_int)) (stw_and1 (stv_gt (sv_clen z.n_len (sw_cons (sv_ix (sv_n (i := 0)) (sv_int)) (sw_nil))) (sv_int))))) (sss_cons (ss_set (se_popAtQ (sp_ix (sp_n (i := 0)) (sv_int)) (sw_cons (sv_int) (sw_nil))) (sp_n (i := 0)) (sv_int)) (sss_nil)) (sss_nil)) (sss_cons (ss_if (stv_gt (sv_ix (sv_n (i := 0)) (sv_int)) (sv_int)) (sss_cons (ss_setn (i := 3) (sev_mod (sv_cint z.n_int (sw_cons (sv_ix (sv_n (i := 0)) (sv_int)) (sw_nil))) (sv_n (i := 1))) sc__law_next.nd) (sss_cons (ss_set (sev_div (sv_ix (sv_n (i := 0)) (sv_int)) (sv_n (i := 1))) (sp_n (i := 0)) (sv_int)) (sss_cons (ss_ret (se_m (i := 3))) (sss_nil)))) (sss_nil)) (sss_cons (ss_set (sev_add (sv_ix (sv_n (i := 0)) (sv_int)) (sv_int)) (sp_n (i := 0)) (sv_int)) (sss_cons (ss_setn (i := 2) (sev_mod (sv_cint z.n_int (sw_cons (sv_mul (sv_add (sv_ix (sv_n (i := 0)) (sv_int)) (sv_mul (sv_ix (sv_n (i := 0)) (sv_int)) (sv_int))) (sv_add (sv_add (sv_ix (sv_n (i := 0)) (sv_int)) (sv_mul (sv_int) (sv_ix (sv_n (i := 0)) (sv_int)))) (sv_int))) (sw_nil))) (sv_int)) sc__law_next.nd) (sss_cons (ss_setn (i := 2) (sev_mod (sv_cint z.n_int (sw_cons (sv_add (sv_mul (sv_n (i := 2)) (sv_int)) (sv_mul (sv_mul (sv_ix (sv_n (i := 0)) (sv_int)) (sv_ix (sv_n (i := 0)) (sv_int))) (sv_int))) (sw_nil))) (sv_int)) sc__law_next.nd) (sss_cons (ss_ret (sev_mod (sv_div (sv_n (i := 2)) (sv_int)) (sv_n (i := 1)))) (sss_nil))))))
def m__law_odd (K : PySem.W.Frag) : MS := sSeq (sIf (Se.tB (eOp2 gEq (eCall 2 (F__law_next K) (bBor 0 (bVal (eLit (.int 2)) (bNil)))) (eLit (.int 0)))) (sSeq (sRet (eOp2 gIx (eLit (.str [95, 65, 9, 90, 46])) (eCall 2 (F__law_next K) (bBor 0 (bVal (eLit (.int 5)) (bNil)))))) (sNil)) (sNil)) (sSeq (sAsg 1 (eLit (.str [33, 34, 36, 38, 39, 42, 43, 45, 46, 47, 48, 49, 50, 51, 52, 53, 54, 55, 56, 57, 58, 60, 62, 63, 64, 65, 66, 67, 68, 69, 70, 71, 72, 73, 74, 75, 76, 77, 78, 79, 80, 81, 82, 83, 84, 85, 86, 87, 88, 89, 90, 91, 92, 93, 94, 95, 96, 124, 126, 9]))) (sSeq (sRet (eIxVar gIx 1 (eCall 2 (F__law_next K) (bBor 0 (bVal (eV (vOpn gLen (wCons (vVar 1) (wNil)))) (bNil)))))) (sNil)))
def F__law_odd (K : PySem.W.Frag) : List D → FR := Se.fnOf 2 [0] (m__law_odd K)
theorem ff__law_odd {P : Program} {w : World} {K : PySem.W.Frag} {mg : Str → Option Value} {base : Heap} (z : Z K mg) : FK P w K mg base "_law_odd" ["store"] (s__law_odd) 2 (F__law_odd K) := by
  obtain ⟨f, fd, hm, F, hb⟩ := z.d__law_odd
  obtain ⟨f__law_next, fd__law_next, hm__law_next, d__law_next, hb__law_next, ok__law_next⟩ := ff__law_next (P := P) (w := w) (base := base) z
  have hk__law_next := d__law_next.kp
  refine ⟨f, fd, hm, F, hb, ?_⟩
  have q := fnN (P := P) (w := w) (mg := mg) (base := base) (k := 1) (C := C0 K) (B := [0]) (m := m__law_odd K) F sc__law_odd
  refine q ?_
  intro cdv A outer s H E hr W tk
  have hu : (XC P w K mg base ["store", "odd"] "_law_odd" (defScope s__law_odd) f cdv A outer s H E).A.units + 64 < cLine := by have := hr.un; simp only [XC, cxOf]; omega
  have hpo : PassesOwn (model P w) (XC P w K mg base ["store", "odd"] "_law_odd" (defScope s__law_odd) f cdv A outer s H E).A (XC P w K mg base ["store", "odd"] "_law_odd" (defScope s__law_odd) f cdv A outer s H E).env (XC P w K mg base ["store", "odd"] "_law_odd" (defScope s__law_odd) f cdv A outer s H E).xe := PassesOwn.leaving
  exact sss_cons (ss_if (st_eq hu (se_call rfl (cal_calm ok__law_next (hr.mono (by decide))) tk rfl hm__law_next hk__law_next hb__law_next rfl (sab_bor (nm (i := 0)) (sab_val (se_int) (sab_nil)))) (se_int)) (sss_cons (ss_ret (se_ix (se_str [95, 65, 9, 90, 46] rfl) (se_call rfl (cal_calm ok__law_next (hr.mono (by decide))) tk rfl hm__law_next hk__law_next hb__law_next rfl (sab_bor (nm (i := 0)) (sab_val (se_int) (sab_nil)))))) (sss_nil)) (sss_nil)) (sss_cons (ss_setn (i := 1) (se_str [33, 34, 36, 38, 39, 42, 43, 45, 46, 47, 48, 49, 50, 51, 52, 53, 54, 55, 56, 57, 58, 60, 62, 63, 64, 65, 66, 67, 68, 69, 70, 71, 72, 73, 74, 75, 76, 77, 78, 79, 80, 81, 82, 83, 84, 85, 86, 87, 88, 89, 90, 91, 92, 93, 94, 95, 96, 124, 126, 9] rfl) sc__law_odd.nd) (sss_cons (ss_ret (se_ixn (nm (i := 1)) (se_call rfl (cal_calm ok__law_next (hr.mono (by decide))) tk rfl hm__law_next hk__law_next hb__law_next rfl (sab_bor (nm (i := 0)) (sab_val (sev_clen z.n_len (sw_cons (sv_n (i := 1)) (sw_nil))) (sab_nil)))))) (sss_nil)))
def e__law_gap_1 (K : PySem.W.Frag) : M D := eCall 1 (F__law_odd K) (bBor 0 (bNil))
def m__law_gap (K : PySem.W.Frag) : MS := sSeq (sAsg 2 (eCall 2 (F__law_next K) (bBor 0 (bVal (eLit (.int 7)) (bNil))))) (sSeq (sIf (Se.tB (eV (vOp2 (gCmp fun i j => decide (i < j)) (vVar 2) (vLit (.int 3))))) (sSeq (sRet (eOp2 gIx (eLst (aCons (eLit (.str [])) (aCons (eLit (.str [32])) (aNil)))) (eOpn gInt (aCons (eOr (eVar 1) (eV (vOp2 gEq (vVar 2) (vLit (.int 0))))) (aNil))))) (sNil)) (sNil)) (sSeq (sIf (Se.tB (eV (vOp2 gEq (vVar 2) (vLit (.int 3))))) (sSeq (sRet (eOp2 gMulA (eLit (.str [32])) (eOp2 gAdd (eLit (.int 1)) (eCall 2 (F__law_next K) (bBor 0 (bVal (eLit (.int 6)) (bNil))))))) (sNil)) (sNil)) (sSeq (sIf (Se.tB (eV (vOp2 gEq (vVar 2) (vLit (.int 4))))) (sSeq (sRet (eOp2 gMulA (eLit (.str [10])) (eOp2 gAdd (eLit (.int 1)) (eCall 2 (F__law_next K) (bBor 0 (bVal (eLit (.int 3)) (bNil))))))) (sNil)) (sNil)) (sSeq (sIf (Se.tB (eV (vOp2 gEq (vVar 2) (vLit (.int 5))))) (sSeq (sRet (eOp2 gAdd (eLit (.str [32, 10])) (eOp2 gMulA (eLit (.str [32])) (eCall 2 (F__law_next K) (bBor 0 (bVal (eLit (.int 5)) (bNil))))))) (sNil)) (sNil)) (sSeq (sAsg 3 (eBm gJoin (vLit (.str [])) (eLc [4] (iArgs rg1 (aCons (eCall 2 (F__law_next K) (bBor 0 (bVal (eLit (.int 4)) (bNil)))) (aNil))) (fName 4) (tTrue) (e__law_gap_1 K)))) (sSeq (sRet (eOp2 gAdd (eOp2 gAdd (eV (vOp2 gAdd (vLit (.str [35])) (vVar 3))) (eOp2 gIx (eLst (aCons (eLit (.str [])) (aCons (eLit (.str [32, 97, 61, 98, 59])) (aCons (eLit (.str [35])) (aCons (eLit (.str [32, 35, 123])) (aNil)))))) (eCall 2 (F__law_next K) (bBor 0 (bVal (eLit (.int 4)) (bNil)))))) (eLit (.str [10])))) (sNil)))))))
def F__law_gap (K : PySem.W.Frag) : List D → FR := Se.fnOf 5 [0] (m__law_gap K)
theorem ff__law_gap {P : Program} {w : World} {K : PySem.W.Frag} {mg : Str → Option Value} {base : Heap} (z : Z K mg) : FK P w K mg base "_law_gap" ["store", "needed"] (s__law_gap) 3 (F__law_gap K) := by
  obtain ⟨f, fd, hm, F, hb⟩ := z.d__law_gap
  obtain ⟨f__law_next, fd__law_next, hm__law_next, d__law_next, hb__law_next, ok__law_next⟩ := ff__law_next (P := P) (w := w) (base := base) z
  have hk__law_next := d__law_next.kp
  obtain ⟨f__law_odd, fd__law_odd, hm__law_odd, d__law_odd, hb__law_odd, ok__law_odd⟩ := ff__law_odd (P := P) (w := w) (base := base) z
  have hk__law_odd := d__law_odd.kp
  refine ⟨f, fd, hm, F, hb, ?_⟩
  have q := fnN (P := P) (w := w) (mg := mg) (base := base) (k := 2) (C := C0 K) (B := [0]) (m := m__law_gap K) F sc__law_gap
  refine q ?_
  intro cdv A outer s H E hr W tk
  have hu : (XC P w K mg base ["store", "needed", "pick", "remark", "k"] "_law_gap" (defScope s__law_gap) f cdv A outer s H E).A.units + 64 < cLine := by have := hr.un; simp only [XC, cxOf]; omega
  have hpo : PassesOwn (model P w) (XC P w K mg base ["store", "needed", "pick", "remark", "k"] "_law_gap" (defScope s__law_gap) f cdv A outer s H E).A (XC P w K mg base ["store", "needed", "pick", "remark", "k"] "_law_gap" (defScope s__law_gap) f cdv A outer s H E).env (XC P w K mg base ["store", "needed", "pick", "remark", "k"] "_law_gap" (defScope s__law_gap) f cdv A outer s H E).xe := PassesOwn.leaving
  exact sss_cons (ss_setn (i := 2) (se_call rfl (cal_calm ok__law_next (hr.mono (by decide))) tk rfl hm__law_next hk__law_next hb__law_next rfl (sab_bor (nm (i := 0)) (sab_val (se_int) (sab_nil)))) sc__law_gap.nd) (sss_cons (ss_if (stv_lt (sv_n (i := 2)) (sv_int)) (sss_cons (ss_ret (se_ix (se_lst (sa_cons (se_str [] rfl) (sa_cons (se_str [32] rfl) (sa_nil)))) (se_cint z.n_int (sa_cons (se_or (se_n (i := 1)) (se_one (sev_eq hu (sv_n (i := 2)) (sv_int)))) (sa_nil))))) (sss_nil)) (sss_nil)) (sss_cons (ss_if (stv_eq hu (sv_n (i := 2)) (sv_int)) (sss_cons (ss_ret (se_mul (se_str [32] rfl) (se_add (se_int) (se_call rfl (cal_calm ok__law_next (hr.mono (by decide))) tk rfl hm__law_next hk__law_next hb__law_next rfl (sab_bor (nm (i := 0)) (sab_val (se_int) (sab_nil))))))) (sss_nil)) (sss_nil)) (sss_cons (ss_if (stv_eq hu (sv_n (i := 2)) (sv_int)) (sss_cons (ss_ret (se_mul (se_str [10] rfl) (se_add (se_int) (se_call rfl (cal_calm ok__law_next (hr.mono (by decide))) tk rfl hm__law_next hk__law_next hb__law_next rfl (sab_bor (nm (i := 0)) (sab_val (se_int) (sab_nil))))))) (sss_nil)) (sss_nil)) (sss_cons (ss_if (stv_eq hu (sv_n (i := 2)) (sv_int)) (sss_cons (ss_ret (se_add (se_str [32, 10] rfl) (se_mul (se_str [32] rfl) (se_call rfl (cal_calm ok__law_next (hr.mono (by decide))) tk rfl hm__law_next hk__law_next hb__law_next rfl (sab_bor (nm (i := 0)) (sab_val (se_int) (sab_nil))))))) (sss_nil)) (sss_nil)) (sss_cons (ss_setn (i := 3) (se_join (sv_str [] rfl) (se_lc (own := [("k", 4)]) (B := [0, 1, 2, 3]) rfl sc__law_gap.nd (si_range1 rfl z.n_range (sa_cons (se_call rfl (cal_calm ok__law_next (hr.mono (by decide))) tk rfl hm__law_next hk__law_next hb__law_next rfl (sab_bor (nm (i := 0)) (sab_val (se_int) (sab_nil)))) (sa_nil))) (BlkOk.mk (N := ["store", "needed", "pick", "remark", "k"]) (sc := defScope s__law_gap) rfl (by decide +kernel) (by decide +kernel) (by decide +kernel) (by decide +kernel)) (lcp_none (fun _ => sg_n sc__law_gap.nd (i := 4)) (fun _ => se_call rfl (cal_calm ok__law_odd (hr.mono (by decide))) takes0 rfl hm__law_odd hk__law_odd hb__law_odd rfl (sab_bor (nm (i := 0)) (sab_nil)))) (show ∀ j, j < 5 → j ∉ ([4] : List Nat) → j ∈ ([0, 1, 2, 3] : List Nat) by decide))) sc__law_gap.nd) (sss_cons (ss_ret (se_add (se_add (sev_add (sv_str [35] rfl) (sv_n (i := 3))) (se_ix (se_lst (sa_cons (se_str [] rfl) (sa_cons (se_str [32, 97, 61, 98, 59] rfl) (sa_cons (se_str [35] rfl) (sa_cons (se_str [32, 35, 123] rfl) (sa_nil)))))) (se_call rfl (cal_calm ok__law_next (hr.mono (by decide))) tk rfl hm__law_next hk__law_next hb__law_next rfl (sab_bor (nm (i := 0)) (sab_val (se_int) (sab_nil)))))) (se_str [10] rfl))) (sss_nil)))))))
def b__law_word_1 (K : PySem.W.Frag) : MS := sSeq (sExpr (eMut gmAppend (pVar 3) (aCons (eIxVar gIx 2 (eCall 2 (F__law_next K) (bBor 0 (bVal (eLit (.int 36)) (bNil))))) (aNil)))) (sNil)
def m__law_word (K : PySem.W.Frag) : MS := sSeq (sAsg 2 (eLit (.str [97, 98, 99, 100, 101, 102, 103, 104, 105, 106, 107, 108, 109, 110, 111, 112, 113, 114, 115, 116, 117, 118, 119, 120, 121, 122, 48, 49, 50, 51, 52, 53, 54, 55, 56, 57]))) (sSeq (sAsg 3 (eLst (aCons (eIxVar gIx 2 (eCall 2 (F__law_next K) (bBor 0 (bVal (eLit (.int 26)) (bNil))))) (aNil)))) (sSeq (sFor (iArgs rg1 (aCons (eV (vOp2 gSub (vVar 1) (vLit (.int 1)))) (aNil))) (fName 4) (b__law_word_1 K)) (sSeq (sRet (eV (vBm gJoin (vLit (.str [])) (vVar 3)))) (sNil))))
def F__law_word (K : PySem.W.Frag) : List D → FR := Se.fnOf 5 [0] (m__law_word K)
theorem ff__law_word {P : Program} {w : World} {K : PySem.W.Frag} {mg : Str → Option Value} {base : Heap} (z : Z K mg) : FK P w K mg base "_law_word" ["store", "many"] (s__law_word) 2 (F__law_word K) := by
  obtain ⟨f, fd, hm, F, hb⟩ := z.d__law_word
  obtain ⟨f__law_next, fd__law_next, hm__law_next, d__law_next, hb__law_next, ok__law_next⟩ := ff__law_next (P := P) (w := w) (base := base) z
  have hk__law_next := d__law_next.kp
  refine ⟨f, fd, hm, F, hb, ?_⟩
  have q := fnN (P := P) (w := w) (mg := mg) (base := base) (k := 1) (C := C0 K) (B := [0]) (m := m__law_word K) F sc__law_word
  refine q ?_
  intro cdv A outer s H E hr W tk
  have hu : (XC P w K mg base ["store", "many", "letters", "signs", "k"] "_law_word" (defScope s__law_word) f cdv A outer s H E).A.units + 64 < cLine := by have := hr.un; simp only [XC, cxOf]; omega
  have hpo : PassesOwn (model P w) (XC P w K mg base ["store", "many", "letters", "signs", "k"] "_law_word" (defScope s__law_word) f cdv A outer s H E).A (XC P w K mg base ["store", "many", "letters", "signs", "k"] "_law_word" (defScope s__law_word) f cdv A outer s H E).env (XC P w K mg base ["store", "many", "letters", "signs", "k"] "_law_word" (defScope s__law_word) f cdv A outer s H E).xe := PassesOwn.leaving
  exact sss_cons (ss_setn (i := 2) (se_str [97, 98, 99, 100, 101, 102, 103, 104, 105, 106, 107, 108, 109, 110, 111, 112, 113, 114, 115, 116, 117, 118, 119, 120, 121, 122, 48, 49, 50, 51, 52, 53, 54, 55, 56, 57] rfl) sc__law_word.nd) (sss_cons (ss_setn (i := 3) (se_lst (sa_cons (se_ixn (nm (i := 2)) (se_call rfl (cal_calm ok__law_next (hr.mono (by decide))) tk rfl hm__law_next hk__law_next hb__law_next rfl (sab_bor (nm (i := 0)) (sab_val (se_int) (sab_nil))))) (sa_nil))) sc__law_word.nd) (sss_cons (ss_for hpo rfl (si_range1 rfl z.n_range (sa_cons (sev_sub (sv_n (i := 1)) (sv_int)) (sa_nil))) (sg_n sc__law_word.nd (i := 4)) (sss_cons (ss_expr (se_append (sp_n (i := 3)) (sa_cons (se_ixn (nm (i := 2)) (se_call rfl (cal_calm ok__law_next (hr.mono (by decide))) tk rfl hm__law_next hk__law_next hb__law_next rfl (sab_bor (nm (i := 0)) (sab_val (se_int) (sab_nil))))) (sa_nil)))) (sss_nil))) (sss_cons (ss_ret (sev_join (sv_str [] rfl) (sv_n (i := 3)))) (sss_nil))))
def i__law_pieces_1 (K : PySem.W.Frag) : MS := sIf (Se.tB (eV (vOp2 gEq (vVar 5) (vLit (.int 0))))) (sSeq (sAsg 6 (eLit (.int 0))) (sNil)) (sNil)
def i__law_pieces_2 (K : PySem.W.Frag) : MS := sIf (Se.tB (eV (vOp2 gEq (vVar 5) (vLit (.int 1))))) (sSeq (sAsg 6 (eLit (.int 4))) (sNil)) (sNil)
def i__law_pieces_3 (K : PySem.W.Frag) : MS := sIf (tAndM (tV (vVar 4)) (tAndM (Se.tB (eV (vOp2 (gCmp fun i j => decide (i > j)) (vVar 5) (vLit (.int 0))))) (Se.tB (eV (vOp2 gIn (vLit (.str [10])) (vVar 7)))))) (sSeq (sAsg 7 (eLit (.str [32]))) (sNil)) (sNil)
def i__law_pieces_4 (K : PySem.W.Frag) : MS := sIf (Se.tB (eV (vOp2 gEq (vVar 6) (vLit (.int 2))))) (sSeq (sAsg 8 (eIxVar gIx 1 (eCall 2 (F__law_next K) (bBor 0 (bVal (eLit (.int 12)) (bNil)))))) (sNil)) (sSeq (sAsg 8 (eOp2 gIx (eLit (.str [61, 44, 59, 40, 41, 123, 125])) (eCall 2 (F__law_next K) (bBor 0 (bVal (eLit (.int 7)) (bNil)))))) (sNil))
def i__law_pieces_5 (K : PySem.W.Frag) : MS := sIf (Se.tB (eV (vOp2 (gCmp fun i j => decide (i < j)) (vVar 6) (vLit (.int 2))))) (sSeq (sAsg 8 (eCall 2 (F__law_word K) (bBor 0 (bVal (eFz (eOp2 gIx (eLst (aCons (eOp2 gAdd (eLit (.int 1)) (eCall 2 (F__law_next K) (bBor 0 (bVal (eLit (.int 12)) (bNil))))) (aCons (eLit (.int 12)) (aNil)))) (eOpn gInt (aCons (eOp2 gEq (eCall 2 (F__law_next K) (bBor 0 (bVal (eLit (.int 4)) (bNil)))) (eLit (.int 0))) (aNil))))) (bNil))))) (sNil)) (sSeq ((i__law_pieces_4 K)) (sNil))
def b__law_pieces_6 (K : PySem.W.Frag) : MS := sSeq (sAsg 6 (eCall 2 (F__law_next K) (bBor 0 (bVal (eLit (.int 5)) (bNil))))) (sSeq ((i__law_pieces_1 K)) (sSeq ((i__law_pieces_2 K)) (sSeq (sAsg 7 (eCall 2 (F__law_gap K) (bBor 0 (bVal (eAnd (eVar 3) (eV (vOp2 (gCmp fun i j => decide (i < j)) (vVar 6) (vLit (.int 3))))) (bNil))))) (sSeq ((i__law_pieces_3 K)) (sSeq ((i__law_pieces_5 K)) (sSeq (sAsg 3 (eV (vOp2 (gCmp fun i j => decide (i < j)) (vVar 6) (vLit (.int 3))))) (sSeq (sExpr (eMutQ gmAppend (pVar 2) (wCons (vOp2 gAdd (vVar 7) (vVar 8)) (wNil)))) (sNil))))))))
def m__law_pieces (K : PySem.W.Frag) : MS := sSeq (sAsg 1 (eLst (aCons (eLit (.str [112, 114, 111, 99])) (aCons (eLit (.str [103, 105, 118, 101])) (aCons (eLit (.str [116, 117, 114, 110])) (aCons (eLit (.str [116, 105, 109, 101, 115])) (aCons (eLit (.str [112, 108, 117, 115])) (aCons (eLit (.str [108, 101, 115, 115])) (aCons (eLit (.str [98, 101, 115, 105, 100, 101])) (aCons (eLit (.str [97, 98, 111, 118, 101])) (aCons (eLit (.str [99, 117, 116])) (aCons (eLit (.str [115, 112, 108, 105, 116])) (aCons (eLit (.str [108, 105, 107, 101])) (aCons (eLit (.str [115, 113, 117, 97, 114, 101])) (aNil))))))))))))))) (sSeq (sAsg 2 (eLst (aNil))) (sSeq (sAsg 3 (eLit (.bl false))) (sSeq (sAsg 4 (eOp2 gEq (eCall 2 (F__law_next K) (bBor 0 (bVal (eLit (.int 3)) (bNil)))) (eLit (.int 0)))) (sSeq (sFor (iArgs rg1 (aCons (eOp2 gAdd (eLit (.int 2)) (eCall 2 (F__law_next K) (bBor 0 (bVal (eFz (eOp2 gIx (eLst (aCons (eLit (.int 12)) (aCons (eLit (.int 30)) (aCons (eLit (.int 30)) (aCons (eLit (.int 90)) (aNil)))))) (eCall 2 (F__law_next K) (bBor 0 (bVal (eLit (.int 4)) (bNil)))))) (bNil))))) (aNil))) (fName 5) (b__law_pieces_6 K)) (sSeq (sExpr (eMut gmAppend (pVar 2) (aCons (eOp2 gIx (eLst (aCons (eLit (.str [])) (aCons (eLit (.str [32])) (aCons (eLit (.str [10])) (aCons (eLit (.str [35])) (aCons (eLit (.str [35, 32, 65, 33])) (aCons (eLit (.str [32, 10, 10, 32])) (aNil)))))))) (eCall 2 (F__law_next K) (bBor 0 (bVal (eLit (.int 6)) (bNil))))) (aNil)))) (sSeq (sRet (eMove 2)) (sNil)))))))
def F__law_pieces (K : PySem.W.Frag) : List D → FR := Se.fnOf 9 [0] (m__law_pieces K)
theorem ff__law_pieces {P : Program} {w : World} {K : PySem.W.Frag} {mg : Str → Option Value} {base : Heap} (z : Z K mg) : FK P w K mg base "_law_pieces" ["store"] (s__law_pieces) 4 (F__law_pieces K) := by
  obtain ⟨f, fd, hm, F, hb⟩ := z.d__law_pieces
  obtain ⟨f__law_gap, fd__law_gap, hm__law_gap, d__law_gap, hb__law_gap, ok__law_gap⟩ := ff__law_gap (P := P) (w := w) (base := base) z
  have hk__law_gap := d__law_gap.kp
  obtain ⟨f__law_next, fd__law_next, hm__law_next, d__law_next, hb__law_next, ok__law_next⟩ := ff__law_next (P := P) (w := w) (base := base) z
  have hk__law_next := d__law_next.kp
  obtain ⟨f__law_word, fd__law_word, hm__law_word, d__law_word, hb__law_word, ok__law_word⟩ := ff__law_word (P := P) (w := w) (base := base) z
  have hk__law_word := d__law_word.kp
  refine ⟨f, fd, hm, F, hb, ?_⟩
  have q := fnN (P := P) (w := w) (mg := mg) (base := base) (k := 3) (C := C0 K) (B := [0]) (m := m__law_pieces K) F sc__law_pieces
  refine q ?_
  intro cdv A outer s H E hr W tk
  have hu : (XC P w K mg base ["store", "kept", "pieces", "ahead", "flat", "k", "pick", "gap", "token"] "_law_pieces" (defScope s__law_pieces) f cdv A outer s H E).A.units + 64 < cLine := by have := hr.un; simp only [XC, cxOf]; omega
  have hpo : PassesOwn (model P w) (XC P w K mg base ["store", "kept", "pieces", "ahead", "flat", "k", "pick", "gap", "token"] "_law_pieces" (defScope s__law_pieces) f cdv A outer s H E).A (XC P w K mg base ["store", "kept", "pieces", "ahead", "flat", "k", "pick", "gap", "token"] "_law_pieces" (defScope s__law_pieces) f cdv A outer s H E).env (XC P w K mg base ["store", "kept", "pieces", "ahead", "flat", "k", "pick", "gap", "token"] "_law_pieces" (defScope s__law_pieces) f cdv A outer s H E).xe := PassesOwn.leaving
  exact sss_cons (ss_setn (i := 1) (se_lst (sa_cons (se_str [112, 114, 111, 99] rfl) (sa_cons (se_str [103, 105, 118, 101] rfl) (sa_cons (se_str [116, 117, 114, 110] rfl) (sa_cons (se_str [116, 105, 109, 101, 115] rfl) (sa_cons (se_str [112, 108, 117, 115] rfl) (sa_cons (se_str [108, 101, 115, 115] rfl) (sa_cons (se_str [98, 101, 115, 105, 100, 101] rfl) (sa_cons (se_str [97, 98, 111, 118, 101] rfl) (sa_cons (se_str [99, 117, 116] rfl) (sa_cons (se_str [115, 112, 108, 105, 116] rfl) (sa_cons (se_str [108, 105, 107, 101] rfl) (sa_cons (se_str [115, 113, 117, 97, 114, 101] rfl) (sa_nil)))))))))))))) sc__law_pieces.nd) (sss_cons (ss_setn (i := 2) (se_lst (sa_nil)) sc__law_pieces.nd) (sss_cons (ss_setn (i := 3) (se_bl) sc__law_pieces.nd) (sss_cons (ss_setn (i := 4) (se_eq hu (se_call rfl (cal_calm ok__law_next (hr.mono (by decide))) tk rfl hm__law_next hk__law_next hb__law_next rfl (sab_bor (nm (i := 0)) (sab_val (se_int) (sab_nil)))) (se_int)) sc__law_pieces.nd) (sss_cons (ss_for hpo rfl (si_range1 rfl z.n_range (sa_cons (se_add (se_int) (se_call rfl (cal_calm ok__law_next (hr.mono (by decide))) tk rfl hm__law_next hk__law_next hb__law_next rfl (sab_bor (nm (i := 0)) (sab_val (se_fz (se_ix (se_lst (sa_cons (se_int) (sa_cons (se_int) (sa_cons (se_int) (sa_cons (se_int) (sa_nil)))))) (se_call rfl (cal_calm ok__law_next (hr.mono (by decide))) tk rfl hm__law_next hk__law_next hb__law_next rfl (sab_bor (nm (i := 0)) (sab_val (se_int) (sab_nil)))))) (sab_nil))))) (sa_nil))) (sg_n sc__law_pieces.nd (i := 5)) (sss_cons (ss_setn (i := 6) (se_call rfl (cal_calm ok__law_next (hr.mono (by decide))) tk rfl hm__law_next hk__law_next hb__law_next rfl (sab_bor (nm (i := 0)) (sab_val (se_int) (sab_nil)))) sc__law_pieces.nd) (sss_cons (ss_if (stv_eq hu (sv_n (i := 5)) (sv_int)) (sss_cons (ss_setn (i := 6) (se_int) sc__law_pieces.nd) (sss_nil)) (sss_nil)) (sss_cons (ss_if (stv_eq hu (sv_n (i := 5)) (sv_int)) (sss_cons (ss_setn (i := 6) (se_int) sc__law_pieces.nd) (sss_nil)) (sss_nil)) (sss_cons (ss_setn (i := 7) (se_call rfl (cal_calm ok__law_gap (hr.mono (by decide))) tk rfl hm__law_gap hk__law_gap hb__law_gap rfl (sab_bor (nm (i := 0)) (sab_val (se_and (se_n (i := 3)) (se_one (sev_lt (sv_n (i := 6)) (sv_int)))) (sab_nil)))) sc__law_pieces.nd) (sss_cons (ss_if (stw_t (stw_and (stv_t (sv_n (i := 4))) (stw_and (stv_gt (sv_n (i := 5)) (sv_int)) (stw_and1 (stv_in (sv_str [10] rfl) (sv_n (i := 7))))))) (sss_cons (ss_setn (i := 7) (se_str [32] rfl) sc__law_pieces.nd) (sss_nil)) (sss_nil)) (sss_cons (ss_if (stv_lt (sv_n (i := 6)) (sv_int)) (sss_cons (ss_setn (i := 8) (se_call rfl (cal_calm ok__law_word (hr.mono (by decide))) tk rfl hm__law_word hk__law_word hb__law_word rfl (sab_bor (nm (i := 0)) (sab_val (se_fz (se_ix (se_lst (sa_cons (se_add (se_int) (se_call rfl (cal_calm ok__law_next (hr.mono (by decide))) tk rfl hm__law_next hk__law_next hb__law_next rfl (sab_bor (nm (i := 0)) (sab_val (se_int) (sab_nil))))) (sa_cons (se_int) (sa_nil)))) (se_cint z.n_int (sa_cons (se_eq hu (se_call rfl (cal_calm ok__law_next (hr.mono (by decide))) tk rfl hm__law_next hk__law_next hb__law_next rfl (sab_bor (nm (i := 0)) (sab_val (se_int) (sab_nil)))) (se_int)) (sa_nil))))) (sab_nil)))) sc__law_pieces.nd) (sss_nil)) (sss_cons (ss_if (stv_eq hu (sv_n (i := 6)) (sv_int)) (sss_cons (ss_setn (i := 8) (se_ixn (nm (i := 1)) (se_call rfl (cal_calm ok__law_next (hr.mono (by decide))) tk rfl hm__law_next hk__law_next hb__law_next rfl (sab_bor (nm (i := 0)) (sab_val (se_int) (sab_nil))))) sc__law_pieces.nd) (sss_nil)) (sss_cons (ss_setn (i := 8) (se_ix (se_str [61, 44, 59, 40, 41, 123, 125] rfl) (se_call rfl (cal_calm ok__law_next (hr.mono (by decide))) tk rfl hm__law_next hk__law_next hb__law_next rfl (sab_bor (nm (i := 0)) (sab_val (se_int) (sab_nil))))) sc__law_pieces.nd) (sss_nil))) (sss_nil))) (sss_cons (ss_setn (i := 3) (sev_lt (sv_n (i := 6)) (sv_int)) sc__law_pieces.nd) (sss_cons (ss_expr (se_appendQ (sp_n (i := 2)) (sw_cons (sv_add (sv_n (i := 7)) (sv_n (i := 8))) (sw_nil)))) (sss_nil)))))))))) (sss_cons (ss_expr (se_append (sp_n (i := 2)) (sa_cons (se_ix (se_lst (sa_cons (se_str [] rfl) (sa_cons (se_str [32] rfl) (sa_cons (se_str [10] rfl) (sa_cons (se_str [35] rfl) (sa_cons (se_str [35, 32, 65, 33] rfl) (sa_cons (se_str [32, 10, 10, 32] rfl) (sa_nil)))))))) (se_call rfl (cal_calm ok__law_next (hr.mono (by decide))) tk rfl hm__law_next hk__law_next hb__law_next rfl (sab_bor (nm (i := 0)) (sab_val (se_int) (sab_nil))))) (sa_nil)))) (sss_cons (ss_ret (se_m (i := 2))) (sss_nil)))))))
def b__law_read_1 (K : PySem.W.Frag) : MS := sSeq (sAsg 7 (eV (vOp2 gAdd (vVar 7) (vLit (.int 1))))) (sNil)
def c__law_read_2 (K : PySem.W.Frag) : M Bool := tAndM (Se.tB (eV (vOp2 (gCmp fun i j => decide (i < j)) (vVar 7) (vOpn gLen (wCons (vVar 0) (wNil)))))) (Se.tB (eV (vOp2 gNe (vOp2 ixv (vVar 0) (vVar 7)) (vLit (.str [10])))))
def b__law_read_3 (K : PySem.W.Frag) : MS := sSeq (sAsg 7 (eV (vOp2 gAdd (vVar 7) (vLit (.int 1))))) (sNil)
def c__law_read_4 (K : PySem.W.Frag) : M Bool := tAndM (Se.tB (eV (vOp2 (gCmp fun i j => decide (i < j)) (vVar 7) (vOpn gLen (wCons (vVar 0) (wNil)))))) (tOrM (Se.tB (eV (vOp2 gIn (vOp2 ixv (vVar 0) (vVar 7)) (vVar 1)))) (Se.tB (eV (vOp2 gIn (vOp2 ixv (vVar 0) (vVar 7)) (vLit (.str [48, 49, 50, 51, 52, 53, 54, 55, 56, 57]))))))
def i__law_read_5 (K : PySem.W.Frag) : MS := sIf (Se.tB (eV (vOp2 (gCmp fun i j => decide (i > j)) (vOp2 gSub (vVar 7) (vVar 5)) (vLit (.int 12))))) (sSeq (sRet (eLst (aCons (eMove 2) (aCons (eMove 3) (aCons (eV (vOp2 gAdd (vOp2 gSub (vVar 5) (vVar 4)) (vLit (.int 1)))) (aCons (eLit (.str [108, 111, 110, 103])) (aNil))))))) (sNil)) (sNil)
def i__law_read_6 (K : PySem.W.Frag) : MS := sIf (Se.tB (eV (vOp2 gNe (vVar 6) (vLit (.str [32]))))) (sSeq (sRet (eLst (aCons (eMove 2) (aCons (eMove 3) (aCons (eV (vOp2 gAdd (vOp2 gSub (vVar 5) (vVar 4)) (vLit (.int 1)))) (aCons (eLit (.str [115, 105, 103, 110])) (aNil))))))) (sNil)) (sNil)
def i__law_read_7 (K : PySem.W.Frag) : MS := sIf (Se.tB (eV (vOp2 gIn (vVar 6) (vVar 1)))) (sSeq (sWhile (c__law_read_4 K) (b__law_read_3 K)) (sSeq ((i__law_read_5 K)) (sSeq (sExpr (eMut gmAppend (pVar 2) (aCons (eTup (aCons (eLit (.str [119, 111, 114, 100])) (aCons (eV (vSl (vVar 0) (oSome (vVar 5)) (oSome (vVar 7)))) (aCons (eVar 3) (aCons (eV (vOp2 gAdd (vOp2 gSub (vVar 5) (vVar 4)) (vLit (.int 1)))) (aNil)))))) (aNil)))) (sNil)))) (sSeq ((i__law_read_6 K)) (sNil))
def i__law_read_8 (K : PySem.W.Frag) : MS := sIf (Se.tB (eV (vOp2 gIn (vVar 6) (vLit (.str [61, 44, 59, 40, 41, 123, 125]))))) (sSeq (sExpr (eMut gmAppend (pVar 2) (aCons (eTup (aCons (eLit (.str [115, 105, 103, 110])) (aCons (eVar 6) (aCons (eVar 3) (aCons (eV (vOp2 gSub (vVar 7) (vVar 4))) (aNil)))))) (aNil)))) (sNil)) (sSeq ((i__law_read_7 K)) (sNil))
def i__law_read_9 (K : PySem.W.Frag) : MS := sIf (Se.tB (eV (vOp2 gEq (vVar 6) (vLit (.str [35]))))) (sSeq (sWhile (c__law_read_2 K) (b__law_read_1 K)) (sNil)) (sSeq ((i__law_read_8 K)) (sNil))
def i__law_read_10 (K : PySem.W.Frag) : MS := sIf (Se.tB (eV (vOp2 gEq (vVar 6) (vLit (.str [10]))))) (sSeq (sAsg 3 (eV (vOp2 gAdd (vVar 3) (vLit (.int 1))))) (sSeq (sAsg 4 (eVar 7)) (sNil))) (sSeq ((i__law_read_9 K)) (sNil))
def b__law_read_11 (K : PySem.W.Frag) : MS := sSeq (sAsg 6 (eOp2 gIx (eVar 0) (eVar 5))) (sSeq (sAsg 7 (eV (vOp2 gAdd (vVar 5) (vLit (.int 1))))) (sSeq ((i__law_read_10 K)) (sSeq (sAsg 5 (eVar 7)) (sNil))))
def c__law_read_12 (K : PySem.W.Frag) : M Bool := Se.tB (eV (vOp2 (gCmp fun i j => decide (i < j)) (vVar 5) (vOpn gLen (wCons (vVar 0) (wNil)))))
def m__law_read (K : PySem.W.Frag) : MS := sSeq (sAsg 1 (eLit (.str [97, 98, 99, 100, 101, 102, 103, 104, 105, 106, 107, 108, 109, 110, 111, 112, 113, 114, 115, 116, 117, 118, 119, 120, 121, 122]))) (sSeq (sAsg 2 (eLst (aNil))) (sSeq (sAsg 3 (eLit (.int 1))) (sSeq (sAsg 4 (eLit (.int 0))) (sSeq (sAsg 5 (eLit (.int 0))) (sSeq (sWhile (c__law_read_12 K) (b__law_read_11 K)) (sSeq (sRet (eLst (aCons (eMove 2) (aCons (eLit (.int 0)) (aCons (eLit (.int 0)) (aCons (eLit (.str [])) (aNil))))))) (sNil)))))))
def F__law_read (K : PySem.W.Frag) : List D → FR := Se.fnOf 8 [] (m__law_read K)
theorem ff__law_read {P : Program} {w : World} {K : PySem.W.Frag} {mg : Str → Option Value} {base : Heap} (z : Z K mg) : FK P w K mg base "_law_read" ["source"] (s__law_read) 1 (F__law_read K) := by
  obtain ⟨f, fd, hm, F, hb⟩ := z.d__law_read
  refine ⟨f, fd, hm, F, hb, ?_⟩
  have q := fnN (P := P) (w := w) (mg := mg) (base := base) (k := 0) (C := C0 K) (B := []) (m := m__law_read K) F sc__law_read
  refine q ?_
  intro cdv A outer s H E hr W tk
  have hu : (XC P w K mg base ["source", "letters", "tokens", "row", "begin", "at", "sign", "behind"] "_law_read" (defScope s__law_read) f cdv A outer s H E).A.units + 64 < cLine := by have := hr.un; simp only [XC, cxOf]; omega
  have hpo : PassesOwn (model P w) (XC P w K mg base ["source", "letters", "tokens", "row", "begin", "at", "sign", "behind"] "_law_read" (defScope s__law_read) f cdv A outer s H E).A (XC P w K mg base ["source", "letters", "tokens", "row", "begin", "at", "sign", "behind"] "_law_read" (defScope s__law_read) f cdv A outer s H E).env (XC P w K mg base ["source", "letters", "tokens", "row", "begin", "at", "sign", "behind"] "_law_read" (defScope s__law_read) f cdv A outer s H E).xe := PassesOwn.leaving
  exact sss_cons (ss_setn (i := 1) (se_str [97, 98, 99, 100, 101, 102, 103, 104, 105, 106, 107, 108, 109, 110, 111, 112, 113, 114, 115, 116, 117, 118, 119, 120, 121, 122] rfl) sc__law_read.nd) (sss_cons (ss_setn (i := 2) (se_lst (sa_nil)) sc__law_read.nd) (sss_cons (ss_setn (i := 3) (se_int) sc__law_read.nd) (sss_cons (ss_setn (i := 4) (se_int) sc__law_read.nd) (sss_cons (ss_setn (i := 5) (se_int) sc__law_read.nd) (sss_cons (ss_while hpo (stv_lt (sv_n (i := 5)) (sv_clen z.n_len (sw_cons (sv_n (i := 0)) (sw_nil)))) (sss_cons (ss_setn (i := 6) (se_ix (se_n (i := 0)) (se_n (i := 5))) sc__law_read.nd) (sss_cons (ss_setn (i := 7) (sev_add (sv_n (i := 5)) (sv_int)) sc__law_read.nd) (sss_cons (ss_if (stv_eq hu (sv_n (i := 6)) (sv_str [10] rfl)) (sss_cons (ss_setn (i := 3) (sev_add (sv_n (i := 3)) (sv_int)) sc__law_read.nd) (sss_cons (ss_setn (i := 4) (se_n (i := 7)) sc__law_read.nd) (sss_nil))) (sss_cons (ss_if (stv_eq hu (sv_n (i := 6)) (sv_str [35] rfl)) (sss_cons (ss_while hpo (stw_t (stw_and (stv_lt (sv_n (i := 7)) (sv_clen z.n_len (sw_cons (sv_n (i := 0)) (sw_nil)))) (stw_and1 (stv_ne hu (sv_ix (sv_n (i := 0)) (sv_n (i := 7))) (sv_str [10] rfl))))) (sss_cons (ss_setn (i := 7) (sev_add (sv_n (i := 7)) (sv_int)) sc__law_read.nd) (sss_nil))) (sss_nil)) (sss_cons (ss_if (stv_in (sv_n (i := 6)) (sv_str [61, 44, 59, 40, 41, 123, 125] rfl)) (sss_cons (ss_expr (se_append (sp_n (i := 2)) (sa_cons (se_tup (sa_cons (se_str [115, 105, 103, 110] rfl) (sa_cons (se_n (i := 6)) (sa_cons (se_n (i := 3)) (sa_cons (sev_sub (sv_n (i := 7)) (sv_n (i := 4))) (sa_nil)))))) (sa_nil)))) (sss_nil)) (sss_cons (ss_if (stv_in (sv_n (i := 6)) (sv_n (i := 1))) (sss_cons (ss_while hpo (stw_t (stw_and (stv_lt (sv_n (i := 7)) (sv_clen z.n_len (sw_cons (sv_n (i := 0)) (sw_nil)))) (stw_and1 (stw_t (stw_or (stv_in (sv_ix (sv_n (i := 0)) (sv_n (i := 7))) (sv_n (i := 1))) (stw_or1 (stv_in (sv_ix (sv_n (i := 0)) (sv_n (i := 7))) (sv_str [48, 49, 50, 51, 52, 53, 54, 55, 56, 57] rfl)))))))) (sss_cons (ss_setn (i := 7) (sev_add (sv_n (i := 7)) (sv_int)) sc__law_read.nd) (sss_nil))) (sss_cons (ss_if (stv_gt (sv_sub (sv_n (i := 7)) (sv_n (i := 5))) (sv_int)) (sss_cons (ss_ret (se_lst (sa_cons (se_m (i := 2)) (sa_cons (se_m (i := 3)) (sa_cons (sev_add (sv_sub (sv_n (i := 5)) (sv_n (i := 4))) (sv_int)) (sa_cons (se_str [108, 111, 110, 103] rfl) (sa_nil))))))) (sss_nil)) (sss_nil)) (sss_cons (ss_expr (se_append (sp_n (i := 2)) (sa_cons (se_tup (sa_cons (se_str [119, 111, 114, 100] rfl) (sa_cons (sev_sl rfl (sv_n (i := 0)) (so_some (sv_n (i := 5))) (so_some (sv_n (i := 7)))) (sa_cons (se_n (i := 3)) (sa_cons (sev_add (sv_sub (sv_n (i := 5)) (sv_n (i := 4))) (sv_int)) (sa_nil)))))) (sa_nil)))) (sss_nil)))) (sss_cons (ss_if (stv_ne hu (sv_n (i := 6)) (sv_str [32] rfl)) (sss_cons (ss_ret (se_lst (sa_cons (se_m (i := 2)) (sa_cons (se_m (i := 3)) (sa_cons (sev_add (sv_sub (sv_n (i := 5)) (sv_n (i := 4))) (sv_int)) (sa_cons (se_str [115, 105, 103, 110] rfl) (sa_nil))))))) (sss_nil)) (sss_nil)) (sss_nil))) (sss_nil))) (sss_nil))) (sss_nil))) (sss_cons (ss_setn (i := 5) (se_n (i := 7)) sc__law_read.nd) (sss_nil)))))) (sss_cons (ss_ret (se_lst (sa_cons (se_m (i := 2)) (sa_cons (se_int) (sa_cons (se_int) (sa_cons (se_str [] rfl) (sa_nil))))))) (sss_nil)))))))
def m__law_string (K : PySem.W.Frag) : MS := sSeq (sRet (eAnd (eV (vOpn (gIsi K) (wCons (vVar 0) (wCons (vLit (.ty "str")) (wNil))))) (eV (vOp2 gEq (vVar 0) (vVar 1))))) (sNil)
def F__law_string (K : PySem.W.Frag) : List D → FR := Se.fnOf 2 [] (m__law_string K)
theorem ff__law_string {P : Program} {w : World} {K : PySem.W.Frag} {mg : Str → Option Value} {base : Heap} (z : Z K mg) : FK P w K mg base "_law_string" ["got", "due"] (s__law_string) 1 (F__law_string K) := by
  obtain ⟨f, fd, hm, F, hb⟩ := z.d__law_string
  refine ⟨f, fd, hm, F, hb, ?_⟩
  have q := fnN (P := P) (w := w) (mg := mg) (base := base) (k := 0) (C := C0 K) (B := []) (m := m__law_string K) F sc__law_string
  refine q ?_
  intro cdv A outer s H E hr W tk
  have hu : (XC P w K mg base ["got", "due"] "_law_string" (defScope s__law_string) f cdv A outer s H E).A.units + 64 < cLine := by have := hr.un; simp only [XC, cxOf]; omega
  have hpo : PassesOwn (model P w) (XC P w K mg base ["got", "due"] "_law_string" (defScope s__law_string) f cdv A outer s H E).A (XC P w K mg base ["got", "due"] "_law_string" (defScope s__law_string) f cdv A outer s H E).env (XC P w K mg base ["got", "due"] "_law_string" (defScope s__law_string) f cdv A outer s H E).xe := PassesOwn.leaving
  exact sss_cons (ss_ret (se_and (sev_cisi z.n_isinstance (sw_cons (sv_n (i := 0)) (sw_cons (sv_bt z.n_str PyProof.Rows.Boot.«str») (sw_nil)))) (se_one (sev_eq hu (sv_n (i := 0)) (sv_n (i := 1)))))) (sss_nil)
theorem ff__law_stringH {P : Program} {w : World} {K : PySem.W.Frag} {mg : Str → Option Value} {base : Heap} (z : Z K mg) : FKH P w K mg base "_law_string" ["got", "due"] (s__law_string) 1 (F__law_string K) := by
  obtain ⟨f, fd, hm, F, hb⟩ := z.d__law_string
  refine ⟨f, fd, hm, F, hb, ?_⟩
  have q := fnH (P := P) (w := w) (mg := mg) (base := base) (k := 0) (C := C0 K) (B := []) (m := m__law_string K) F sc__law_string
  refine q ?_
  intro cdv A outer s H E p hr hc W tk
  have hu : (XH P w K mg base ["got", "due"] "_law_string" (defScope s__law_string) f cdv A outer s H E p).A.units + 64 < cLine := by have := hr.un; simp only [XH, L2H.cxH, cxOf]; omega
  exact sss_cons (ss_ret (se_and (sev_cisi z.n_isinstance (sw_cons (sv_n (i := 0)) (sw_cons (sv_bt z.n_str PyProof.Rows.Boot.«str») (sw_nil)))) (se_one (sev_eq hu (sv_n (i := 0)) (sv_n (i := 1)))))) (sss_nil)
def m__law_number (K : PySem.W.Frag) : MS := sSeq (sRet (eAnd (eV (vOpn (gIsi K) (wCons (vVar 0) (wCons (vLit (.ty "int")) (wNil))))) (eAnd (eNot (eV (vOpn (gIsi K) (wCons (vVar 0) (wCons (vLit (.ty "bool")) (wNil)))))) (eV (vOp2 gEq (vVar 0) (vVar 1)))))) (sNil)
def F__law_number (K : PySem.W.Frag) : List D → FR := Se.fnOf 2 [] (m__law_number K)
theorem ff__law_number {P : Program} {w : World} {K : PySem.W.Frag} {mg : Str → Option Value} {base : Heap} (z : Z K mg) : FK P w K mg base "_law_number" ["got", "due"] (s__law_number) 1 (F__law_number K) := by
  obtain ⟨f, fd, hm, F, hb⟩ := z.d__law_number
  refine ⟨f, fd, hm, F, hb, ?_⟩
  have q := fnN (P := P) (w := w) (mg := mg) (base := base) (k := 0) (C := C0 K) (B := []) (m := m__law_number K) F sc__law_number
  refine q ?_
  intro cdv A outer s H E hr W tk
  have hu : (XC P w K mg base ["got", "due"] "_law_number" (defScope s__law_number) f cdv A outer s H E).A.units + 64 < cLine := by have := hr.un; simp only [XC, cxOf]; omega
  have hpo : PassesOwn (model P w) (XC P w K mg base ["got", "due"] "_law_number" (defScope s__law_number) f cdv A outer s H E).A (XC P w K mg base ["got", "due"] "_law_number" (defScope s__law_number) f cdv A outer s H E).env (XC P w K mg base ["got", "due"] "_law_number" (defScope s__law_number) f cdv A outer s H E).xe := PassesOwn.leaving
  exact sss_cons (ss_ret (se_and (sev_cisi z.n_isinstance (sw_cons (sv_n (i := 0)) (sw_cons (sv_bt z.n_int PyProof.Rows.Boot.«int») (sw_nil)))) (se_and (se_not (sev_cisi z.n_isinstance (sw_cons (sv_n (i := 0)) (sw_cons (sv_bt z.n_bool PyProof.Rows.Boot.«bool») (sw_nil))))) (se_one (sev_eq hu (sv_n (i := 0)) (sv_n (i := 1))))))) (sss_nil)
theorem ff__law_numberH {P : Program} {w : World} {K : PySem.W.Frag} {mg : Str → Option Value} {base : Heap} (z : Z K mg) : FKH P w K mg base "_law_number" ["got", "due"] (s__law_number) 1 (F__law_number K) := by
  obtain ⟨f, fd, hm, F, hb⟩ := z.d__law_number
  refine ⟨f, fd, hm, F, hb, ?_⟩
  have q := fnH (P := P) (w := w) (mg := mg) (base := base) (k := 0) (C := C0 K) (B := []) (m := m__law_number K) F sc__law_number
  refine q ?_
  intro cdv A outer s H E p hr hc W tk
  have hu : (XH P w K mg base ["got", "due"] "_law_number" (defScope s__law_number) f cdv A outer s H E p).A.units + 64 < cLine := by have := hr.un; simp only [XH, L2H.cxH, cxOf]; omega
  exact sss_cons (ss_ret (se_and (sev_cisi z.n_isinstance (sw_cons (sv_n (i := 0)) (sw_cons (sv_bt z.n_int PyProof.Rows.Boot.«int») (sw_nil)))) (se_and (se_not (sev_cisi z.n_isinstance (sw_cons (sv_n (i := 0)) (sw_cons (sv_bt z.n_bool PyProof.Rows.Boot.«bool») (sw_nil))))) (se_one (sev_eq hu (sv_n (i := 0)) (sv_n (i := 1))))))) (sss_nil)
def b__law_alike_1 (K : PySem.W.Frag) : MS := sSeq (sAsg 3 (eOp2 gIx (eVar 0) (eVar 2))) (sSeq (sIf (tOrM (tNotM (tV (vOpn (gIsi K) (wCons (vVar 3) (wCons (vLit (.ty "tuple")) (wNil)))))) (Se.tB (eV (vOp2 gNe (vOpn gLen (wCons (vVar 3) (wNil))) (vLit (.int 4)))))) (sSeq (sRet (eLit (.bl false))) (sNil)) (sNil)) (sSeq (sIf (tOrM (tNotM (tE (eCall 2 (F__law_string K) (bVal (eOp2 gIx (eVar 3) (eLit (.int 0))) (bVal (eOp2 gIx (eOp2 gIx (eVar 1) (eVar 2)) (eLit (.int 0))) (bNil)))))) (tNotM (tE (eCall 2 (F__law_string K) (bVal (eOp2 gIx (eVar 3) (eLit (.int 1))) (bVal (eOp2 gIx (eOp2 gIx (eVar 1) (eVar 2)) (eLit (.int 1))) (bNil))))))) (sSeq (sRet (eLit (.bl false))) (sNil)) (sNil)) (sSeq (sIf (tOrM (tNotM (tE (eCall 2 (F__law_number K) (bVal (eOp2 gIx (eVar 3) (eLit (.int 2))) (bVal (eOp2 gIx (eOp2 gIx (eVar 1) (eVar 2)) (eLit (.int 2))) (bNil)))))) (tNotM (tE (eCall 2 (F__law_number K) (bVal (eOp2 gIx (eVar 3) (eLit (.int 3))) (bVal (eOp2 gIx (eOp2 gIx (eVar 1) (eVar 2)) (eLit (.int 3))) (bNil))))))) (sSeq (sRet (eLit (.bl false))) (sNil)) (sNil)) (sNil))))
def m__law_alike (K : PySem.W.Frag) : MS := sSeq (sIf (tOrM (tNotM (tV (vOpn (gIsi K) (wCons (vVar 0) (wCons (vLit (.ty "tuple")) (wNil)))))) (Se.tB (eV (vOp2 gNe (vOpn gLen (wCons (vVar 0) (wNil))) (vOpn gLen (wCons (vVar 1) (wNil))))))) (sSeq (sRet (eLit (.bl false))) (sNil)) (sNil)) (sSeq (sFor (iArgs rg1 (aCons (eV (vOpn gLen (wCons (vVar 1) (wNil)))) (aNil))) (fName 2) (b__law_alike_1 K)) (sSeq (sRet (eLit (.bl true))) (sNil)))
def F__law_alike (K : PySem.W.Frag) : List D → FR := Se.fnOf 4 [] (m__law_alike K)
theorem ff__law_alike {P : Program} {w : World} {K : PySem.W.Frag} {mg : Str → Option Value} {base : Heap} (z : Z K mg) : FK P w K mg base "_law_alike" ["got", "due"] (s__law_alike) 2 (F__law_alike K) := by
  obtain ⟨f, fd, hm, F, hb⟩ := z.d__law_alike
  obtain ⟨f__law_number, fd__law_number, hm__law_number, d__law_number, hb__law_number, ok__law_number⟩ := ff__law_number (P := P) (w := w) (base := base) z
  have hk__law_number := d__law_number.kp
  obtain ⟨f__law_string, fd__law_string, hm__law_string, d__law_string, hb__law_string, ok__law_string⟩ := ff__law_string (P := P) (w := w) (base := base) z
  have hk__law_string := d__law_string.kp
  refine ⟨f, fd, hm, F, hb, ?_⟩
  have q := fnN (P := P) (w := w) (mg := mg) (base := base) (k := 1) (C := C0 K) (B := []) (m := m__law_alike K) F sc__law_alike
  refine q ?_
  intro cdv A outer s H E hr W tk
  have hu : (XC P w K mg base ["got", "due", "k", "token"] "_law_alike" (defScope s__law_alike) f cdv A outer s H E).A.units + 64 < cLine := by have := hr.un; simp only [XC, cxOf]; omega
  have hpo : PassesOwn (model P w) (XC P w K mg base ["got", "due", "k", "token"] "_law_alike" (defScope s__law_alike) f cdv A outer s H E).A (XC P w K mg base ["got", "due", "k", "token"] "_law_alike" (defScope s__law_alike) f cdv A outer s H E).env (XC P w K mg base ["got", "due", "k", "token"] "_law_alike" (defScope s__law_alike) f cdv A outer s H E).xe := PassesOwn.leaving
  exact sss_cons (ss_if (stw_t (stw_or (st_not (stv_t (sv_cisi z.n_isinstance (sw_cons (sv_n (i := 0)) (sw_cons (sv_bt z.n_tuple PyProof.Rows.Boot.«tuple») (sw_nil)))))) (stw_or1 (stv_ne hu (sv_clen z.n_len (sw_cons (sv_n (i := 0)) (sw_nil))) (sv_clen z.n_len (sw_cons (sv_n (i := 1)) (sw_nil))))))) (sss_cons (ss_ret (se_bl)) (sss_nil)) (sss_nil)) (sss_cons (ss_for hpo rfl (si_range1 rfl z.n_range (sa_cons (sev_clen z.n_len (sw_cons (sv_n (i := 1)) (sw_nil))) (sa_nil))) (sg_n sc__law_alike.nd (i := 2)) (sss_cons (ss_setn (i := 3) (se_ix (se_n (i := 0)) (se_n (i := 2))) sc__law_alike.nd) (sss_cons (ss_if (stw_t (stw_or (st_not (stv_t (sv_cisi z.n_isinstance (sw_cons (sv_n (i := 3)) (sw_cons (sv_bt z.n_tuple PyProof.Rows.Boot.«tuple») (sw_nil)))))) (stw_or1 (stv_ne hu (sv_clen z.n_len (sw_cons (sv_n (i := 3)) (sw_nil))) (sv_int))))) (sss_cons (ss_ret (se_bl)) (sss_nil)) (sss_nil)) (sss_cons (ss_if (stw_t (stw_or (st_not (st_t (se_call rfl (cal_calm ok__law_string (hr.mono (by decide))) tk rfl hm__law_string hk__law_string hb__law_string rfl (sab_val (se_ix (se_n (i := 3)) (se_int)) (sab_val (se_ix (se_ix (se_n (i := 1)) (se_n (i := 2))) (se_int)) (sab_nil)))))) (stw_or1 (st_not (st_t (se_call rfl (cal_calm ok__law_string (hr.mono (by decide))) tk rfl hm__law_string hk__law_string hb__law_string rfl (sab_val (se_ix (se_n (i := 3)) (se_int)) (sab_val (se_ix (se_ix (se_n (i := 1)) (se_n (i := 2))) (se_int)) (sab_nil))))))))) (sss_cons (ss_ret (se_bl)) (sss_nil)) (sss_nil)) (sss_cons (ss_if (stw_t (stw_or (st_not (st_t (se_call rfl (cal_calm ok__law_number (hr.mono (by decide))) tk rfl hm__law_number hk__law_number hb__law_number rfl (sab_val (se_ix (se_n (i := 3)) (se_int)) (sab_val (se_ix (se_ix (se_n (i := 1)) (se_n (i := 2))) (se_int)) (sab_nil)))))) (stw_or1 (st_not (st_t (se_call rfl (cal_calm ok__law_number (hr.mono (by decide))) tk rfl hm__law_number hk__law_number hb__law_number rfl (sab_val (se_ix (se_n (i := 3)) (se_int)) (sab_val (se_ix (se_ix (se_n (i := 1)) (se_n (i := 2))) (se_int)) (sab_nil))))))))) (sss_cons (ss_ret (se_bl)) (sss_nil)) (sss_nil)) (sss_nil)))))) (sss_cons (ss_ret (se_bl)) (sss_nil)))
def b_end_of_1 (K : PySem.W.Frag) : MS := sSeq (sAug 1 (fun i j => i + j) (eLit (.int 1))) (sNil)
def c_end_of_2 (K : PySem.W.Frag) : M Bool := tAndM (Se.tB (eV (vOp2 (gCmp fun i j => decide (i < j)) (vVar 1) (vOpn gLen (wCons (vVar 0) (wNil)))))) (Se.tB (eV (vOp2 gIn (vOp2 ixv (vVar 0) (vVar 1)) (vVar 2))))
def m_end_of (K : PySem.W.Frag) : MS := sSeq (sWhile (c_end_of_2 K) (b_end_of_1 K)) (sSeq (sRet (eMove 1)) (sNil))
def F_end_of (K : PySem.W.Frag) : List D → FR := Se.fnOf 3 [] (m_end_of K)
theorem ff_end_of {P : Program} {w : World} {K : PySem.W.Frag} {mg : Str → Option Value} {base : Heap} (z : Z K mg) : FK P w K mg base "end_of" ["line", "place", "signs"] (s_end_of) 1 (F_end_of K) := by
  obtain ⟨f, fd, hm, F, hb⟩ := z.d_end_of
  refine ⟨f, fd, hm, F, hb, ?_⟩
  have q := fnN (P := P) (w := w) (mg := mg) (base := base) (k := 0) (C := C0 K) (B := []) (m := m_end_of K) F sc_end_of
  refine q ?_
  intro cdv A outer s H E hr W tk
  have hu : (XC P w K mg base ["line", "place", "signs"] "end_of" (defScope s_end_of) f cdv A outer s H E).A.units + 64 < cLine := by have := hr.un; simp only [XC, cxOf]; omega
  have hpo : PassesOwn (model P w) (XC P w K mg base ["line", "place", "signs"] "end_of" (defScope s_end_of) f cdv A outer s H E).A (XC P w K mg base ["line", "place", "signs"] "end_of" (defScope s_end_of) f cdv A outer s H E).env (XC P w K mg base ["line", "place", "signs"] "end_of" (defScope s_end_of) f cdv A outer s H E).xe := PassesOwn.leaving
  exact sss_cons (ss_while hpo (stw_t (stw_and (stv_lt (sv_n (i := 1)) (sv_clen z.n_len (sw_cons (sv_n (i := 0)) (sw_nil)))) (stw_and1 (stv_in (sv_ix (sv_n (i := 0)) (sv_n (i := 1))) (sv_n (i := 2)))))) (sss_cons (ss_incn (i := 1) (se_int) sc_end_of.nd) (sss_nil))) (sss_cons (ss_ret (se_m (i := 1))) (sss_nil))
def m_token_at (K : PySem.W.Frag) : MS := sSeq (sIf (Se.tB (eV (vOp2 gIn (vOp2 ixv (vVar 1) (vVar 2)) (vLit (.str [97, 98, 99, 100, 101, 102, 103, 104, 105, 106, 107, 108, 109, 110, 111, 112, 113, 114, 115, 116, 117, 118, 119, 120, 121, 122]))))) (sSeq (sAsg 3 (eCall 3 (F_end_of K) (bVal (eVar 1) (bVal (eVar 2) (bVal (eV (vOp2 gAdd (vLit (.str [97, 98, 99, 100, 101, 102, 103, 104, 105, 106, 107, 108, 109, 110, 111, 112, 113, 114, 115, 116, 117, 118, 119, 120, 121, 122])) (vLit (.str [48, 49, 50, 51, 52, 53, 54, 55, 56, 57])))) (bNil)))))) (sSeq (sIf (Se.tB (eV (vOp2 (gCmp fun i j => decide (i > j)) (vOp2 gSub (vVar 3) (vVar 2)) (vLit (.int 12))))) (sSeq (sRaise (He.ga K "BadSource") ["line", "place", "word"] (aCons (eVar 0) (aCons (eV (vOp2 gAdd (vVar 2) (vLit (.int 1)))) (aCons (eLit (.str [108, 111, 110, 103])) (aNil))))) (sNil)) (sNil)) (sSeq (sRet (eTup (aCons (eLit (.str [119, 111, 114, 100])) (aCons (eV (vSl (vVar 1) (oSome (vVar 2)) (oSome (vVar 3)))) (aCons (eMove 0) (aCons (eV (vOp2 gAdd (vVar 2) (vLit (.int 1)))) (aNil))))))) (sNil)))) (sNil)) (sSeq (sIf (Se.tB (eV (vOp2 gNin (vOp2 ixv (vVar 1) (vVar 2)) (vLit (.str [61, 44, 59, 40, 41, 123, 125]))))) (sSeq (sRaise (He.ga K "BadSource") ["line", "place", "word"] (aCons (eVar 0) (aCons (eV (vOp2 gAdd (vVar 2) (vLit (.int 1)))) (aCons (eLit (.str [115, 105, 103, 110])) (aNil))))) (sNil)) (sNil)) (sSeq (sRet (eTup (aCons (eLit (.str [115, 105, 103, 110])) (aCons (eOp2 gIx (eVar 1) (eVar 2)) (aCons (eMove 0) (aCons (eV (vOp2 gAdd (vVar 2) (vLit (.int 1)))) (aNil))))))) (sNil)))
def F_token_at (K : PySem.W.Frag) : List D → FR := Se.fnOf 4 [] (m_token_at K)
theorem ff_token_at {P : Program} {w : World} {K : PySem.W.Frag} {mg : Str → Option Value} {base : Heap} (z : Z K mg) : FK P w K mg base "token_at" ["number", "line", "place"] (s_token_at) 3 (F_token_at K) := by
  obtain ⟨f, fd, hm, F, hb⟩ := z.d_token_at
  obtain ⟨f_end_of, fd_end_of, hm_end_of, d_end_of, hb_end_of, ok_end_of⟩ := ff_end_of (P := P) (w := w) (base := base) z
  have hk_end_of := d_end_of.kp
  obtain ⟨o_BadSource, fi_BadSource, fdi_BadSource, iC_BadSource, tI_BadSource, hb_BadSource, ok_BadSource⟩ := fi_BadSource (P := P) (w := w) (base := base) z
  refine ⟨f, fd, hm, F, hb, ?_⟩
  have q := fnN (P := P) (w := w) (mg := mg) (base := base) (k := 2) (C := C0 K) (B := []) (m := m_token_at K) F sc_token_at
  refine q ?_
  intro cdv A outer s H E hr W tk
  have hu : (XC P w K mg base ["number", "line", "place", "end"] "token_at" (defScope s_token_at) f cdv A outer s H E).A.units + 64 < cLine := by have := hr.un; simp only [XC, cxOf]; omega
  have hpo : PassesOwn (model P w) (XC P w K mg base ["number", "line", "place", "end"] "token_at" (defScope s_token_at) f cdv A outer s H E).A (XC P w K mg base ["number", "line", "place", "end"] "token_at" (defScope s_token_at) f cdv A outer s H E).env (XC P w K mg base ["number", "line", "place", "end"] "token_at" (defScope s_token_at) f cdv A outer s H E).xe := PassesOwn.leaving
  exact sss_cons (ss_if (stv_in (sv_ix (sv_n (i := 1)) (sv_n (i := 2))) (sv_gs z.g_SMALL_LETTERS)) (sss_cons (ss_setn (i := 3) (se_call rfl (cal_calm ok_end_of (hr.mono (by decide))) tk rfl hm_end_of hk_end_of hb_end_of rfl (sab_val (se_n (i := 1)) (sab_val (se_n (i := 2)) (sab_val (sev_add (sv_gs z.g_SMALL_LETTERS) (sv_gs z.g_TEN_FIGURES)) (sab_nil))))) sc_token_at.nd) (sss_cons (ss_if (stv_gt (sv_sub (sv_n (i := 3)) (sv_n (i := 2))) (sv_gi z.g_WORD_MOST)) (sss_cons (ss_raiseN rfl (sa_cons (se_n (i := 0)) (sa_cons (sev_add (sv_n (i := 2)) (sv_int)) (sa_cons (se_str [108, 111, 110, 103] rfl) (sa_nil)))) tk (by decide) o_BadSource iC_BadSource tI_BadSource ok_BadSource (hr.mono (by decide)) hb_BadSource rfl z.c_BadSource) (sss_nil)) (sss_nil)) (sss_cons (ss_ret (se_tup (sa_cons (se_str [119, 111, 114, 100] rfl) (sa_cons (sev_sl rfl (sv_n (i := 1)) (so_some (sv_n (i := 2))) (so_some (sv_n (i := 3)))) (sa_cons (se_m (i := 0)) (sa_cons (sev_add (sv_n (i := 2)) (sv_int)) (sa_nil))))))) (sss_nil)))) (sss_nil)) (sss_cons (ss_if (stv_nin (sv_ix (sv_n (i := 1)) (sv_n (i := 2))) (sv_gs z.g_SIGNS)) (sss_cons (ss_raiseN rfl (sa_cons (se_n (i := 0)) (sa_cons (sev_add (sv_n (i := 2)) (sv_int)) (sa_cons (se_str [115, 105, 103, 110] rfl) (sa_nil)))) tk (by decide) o_BadSource iC_BadSource tI_BadSource ok_BadSource (hr.mono (by decide)) hb_BadSource rfl z.c_BadSource) (sss_nil)) (sss_nil)) (sss_cons (ss_ret (se_tup (sa_cons (se_str [115, 105, 103, 110] rfl) (sa_cons (se_ix (se_n (i := 1)) (se_n (i := 2))) (sa_cons (se_m (i := 0)) (sa_cons (sev_add (sv_n (i := 2)) (sv_int)) (sa_nil))))))) (sss_nil)))
def b_line_tokens_1 (K : PySem.W.Frag) : MS := sSeq (sAsg 4 (eCall 3 (F_token_at K) (bVal (eVar 0) (bVal (eVar 1) (bVal (eVar 3) (bNil)))))) (sSeq (sExpr (eMut gmAppend (pVar 2) (aCons (eVar 4) (aNil)))) (sSeq (sAsg 3 (eCall 3 (F_end_of K) (bVal (eVar 1) (bVal (eV (vOp2 gAdd (vVar 3) (vOpn gLen (wCons (vOp2 ixv (vVar 4) (vLit (.int 1))) (wNil))))) (bVal (eLit (.str [32])) (bNil)))))) (sNil)))
def c_line_tokens_2 (K : PySem.W.Frag) : M Bool := tAndM (Se.tB (eV (vOp2 (gCmp fun i j => decide (i < j)) (vVar 3) (vOpn gLen (wCons (vVar 1) (wNil)))))) (Se.tB (eV (vOp2 gNe (vOp2 ixv (vVar 1) (vVar 3)) (vLit (.str [35])))))
def m_line_tokens (K : PySem.W.Frag) : MS := sSeq (sAsg 2 (eLst (aNil))) (sSeq (sAsg 3 (eCall 3 (F_end_of K) (bVal (eVar 1) (bVal (eLit (.int 0)) (bVal (eLit (.str [32])) (bNil)))))) (sSeq (sWhile (c_line_tokens_2 K) (b_line_tokens_1 K)) (sSeq (sRet (eMove 2)) (sNil))))
def F_line_tokens (K : PySem.W.Frag) : List D → FR := Se.fnOf 5 [] (m_line_tokens K)
theorem ff_line_tokens {P : Program} {w : World} {K : PySem.W.Frag} {mg : Str → Option Value} {base : Heap} (z : Z K mg) : FK P w K mg base "line_tokens" ["number", "line"] (s_line_tokens) 4 (F_line_tokens K) := by
  obtain ⟨f, fd, hm, F, hb⟩ := z.d_line_tokens
  obtain ⟨f_end_of, fd_end_of, hm_end_of, d_end_of, hb_end_of, ok_end_of⟩ := ff_end_of (P := P) (w := w) (base := base) z
  have hk_end_of := d_end_of.kp
  obtain ⟨f_token_at, fd_token_at, hm_token_at, d_token_at, hb_token_at, ok_token_at⟩ := ff_token_at (P := P) (w := w) (base := base) z
  have hk_token_at := d_token_at.kp
  refine ⟨f, fd, hm, F, hb, ?_⟩
  have q := fnN (P := P) (w := w) (mg := mg) (base := base) (k := 3) (C := C0 K) (B := []) (m := m_line_tokens K) F sc_line_tokens
  refine q ?_
  intro cdv A outer s H E hr W tk
  have hu : (XC P w K mg base ["number", "line", "found", "place", "token"] "line_tokens" (defScope s_line_tokens) f cdv A outer s H E).A.units + 64 < cLine := by have := hr.un; simp only [XC, cxOf]; omega
  have hpo : PassesOwn (model P w) (XC P w K mg base ["number", "line", "found", "place", "token"] "line_tokens" (defScope s_line_tokens) f cdv A outer s H E).A (XC P w K mg base ["number", "line", "found", "place", "token"] "line_tokens" (defScope s_line_tokens) f cdv A outer s H E).env (XC P w K mg base ["number", "line", "found", "place", "token"] "line_tokens" (defScope s_line_tokens) f cdv A outer s H E).xe := PassesOwn.leaving
  exact sss_cons (ss_setn (i := 2) (se_lst (sa_nil)) sc_line_tokens.nd) (sss_cons (ss_setn (i := 3) (se_call rfl (cal_calm ok_end_of (hr.mono (by decide))) tk rfl hm_end_of hk_end_of hb_end_of rfl (sab_val (se_n (i := 1)) (sab_val (se_int) (sab_val (se_str [32] rfl) (sab_nil))))) sc_line_tokens.nd) (sss_cons (ss_while hpo (stw_t (stw_and (stv_lt (sv_n (i := 3)) (sv_clen z.n_len (sw_cons (sv_n (i := 1)) (sw_nil)))) (stw_and1 (stv_ne hu (sv_ix (sv_n (i := 1)) (sv_n (i := 3))) (sv_str [35] rfl))))) (sss_cons (ss_setn (i := 4) (se_call rfl (cal_calm ok_token_at (hr.mono (by decide))) tk rfl hm_token_at hk_token_at hb_token_at rfl (sab_val (se_n (i := 0)) (sab_val (se_n (i := 1)) (sab_val (se_n (i := 3)) (sab_nil))))) sc_line_tokens.nd) (sss_cons (ss_expr (se_append (sp_n (i := 2)) (sa_cons (se_n (i := 4)) (sa_nil)))) (sss_cons (ss_setn (i := 3) (se_call rfl (cal_calm ok_end_of (hr.mono (by decide))) tk rfl hm_end_of hk_end_of hb_end_of rfl (sab_val (se_n (i := 1)) (sab_val (sev_add (sv_n (i := 3)) (sv_clen z.n_len (sw_cons (sv_ix (sv_n (i := 4)) (sv_int)) (sw_nil)))) (sab_val (se_str [32] rfl) (sab_nil))))) sc_line_tokens.nd) (sss_nil))))) (sss_cons (ss_ret (se_m (i := 2))) (sss_nil))))
def b_tokens_of_1 (K : PySem.W.Frag) : MS := sSeq (sAsg 1 (eOp2 gAdd (eVar 1) (eCall 2 (F_line_tokens K) (bVal (eV (vOp2 gAdd (vVar 2) (vLit (.int 1)))) (bVal (eVar 3) (bNil)))))) (sNil)
def m_tokens_of (K : PySem.W.Frag) : MS := sSeq (sAsg 1 (eLst (aNil))) (sSeq (sFor (iArgs enA (aCons (eFz (eV (vBm gSplit (vVar 0) (vLit (.str [10]))))) aNil)) (fTup (fCons (fName 2) (fCons (fName 3) (fNil)))) (b_tokens_of_1 K)) (sSeq (sRet (eV (vOpn gTup (wCons (vVar 1) (wNil))))) (sNil)))
def F_tokens_of (K : PySem.W.Frag) : List D → FR := Se.fnOf 4 [] (m_tokens_of K)
theorem ff_tokens_of {P : Program} {w : World} {K : PySem.W.Frag} {mg : Str → Option Value} {base : Heap} (z : Z K mg) : FK P w K mg base "tokens_of" ["text"] (s_tokens_of) 5 (F_tokens_of K) := by
  obtain ⟨f, fd, hm, F, hb⟩ := z.d_tokens_of
  obtain ⟨f_line_tokens, fd_line_tokens, hm_line_tokens, d_line_tokens, hb_line_tokens, ok_line_tokens⟩ := ff_line_tokens (P := P) (w := w) (base := base) z
  have hk_line_tokens := d_line_tokens.kp
  refine ⟨f, fd, hm, F, hb, ?_⟩
  have q := fnN (P := P) (w := w) (mg := mg) (base := base) (k := 4) (C := C0 K) (B := []) (m := m_tokens_of K) F sc_tokens_of
  refine q ?_
  intro cdv A outer s H E hr W tk
  have hu : (XC P w K mg base ["text", "found", "at", "line"] "tokens_of" (defScope s_tokens_of) f cdv A outer s H E).A.units + 64 < cLine := by have := hr.un; simp only [XC, cxOf]; omega
  have hpo : PassesOwn (model P w) (XC P w K mg base ["text", "found", "at", "line"] "tokens_of" (defScope s_tokens_of) f cdv A outer s H E).A (XC P w K mg base ["text", "found", "at", "line"] "tokens_of" (defScope s_tokens_of) f cdv A outer s H E).env (XC P w K mg base ["text", "found", "at", "line"] "tokens_of" (defScope s_tokens_of) f cdv A outer s H E).xe := PassesOwn.leaving
  exact sss_cons (ss_setn (i := 1) (se_lst (sa_nil)) sc_tokens_of.nd) (sss_cons (ss_for hpo rfl (si_enum rfl rfl z.n_enumerate (sa_cons (se_fz (sev_split (sv_n (i := 0)) (sv_str [10] rfl))) sa_nil)) (sg_tup rfl rfl (sgs_cons (sg_n sc_tokens_of.nd (i := 2)) (sgs_cons (sg_n sc_tokens_of.nd (i := 3)) (sgs_nil))) (fCons_len (fCons_len (fNil_len)))) (sss_cons (ss_setn (i := 1) (se_add (se_n (i := 1)) (se_call rfl (cal_calm ok_line_tokens (hr.mono (by decide))) tk rfl hm_line_tokens hk_line_tokens hb_line_tokens rfl (sab_val (sev_add (sv_n (i := 2)) (sv_int)) (sab_val (se_n (i := 3)) (sab_nil))))) sc_tokens_of.nd) (sss_nil))) (sss_cons (ss_ret (sev_ctuple z.n_tuple (sw_cons (sv_n (i := 1)) (sw_nil)))) (sss_nil)))
def i__law_asked_1 (K : PySem.W.Frag) : MS := sIf (tV (vVar 2)) (sSeq (sAsg 4 (eCall 1 (F_tokens_of K) (bVal (eVar 0) (bNil)))) (sNil)) (sSeq (sAsg 4 (eCall 1 (F_tokens_of K) (bVal (eVar 0) (bNil)))) (sNil))
def i__law_asked_2 (K : PySem.W.Frag) : MS := sIf (tOrM (Se.tB (eV (vOp2 gEq (vOp2 ixv (vVar 1) (vLit (.int 3))) (vLit (.str []))))) (tOrM (tNotM (tV (vOpn (gIsX K) (wCons (vVar 3) (wCons (vLit (.obj (He.ga K "BadSource"))) (wNil)))))) (tNotM (tV (vOpn (gIsX K) (wCons (vVar 3) (wCons (vLit (.obj (He.ga K "TextError"))) (wNil)))))))) (sSeq (sRet (eLit (.bl false))) (sNil)) (sNil)
def i__law_asked_3 (K : PySem.W.Frag) : MS := sIf (tOrM (tV (vOpn (gIsX K) (wCons (vVar 3) (wCons (vTup (wCons (vLit (.obj (He.ga K "BadText"))) (wCons (vLit (.obj (He.ga K "BadCommand"))) (wCons (vLit (.obj (He.ga K "DataError"))) (wCons (vLit (.obj (He.ga K "CallError"))) (wNil)))))) (wNil))))) (tNotM (tV (vOpn (gIsX K) (wCons (vVar 3) (wCons (vLit (.ty "ValueError")) (wNil))))))) (sSeq (sRet (eLit (.bl false))) (sNil)) (sNil)
def m__law_asked (K : PySem.W.Frag) : MS := sSeq (sTry 3 (fun k => PySem.W.exmOne K (.ref k) (.ref (He.ga K "SizeError"))) (sSeq ((i__law_asked_1 K)) (sNil)) (sSeq ((i__law_asked_2 K)) (sSeq ((i__law_asked_3 K)) (sSeq (sRet (eAnd (eCall 2 (F__law_number K) (bVal (eQ (vXf K "line" 3)) (bVal (eOp2 gIx (eVar 1) (eLit (.int 1))) (bNil)))) (eAnd (eCall 2 (F__law_number K) (bVal (eQ (vXf K "place" 3)) (bVal (eOp2 gIx (eVar 1) (eLit (.int 2))) (bNil)))) (eCall 2 (F__law_string K) (bVal (eQ (vXf K "word" 3)) (bVal (eOp2 gIx (eVar 1) (eLit (.int 3))) (bNil))))))) (sNil))))) (sSeq (sRet (eAnd (eV (vOp2 gEq (vOp2 ixv (vVar 1) (vLit (.int 3))) (vLit (.str [])))) (eCall 2 (F__law_alike K) (bVal (eVar 4) (bVal (eOp2 gIx (eVar 1) (eLit (.int 0))) (bNil)))))) (sNil))
def F__law_asked (K : PySem.W.Frag) : List D → FR := Se.fnOf 5 [] (m__law_asked K)
theorem ff__law_asked {P : Program} {w : World} {K : PySem.W.Frag} {mg : Str → Option Value} {base : Heap} (z : Z K mg) : FK P w K mg base "_law_asked" ["source", "due", "named"] (s__law_asked) 6 (F__law_asked K) := by
  obtain ⟨f, fd, hm, F, hb⟩ := z.d__law_asked
  obtain ⟨f__law_alike, fd__law_alike, hm__law_alike, d__law_alike, hb__law_alike, ok__law_alike⟩ := ff__law_alike (P := P) (w := w) (base := base) z
  have hk__law_alike := d__law_alike.kp
  obtain ⟨f_tokens_of, fd_tokens_of, hm_tokens_of, d_tokens_of, hb_tokens_of, ok_tokens_of⟩ := ff_tokens_of (P := P) (w := w) (base := base) z
  have hk_tokens_of := d_tokens_of.kp
  obtain ⟨f__law_numberH, fd__law_numberH, hm__law_numberH, d__law_numberH, hb__law_numberH, ok__law_numberH⟩ := ff__law_numberH (P := P) (w := w) (base := base) z
  have hk__law_numberH := d__law_numberH.kp
  obtain ⟨f__law_stringH, fd__law_stringH, hm__law_stringH, d__law_stringH, hb__law_stringH, ok__law_stringH⟩ := ff__law_stringH (P := P) (w := w) (base := base) z
  have hk__law_stringH := d__law_stringH.kp
  refine ⟨f, fd, hm, F, hb, ?_⟩
  have q := fnN (P := P) (w := w) (mg := mg) (base := base) (k := 5) (C := C0 K) (B := []) (m := m__law_asked K) F sc__law_asked
  refine q ?_
  intro cdv A outer s H E hr W tk
  have hu : (XC P w K mg base ["source", "due", "named", "e", "got"] "_law_asked" (defScope s__law_asked) f cdv A outer s H E).A.units + 64 < cLine := by have := hr.un; simp only [XC, cxOf]; omega
  have hpo : PassesOwn (model P w) (XC P w K mg base ["source", "due", "named", "e", "got"] "_law_asked" (defScope s__law_asked) f cdv A outer s H E).A (XC P w K mg base ["source", "due", "named", "e", "got"] "_law_asked" (defScope s__law_asked) f cdv A outer s H E).env (XC P w K mg base ["source", "due", "named", "e", "got"] "_law_asked" (defScope s__law_asked) f cdv A outer s H E).xe := PassesOwn.leaving
  exact sss_cons (ss_try (i := 3) (c := .ref (He.ga K "SizeError")) rfl rfl sc__law_asked.nd rfl rfl ⟨rfl, by decide, .inl z.c_SizeError⟩ tk (by decide) (fun _ _ h => h) (tp_of fun W pn xe tk hpo => sss_cons (ss_if (stv_t (sv_n (i := 2))) (sss_cons (ss_setn (i := 4) (se_callK rfl (cal_calm ok_tokens_of (hr.mono (by decide))) tk rfl hm_tokens_of hk_tokens_of (bkI d_tokens_of fun _ _ _ _ _ _ ws hl => match ws, hl with | [_], _ => rfl) rfl (skw_val (se_n (i := 0)) (skw_nil))) sc__law_asked.nd) (sss_nil)) (sss_cons (ss_setn (i := 4) (se_call rfl (cal_calm ok_tokens_of (hr.mono (by decide))) tk rfl hm_tokens_of hk_tokens_of hb_tokens_of rfl (sab_val (se_n (i := 0)) (sab_nil))) sc__law_asked.nd) (sss_nil))) (sss_nil)) (up_of fun a c dd oe pn su => sss_cons (ss_if (stw_t (stw_or (stv_eq hu (sv_ix (sv_n (i := 1)) (sv_int)) (sv_str [] rfl)) (stw_or (st_not (stv_t (sv_isX su z.n_isinstance (sw_cons (sv_n (i := 3)) (sw_cons (sv_gc z.c_BadSource) (sw_nil)))))) (stw_or1 (st_not (stv_t (sv_isX su z.n_isinstance (sw_cons (sv_n (i := 3)) (sw_cons (sv_gc z.c_TextError) (sw_nil)))))))))) (sss_cons (ss_ret (se_bl)) (sss_nil)) (sss_nil)) (sss_cons (ss_if (stw_t (stw_or (stv_t (sv_isX su z.n_isinstance (sw_cons (sv_n (i := 3)) (sw_cons (sv_tup (sw_cons (sv_gc z.c_BadText) (sw_cons (sv_gc z.c_BadCommand) (sw_cons (sv_gc z.c_DataError) (sw_cons (sv_gc z.c_CallError) (sw_nil)))))) (sw_nil))))) (stw_or1 (st_not (stv_t (sv_isX su z.n_isinstance (sw_cons (sv_n (i := 3)) (sw_cons (sv_bt z.n_ValueError PyProof.Rows.Boot.«ValueError») (sw_nil))))))))) (sss_cons (ss_ret (se_bl)) (sss_nil)) (sss_nil)) (sss_cons (ss_ret (se_and (se_call rfl (cal_hot ok__law_numberH (L2H.roomH_mark (hr.mono (by decide)) _) su.hot) su.takes rfl hm__law_numberH hk__law_numberH hb__law_numberH rfl (sab_val (se_q (sv_xf su (nm (i := 3)))) (sab_val (se_ix (se_n (i := 1)) (se_int)) (sab_nil)))) (se_and (se_call rfl (cal_hot ok__law_numberH (L2H.roomH_mark (hr.mono (by decide)) _) su.hot) su.takes rfl hm__law_numberH hk__law_numberH hb__law_numberH rfl (sab_val (se_q (sv_xf su (nm (i := 3)))) (sab_val (se_ix (se_n (i := 1)) (se_int)) (sab_nil)))) (se_one (se_call rfl (cal_hot ok__law_stringH (L2H.roomH_mark (hr.mono (by decide)) _) su.hot) su.takes rfl hm__law_stringH hk__law_stringH hb__law_stringH rfl (sab_val (se_q (sv_xf su (nm (i := 3)))) (sab_val (se_ix (se_n (i := 1)) (se_int)) (sab_nil)))))))) (sss_nil))))) (sss_cons (ss_ret (se_and (sev_eq hu (sv_ix (sv_n (i := 1)) (sv_int)) (sv_str [] rfl)) (se_one (se_call rfl (cal_calm ok__law_alike (hr.mono (by decide))) tk rfl hm__law_alike hk__law_alike hb__law_alike rfl (sab_val (se_n (i := 4)) (sab_val (se_ix (se_n (i := 1)) (se_int)) (sab_nil))))))) (sss_nil))
def m__law_faults (K : PySem.W.Frag) : MS := sSeq (sAsg 1 (eCall 2 (F__law_next K) (bBor 0 (bVal (eLit (.int 4)) (bNil))))) (sSeq (sAsg 2 (eCall 2 (F__law_word K) (bBor 0 (bVal (eFz (eOp2 gAdd (eLit (.int 13)) (eOp2 gIx (eLst (aCons (eLit (.int 0)) (aCons (eLit (.int 1)) (aCons (eCall 2 (F__law_next K) (bBor 0 (bVal (eLit (.int 40)) (bNil)))) (aNil))))) (eCall 2 (F__law_next K) (bBor 0 (bVal (eLit (.int 3)) (bNil))))))) (bNil))))) (sSeq (sAsg 3 (eOp2 gIx (eLst (aCons (eOp2 gAdd (eOp2 gAdd (eLit (.str [32])) (eCall 1 (F__law_odd K) (bBor 0 (bNil)))) (eLit (.str [32]))) (aCons (eOp2 gAdd (eOp2 gAdd (eLit (.str [32])) (eCall 1 (F__law_odd K) (bBor 0 (bNil)))) (eCall 2 (F__law_word K) (bBor 0 (bVal (eLit (.int 3)) (bNil))))) (aCons (eOp2 gAdd (eLit (.str [123])) (eCall 1 (F__law_odd K) (bBor 0 (bNil)))) (aCons (eLit (.str [32, 55, 97, 98, 99, 100, 101, 102, 103, 104, 105, 106, 107, 108, 109, 110, 111, 112])) (aNil)))))) (eVar 1))) (sSeq (sAsg 4 (eOp2 gAdd (eOp2 gAdd (eCall 2 (F__law_word K) (bBor 0 (bVal (eFz (eOp2 gAdd (eLit (.int 1)) (eCall 2 (F__law_next K) (bBor 0 (bVal (eLit (.int 11)) (bNil)))))) (bNil)))) (eOp2 gIx (eLit (.str [95, 65, 9, 90, 46])) (eCall 2 (F__law_next K) (bBor 0 (bVal (eLit (.int 5)) (bNil)))))) (eCall 2 (F__law_word K) (bBor 0 (bVal (eLit (.int 1)) (bNil)))))) (sSeq (sRet (eLst (aCons (eMove 3) (aCons (eOp2 gAdd (eV (vOp2 gAdd (vLit (.str [32])) (vVar 2))) (eOp2 gIx (eLst (aCons (eLit (.str [32])) (aCons (eLit (.str [59])) (aCons (eLit (.str [33])) (aCons (eLit (.str [65])) (aNil)))))) (eCall 2 (F__law_next K) (bBor 0 (bVal (eLit (.int 4)) (bNil)))))) (aCons (eV (vOp2 gAdd (vLit (.str [32])) (vVar 4))) (aNil)))))) (sNil)))))
def F__law_faults (K : PySem.W.Frag) : List D → FR := Se.fnOf 5 [0] (m__law_faults K)
theorem ff__law_faults {P : Program} {w : World} {K : PySem.W.Frag} {mg : Str → Option Value} {base : Heap} (z : Z K mg) : FK P w K mg base "_law_faults" ["store"] (s__law_faults) 3 (F__law_faults K) := by
  obtain ⟨f, fd, hm, F, hb⟩ := z.d__law_faults
  obtain ⟨f__law_next, fd__law_next, hm__law_next, d__law_next, hb__law_next, ok__law_next⟩ := ff__law_next (P := P) (w := w) (base := base) z
  have hk__law_next := d__law_next.kp
  obtain ⟨f__law_odd, fd__law_odd, hm__law_odd, d__law_odd, hb__law_odd, ok__law_odd⟩ := ff__law_odd (P := P) (w := w) (base := base) z
  have hk__law_odd := d__law_odd.kp
  obtain ⟨f__law_word, fd__law_word, hm__law_word, d__law_word, hb__law_word, ok__law_word⟩ := ff__law_word (P := P) (w := w) (base := base) z
  have hk__law_word := d__law_word.kp
  refine ⟨f, fd, hm, F, hb, ?_⟩
  have q := fnN (P := P) (w := w) (mg := mg) (base := base) (k := 2) (C := C0 K) (B := [0]) (m := m__law_faults K) F sc__law_faults
  refine q ?_
  intro cdv A outer s H E hr W tk
  have hu : (XC P w K mg base ["store", "pick", "long", "odd", "near"] "_law_faults" (defScope s__law_faults) f cdv A outer s H E).A.units + 64 < cLine := by have := hr.un; simp only [XC, cxOf]; omega
  have hpo : PassesOwn (model P w) (XC P w K mg base ["store", "pick", "long", "odd", "near"] "_law_faults" (defScope s__law_faults) f cdv A outer s H E).A (XC P w K mg base ["store", "pick", "long", "odd", "near"] "_law_faults" (defScope s__law_faults) f cdv A outer s H E).env (XC P w K mg base ["store", "pick", "long", "odd", "near"] "_law_faults" (defScope s__law_faults) f cdv A outer s H E).xe := PassesOwn.leaving
  exact sss_cons (ss_setn (i := 1) (se_call rfl (cal_calm ok__law_next (hr.mono (by decide))) tk rfl hm__law_next hk__law_next hb__law_next rfl (sab_bor (nm (i := 0)) (sab_val (se_int) (sab_nil)))) sc__law_faults.nd) (sss_cons (ss_setn (i := 2) (se_call rfl (cal_calm ok__law_word (hr.mono (by decide))) tk rfl hm__law_word hk__law_word hb__law_word rfl (sab_bor (nm (i := 0)) (sab_val (se_fz (se_add (se_int) (se_ix (se_lst (sa_cons (se_int) (sa_cons (se_int) (sa_cons (se_call rfl (cal_calm ok__law_next (hr.mono (by decide))) tk rfl hm__law_next hk__law_next hb__law_next rfl (sab_bor (nm (i := 0)) (sab_val (se_int) (sab_nil)))) (sa_nil))))) (se_call rfl (cal_calm ok__law_next (hr.mono (by decide))) tk rfl hm__law_next hk__law_next hb__law_next rfl (sab_bor (nm (i := 0)) (sab_val (se_int) (sab_nil))))))) (sab_nil)))) sc__law_faults.nd) (sss_cons (ss_setn (i := 3) (se_ix (se_lst (sa_cons (se_add (se_add (se_str [32] rfl) (se_call rfl (cal_calm ok__law_odd (hr.mono (by decide))) tk rfl hm__law_odd hk__law_odd hb__law_odd rfl (sab_bor (nm (i := 0)) (sab_nil)))) (se_str [32] rfl)) (sa_cons (se_add (se_add (se_str [32] rfl) (se_call rfl (cal_calm ok__law_odd (hr.mono (by decide))) tk rfl hm__law_odd hk__law_odd hb__law_odd rfl (sab_bor (nm (i := 0)) (sab_nil)))) (se_call rfl (cal_calm ok__law_word (hr.mono (by decide))) tk rfl hm__law_word hk__law_word hb__law_word rfl (sab_bor (nm (i := 0)) (sab_val (se_int) (sab_nil))))) (sa_cons (se_add (se_str [123] rfl) (se_call rfl (cal_calm ok__law_odd (hr.mono (by decide))) tk rfl hm__law_odd hk__law_odd hb__law_odd rfl (sab_bor (nm (i := 0)) (sab_nil)))) (sa_cons (se_str [32, 55, 97, 98, 99, 100, 101, 102, 103, 104, 105, 106, 107, 108, 109, 110, 111, 112] rfl) (sa_nil)))))) (se_n (i := 1))) sc__law_faults.nd) (sss_cons (ss_setn (i := 4) (se_add (se_add (se_call rfl (cal_calm ok__law_word (hr.mono (by decide))) tk rfl hm__law_word hk__law_word hb__law_word rfl (sab_bor (nm (i := 0)) (sab_val (se_fz (se_add (se_int) (se_call rfl (cal_calm ok__law_next (hr.mono (by decide))) tk rfl hm__law_next hk__law_next hb__law_next rfl (sab_bor (nm (i := 0)) (sab_val (se_int) (sab_nil)))))) (sab_nil)))) (se_ix (se_str [95, 65, 9, 90, 46] rfl) (se_call rfl (cal_calm ok__law_next (hr.mono (by decide))) tk rfl hm__law_next hk__law_next hb__law_next rfl (sab_bor (nm (i := 0)) (sab_val (se_int) (sab_nil)))))) (se_call rfl (cal_calm ok__law_word (hr.mono (by decide))) tk rfl hm__law_word hk__law_word hb__law_word rfl (sab_bor (nm (i := 0)) (sab_val (se_int) (sab_nil))))) sc__law_faults.nd) (sss_cons (ss_ret (se_lst (sa_cons (se_m (i := 3)) (sa_cons (se_add (sev_add (sv_str [32] rfl) (sv_n (i := 2))) (se_ix (se_lst (sa_cons (se_str [32] rfl) (sa_cons (se_str [59] rfl) (sa_cons (se_str [33] rfl) (sa_cons (se_str [65] rfl) (sa_nil)))))) (se_call rfl (cal_calm ok__law_next (hr.mono (by decide))) tk rfl hm__law_next hk__law_next hb__law_next rfl (sab_bor (nm (i := 0)) (sab_val (se_int) (sab_nil)))))) (sa_cons (sev_add (sv_str [32] rfl) (sv_n (i := 4))) (sa_nil)))))) (sss_nil)))))
def i__law_spoilt_1 (K : PySem.W.Frag) : MS := sIf (tOrM (Se.tB (eOp2 gNe (eOp2 gIx (eVar 8) (eLit (.int 3))) (eOp2 gIx (eLst (aCons (eLit (.str [115, 105, 103, 110])) (aCons (eLit (.str [108, 111, 110, 103])) (aCons (eLit (.str [115, 105, 103, 110])) (aNil))))) (eVar 3)))) (tNotM (tE (eCall 3 (F__law_asked K) (bVal (eVar 7) (bVal (eVar 8) (bVal (eV (vOp2 gEq (vVar 3) (vLit (.int 0)))) (bNil)))))))) (sSeq (sRet (eLit (.bl false))) (sNil)) (sNil)
def b__law_spoilt_2 (K : PySem.W.Frag) : MS := sSeq (sAsg 9 (eCall 2 (F__law_next K) (bBor 0 (bVal (eV (vOpn gLen (wCons (vVar 1) (wNil)))) (bNil))))) (sSeq (sAsg 7 (eV (vOp2 gAdd (vOp2 gAdd (vBm gJoin (vLit (.str [])) (vSl (vVar 1) (oNone) (oSome (vVar 9)))) (vOp2 ixv (vVar 2) (vVar 3))) (vBm gJoin (vLit (.str [])) (vSl (vVar 1) (oSome (vVar 9)) (oNone)))))) (sSeq (sAsg 8 (eCall 1 (F__law_read K) (bVal (eVar 7) (bNil)))) (sSeq ((i__law_spoilt_1 K)) (sNil))))
def m__law_spoilt (K : PySem.W.Frag) : MS := sSeq (sAsg 2 (eCall 1 (F__law_faults K) (bBor 0 (bNil)))) (sSeq (sFor (iArgs rg1 (aCons (eLit (.int 3)) (aNil))) (fName 3) (b__law_spoilt_2 K)) (sSeq (sAsg 4 (eCall 2 (F__law_next K) (bBor 0 (bVal (eV (vOpn gLen (wCons (vVar 1) (wNil)))) (bNil))))) (sSeq (sAsg 5 (eOp2 gAdd (eVar 4) (eCall 2 (F__law_next K) (bBor 0 (bVal (eV (vOp2 gSub (vOpn gLen (wCons (vVar 1) (wNil))) (vVar 4))) (bNil)))))) (sSeq (sAsg 6 (eCall 2 (F__law_next K) (bBor 0 (bVal (eLit (.int 2)) (bNil))))) (sSeq (sAsg 7 (eV (vOp2 gAdd (vOp2 gAdd (vOp2 gAdd (vOp2 gAdd (vBm gJoin (vLit (.str [])) (vSl (vVar 1) (oNone) (oSome (vVar 4)))) (vOp2 ixv (vVar 2) (vVar 6))) (vBm gJoin (vLit (.str [])) (vSl (vVar 1) (oSome (vVar 4)) (oSome (vVar 5))))) (vOp2 ixv (vVar 2) (vOp2 gSub (vLit (.int 1)) (vVar 6)))) (vBm gJoin (vLit (.str [])) (vSl (vVar 1) (oSome (vVar 5)) (oNone)))))) (sSeq (sAsg 8 (eCall 1 (F__law_read K) (bVal (eVar 7) (bNil)))) (sSeq (sRet (eAnd (eOp2 gEq (eOp2 gIx (eVar 8) (eLit (.int 3))) (eOp2 gIx (eLst (aCons (eLit (.str [115, 105, 103, 110])) (aCons (eLit (.str [108, 111, 110, 103])) (aNil)))) (eVar 6))) (eCall 3 (F__law_asked K) (bVal (eVar 7) (bVal (eVar 8) (bVal (eLit (.bl false)) (bNil))))))) (sNil))))))))
def F__law_spoilt (K : PySem.W.Frag) : List D → FR := Se.fnOf 10 [0] (m__law_spoilt K)
theorem ff__law_spoilt {P : Program} {w : World} {K : PySem.W.Frag} {mg : Str → Option Value} {base : Heap} (z : Z K mg) : FK P w K mg base "_law_spoilt" ["store", "pieces"] (s__law_spoilt) 7 (F__law_spoilt K) := by
  obtain ⟨f, fd, hm, F, hb⟩ := z.d__law_spoilt
  obtain ⟨f__law_asked, fd__law_asked, hm__law_asked, d__law_asked, hb__law_asked, ok__law_asked⟩ := ff__law_asked (P := P) (w := w) (base := base) z
  have hk__law_asked := d__law_asked.kp
  obtain ⟨f__law_faults, fd__law_faults, hm__law_faults, d__law_faults, hb__law_faults, ok__law_faults⟩ := ff__law_faults (P := P) (w := w) (base := base) z
  have hk__law_faults := d__law_faults.kp
  obtain ⟨f__law_next, fd__law_next, hm__law_next, d__law_next, hb__law_next, ok__law_next⟩ := ff__law_next (P := P) (w := w) (base := base) z
  have hk__law_next := d__law_next.kp
  obtain ⟨f__law_read, fd__law_read, hm__law_read, d__law_read, hb__law_read, ok__law_read⟩ := ff__law_read (P := P) (w := w) (base := base) z
  have hk__law_read := d__law_read.kp
  refine ⟨f, fd, hm, F, hb, ?_⟩
  have q := fnN (P := P) (w := w) (mg := mg) (base := base) (k := 6) (C := C0 K) (B := [0]) (m := m__law_spoilt K) F sc__law_spoilt
  refine q ?_
  intro cdv A outer s H E hr W tk
  have hu : (XC P w K mg base ["store", "pieces", "faults", "k", "first", "later", "turn", "source", "due", "place"] "_law_spoilt" (defScope s__law_spoilt) f cdv A outer s H E).A.units + 64 < cLine := by have := hr.un; simp only [XC, cxOf]; omega
  have hpo : PassesOwn (model P w) (XC P w K mg base ["store", "pieces", "faults", "k", "first", "later", "turn", "source", "due", "place"] "_law_spoilt" (defScope s__law_spoilt) f cdv A outer s H E).A (XC P w K mg base ["store", "pieces", "faults", "k", "first", "later", "turn", "source", "due", "place"] "_law_spoilt" (defScope s__law_spoilt) f cdv A outer s H E).env (XC P w K mg base ["store", "pieces", "faults", "k", "first", "later", "turn", "source", "due", "place"] "_law_spoilt" (defScope s__law_spoilt) f cdv A outer s H E).xe := PassesOwn.leaving
  exact sss_cons (ss_setn (i := 2) (se_call rfl (cal_calm ok__law_faults (hr.mono (by decide))) tk rfl hm__law_faults hk__law_faults hb__law_faults rfl (sab_bor (nm (i := 0)) (sab_nil))) sc__law_spoilt.nd) (sss_cons (ss_for hpo rfl (si_range1 rfl z.n_range (sa_cons (se_int) (sa_nil))) (sg_n sc__law_spoilt.nd (i := 3)) (sss_cons (ss_setn (i := 9) (se_call rfl (cal_calm ok__law_next (hr.mono (by decide))) tk rfl hm__law_next hk__law_next hb__law_next rfl (sab_bor (nm (i := 0)) (sab_val (sev_clen z.n_len (sw_cons (sv_n (i := 1)) (sw_nil))) (sab_nil)))) sc__law_spoilt.nd) (sss_cons (ss_setn (i := 7) (sev_add (sv_add (sv_join (sv_str [] rfl) (sv_sl rfl (sv_n (i := 1)) (so_none) (so_some (sv_n (i := 9))))) (sv_ix (sv_n (i := 2)) (sv_n (i := 3)))) (sv_join (sv_str [] rfl) (sv_sl rfl (sv_n (i := 1)) (so_some (sv_n (i := 9))) (so_none)))) sc__law_spoilt.nd) (sss_cons (ss_setn (i := 8) (se_call rfl (cal_calm ok__law_read (hr.mono (by decide))) tk rfl hm__law_read hk__law_read hb__law_read rfl (sab_val (se_n (i := 7)) (sab_nil))) sc__law_spoilt.nd) (sss_cons (ss_if (stw_t (stw_or (st_ne hu (se_ix (se_n (i := 8)) (se_int)) (se_ix (se_lst (sa_cons (se_str [115, 105, 103, 110] rfl) (sa_cons (se_str [108, 111, 110, 103] rfl) (sa_cons (se_str [115, 105, 103, 110] rfl) (sa_nil))))) (se_n (i := 3)))) (stw_or1 (st_not (st_t (se_call rfl (cal_calm ok__law_asked (hr.mono (by decide))) tk rfl hm__law_asked hk__law_asked hb__law_asked rfl (sab_val (se_n (i := 7)) (sab_val (se_n (i := 8)) (sab_val (sev_eq hu (sv_n (i := 3)) (sv_int)) (sab_nil)))))))))) (sss_cons (ss_ret (se_bl)) (sss_nil)) (sss_nil)) (sss_nil)))))) (sss_cons (ss_setn (i := 4) (se_call rfl (cal_calm ok__law_next (hr.mono (by decide))) tk rfl hm__law_next hk__law_next hb__law_next rfl (sab_bor (nm (i := 0)) (sab_val (sev_clen z.n_len (sw_cons (sv_n (i := 1)) (sw_nil))) (sab_nil)))) sc__law_spoilt.nd) (sss_cons (ss_setn (i := 5) (se_add (se_n (i := 4)) (se_call rfl (cal_calm ok__law_next (hr.mono (by decide))) tk rfl hm__law_next hk__law_next hb__law_next rfl (sab_bor (nm (i := 0)) (sab_val (sev_sub (sv_clen z.n_len (sw_cons (sv_n (i := 1)) (sw_nil))) (sv_n (i := 4))) (sab_nil))))) sc__law_spoilt.nd) (sss_cons (ss_setn (i := 6) (se_call rfl (cal_calm ok__law_next (hr.mono (by decide))) tk rfl hm__law_next hk__law_next hb__law_next rfl (sab_bor (nm (i := 0)) (sab_val (se_int) (sab_nil)))) sc__law_spoilt.nd) (sss_cons (ss_setn (i := 7) (sev_add (sv_add (sv_add (sv_add (sv_join (sv_str [] rfl) (sv_sl rfl (sv_n (i := 1)) (so_none) (so_some (sv_n (i := 4))))) (sv_ix (sv_n (i := 2)) (sv_n (i := 6)))) (sv_join (sv_str [] rfl) (sv_sl rfl (sv_n (i := 1)) (so_some (sv_n (i := 4))) (so_some (sv_n (i := 5)))))) (sv_ix (sv_n (i := 2)) (sv_sub (sv_int) (sv_n (i := 6))))) (sv_join (sv_str [] rfl) (sv_sl rfl (sv_n (i := 1)) (so_some (sv_n (i := 5))) (so_none)))) sc__law_spoilt.nd) (sss_cons (ss_setn (i := 8) (se_call rfl (cal_calm ok__law_read (hr.mono (by decide))) tk rfl hm__law_read hk__law_read hb__law_read rfl (sab_val (se_n (i := 7)) (sab_nil))) sc__law_spoilt.nd) (sss_cons (ss_ret (se_and (se_eq hu (se_ix (se_n (i := 8)) (se_int)) (se_ix (se_lst (sa_cons (se_str [115, 105, 103, 110] rfl) (sa_cons (se_str [108, 111, 110, 103] rfl) (sa_nil)))) (se_n (i := 6)))) (se_one (se_call rfl (cal_calm ok__law_asked (hr.mono (by decide))) tk rfl hm__law_asked hk__law_asked hb__law_asked rfl (sab_val (se_n (i := 7)) (sab_val (se_n (i := 8)) (sab_val (se_bl) (sab_nil)))))))) (sss_nil))))))))
def m__law_wide (K : PySem.W.Frag) : MS := sSeq (sAsg 1 (eOp2 gIx (eLst (aCons (eLit (.str [97, 98, 61])) (aCons (eLit (.str [10])) (aCons (eLit (.str [32])) (aCons (eLit (.str [59])) (aCons (eLit (.str [35, 65, 10])) (aCons (eLit (.str [120, 49, 32])) (aCons (eLit (.str [113, 10])) (aCons (eLit (.str [122])) (aNil)))))))))) (eCall 2 (F__law_next K) (bBor 0 (bVal (eLit (.int 8)) (bNil)))))) (sSeq (sAsg 2 (eOp2 gMulA (eVar 1) (eOp2 gSub (eV (vOp2 gDiv (vLit (.int 19800)) (vOpn gLen (wCons (vVar 1) (wNil))))) (eCall 2 (F__law_next K) (bBor 0 (bVal (eLit (.int 40)) (bNil))))))) (sSeq (sAsg 3 (eOp2 gAdd (eOp2 gAdd (eCall 2 (F__law_word K) (bBor 0 (bVal (eFz (eOp2 gAdd (eLit (.int 1)) (eCall 2 (F__law_next K) (bBor 0 (bVal (eLit (.int 11)) (bNil)))))) (bNil)))) (eLit (.str [32]))) (eVar 2))) (sSeq (sAsg 4 (eLst (aCons (eLit (.str [59])) (aCons (eLit (.str [10, 40])) (aCons (eLit (.str [32, 97, 49, 50, 51, 52, 53, 54, 55, 56, 57, 48, 49])) (aCons (eLit (.str [32, 97, 49, 50, 51, 52, 53, 54, 55, 56, 57, 48, 49, 50])) (aCons (eLit (.str [10, 33])) (aCons (eLit (.str [10, 32, 90])) (aCons (eLit (.str [35, 32, 101, 110, 100])) (aCons (eLit (.str [61, 10, 10])) (aNil))))))))))) (sSeq (sAsg 3 (eOp2 gAdd (eVar 3) (eIxVar gIx 4 (eCall 2 (F__law_next K) (bBor 0 (bVal (eLit (.int 8)) (bNil))))))) (sSeq (sRet (eCall 3 (F__law_asked K) (bVal (eVar 3) (bVal (eFz (eCall 1 (F__law_read K) (bVal (eVar 3) (bNil)))) (bVal (eLit (.bl false)) (bNil)))))) (sNil))))))
def F__law_wide (K : PySem.W.Frag) : List D → FR := Se.fnOf 5 [0] (m__law_wide K)
theorem ff__law_wide {P : Program} {w : World} {K : PySem.W.Frag} {mg : Str → Option Value} {base : Heap} (z : Z K mg) : FK P w K mg base "_law_wide" ["store"] (s__law_wide) 7 (F__law_wide K) := by
  obtain ⟨f, fd, hm, F, hb⟩ := z.d__law_wide
  obtain ⟨f__law_asked, fd__law_asked, hm__law_asked, d__law_asked, hb__law_asked, ok__law_asked⟩ := ff__law_asked (P := P) (w := w) (base := base) z
  have hk__law_asked := d__law_asked.kp
  obtain ⟨f__law_next, fd__law_next, hm__law_next, d__law_next, hb__law_next, ok__law_next⟩ := ff__law_next (P := P) (w := w) (base := base) z
  have hk__law_next := d__law_next.kp
  obtain ⟨f__law_read, fd__law_read, hm__law_read, d__law_read, hb__law_read, ok__law_read⟩ := ff__law_read (P := P) (w := w) (base := base) z
  have hk__law_read := d__law_read.kp
  obtain ⟨f__law_word, fd__law_word, hm__law_word, d__law_word, hb__law_word, ok__law_word⟩ := ff__law_word (P := P) (w := w) (base := base) z
  have hk__law_word := d__law_word.kp
  refine ⟨f, fd, hm, F, hb, ?_⟩
  have q := fnN (P := P) (w := w) (mg := mg) (base := base) (k := 6) (C := C0 K) (B := [0]) (m := m__law_wide K) F sc__law_wide
  refine q ?_
  intro cdv A outer s H E hr W tk
  have hu : (XC P w K mg base ["store", "unit", "body", "source", "ends"] "_law_wide" (defScope s__law_wide) f cdv A outer s H E).A.units + 64 < cLine := by have := hr.un; simp only [XC, cxOf]; omega
  have hpo : PassesOwn (model P w) (XC P w K mg base ["store", "unit", "body", "source", "ends"] "_law_wide" (defScope s__law_wide) f cdv A outer s H E).A (XC P w K mg base ["store", "unit", "body", "source", "ends"] "_law_wide" (defScope s__law_wide) f cdv A outer s H E).env (XC P w K mg base ["store", "unit", "body", "source", "ends"] "_law_wide" (defScope s__law_wide) f cdv A outer s H E).xe := PassesOwn.leaving
  exact sss_cons (ss_setn (i := 1) (se_ix (se_lst (sa_cons (se_str [97, 98, 61] rfl) (sa_cons (se_str [10] rfl) (sa_cons (se_str [32] rfl) (sa_cons (se_str [59] rfl) (sa_cons (se_str [35, 65, 10] rfl) (sa_cons (se_str [120, 49, 32] rfl) (sa_cons (se_str [113, 10] rfl) (sa_cons (se_str [122] rfl) (sa_nil)))))))))) (se_call rfl (cal_calm ok__law_next (hr.mono (by decide))) tk rfl hm__law_next hk__law_next hb__law_next rfl (sab_bor (nm (i := 0)) (sab_val (se_int) (sab_nil))))) sc__law_wide.nd) (sss_cons (ss_setn (i := 2) (se_mul (se_n (i := 1)) (se_sub (sev_div (sv_int) (sv_clen z.n_len (sw_cons (sv_n (i := 1)) (sw_nil)))) (se_call rfl (cal_calm ok__law_next (hr.mono (by decide))) tk rfl hm__law_next hk__law_next hb__law_next rfl (sab_bor (nm (i := 0)) (sab_val (se_int) (sab_nil)))))) sc__law_wide.nd) (sss_cons (ss_setn (i := 3) (se_add (se_add (se_call rfl (cal_calm ok__law_word (hr.mono (by decide))) tk rfl hm__law_word hk__law_word hb__law_word rfl (sab_bor (nm (i := 0)) (sab_val (se_fz (se_add (se_int) (se_call rfl (cal_calm ok__law_next (hr.mono (by decide))) tk rfl hm__law_next hk__law_next hb__law_next rfl (sab_bor (nm (i := 0)) (sab_val (se_int) (sab_nil)))))) (sab_nil)))) (se_str [32] rfl)) (se_n (i := 2))) sc__law_wide.nd) (sss_cons (ss_setn (i := 4) (se_lst (sa_cons (se_str [59] rfl) (sa_cons (se_str [10, 40] rfl) (sa_cons (se_str [32, 97, 49, 50, 51, 52, 53, 54, 55, 56, 57, 48, 49] rfl) (sa_cons (se_str [32, 97, 49, 50, 51, 52, 53, 54, 55, 56, 57, 48, 49, 50] rfl) (sa_cons (se_str [10, 33] rfl) (sa_cons (se_str [10, 32, 90] rfl) (sa_cons (se_str [35, 32, 101, 110, 100] rfl) (sa_cons (se_str [61, 10, 10] rfl) (sa_nil)))))))))) sc__law_wide.nd) (sss_cons (ss_setn (i := 3) (se_add (se_n (i := 3)) (se_ixn (nm (i := 4)) (se_call rfl (cal_calm ok__law_next (hr.mono (by decide))) tk rfl hm__law_next hk__law_next hb__law_next rfl (sab_bor (nm (i := 0)) (sab_val (se_int) (sab_nil)))))) sc__law_wide.nd) (sss_cons (ss_ret (se_call rfl (cal_calm ok__law_asked (hr.mono (by decide))) tk rfl hm__law_asked hk__law_asked hb__law_asked rfl (sab_val (se_n (i := 3)) (sab_val (se_fz (se_call rfl (cal_calm ok__law_read (hr.mono (by decide))) tk rfl hm__law_read hk__law_read hb__law_read rfl (sab_val (se_n (i := 3)) (sab_nil)))) (sab_val (se_bl) (sab_nil)))))) (sss_nil))))))
def i_law_1 (K : PySem.W.Frag) : MS := sIf (tOrM (Se.tB (eV (vOp2 gNe (vOp2 ixv (vVar 4) (vLit (.int 3))) (vLit (.str []))))) (tOrM (Se.tB (eV (vOp2 (gCmp fun i j => decide (i < j)) (vOpn gLen (wCons (vOp2 ixv (vVar 4) (vLit (.int 0))) (wNil))) (vLit (.int 2))))) (tNotM (tE (eCall 3 (F__law_asked K) (bVal (eVar 3) (bVal (eVar 4) (bVal (eLit (.bl false)) (bNil))))))))) (sSeq (sRet (eLit (.bl false))) (sNil)) (sNil)
def i_law_2 (K : PySem.W.Frag) : MS := sIf (tNotM (tE (eCall 2 (F__law_spoilt K) (bBor 1 (bVal (eVar 2) (bNil)))))) (sSeq (sRet (eLit (.bl false))) (sNil)) (sNil)
def i_law_3 (K : PySem.W.Frag) : MS := sIf (tNotM (tE (eCall 3 (F__law_asked K) (bVal (eVar 7) (bVal (eFz (eCall 1 (F__law_read K) (bVal (eVar 7) (bNil)))) (bVal (eLit (.bl true)) (bNil))))))) (sSeq (sRet (eLit (.bl false))) (sNil)) (sNil)
def i_law_4 (K : PySem.W.Frag) : MS := sIf (tNotM (tE (eCall 3 (F__law_asked K) (bVal (eVar 8) (bVal (eFz (eLst (aCons (eLst (aNil)) (aCons (eLit (.int 0)) (aCons (eLit (.int 0)) (aCons (eLit (.str [])) (aNil))))))) (bVal (eLit (.bl false)) (bNil))))))) (sSeq (sRet (eLit (.bl false))) (sNil)) (sNil)
def i_law_5 (K : PySem.W.Frag) : MS := sIf (tAndM (Se.tB (eOp2 gEq (eCall 2 (F__law_next K) (bBor 1 (bVal (eLit (.int 13)) (bNil)))) (eLit (.int 4)))) (tNotM (tE (eCall 1 (F__law_wide K) (bBor 1 (bNil)))))) (sSeq (sRet (eLit (.bl false))) (sNil)) (sNil)
def m_law (K : PySem.W.Frag) : MS := sSeq (sAsg 1 (eCall 1 (F__law_start K) (bVal (eVar 0) (bNil)))) (sSeq (sAsg 2 (eCall 1 (F__law_pieces K) (bBor 1 (bNil)))) (sSeq (sAsg 3 (eV (vBm gJoin (vLit (.str [])) (vVar 2)))) (sSeq (sAsg 4 (eCall 1 (F__law_read K) (bVal (eVar 3) (bNil)))) (sSeq ((i_law_1 K)) (sSeq ((i_law_2 K)) (sSeq (sAsg 5 (eCall 2 (F__law_next K) (bBor 1 (bVal (eV (vOp2 gAdd (vOpn gLen (wCons (vVar 3) (wNil))) (vLit (.int 1)))) (bNil))))) (sSeq (sAsg 6 (eOp2 gIx (eLst (aCons (eCall 1 (F__law_odd K) (bBor 1 (bNil))) (aCons (eCall 2 (F__law_word K) (bBor 1 (bVal (eLit (.int 1)) (bNil)))) (aCons (eLit (.str [32])) (aCons (eLit (.str [10])) (aCons (eLit (.str [35])) (aCons (eLit (.str [59])) (aCons (eCall 2 (F__law_word K) (bBor 1 (bVal (eLit (.int 12)) (bNil)))) (aNil))))))))) (eCall 2 (F__law_next K) (bBor 1 (bVal (eLit (.int 7)) (bNil)))))) (sSeq (sAsg 7 (eV (vOp2 gAdd (vOp2 gAdd (vSl (vVar 3) (oNone) (oSome (vVar 5))) (vVar 6)) (vSl (vVar 3) (oSome (vVar 5)) (oNone))))) (sSeq ((i_law_3 K)) (sSeq (sAsg 8 (eOp2 gIx (eLst (aCons (eLit (.str [])) (aCons (eLit (.str [10])) (aCons (eLit (.str [32])) (aCons (eLit (.str [35])) (aCons (eLit (.str [35, 32, 97, 32, 61, 32, 33, 10])) (aCons (eLit (.str [32, 10, 10, 32, 32, 35, 32, 66])) (aNil)))))))) (eCall 2 (F__law_next K) (bBor 1 (bVal (eLit (.int 6)) (bNil)))))) (sSeq ((i_law_4 K)) (sSeq ((i_law_5 K)) (sSeq (sRet (eCall 3 (F__law_asked K) (bVal (eVar 3) (bVal (eVar 4) (bVal (eLit (.bl false)) (bNil)))))) (sNil))))))))))))))
def F_law (K : PySem.W.Frag) : List D → FR := Se.fnOf 9 [] (m_law K)
theorem ff_law {P : Program} {w : World} {K : PySem.W.Frag} {mg : Str → Option Value} {base : Heap} (z : Z K mg) : FK P w K mg base "law" ["script"] (s_law) 8 (F_law K) := by
  obtain ⟨f, fd, hm, F, hb⟩ := z.d_law
  obtain ⟨f__law_asked, fd__law_asked, hm__law_asked, d__law_asked, hb__law_asked, ok__law_asked⟩ := ff__law_asked (P := P) (w := w) (base := base) z
  have hk__law_asked := d__law_asked.kp
  obtain ⟨f__law_next, fd__law_next, hm__law_next, d__law_next, hb__law_next, ok__law_next⟩ := ff__law_next (P := P) (w := w) (base := base) z
  have hk__law_next := d__law_next.kp
  obtain ⟨f__law_odd, fd__law_odd, hm__law_odd, d__law_odd, hb__law_odd, ok__law_odd⟩ := ff__law_odd (P := P) (w := w) (base := base) z
  have hk__law_odd := d__law_odd.kp
  obtain ⟨f__law_pieces, fd__law_pieces, hm__law_pieces, d__law_pieces, hb__law_pieces, ok__law_pieces⟩ := ff__law_pieces (P := P) (w := w) (base := base) z
  have hk__law_pieces := d__law_pieces.kp
  obtain ⟨f__law_read, fd__law_read, hm__law_read, d__law_read, hb__law_read, ok__law_read⟩ := ff__law_read (P := P) (w := w) (base := base) z
  have hk__law_read := d__law_read.kp
  obtain ⟨f__law_spoilt, fd__law_spoilt, hm__law_spoilt, d__law_spoilt, hb__law_spoilt, ok__law_spoilt⟩ := ff__law_spoilt (P := P) (w := w) (base := base) z
  have hk__law_spoilt := d__law_spoilt.kp
  obtain ⟨f__law_start, fd__law_start, hm__law_start, d__law_start, hb__law_start, ok__law_start⟩ := ff__law_start (P := P) (w := w) (base := base) z
  have hk__law_start := d__law_start.kp
  obtain ⟨f__law_wide, fd__law_wide, hm__law_wide, d__law_wide, hb__law_wide, ok__law_wide⟩ := ff__law_wide (P := P) (w := w) (base := base) z
  have hk__law_wide := d__law_wide.kp
  obtain ⟨f__law_word, fd__law_word, hm__law_word, d__law_word, hb__law_word, ok__law_word⟩ := ff__law_word (P := P) (w := w) (base := base) z
  have hk__law_word := d__law_word.kp
  refine ⟨f, fd, hm, F, hb, ?_⟩
  have q := fnN (P := P) (w := w) (mg := mg) (base := base) (k := 7) (C := C0 K) (B := []) (m := m_law K) F sc_law
  refine q ?_
  intro cdv A outer s H E hr W tk
  have hu : (XC P w K mg base ["script", "store", "pieces", "source", "due", "at", "mid", "bent", "bare"] "law" (defScope s_law) f cdv A outer s H E).A.units + 64 < cLine := by have := hr.un; simp only [XC, cxOf]; omega
  have hpo : PassesOwn (model P w) (XC P w K mg base ["script", "store", "pieces", "source", "due", "at", "mid", "bent", "bare"] "law" (defScope s_law) f cdv A outer s H E).A (XC P w K mg base ["script", "store", "pieces", "source", "due", "at", "mid", "bent", "bare"] "law" (defScope s_law) f cdv A outer s H E).env (XC P w K mg base ["script", "store", "pieces", "source", "due", "at", "mid", "bent", "bare"] "law" (defScope s_law) f cdv A outer s H E).xe := PassesOwn.leaving
  exact sss_cons (ss_setn (i := 1) (se_call rfl (cal_calm ok__law_start (hr.mono (by decide))) tk rfl hm__law_start hk__law_start hb__law_start rfl (sab_val (se_n (i := 0)) (sab_nil))) sc_law.nd) (sss_cons (ss_setn (i := 2) (se_call rfl (cal_calm ok__law_pieces (hr.mono (by decide))) tk rfl hm__law_pieces hk__law_pieces hb__law_pieces rfl (sab_bor (nm (i := 1)) (sab_nil))) sc_law.nd) (sss_cons (ss_setn (i := 3) (sev_join (sv_str [] rfl) (sv_n (i := 2))) sc_law.nd) (sss_cons (ss_setn (i := 4) (se_call rfl (cal_calm ok__law_read (hr.mono (by decide))) tk rfl hm__law_read hk__law_read hb__law_read rfl (sab_val (se_n (i := 3)) (sab_nil))) sc_law.nd) (sss_cons (ss_if (stw_t (stw_or (stv_ne hu (sv_ix (sv_n (i := 4)) (sv_int)) (sv_str [] rfl)) (stw_or (stv_lt (sv_clen z.n_len (sw_cons (sv_ix (sv_n (i := 4)) (sv_int)) (sw_nil))) (sv_int)) (stw_or1 (st_not (st_t (se_call rfl (cal_calm ok__law_asked (hr.mono (by decide))) tk rfl hm__law_asked hk__law_asked hb__law_asked rfl (sab_val (se_n (i := 3)) (sab_val (se_n (i := 4)) (sab_val (se_bl) (sab_nil))))))))))) (sss_cons (ss_ret (se_bl)) (sss_nil)) (sss_nil)) (sss_cons (ss_if (st_not (st_t (se_call rfl (cal_calm ok__law_spoilt (hr.mono (by decide))) tk rfl hm__law_spoilt hk__law_spoilt hb__law_spoilt rfl (sab_bor (nm (i := 1)) (sab_val (se_n (i := 2)) (sab_nil)))))) (sss_cons (ss_ret (se_bl)) (sss_nil)) (sss_nil)) (sss_cons (ss_setn (i := 5) (se_call rfl (cal_calm ok__law_next (hr.mono (by decide))) tk rfl hm__law_next hk__law_next hb__law_next rfl (sab_bor (nm (i := 1)) (sab_val (sev_add (sv_clen z.n_len (sw_cons (sv_n (i := 3)) (sw_nil))) (sv_int)) (sab_nil)))) sc_law.nd) (sss_cons (ss_setn (i := 6) (se_ix (se_lst (sa_cons (se_call rfl (cal_calm ok__law_odd (hr.mono (by decide))) tk rfl hm__law_odd hk__law_odd hb__law_odd rfl (sab_bor (nm (i := 1)) (sab_nil))) (sa_cons (se_call rfl (cal_calm ok__law_word (hr.mono (by decide))) tk rfl hm__law_word hk__law_word hb__law_word rfl (sab_bor (nm (i := 1)) (sab_val (se_int) (sab_nil)))) (sa_cons (se_str [32] rfl) (sa_cons (se_str [10] rfl) (sa_cons (se_str [35] rfl) (sa_cons (se_str [59] rfl) (sa_cons (se_call rfl (cal_calm ok__law_word (hr.mono (by decide))) tk rfl hm__law_word hk__law_word hb__law_word rfl (sab_bor (nm (i := 1)) (sab_val (se_int) (sab_nil)))) (sa_nil))))))))) (se_call rfl (cal_calm ok__law_next (hr.mono (by decide))) tk rfl hm__law_next hk__law_next hb__law_next rfl (sab_bor (nm (i := 1)) (sab_val (se_int) (sab_nil))))) sc_law.nd) (sss_cons (ss_setn (i := 7) (sev_add (sv_add (sv_sl rfl (sv_n (i := 3)) (so_none) (so_some (sv_n (i := 5)))) (sv_n (i := 6))) (sv_sl rfl (sv_n (i := 3)) (so_some (sv_n (i := 5))) (so_none))) sc_law.nd) (sss_cons (ss_if (st_not (st_t (se_call rfl (cal_calm ok__law_asked (hr.mono (by decide))) tk rfl hm__law_asked hk__law_asked hb__law_asked rfl (sab_val (se_n (i := 7)) (sab_val (se_fz (se_call rfl (cal_calm ok__law_read (hr.mono (by decide))) tk rfl hm__law_read hk__law_read hb__law_read rfl (sab_val (se_n (i := 7)) (sab_nil)))) (sab_val (se_bl) (sab_nil))))))) (sss_cons (ss_ret (se_bl)) (sss_nil)) (sss_nil)) (sss_cons (ss_setn (i := 8) (se_ix (se_lst (sa_cons (se_str [] rfl) (sa_cons (se_str [10] rfl) (sa_cons (se_str [32] rfl) (sa_cons (se_str [35] rfl) (sa_cons (se_str [35, 32, 97, 32, 61, 32, 33, 10] rfl) (sa_cons (se_str [32, 10, 10, 32, 32, 35, 32, 66] rfl) (sa_nil)))))))) (se_call rfl (cal_calm ok__law_next (hr.mono (by decide))) tk rfl hm__law_next hk__law_next hb__law_next rfl (sab_bor (nm (i := 1)) (sab_val (se_int) (sab_nil))))) sc_law.nd) (sss_cons (ss_if (st_not (st_t (se_call rfl (cal_calm ok__law_asked (hr.mono (by decide))) tk rfl hm__law_asked hk__law_asked hb__law_asked rfl (sab_val (se_n (i := 8)) (sab_val (se_fz (se_lst (sa_cons (se_lst (sa_nil)) (sa_cons (se_int) (sa_cons (se_int) (sa_cons (se_str [] rfl) (sa_nil))))))) (sab_val (se_bl) (sab_nil))))))) (sss_cons (ss_ret (se_bl)) (sss_nil)) (sss_nil)) (sss_cons (ss_if (stw_t (stw_and (st_eq hu (se_call rfl (cal_calm ok__law_next (hr.mono (by decide))) tk rfl hm__law_next hk__law_next hb__law_next rfl (sab_bor (nm (i := 1)) (sab_val (se_int) (sab_nil)))) (se_int)) (stw_and1 (st_not (st_t (se_call rfl (cal_calm ok__law_wide (hr.mono (by decide))) tk rfl hm__law_wide hk__law_wide hb__law_wide rfl (sab_bor (nm (i := 1)) (sab_nil)))))))) (sss_cons (ss_ret (se_bl)) (sss_nil)) (sss_nil)) (sss_cons (ss_ret (se_call rfl (cal_calm ok__law_asked (hr.mono (by decide))) tk rfl hm__law_asked hk__law_asked hb__law_asked rfl (sab_val (se_n (i := 3)) (sab_val (se_n (i := 4)) (sab_val (se_bl) (sab_nil)))))) (sss_nil))))))))))))))
/-! the head -/
def fa : List He.Fa := [.glo "BadCommand", .glo "BadSource", .glo "BadText", .glo "CallError", .glo "DataError", .glo "SizeError", .glo "TextError", .str "SIGNS" (sx [61, 44, 59, 40, 41, 123, 125]), .str "SMALL_LETTERS" (sx [97, 98, 99, 100, 101, 102, 103, 104, 105, 106, 107, 108, 109, 110, 111, 112, 113, 114, 115, 116, 117, 118, 119, 120, 121, 122]), .str "TEN_FIGURES" (sx [48, 49, 50, 51, 52, 53, 54, 55, 56, 57]), .int "WORD_MOST" 12, .free "ValueError", .free "abs", .free "bool", .free "enumerate", .free "int", .free "isinstance", .free "len", .free "range", .free "str", .free "tuple", .glo "_law_start", .glo "_law_next", .glo "_law_odd", .glo "_law_gap", .glo "_law_word", .glo "_law_pieces", .glo "_law_read", .glo "_law_string", .glo "_law_number", .glo "_law_alike", .glo "end_of", .glo "token_at", .glo "line_tokens", .glo "tokens_of", .glo "_law_asked", .glo "_law_faults", .glo "_law_spoilt", .glo "_law_wide", .glo "law"]
def fn : List He.DefD := [dD "_law_start" s__law_start, dD "_law_next" s__law_next, dD "_law_odd" s__law_odd, dD "_law_gap" s__law_gap, dD "_law_word" s__law_word, dD "_law_pieces" s__law_pieces, dD "_law_read" s__law_read, dD "_law_string" s__law_string, dD "_law_number" s__law_number, dD "_law_alike" s__law_alike, dD "end_of" s_end_of, dD "token_at" s_token_at, dD "line_tokens" s_line_tokens, dD "tokens_of" s_tokens_of, dD "_law_asked" s__law_asked, dD "_law_faults" s__law_faults, dD "_law_spoilt" s__law_spoilt, dD "_law_wide" s__law_wide, dD "law" s_law, dM "BadSource" "__init__" "BadSource.__init__" (inC 6 0)]
def ex (K : PySem.W.Frag) : List Bool := [oexB K (He.ga K "BadSource"), noB K (He.ga K "BadSource") ["line", "place", "word"], decide (PySem.W.findIn K (.ref (He.ga K "BadSource")) "__init__" = some (some (.ref (He.ma K (He.ga K "BadSource") "__init__")))), decide (PySem.W.typeIn K (.ref (He.ma K (He.ga K "BadSource") "__init__")) = some (.type "function")), decide (PySem.W.exmOne K (.ref (He.ga K "BadSource")) (.ref (He.ga K "SizeError")) = some true), decide (PySem.W.kitOne K (.ref (He.ga K "BadSource")) (.ref (He.ga K "BadCommand")) = some false), decide (PySem.W.kitOne K (.ref (He.ga K "BadSource")) (.ref (He.ga K "BadSource")) = some true), decide (PySem.W.kitOne K (.ref (He.ga K "BadSource")) (.ref (He.ga K "BadText")) = some false), decide (PySem.W.kitOne K (.ref (He.ga K "BadSource")) (.ref (He.ga K "CallError")) = some false), decide (PySem.W.kitOne K (.ref (He.ga K "BadSource")) (.ref (He.ga K "DataError")) = some false), decide (PySem.W.kitOne K (.ref (He.ga K "BadSource")) (.ref (He.ga K "TextError")) = some true), decide (PySem.W.kitOne K (.ref (He.ga K "BadSource")) (.type "ValueError") = some true), xfD K (He.ga K "BadSource") "line", xfD K (He.ga K "BadSource") "place", xfD K (He.ga K "BadSource") "word", excB K (He.ga K "BadSource")]
theorem z_of {K : PySem.W.Frag} {mg : Str → Option Value} {h : Heap} (X : K.In h) (G : h.Ns mainGlobals mg) (c : He.SaysD fa fn K) (e : (ex K).all id = true) : Z K mg where
  c_BadCommand := He.glo_ok X G (c.fact 0 (f := .glo "BadCommand") rfl)
  c_BadSource := He.glo_ok X G (c.fact 1 (f := .glo "BadSource") rfl)
  c_BadText := He.glo_ok X G (c.fact 2 (f := .glo "BadText") rfl)
  c_CallError := He.glo_ok X G (c.fact 3 (f := .glo "CallError") rfl)
  c_DataError := He.glo_ok X G (c.fact 4 (f := .glo "DataError") rfl)
  c_SizeError := He.glo_ok X G (c.fact 5 (f := .glo "SizeError") rfl)
  c_TextError := He.glo_ok X G (c.fact 6 (f := .glo "TextError") rfl)
  g_SIGNS := He.str_ok X G (c.fact 7 (f := .str "SIGNS" (sx [61, 44, 59, 40, 41, 123, 125])) rfl)
  g_SMALL_LETTERS := He.str_ok X G (c.fact 8 (f := .str "SMALL_LETTERS" (sx [97, 98, 99, 100, 101, 102, 103, 104, 105, 106, 107, 108, 109, 110, 111, 112, 113, 114, 115, 116, 117, 118, 119, 120, 121, 122])) rfl)
  g_TEN_FIGURES := He.str_ok X G (c.fact 9 (f := .str "TEN_FIGURES" (sx [48, 49, 50, 51, 52, 53, 54, 55, 56, 57])) rfl)
  g_WORD_MOST := He.int_ok X G (c.fact 10 (f := .int "WORD_MOST" 12) rfl)
  n_ValueError := He.free_ok X G (c.fact 11 (f := .free "ValueError") rfl)
  n_abs := He.free_ok X G (c.fact 12 (f := .free "abs") rfl)
  n_bool := He.free_ok X G (c.fact 13 (f := .free "bool") rfl)
  n_enumerate := He.free_ok X G (c.fact 14 (f := .free "enumerate") rfl)
  n_int := He.free_ok X G (c.fact 15 (f := .free "int") rfl)
  n_isinstance := He.free_ok X G (c.fact 16 (f := .free "isinstance") rfl)
  n_len := He.free_ok X G (c.fact 17 (f := .free "len") rfl)
  n_range := He.free_ok X G (c.fact 18 (f := .free "range") rfl)
  n_str := He.free_ok X G (c.fact 19 (f := .free "str") rfl)
  n_tuple := He.free_ok X G (c.fact 20 (f := .free "tuple") rfl)
  d__law_start := d_of X G c 0 21 rfl rfl fun _ _ _ _ _ _ us hl => match us, hl with | [_], _ => rfl
  d__law_next := d_of X G c 1 22 rfl rfl fun _ _ _ _ _ _ us hl => match us, hl with | [_, _], _ => rfl
  d__law_odd := d_of X G c 2 23 rfl rfl fun _ _ _ _ _ _ us hl => match us, hl with | [_], _ => rfl
  d__law_gap := d_of X G c 3 24 rfl rfl fun _ _ _ _ _ _ us hl => match us, hl with | [_, _], _ => rfl
  d__law_word := d_of X G c 4 25 rfl rfl fun _ _ _ _ _ _ us hl => match us, hl with | [_, _], _ => rfl
  d__law_pieces := d_of X G c 5 26 rfl rfl fun _ _ _ _ _ _ us hl => match us, hl with | [_], _ => rfl
  d__law_read := d_of X G c 6 27 rfl rfl fun _ _ _ _ _ _ us hl => match us, hl with | [_], _ => rfl
  d__law_string := d_of X G c 7 28 rfl rfl fun _ _ _ _ _ _ us hl => match us, hl with | [_, _], _ => rfl
  d__law_number := d_of X G c 8 29 rfl rfl fun _ _ _ _ _ _ us hl => match us, hl with | [_, _], _ => rfl
  d__law_alike := d_of X G c 9 30 rfl rfl fun _ _ _ _ _ _ us hl => match us, hl with | [_, _], _ => rfl
  d_end_of := d_of X G c 10 31 rfl rfl fun _ _ _ _ _ _ us hl => match us, hl with | [_, _, _], _ => rfl
  d_token_at := d_of X G c 11 32 rfl rfl fun _ _ _ _ _ _ us hl => match us, hl with | [_, _, _], _ => rfl
  d_line_tokens := d_of X G c 12 33 rfl rfl fun _ _ _ _ _ _ us hl => match us, hl with | [_, _], _ => rfl
  d_tokens_of := d_of X G c 13 34 rfl rfl fun _ _ _ _ _ _ us hl => match us, hl with | [_], _ => rfl
  d__law_asked := d_of X G c 14 35 rfl rfl fun _ _ _ _ _ _ us hl => match us, hl with | [_, _, _], _ => rfl
  d__law_faults := d_of X G c 15 36 rfl rfl fun _ _ _ _ _ _ us hl => match us, hl with | [_], _ => rfl
  d__law_spoilt := d_of X G c 16 37 rfl rfl fun _ _ _ _ _ _ us hl => match us, hl with | [_, _], _ => rfl
  d__law_wide := d_of X G c 17 38 rfl rfl fun _ _ _ _ _ _ us hl => match us, hl with | [_], _ => rfl
  d_law := d_of X G c 18 39 rfl rfl fun _ _ _ _ _ _ us hl => match us, hl with | [_], _ => rfl
  i_BadSource := ⟨oexB_ok (exAt e 0 rfl), noB_ok (exAt e 1 rfl), i_of c 19 rfl (of_decide_eq_true (exAt e 2 rfl)) (of_decide_eq_true (exAt e 3 rfl)) fun _ _ _ _ _ _ us hl => match us, hl with | [_, _, _, _], _ => rfl⟩
  e_BadSource_SizeError := of_decide_eq_true (exAt e 4 rfl)
  k_BadSource_BadCommand := of_decide_eq_true (exAt e 5 rfl)
  k_BadSource_BadSource := of_decide_eq_true (exAt e 6 rfl)
  k_BadSource_BadText := of_decide_eq_true (exAt e 7 rfl)
  k_BadSource_CallError := of_decide_eq_true (exAt e 8 rfl)
  k_BadSource_DataError := of_decide_eq_true (exAt e 9 rfl)
  k_BadSource_TextError := of_decide_eq_true (exAt e 10 rfl)
  k_BadSource_ValueError := of_decide_eq_true (exAt e 11 rfl)
  t_BadSource_line := exAt e 12 rfl
  t_BadSource_place := exAt e 13 rfl
  t_BadSource_word := exAt e 14 rfl
  b_BadSource := exAt e 15 rfl
def loose : List Str := (["WORD_MOST", "SizeError", "DataError", "CallError", "TextError", "BadSource", "BadText", "BadCommand", "TEN_FIGURES", "SMALL_LETTERS", "SIGNS", "end_of", "token_at", "line_tokens", "tokens_of", "_law_start", "_law_next", "_law_word", "_law_odd", "_law_gap", "_law_pieces", "_law_read", "_law_number", "_law_string", "_law_alike", "_law_asked", "_law_faults", "_law_spoilt", "_law_wide"] : List Str)
abbrev R : PySem.W.OpenRow := PySem.W.OpenLaw.row PySem.Challenge.rw_anysizes_k02_tokens_of
abbrev hk : PySem.W.Hook := hookG 6 fa fn ex
def ob (s : PySem.W.SharedT) : He.AlD × Bool := obG 6 fa fn ex (HandSHeadRun.getT s)
theorem ob_eq (s : PySem.W.SharedT) : ob s = hk.obs s.abs := obG_eq (HandSHeadRun.getT_eq s)
theorem run (w : World) : HandSHeadRun.RunEq R (PySem.W.view R.prog [32]) hk ob 3000 loose w := by
  intro os
  kernel_rfl
end K02
open PySem PySem.W PySem.Calls PyProof.Rows
theorem K02.holds (ht : ∀ (K : PySem.W.Frag) (mg : PySem.Str → Option Value), K02.Z K mg → ∀ ns : List Int, ns.length ≤ 63 → ∃ ds, K02.F_law K [.lst false (ns.map Se.D.int)] = .rt (.bl true) ds) : PySem.Challenge.rw_anysizes_k02_tokens_of.Holds := by
  w_on; o_law
  refine HandSHeadRun.head_any (r := OpenLaw.row PySem.Challenge.rw_anysizes_k02_tokens_of) (q := view (OpenLaw.row PySem.Challenge.rw_anysizes_k02_tokens_of).prog [32]) (H := K02.hk) (ob := K02.ob) (M := 3000) (loose := K02.loose) (d := HandSHeadRun.topDef (OpenLaw.row PySem.Challenge.rw_anysizes_k02_tokens_of).prog 32) (kwd := []) K02.ob_eq (by kernel_rfl) (fun s => by kernel_rfl) K02.run
    (by kernel_rfl) (by kernel_rfl) (by kernel_rfl) (by rfl) (by first | assumption | decide +kernel) (by decide +kernel) ⟨rfl, rfl, rfl, rfl, rfl, by decide +kernel⟩ ?hw ?hc
  case hw => w_witness2
  case hc =>
    refine L2.walk_ofE (l := PySem.Challenge.rw_anysizes_k02_tokens_of) (n := 63) (k := 8) (x := "script") (CX := Se.CXa PySem.Challenge.pw_anysizes_k02_tokens_of) rfl (by decide) (by kernel_rfl) ⟨rfl, by decide, by decide⟩ ?F Se.noCX
    intro w mg fa h Y G hmg0
    obtain ⟨K, KX, c, e, nl⟩ := Y
    have hmg : mg ("law" : PySem.Str) = some (.ref fa) := by
      have e : (HandSHeadRun.topDef (OpenLaw.row PySem.Challenge.rw_anysizes_k02_tokens_of).prog 32).name = ("law" : PySem.Str) := by kernel_rfl
      rw [← e]
      exact hmg0
    have z := K02.z_of KX G c e
    exact Se.law_F KX hmg nl z.d_law (fun base => K02.ff_law z) (ht K mg z) fun _ _ _ _ _ _ us hl => match us, hl with | [_], _ => rfl

namespace K02
open Se PySem
/-! ### the drawn numbers -/
def stD (gs : List Int) (c s cur : Int) : D := .lst true [.lst true (gs.map D.int), .int c, .int s, .int cur]
def St (n : Nat) (d : D) : Prop := ∃ (gs : List Int) (c s cur : Int), d = stD gs c s cur ∧ (∀ g ∈ gs, 0 < g) ∧ 0 ≤ c ∧ c ≤ n ∧ 0 ≤ s ∧ s < 1000003 ∧ 0 ≤ cur
theorem St.le {m n : Nat} {d : D} (h : St m d) (e : m ≤ n) : St n d := by
  obtain ⟨gs, c, s, cur, rfl, h1, h2, h3, h4⟩ := h
  exact ⟨gs, c, s, cur, rfl, h1, h2, by omega, h4⟩
theorem St.ne {n : Nat} {d : D} (h : St n d) : ne d = true := by
  obtain ⟨gs, c, s, cur, rfl, _⟩ := h
  simp [stD, neL_ints]
theorem next_ok (K : PySem.W.Frag) {n : Nat} {d : D} {many : Int} (h : St n d) (hn : n < 2 ^ 40) (h2 : 0 < many) (h3 : many < 1073741824) : ∃ x d', F__law_next K [d, .int many] = .rt (.int x) [d', .int many] ∧ 0 ≤ x ∧ x < many ∧ St (n + 1) d' := by
  obtain ⟨gs, c, s, cur, rfl, hg, hc0, hc, hs0, hs, hcur⟩ := h
  by_cases h0 : cur = 0
  · subst h0
    match gs, hg with
    | [], hg =>
      have k1 : ∀ i, CMulA i 7129 := fun i => cm7 (by decide) (by decide)
      have k2 : ∀ i, CMulA 3 i := fun i => cm8 (by decide) (by decide)
      have k3 : ∀ i, CMulA i 40961 := fun i => cm7 (by decide) (by decide)
      have k4 : ∀ i, CMulA i 57 := fun i => cm7 (by decide) (by decide)
      have hm : CMulA (s + (c + 1) * 7129) (s + 3 * (c + 1) + 11) := cm7 (by omega) (by omega)
      have hm2 : CMulA (c + 1) (c + 1) := cm7 (by omega) (by omega)
      refine ⟨((s + (c + 1) * 7129) * (s + 3 * (c + 1) + 11) % 998244353 * 40961 + (c + 1) * (c + 1) * 57) % 1000000007 / 61 % many, stD [] (c + 1) s 0, ?_, Int.emod_nonneg _ (by omega), Int.emod_lt_of_pos _ h2, [], c + 1, s, 0, rfl, hg, by omega, by omega, hs0, hs, by omega⟩
      simp [F__law_next, u131, startE, m__law_next, stD, ixD, h2, nrm, L2.CDiv, h3, hm, hm2, k1, k2, k3, k4]
    | g :: gs, hg =>
      have h1 : 0 < g := hg g List.mem_cons_self
      have h5 : (0 : Int) < (gs.length : Int) + 1 := by omega
      refine ⟨g % many, stD gs c s (g / many), ?_, Int.emod_nonneg _ (by omega), Int.emod_lt_of_pos _ h2, gs, c, s, g / many, rfl, fun x hx => hg x (List.mem_cons_of_mem _ hx), hc0, by omega, hs0, hs, Int.ediv_nonneg (by omega) (by omega)⟩
      simp [F__law_next, u131, startE, m__law_next, stD, ixD, h1, h2, nrm, L2.CDiv, h3, h5]
  · have h1 : 0 < cur := by omega
    refine ⟨cur % many, stD gs c s (cur / many), ?_, Int.emod_nonneg _ (by omega), Int.emod_lt_of_pos _ h2, gs, c, s, cur / many, rfl, hg, hc0, by omega, hs0, hs, Int.ediv_nonneg (by omega) (by omega)⟩
    simp [F__law_next, u131, startE, m__law_next, stD, ixD, h0, h1, h2, nrm, L2.CDiv, h3]
/-- the signs of a drawn word -/
def isL (c : Nat) : Bool := decide (97 ≤ c) && decide (c ≤ 122)
def isA (c : Nat) : Bool := isL c || (decide (48 ≤ c) && decide (c ≤ 57))
def az : List Nat := [97, 98, 99, 100, 101, 102, 103, 104, 105, 106, 107, 108, 109, 110, 111, 112, 113, 114, 115, 116, 117, 118, 119, 120, 121, 122, 48, 49, 50, 51, 52, 53, 54, 55, 56, 57]
theorem az_at {x : Int} (h0 : 0 ≤ x) (h : x < 36) : ∃ c, ixD az x = some c ∧ isA c = true ∧ (x < 26 → isL c = true) := by
  have e : ixD az x = az[x.toNat]? := by unfold ixD; rw [if_pos h0]
  rw [e]
  have hl : x.toNat < 36 := by omega
  have key : ∀ k : Fin 36, ∃ c, az[k.val]? = some c ∧ isA c = true ∧ (k.val < 26 → isL c = true) := by decide
  obtain ⟨c, h1, h2, h3⟩ := key ⟨x.toNat, hl⟩
  exact ⟨c, h1, h2, fun hx => h3 (by show x.toNat < 26; omega)⟩
def Wd (k : Nat) (w : List Nat) : Prop := w.length = k ∧ ∃ c r, w = c :: r ∧ isL c = true ∧ ∀ x ∈ r, isA x = true
theorem word_ok (K : PySem.W.Frag) {n k : Nat} {d : D} (h : St n d) (hn : n + k < 2 ^ 40) (h1 : 1 ≤ k) (h2 : k ≤ 1000) : ∃ w d', F__law_word K [d, .int k] = .rt (.str w) [d', .int k] ∧ Wd k w ∧ St (n + k) d' := by
  obtain ⟨x, d1, e1, x0, x1, s1⟩ := next_ok K (many := 26) h (by omega) (by decide) (by decide)
  obtain ⟨c, hc, hcA, hcL⟩ := az_at x0 (by omega)
  have hcL := hcL x1
  simp only [az] at hc
  have hd := h.ne
  have loop : ∃ ρ', forF (fName 4) (b__law_word_1 K) (rgD 0 (k - 1)) [some d1, some (.int k), some (.str az), some (.lst true [.str [c]]), none] = .nx ρ' ∧
      ∃ d' r q, ρ' = [some d', some (.int k), some (.str az), some (.lst true ((c :: r).map fun c => .str [c])), q] ∧ r.length = k - 1 ∧ (∀ x ∈ r, isA x = true) ∧ St (n + 1 + (k - 1)) d' := by
    refine forF_range (fun i ρ => ∃ d' r q, ρ = [some d', some (.int k), some (.str az), some (.lst true ((c :: r).map fun c => .str [c])), q] ∧ r.length = i ∧ (∀ x ∈ r, isA x = true) ∧ St (n + 1 + i) d') ⟨d1, [], none, rfl, rfl, by simp, s1⟩ ?_
    rintro i ρ hi ⟨d', r, q, rfl, hr, ha, hs⟩
    obtain ⟨y, d2, e2, y0, y1, s2⟩ := next_ok K (many := 36) hs (by omega) (by decide) (by decide)
    obtain ⟨b, hb, hbA, _⟩ := az_at y0 y1
    simp only [az] at hb
    have hd' := hs.ne
    refine ⟨_, [some d2, some (.int k), some (.str az), some (.lst true ((c :: (r ++ [b])).map fun c => .str [c])), some (.int (0 + i))], rfl, .inl ?_, d2, r ++ [b], _, rfl, by simp [hr], fun x hx => ?_, s2⟩
    · simp [b__law_word_1, e2, hd', szl, gIx, az, hb, show r.length + 1 < 16777216 by omega]
    · rcases List.mem_append.mp hx with q | q
      · exact ha x q
      · cases List.mem_singleton.mp q; exact hbA
  obtain ⟨ρ', e3, d', r, q, rfl, hr, ha, hs⟩ := loop
  refine ⟨c :: r, d', ?_, ⟨by simp [hr]; omega, c, r, rfl, hcL, ha⟩, by rw [show n + k = n + 1 + (k - 1) by omega]; exact hs⟩
  simp only [az] at e3
  have ek : ((k : Int) - 1).toNat = k - 1 := by omega
  have b1 : -4611686018427387904 < (k : Int) - 1 := by omega
  have b2 : (k : Int) - 1 < 4611686018427387904 := by omega
  have hj : gJoin [] (.lst true (.str [c] :: r.map fun c => .str [c])) = some (.str (c :: r)) := gJoin_chars (l := c :: r) (by simp [hr]; omega)
  simp [F__law_word, u131, startE, m__law_word, e1, hd, szl, gIx, hc, rg1_of b1 b2, ek, e3, hj]
end K02

namespace K02
open Se PySem
/-! ### what a text is, sign by sign -/
inductive Md where
  | nrm | rmk | wrd (st : Nat) (w : List Nat)
def sgn : List Nat := [61, 44, 59, 40, 41, 123, 125]
structure RS where
  md : Md
  row : Nat
  col : Nat
  toks : List D
  flt : Option (Nat × Nat × List Nat)
def tkW (w : List Nat) (r c : Nat) : D := .tup [.str [119, 111, 114, 100], .str w, .int r, .int c]
def tkS (x r c : Nat) : D := .tup [.str [115, 105, 103, 110], .str [x], .int r, .int c]
def lng : List Nat := [108, 111, 110, 103]
def sig : List Nat := [115, 105, 103, 110]
/-- the word ends here -/
def cls (s : RS) : RS := match s.md with
  | .wrd st w => if w.length > 12 then { s with md := .nrm, flt := some (s.row, st, lng) } else { s with md := .nrm, toks := s.toks ++ [tkW w s.row st] }
  | _ => s
def nrm1 (s : RS) (x : Nat) : RS :=
  if x = 10 then { s with md := .nrm, row := s.row + 1, col := 1 }
  else if x = 35 then { s with md := .rmk, col := s.col + 1 }
  else if x ∈ sgn then { s with md := .nrm, col := s.col + 1, toks := s.toks ++ [tkS x s.row s.col] }
  else if isL x = true then { s with md := .wrd s.col [x], col := s.col + 1 }
  else if x = 32 then { s with md := .nrm, col := s.col + 1 }
  else { s with flt := some (s.row, s.col, sig) }
def stp (s : RS) (x : Nat) : RS := match s.flt with
  | some _ => s
  | none => match s.md with
    | .nrm => nrm1 s x
    | .rmk => if x = 10 then { s with md := .nrm, row := s.row + 1, col := 1 } else { s with col := s.col + 1 }
    | .wrd st w => if isA x = true then { s with md := .wrd st (w ++ [x]), col := s.col + 1 } else match (cls s).flt with
      | some _ => cls s
      | none => nrm1 (cls s) x
def rn (s : RS) (x : List Nat) : RS := x.foldl stp s
theorem rn_app (s : RS) (x y : List Nat) : rn s (x ++ y) = rn (rn s x) y := List.foldl_append
theorem rn_nil (s : RS) : rn s [] = s := rfl
theorem rn_cons (s : RS) (a : Nat) (x : List Nat) : rn s (a :: x) = rn (stp s a) x := rfl
def ini (r : Nat) : RS := ⟨.nrm, r, 1, [], none⟩
def fin1 (s : RS) : RS := match s.flt with
  | some _ => s
  | none => cls s
theorem stp_flt {s : RS} (h : s.flt ≠ none) (x : Nat) : stp s x = s := by
  unfold stp
  cases e : s.flt with
  | none => exact absurd e h
  | some f => rfl
theorem rn_flt {s : RS} (h : s.flt ≠ none) : ∀ x, rn s x = s
  | [] => rfl
  | a :: x => by rw [rn_cons, stp_flt h]; exact rn_flt h x
/-! ### clean places -/
/-- between tokens (b false) or behind a word of at most twelve signs -/
def Qc (b : Bool) (s : RS) : Prop := s.flt = none ∧ (if b = true then ∃ st w, s.md = .wrd st w ∧ w.length ≤ 12 else s.md = .nrm)
/-- a gap: nothing, or something that ends a word and leaves no token -/
def Gp (g : List Nat) : Prop := ∀ s b, Qc b s → (g = [] ∨ (Qc false (rn s g) ∧ (rn s g).toks.length = s.toks.length + (if b = true then 1 else 0)))
theorem stp_nrm {s : RS} (h : s.flt = none) (hm : s.md = .nrm) (x : Nat) : stp s x = nrm1 s x := by
  unfold stp
  rw [h, hm]
theorem cls_ok {s : RS} {st : Nat} {w : List Nat} (hm : s.md = .wrd st w) (hw : w.length ≤ 12) : cls s = { s with md := .nrm, toks := s.toks ++ [tkW w s.row st] } := by
  unfold cls
  rw [hm]
  dsimp only
  rw [if_neg (by omega)]
/-- what ends a word does to a clean place -/
theorem stp_end {s : RS} {b : Bool} (h : Qc b s) {x : Nat} (hx : isA x = false) : ∃ s', s'.flt = none ∧ s'.md = .nrm ∧ s'.row = s.row ∧ s'.col = s.col ∧ s'.toks.length = s.toks.length + (if b = true then 1 else 0) ∧ stp s x = nrm1 s' x := by
  obtain ⟨hf, hm⟩ := h
  cases b with
  | false =>
    have hm : s.md = .nrm := by simpa using hm
    exact ⟨s, hf, hm, rfl, rfl, by simp, stp_nrm hf hm x⟩
  | true =>
    obtain ⟨st, w, hm, hw⟩ := (by simpa using hm : ∃ st w, s.md = .wrd st w ∧ w.length ≤ 12)
    refine ⟨cls s, ?_, ?_, ?_, ?_, ?_, ?_⟩
    · rw [cls_ok hm hw]; exact hf
    · rw [cls_ok hm hw]
    · rw [cls_ok hm hw]
    · rw [cls_ok hm hw]
    · rw [cls_ok hm hw]; simp
    · unfold stp
      rw [hf, hm]
      dsimp only
      rw [hx, if_neg (by decide), cls_ok hm hw]
      dsimp only
      rw [hf]
theorem nrm1_sp {s : RS} : nrm1 s 32 = { s with md := .nrm, col := s.col + 1 } := by simp [nrm1, sgn, isL]
theorem nrm1_nl {s : RS} : nrm1 s 10 = { s with md := .nrm, row := s.row + 1, col := 1 } := by simp [nrm1]
theorem nrm1_hs {s : RS} : nrm1 s 35 = { s with md := .rmk, col := s.col + 1 } := by simp [nrm1]
/-- blanks and newlines -/
theorem run_ws : ∀ (g : List Nat) (s : RS), (∀ x ∈ g, x = 32 ∨ x = 10) → s.flt = none → s.md = .nrm → (rn s g).flt = none ∧ (rn s g).md = .nrm ∧ (rn s g).toks = s.toks
  | [], s, _, h1, h2 => ⟨h1, h2, rfl⟩
  | x :: g, s, hg, h1, h2 => by
    rw [rn_cons, stp_nrm h1 h2]
    rcases hg x List.mem_cons_self with rfl | rfl
    · rw [nrm1_sp]
      exact run_ws g _ (fun y hy => hg y (List.mem_cons_of_mem _ hy)) h1 rfl
    · rw [nrm1_nl]
      exact run_ws g _ (fun y hy => hg y (List.mem_cons_of_mem _ hy)) h1 rfl
theorem gp_ws {g : List Nat} (hg : ∀ x ∈ g, x = 32 ∨ x = 10) : Gp g := fun s b h => by
  match g, hg with
  | [], _ => exact .inl rfl
  | x :: g, hg =>
    right
    have hx : isA x = false := by rcases hg x List.mem_cons_self with rfl | rfl <;> decide
    obtain ⟨s', h1, h2, h3, h4, h5, e⟩ := stp_end h hx
    have e2 : rn s (x :: g) = rn s' (x :: g) := by rw [rn_cons, rn_cons, e, stp_nrm h1 h2]
    obtain ⟨q1, q2, q3⟩ := run_ws (x :: g) s' hg h1 h2
    rw [e2]
    exact ⟨⟨q1, by simpa using q2⟩, by rw [q3, h5]⟩
/-- a remark, to its newline -/
theorem run_rmk : ∀ (g : List Nat) (s : RS), s.flt = none → s.md = .rmk → (∀ x ∈ g, x ≠ 10) → (rn s g).flt = none ∧ (rn s g).md = .rmk ∧ (rn s g).toks = s.toks
  | [], s, h1, h2, _ => ⟨h1, h2, rfl⟩
  | x :: g, s, h1, h2, hg => by
    have e : stp s x = { s with col := s.col + 1 } := by
      unfold stp
      rw [h1, h2]
      exact if_neg (hg x List.mem_cons_self)
    rw [rn_cons, e]
    exact run_rmk g _ h1 h2 fun y hy => hg y (List.mem_cons_of_mem _ hy)
theorem gp_rmk {g : List Nat} (hg : ∀ x ∈ g, x ≠ 10) : Gp (35 :: (g ++ [10])) := fun s b h => by
  right
  obtain ⟨s', h1, h2, h3, h4, h5, e⟩ := stp_end h (x := 35) (by decide)
  rw [rn_cons, e, nrm1_hs, rn_app]
  obtain ⟨q1, q2, q3⟩ := run_rmk g { s' with md := .rmk, col := s'.col + 1 } h1 rfl hg
  have e2 : ∀ s0 : RS, s0.flt = none → s0.md = .rmk → rn s0 [10] = { s0 with md := .nrm, row := s0.row + 1, col := 1 } := fun s0 a1 a2 => by
    show stp s0 10 = _
    unfold stp
    rw [a1, a2]
    rfl
  rw [e2 _ q1 q2]
  exact ⟨⟨q1, rfl⟩, by show (rn _ g).toks.length = _; rw [q3]; exact h5⟩
/-! ### tokens, faults -/
theorem rn_word : ∀ (r : List Nat) (s : RS) (st : Nat) (w : List Nat), s.flt = none → s.md = .wrd st w → (∀ x ∈ r, isA x = true) → (rn s r).flt = none ∧ (rn s r).md = .wrd st (w ++ r) ∧ (rn s r).toks = s.toks ∧ (rn s r).row = s.row
  | [], s, st, w, h1, h2, _ => ⟨h1, by rw [List.append_nil]; exact h2, rfl, rfl⟩
  | x :: r, s, st, w, h1, h2, h => by
    have e : stp s x = { s with md := .wrd st (w ++ [x]), col := s.col + 1 } := by
      unfold stp
      rw [h1, h2]
      exact if_pos (h x List.mem_cons_self)
    rw [rn_cons, e]
    obtain ⟨a1, a2, a3, a4⟩ := rn_word r { s with md := .wrd st (w ++ [x]), col := s.col + 1 } st (w ++ [x]) h1 rfl fun y hy => h y (List.mem_cons_of_mem _ hy)
    exact ⟨a1, by rw [a2, List.append_assoc]; rfl, a3, a4⟩
theorem isL_not {c : Nat} (h : isL c = true) : c ≠ 10 ∧ c ≠ 35 ∧ c ∉ sgn ∧ c ≠ 32 ∧ isA c = true := by
  simp only [isL, Bool.and_eq_true, decide_eq_true_eq] at h
  refine ⟨by omega, by omega, ?_, by omega, by simp [isA, isL]; omega⟩
  intro hm
  simp only [sgn, List.mem_cons, List.not_mem_nil, or_false] at hm
  omega
theorem nrm1_l {s : RS} {c : Nat} (h : isL c = true) : nrm1 s c = { s with md := .wrd s.col [c], col := s.col + 1 } := by
  obtain ⟨h1, h2, h3, h4, _⟩ := isL_not h
  unfold nrm1
  rw [if_neg h1, if_neg h2, if_neg h3, if_pos h]
theorem sgn_not {x : Nat} (h : x ∈ sgn) : x ≠ 10 ∧ x ≠ 35 ∧ isA x = false := by
  simp only [sgn, List.mem_cons, List.not_mem_nil, or_false] at h
  rcases h with rfl | rfl | rfl | rfl | rfl | rfl | rfl <;> decide
theorem nrm1_s {s : RS} {x : Nat} (h : x ∈ sgn) : nrm1 s x = { s with md := .nrm, col := s.col + 1, toks := s.toks ++ [tkS x s.row s.col] } := by
  obtain ⟨h1, h2, _⟩ := sgn_not h
  unfold nrm1
  rw [if_neg h1, if_neg h2, if_pos h]
/-- a sign that begins no token -/
def isO (c : Nat) : Bool := !(decide (c = 10) || decide (c = 35) || decide (c = 32) || decide (c ∈ sgn) || isL c)
theorem nrm1_o {s : RS} {x : Nat} (h : isO x = true) : nrm1 s x = { s with flt := some (s.row, s.col, sig) } := by
  simp only [isO, Bool.not_eq_true', Bool.or_eq_false_iff, decide_eq_false_iff_not] at h
  obtain ⟨⟨⟨⟨h1, h2⟩, h3⟩, h4⟩, h5⟩ := h
  unfold nrm1
  rw [if_neg h1, if_neg h2, if_neg h4, if_neg (by rw [h5]; decide), if_neg h3]
theorem word_cl {s : RS} {k : Nat} {w : List Nat} (h : Qc false s) (hw : Wd k w) (hk : k ≤ 12) : Qc true (rn s w) ∧ (rn s w).toks = s.toks := by
  obtain ⟨h1, h2⟩ := h
  have h2 : s.md = .nrm := by simpa using h2
  obtain ⟨hl, c, r, rfl, hc, hr⟩ := hw
  rw [rn_cons, stp_nrm h1 h2, nrm1_l hc]
  obtain ⟨a1, a2, a3, _⟩ := rn_word r { s with md := .wrd s.col [c], col := s.col + 1 } s.col [c] h1 rfl hr
  refine ⟨⟨a1, ?_⟩, a3⟩
  rw [if_pos rfl]
  exact ⟨_, _, a2, by rw [List.singleton_append, hl]; exact hk⟩
theorem sign_cl {s : RS} {b : Bool} {x : Nat} (h : Qc b s) (hx : x ∈ sgn) : Qc false (rn s [x]) ∧ (rn s [x]).toks.length = s.toks.length + (if b = true then 1 else 0) + 1 := by
  obtain ⟨s', h1, h2, h3, h4, h5, e⟩ := stp_end h (sgn_not hx).2.2
  show Qc false (stp s x) ∧ (stp s x).toks.length = _
  rw [e, nrm1_s hx]
  exact ⟨⟨h1, rfl⟩, by show (s'.toks ++ _).length = _; rw [List.length_append, h5]; rfl⟩
/-- the kinds of faults -/
def Ft (k : List Nat) (f : List Nat) : Prop := ∀ s b, Qc b s → ∃ r c, (rn s f).flt = some (r, c, k)
theorem ft_app {k f g : List Nat} (h : Ft k f) : Ft k (f ++ g) := fun s b q => by
  obtain ⟨r, c, e⟩ := h s b q
  exact ⟨r, c, by rw [rn_app, rn_flt (by rw [e]; simp)]; exact e⟩
/-- behind a blank, or an opening brace, a sign that begins no token -/
theorem ft_sig {a x : Nat} (ha : a = 32 ∨ a = 123) (hx : isO x = true) : Ft sig [a, x] := fun s b q => by
  have hA : isA a = false := by rcases ha with rfl | rfl <;> decide
  obtain ⟨s', h1, h2, h3, h4, h5, e⟩ := stp_end q hA
  have e2 : ∃ s2, stp s a = s2 ∧ s2.flt = none ∧ s2.md = .nrm := by
    rw [e]
    rcases ha with rfl | rfl
    · exact ⟨_, nrm1_sp, h1, rfl⟩
    · exact ⟨_, nrm1_s (by decide), h1, rfl⟩
  obtain ⟨s2, e2, f2, m2⟩ := e2
  show ∃ r c, (stp (stp s a) x).flt = _
  rw [e2, stp_nrm f2 m2, nrm1_o hx]
  exact ⟨_, _, rfl⟩
theorem sp_cl {s : RS} {b : Bool} (q : Qc b s) : Qc false (stp s 32) := by
  obtain ⟨s', h1, h2, h3, h4, h5, e⟩ := stp_end q (x := 32) (by decide)
  rw [e, nrm1_sp]
  exact ⟨h1, rfl⟩
/-- a word of more than twelve signs, and what ends it -/
theorem ft_lng {k : Nat} {w : List Nat} {x : Nat} (hw : Wd k w) (hk : 12 < k) (hx : isA x = false) : Ft lng (32 :: (w ++ [x])) := fun s b q => by
  obtain ⟨h1, h2⟩ := sp_cl q
  have h2 : (stp s 32).md = .nrm := by simpa using h2
  obtain ⟨hl, c, r, rfl, hc, hr⟩ := hw
  rw [rn_cons, List.cons_append, rn_cons, stp_nrm h1 h2, nrm1_l hc, rn_app]
  generalize stp s 32 = t at h1 h2
  obtain ⟨a1, a2, a3, a4⟩ := rn_word r { t with md := .wrd t.col [c], col := t.col + 1 } t.col [c] h1 rfl hr
  generalize rn { t with md := .wrd t.col [c], col := t.col + 1 } r = u at a1 a2 a3 a4
  show ∃ r c, (stp u x).flt = _
  have e : cls u = { u with md := .nrm, flt := some (u.row, t.col, lng) } := by
    unfold cls
    rw [a2]
    dsimp only
    rw [if_pos (by rw [List.singleton_append, hl]; exact hk)]
  refine ⟨u.row, t.col, ?_⟩
  unfold stp
  rw [a1, a2]
  dsimp only
  rw [hx, if_neg (by decide), e]
/-- a short word, and a sign behind it that begins no token -/
theorem ft_near {k : Nat} {w : List Nat} {x : Nat} (hw : Wd k w) (hk : k ≤ 12) (hx : isO x = true) (hx2 : isA x = false) : Ft sig (32 :: (w ++ [x])) := fun s b q => by
  obtain ⟨q1, _⟩ := word_cl (sp_cl q) hw hk
  rw [rn_cons, rn_app]
  generalize rn (stp s 32) w = u at q1
  obtain ⟨s', h1, h2, h3, h4, h5, e⟩ := stp_end q1 hx2
  show ∃ r c, (stp u x).flt = _
  rw [e, nrm1_o hx]
  exact ⟨_, _, rfl⟩
/-! ### what is drawn -/
def o5 : List Nat := [95, 65, 9, 90, 46]
def oAll : List Nat := [33, 34, 36, 38, 39, 42, 43, 45, 46, 47, 48, 49, 50, 51, 52, 53, 54, 55, 56, 57, 58, 60, 62, 63, 64, 65, 66, 67, 68, 69, 70, 71, 72, 73, 74, 75, 76, 77, 78, 79, 80, 81, 82, 83, 84, 85, 86, 87, 88, 89, 90, 91, 92, 93, 94, 95, 96, 124, 126, 9]
theorem pick_at {α : Type} {l : List α} {p : α → Prop} (h : ∀ c ∈ l, p c) {x : Int} (h0 : 0 ≤ x) (hx : x < l.length) : ∃ c, ixD l x = some c ∧ p c := by
  have hl : x.toNat < l.length := by omega
  refine ⟨l[x.toNat], ?_, h _ (List.getElem_mem hl)⟩
  unfold ixD
  rw [if_pos h0, List.getElem?_eq_getElem hl]
theorem odd_ok (K : PySem.W.Frag) {n : Nat} {d : D} (h : St n d) (hn : n + 2 < 2 ^ 40) : ∃ x d', F__law_odd K [d] = .rt (.str [x]) [d'] ∧ isO x = true ∧ St (n + 2) d' := by
  obtain ⟨i, d1, e1, i0, i1, s1⟩ := next_ok K (many := 2) h (by omega) (by decide) (by decide)
  have hd := h.ne
  have hd1 := s1.ne
  by_cases hi : i = 0
  · subst hi
    obtain ⟨j, d2, e2, j0, j1, s2⟩ := next_ok K (many := 5) s1 (by omega) (by decide) (by decide)
    obtain ⟨x, hx, ho⟩ := pick_at (l := o5) (p := fun c => isO c = true) (by decide) j0 (by simpa [o5] using j1)
    simp only [o5] at hx
    exact ⟨x, d2, by simp [F__law_odd, u131, startE, m__law_odd, e1, e2, hd, hd1, szl, gIx, hx], ho, s2⟩
  · obtain ⟨j, d2, e2, j0, j1, s2⟩ := next_ok K (many := 60) s1 (by omega) (by decide) (by decide)
    obtain ⟨x, hx, ho⟩ := pick_at (l := oAll) (p := fun c => isO c = true) (by decide) j0 (by simpa [oAll] using j1)
    simp only [oAll] at hx
    exact ⟨x, d2, by simp [F__law_odd, u131, startE, m__law_odd, e1, e2, hi, hd, hd1, szl, gIx, hx], ho, s2⟩
end K02

namespace K02
open Se PySem
theorem repD_one {α : Type} (k : Nat) (a : α) : repD k [a] = List.replicate k a := by
  unfold repD
  induction k with
  | zero => rfl
  | succ k ih => rw [List.replicate_succ, List.flatten_cons, ih, List.replicate_succ]; rfl
theorem rep_in {k a : Nat} {x : Nat} (h : x ∈ List.replicate k a) : x = a := (List.mem_replicate.mp h).2
theorem gap_ok (K : PySem.W.Frag) {n : Nat} {d : D} (b : Bool) (h : St n d) (hn : n + 20 < 2 ^ 40) : ∃ g d', F__law_gap K [d, .bl b] = .rt (.str g) [d', .bl b] ∧ Gp g ∧ (b = true → g ≠ []) ∧ g.length ≤ 20 ∧ St (n + 20) d' := by
  obtain ⟨i, d1, e1, i0, i1, s1⟩ := next_ok K (many := 7) h (by omega) (by decide) (by decide)
  have hd := h.ne
  have hd1 := s1.ne
  by_cases h3 : i < 3
  · by_cases hb : b = true ∨ i = 0
    · refine ⟨[32], d1, ?_, gp_ws (by simp), by simp, by simp, s1.le (by omega)⟩
      cases b with
      | true => simp [F__law_gap, u131, startE, m__law_gap, e1, hd, hd1, szl, gIx, h3, ixD]
      | false =>
        have hi : i = 0 := by simpa using hb
        subst hi
        simp [F__law_gap, u131, startE, m__law_gap, e1, hd, hd1, szl, gIx, ixD]
    · have hb2 : b = false := by cases b <;> simp_all
      have hi : ¬ i = 0 := fun z => hb (.inr z)
      subst hb2
      refine ⟨[], d1, ?_, gp_ws (by simp), by simp, by simp, s1.le (by omega)⟩
      simp [F__law_gap, u131, startE, m__law_gap, e1, hd, hd1, szl, gIx, h3, hi, ixD]
  by_cases h4 : i = 3
  · subst h4
    obtain ⟨j, d2, e2, j0, j1, s2⟩ := next_ok K (many := 6) s1 (by omega) (by decide) (by decide)
    have c1 : -9223372036854775808 ≤ 1 + j := by omega
    have c2 : 1 + j < 9223372036854775808 := by omega
    have c3 : (1 + j).toNat ≤ 16777216 := by omega
    refine ⟨List.replicate (1 + j).toNat 32, d2, ?_, gp_ws fun x hx => .inl (rep_in hx), fun _ => ?_, by rw [List.length_replicate]; omega, s2.le (by omega)⟩
    · simp [F__law_gap, u131, startE, m__law_gap, e1, e2, hd, hd1, szl, gMulA, repD_one, c1, c2, c3]
    · intro z
      have := congrArg List.length z
      rw [List.length_replicate] at this
      simp at this
      omega
  by_cases h5 : i = 4
  · subst h5
    obtain ⟨j, d2, e2, j0, j1, s2⟩ := next_ok K (many := 3) s1 (by omega) (by decide) (by decide)
    have c1 : -9223372036854775808 ≤ 1 + j := by omega
    have c2 : 1 + j < 9223372036854775808 := by omega
    have c3 : (1 + j).toNat ≤ 16777216 := by omega
    refine ⟨List.replicate (1 + j).toNat 10, d2, ?_, gp_ws fun x hx => .inr (rep_in hx), fun _ => ?_, by rw [List.length_replicate]; omega, s2.le (by omega)⟩
    · simp [F__law_gap, u131, startE, m__law_gap, e1, e2, hd, hd1, szl, gMulA, repD_one, c1, c2, c3]
    · intro z
      have := congrArg List.length z
      rw [List.length_replicate] at this
      simp at this
      omega
  by_cases h6 : i = 5
  · subst h6
    obtain ⟨j, d2, e2, j0, j1, s2⟩ := next_ok K (many := 5) s1 (by omega) (by decide) (by decide)
    have c1 : -9223372036854775808 ≤ j := by omega
    have c2 : j < 9223372036854775808 := by omega
    have c3 : j.toNat ≤ 16777216 := by omega
    have c4 : j.toNat + 1 + 1 ≤ 16777216 := by omega
    have c5 : 2 + j.toNat ≤ 16777216 := by omega
    refine ⟨32 :: 10 :: List.replicate j.toNat 32, d2, ?_, gp_ws fun x hx => ?_, fun _ => by simp, by simp; omega, s2.le (by omega)⟩
    · simp [F__law_gap, u131, startE, m__law_gap, e1, e2, hd, hd1, szl, gMulA, repD_one, c1, c2, c3, c4, c5]
    · simp only [List.mem_cons] at hx
      rcases hx with rfl | rfl | hx
      · exact .inl rfl
      · exact .inr rfl
      · exact .inl (rep_in hx)
  · obtain ⟨j, d2, e2, j0, j1, s2⟩ := next_ok K (many := 4) s1 (by omega) (by decide) (by decide)
    have hj : j.toNat ≤ 3 := by omega
    have loop : ∃ acc ρ', compF [4] (fName 4) tTrue (e__law_gap_1 K) (rgD 0 j.toNat) [] [some d2, some (.bl b), some (.int i), none, none] = some (acc, ρ') ∧ ∃ (d' : D) (r : List Nat) (q : Option D), ρ' = [some d', some (.bl b), some (.int i), none, q] ∧ acc = r.map (fun c => D.str [c]) ∧ r.length = j.toNat ∧ (∀ x ∈ r, isO x = true) ∧ St (n + 2 + 2 * j.toNat) d' := by
      have z := compF_inv (vs := [4]) (f := fName 4) (me := eCall 1 (F__law_odd K) (bBor 0 (bNil))) (fun k acc ρ => ∃ (d' : D) (r : List Nat) (q : Option D), ρ = [some d', some (.bl b), some (.int i), none, q] ∧ acc = r.map (fun c => D.str [c]) ∧ r.length = k ∧ (∀ x ∈ r, isO x = true) ∧ St (n + 2 + 2 * k) d')
        (rgD 0 j.toNat) 0 [] [some d2, some (.bl b), some (.int i), none, none] ⟨d2, [], none, rfl, rfl, rfl, by simp, s2⟩ (by rw [rgD_len, szl]; simp; omega) ?_
      · rwa [Nat.zero_add, rgD_len] at z
      rintro k d0 acc ρ hk ⟨d', r, q, rfl, rfl, hr, ho, hs⟩
      obtain ⟨hk1, rfl⟩ := rgD_get hk
      rw [Nat.zero_add] at hr hs ⊢
      obtain ⟨x, d3, e3, hx, s3⟩ := odd_ok K hs (by omega)
      have hd' := hs.ne
      refine ⟨_, [some d3, some (.bl b), some (.int i), none, some (.int (0 + k))], .str [x], rfl, ?_, d3, r ++ [x], _, rfl, by simp, by simp [hr], fun y hy => ?_, s3⟩
      · simp [e__law_gap_1, e3, hd']
      · rcases List.mem_append.mp hy with q | q
        · exact ho y q
        · cases List.mem_singleton.mp q; exact hx
    obtain ⟨acc, ρ', e3, d3, r, q, rfl, rfl, hr, ho, s3⟩ := loop
    obtain ⟨m, d4, e4, m0, m1, s4⟩ := next_ok K (many := 4) s3 (by omega) (by decide) (by decide)
    have hd2 := s2.ne
    have hd3 := s3.ne
    have b1 : -4611686018427387904 < j := by omega
    have b2 : j < 4611686018427387904 := by omega
    have hjn : gJoin [] (.lst true (r.map fun c => .str [c])) = some (.str r) := gJoin_chars (l := r) (by omega)
    obtain ⟨y, hy, hy2, hy3⟩ := pick_at (l := ([[], [32, 97, 61, 98, 59], [35], [32, 35, 123]] : List (List Nat))) (p := fun c => (∀ x ∈ c, x ≠ 10) ∧ c.length ≤ 5) (by decide) m0 (by simpa using m1)
    have hyD : ixD [D.str [], D.str [32, 97, 61, 98, 59], D.str [35], D.str [32, 35, 123]] m = some (.str y) := by
      have := ixD_map D.str [[], [32, 97, 61, 98, 59], [35], [32, 35, 123]] m
      simp only [List.map_cons, List.map_nil] at this
      rw [this, hy]
      rfl
    refine ⟨35 :: ((r ++ y) ++ [10]), d4, ?_, gp_rmk fun x hx => ?_, fun _ => by simp, by simp; omega, s4.le (by omega)⟩
    · have l1 : r.length + 1 ≤ 16777216 := by omega
      have l2 : 1 + r.length ≤ 16777216 := by omega
      have l3 : r.length + 1 + y.length ≤ 16777216 := by omega
      have l4 : r.length + y.length + 1 + 1 ≤ 16777216 := by omega
      simp [F__law_gap, u131, startE, m__law_gap, e1, e2, e3, e4, hd, hd1, hd2, hd3, szl, h3, h4, h5, h6, rg1_of b1 b2, hjn, gIx, hyD, l1, l2, l3, l4]
    · rcases List.mem_append.mp hx with q | q
      · intro z
        have := ho x q
        rw [z] at this
        exact absurd this (by decide)
      · exact hy2 x q
end K02

namespace K02
open Se PySem
theorem seq_step {m n : MS} {ρ ρ1 : Se.Env} {r : SR} (h : m ρ = .nx ρ1) (h2 : n ρ1 = r) : sSeq m n ρ = r := by
  show seqK (m ρ) n = r
  rw [h]
  exact h2
/-- a piece: between the states a and a' one token more -/
def cnt (b : Bool) (s : RS) : Nat := s.toks.length + (if b = true then 1 else 0)
def Pc (a : Bool) (p : List Nat) (a' : Bool) : Prop := ∀ s, Qc a s → Qc a' (rn s p) ∧ cnt a' (rn s p) = cnt a s + 1
theorem pc_word {a : Bool} {g w : List Nat} {k : Nat} (hg : Gp g) (hn : a = true → g ≠ []) (hw : Wd k w) (hk : k ≤ 12) : Pc a (g ++ w) true := fun s q => by
  rw [rn_app]
  have h : Qc false (rn s g) ∧ (rn s g).toks.length = s.toks.length + (if a = true then 1 else 0) := by
    rcases hg s a q with rfl | h
    · cases a with
      | true => exact absurd rfl (hn rfl)
      | false => exact ⟨q, by simp [rn_nil]⟩
    · exact h
  obtain ⟨q1, e1⟩ := word_cl h.1 hw hk
  refine ⟨q1, ?_⟩
  unfold cnt
  rw [e1, h.2, if_pos rfl]
theorem pc_sign {a : Bool} {g : List Nat} {x : Nat} (hg : Gp g) (hx : x ∈ sgn) : Pc a (g ++ [x]) false := fun s q => by
  rw [rn_app]
  rcases hg s a q with rfl | ⟨h, e⟩
  · obtain ⟨q1, e1⟩ := sign_cl q hx
    exact ⟨q1, by unfold cnt; rw [show rn (rn s []) [x] = rn s [x] from rfl, e1]; simp⟩
  · obtain ⟨q1, e1⟩ := sign_cl h hx
    exact ⟨q1, by unfold cnt; rw [e1, e]; simp⟩
def kept : List (List Nat) := [[112, 114, 111, 99], [103, 105, 118, 101], [116, 117, 114, 110], [116, 105, 109, 101, 115], [112, 108, 117, 115], [108, 101, 115, 115], [98, 101, 115, 105, 100, 101], [97, 98, 111, 118, 101], [99, 117, 116], [115, 112, 108, 105, 116], [108, 105, 107, 101], [115, 113, 117, 97, 114, 101]]
theorem kept_wd : ∀ w ∈ kept, w.length ≤ 12 ∧ Wd w.length w := by
  have h : ∀ w ∈ kept, w.length ≤ 12 ∧ (match w with
    | [] => false
    | c :: r => isL c && r.all isA) = true := by decide
  intro w hw
  obtain ⟨h1, h2⟩ := h w hw
  refine ⟨h1, rfl, ?_⟩
  match w, h2 with
  | c :: r, h2 =>
    rw [Bool.and_eq_true] at h2
    exact ⟨c, r, rfl, h2.1, fun x hx => List.all_eq_true.mp h2.2 x hx⟩
/-- the token's part of a turn -/
theorem tok_ok (K : PySem.W.Frag) {n : Nat} {d P A Fl Kk : D} {G : D} {pv : Int} (h : St n d) (hn : n + 14 < 2 ^ 40) (tk0 : Option D) (h0 : 0 ≤ pv) (h5 : pv < 5) :
    ∃ t d', i__law_pieces_5 K [some d, some (.lst true (kept.map .str)), some P, some A, some Fl, some Kk, some (.int pv), some G, tk0] = .nx [some d', some (.lst true (kept.map .str)), some P, some A, some Fl, some Kk, some (.int pv), some G, some (.str t)] ∧
      ((pv < 3 ∧ ∃ k, k ≤ 12 ∧ Wd k t) ∨ (¬ pv < 3 ∧ ∃ x ∈ sgn, t = [x])) ∧ t.length ≤ 12 ∧ St (n + 14) d' := by
  have hd := h.ne
  by_cases h2 : pv < 2
  · obtain ⟨x, d1, e1, x0, x1, s1⟩ := next_ok K (many := 12) h (by omega) (by decide) (by decide)
    obtain ⟨y, d2, e2, y0, y1, s2⟩ := next_ok K (many := 4) s1 (by omega) (by decide) (by decide)
    have hd1 := s1.ne
    have hd2 := s2.ne
    by_cases hy : y = 0
    · subst hy
      obtain ⟨w, d3, e3, hw, s3⟩ := word_ok K (k := 12) s2 (by omega) (by decide) (by decide)
      refine ⟨w, d3, ?_, .inl ⟨by omega, 12, by decide, hw⟩, by rw [hw.1]; decide, s3.le (by omega)⟩
      have e3' : F__law_word K [d2, .int 12] = .rt (.str w) [d3, .int 12] := e3
      simp [i__law_pieces_5, e1, e2, e3', hd, hd1, hd2, h2, szl, gIx, ixD]
    · obtain ⟨w, d3, e3, hw, s3⟩ := word_ok K (k := (1 + x).toNat) s2 (by omega) (by omega) (by omega)
      refine ⟨w, d3, ?_, .inl ⟨by omega, _, by omega, hw⟩, by rw [hw.1]; omega, s3.le (by omega)⟩
      have e3' : F__law_word K [d2, .int (1 + x)] = .rt (.str w) [d3, .int (1 + x)] := by
        have : (((1 + x).toNat : Nat) : Int) = 1 + x := Int.toNat_of_nonneg (by omega)
        rwa [this] at e3
      simp [i__law_pieces_5, e1, e2, e3', hd, hd1, hd2, h2, hy, szl, gIx, ixD]
  · by_cases h3 : pv = 2
    · subst h3
      obtain ⟨x, d1, e1, x0, x1, s1⟩ := next_ok K (many := 12) h (by omega) (by decide) (by decide)
      obtain ⟨w, hw, hk⟩ := pick_at (l := kept) kept_wd x0 (by simpa [kept] using x1)
      have hwD : ixD (kept.map D.str) x = some (.str w) := by rw [ixD_map, hw]; rfl
      refine ⟨w, d1, ?_, .inl ⟨by omega, _, hk.1, hk.2⟩, hk.1, s1.le (by omega)⟩
      simp [i__law_pieces_5, i__law_pieces_4, e1, hd, szl, gIx, hwD]
    · obtain ⟨x, d1, e1, x0, x1, s1⟩ := next_ok K (many := 7) h (by omega) (by decide) (by decide)
      obtain ⟨c, hc, hs⟩ := pick_at (l := sgn) (p := fun c => c ∈ sgn) (fun _ h => h) x0 (by simpa [sgn] using x1)
      simp only [sgn] at hc
      refine ⟨[c], d1, ?_, .inr ⟨by omega, c, hs, rfl⟩, by simp, s1.le (by omega)⟩
      simp [i__law_pieces_5, i__law_pieces_4, e1, hd, h2, h3, szl, gIx, hc]
/-- one turn -/
theorem turn_ok (K : PySem.W.Frag) {n k : Nat} {d : D} {ps : List (List Nat)} {a fl : Bool} (pk gp tk : Option D) (h : St n d) (hn : n + 40 < 2 ^ 40) (hl : ps.length < 1000) :
    ∃ d' p a' pk' gp' tk', b__law_pieces_6 K [some d, some (.lst true (kept.map .str)), some (.lst true (ps.map .str)), some (.bl a), some (.bl fl), some (.int k), pk, gp, tk] =
        .nx [some d', some (.lst true (kept.map .str)), some (.lst true ((ps ++ [p]).map .str)), some (.bl a'), some (.bl fl), some (.int k), pk', gp', tk'] ∧ Pc a p a' ∧ p.length ≤ 32 ∧ St (n + 40) d' := by
  obtain ⟨x, d1, e1, x0, x1, s1⟩ := next_ok K (many := 5) h (by omega) (by decide) (by decide)
  have hd := h.ne
  have hd1 := s1.ne
  -- the number that chooses
  obtain ⟨pv, hp0, hp5, hpv⟩ : ∃ pv : Int, 0 ≤ pv ∧ pv < 5 ∧ pv = (if (k : Int) = 1 then 4 else if (k : Int) = 0 then 0 else x) := by
    by_cases q1 : (k : Int) = 1
    · exact ⟨4, by decide, by decide, by rw [if_pos q1]⟩
    · by_cases q0 : (k : Int) = 0
      · exact ⟨0, by decide, by decide, by rw [if_neg q1, if_pos q0]⟩
      · exact ⟨x, x0, x1, by rw [if_neg q1, if_neg q0]⟩
  obtain ⟨g, d2, e2, hg, hgn, hgl, s2⟩ := gap_ok K (a && decide (pv < 3)) s1 (by omega)
  have hd2 := s2.ne
  -- the gap that is taken
  obtain ⟨g', hg', hgn', hgl', hgv⟩ : ∃ g', Gp g' ∧ ((a && decide (pv < 3)) = true → g' ≠ []) ∧ g'.length ≤ 20 ∧ g' = (if fl = true ∧ (0 : Int) < k ∧ 10 ∈ g then [32] else g) := by
    by_cases q : fl = true ∧ (0 : Int) < k ∧ 10 ∈ g
    · exact ⟨[32], gp_ws (by simp), by simp, by simp, by rw [if_pos q]⟩
    · exact ⟨g, hg, hgn, hgl, by rw [if_neg q]⟩
  obtain ⟨t, d3, e3, ht, htl, s3⟩ := tok_ok K (P := .lst true (ps.map .str)) (A := .bl a) (Fl := .bl fl) (Kk := .int k) (G := .str g') (pv := pv) s2 (by omega) tk hp0 hp5
  have lz : g'.length + t.length ≤ 16777216 := by omega
  have lp : ps.length < 16777216 := by omega
  refine ⟨d3, g' ++ t, decide (pv < 3), some (.int pv), some (.str g'), some (.str t), ?_, ?_, by rw [List.length_append]; omega, s3.le (by omega)⟩
  · unfold b__law_pieces_6
    refine seq_step (ρ1 := [some d1, some (.lst true (kept.map .str)), some (.lst true (ps.map .str)), some (.bl a), some (.bl fl), some (.int k), some (.int x), gp, tk]) (by simp [e1, hd]) ?_
    refine seq_step (ρ1 := [some d1, some (.lst true (kept.map .str)), some (.lst true (ps.map .str)), some (.bl a), some (.bl fl), some (.int k), some (.int (if (k : Int) = 0 then 0 else x)), gp, tk]) (by by_cases q : k = 0 <;> simp [i__law_pieces_1, q]) ?_
    refine seq_step (ρ1 := [some d1, some (.lst true (kept.map .str)), some (.lst true (ps.map .str)), some (.bl a), some (.bl fl), some (.int k), some (.int pv), gp, tk]) ?_ ?_
    · rw [hpv]
      by_cases q : (k : Int) = 1
      · have q0 : ¬ k = 0 := by omega
        simp [i__law_pieces_2, q]
      · simp [i__law_pieces_2, q]
    refine seq_step (ρ1 := [some d2, some (.lst true (kept.map .str)), some (.lst true (ps.map .str)), some (.bl a), some (.bl fl), some (.int k), some (.int pv), some (.str g), tk]) ?_ ?_
    · cases a with
      | true =>
        rw [Bool.true_and] at e2
        simp [e2, hd1]
      | false =>
        rw [Bool.false_and] at e2
        simp [e2, hd1]
    refine seq_step (ρ1 := [some d2, some (.lst true (kept.map .str)), some (.lst true (ps.map .str)), some (.bl a), some (.bl fl), some (.int k), some (.int pv), some (.str g'), tk]) ?_ ?_
    · rw [hgv]
      cases fl with
      | false => simp [i__law_pieces_3]
      | true =>
        by_cases q1 : 0 < k
        · by_cases q2 : 10 ∈ g
          · simp [i__law_pieces_3, q1, q2]
          · simp [i__law_pieces_3, q1, q2]
        · simp [i__law_pieces_3, q1]
    refine seq_step e3 ?_
    simp [szl, lz, lp]
  · rcases ht with ⟨q, w, hw, hwd⟩ | ⟨q, c, hc, rfl⟩
    · rw [decide_eq_true q]
      rw [decide_eq_true q, Bool.and_true] at hgn'
      exact pc_word hg' hgn' hwd hw
    · rw [decide_eq_false q]
      exact pc_sign hg' hc
end K02

namespace K02
open Se PySem
def Tl (t : List Nat) : Prop := t.length ≤ 4 ∧ ∀ s b, Qc b s → (fin1 (rn s t)).flt = none ∧ (fin1 (rn s t)).toks.length = cnt b s
theorem fin_q {s : RS} {b : Bool} (q : Qc b s) : (fin1 s).flt = none ∧ (fin1 s).toks.length = cnt b s := by
  obtain ⟨h1, h2⟩ := q
  unfold fin1
  rw [h1]
  cases b with
  | false =>
    have h2 : s.md = .nrm := by simpa using h2
    have e : cls s = s := by unfold cls; rw [h2]
    dsimp only
    rw [e]
    exact ⟨h1, by simp [cnt]⟩
  | true =>
    obtain ⟨st, w, hm, hw⟩ := (by simpa using h2 : ∃ st w, s.md = .wrd st w ∧ w.length ≤ 12)
    dsimp only
    rw [cls_ok hm hw]
    exact ⟨h1, by simp [cnt]⟩
theorem tl_gp {t : List Nat} (h : Gp t) (hl : t.length ≤ 4) : Tl t := ⟨hl, fun s b q => by
  rcases h s b q with rfl | ⟨q1, e⟩
  · exact fin_q q
  · obtain ⟨h1, h2⟩ := fin_q q1
    exact ⟨h1, by rw [h2]; unfold cnt; rw [e]; simp⟩⟩
theorem tl_rmk {t : List Nat} (h : ∀ x ∈ t, x ≠ 10) (hl : t.length ≤ 3) : Tl (35 :: t) := ⟨by rw [List.length_cons]; omega, fun s b q => by
  obtain ⟨s', h1, h2, h3, h4, h5, e⟩ := stp_end q (x := 35) (by decide)
  rw [rn_cons, e, nrm1_hs]
  obtain ⟨q1, q2, q3⟩ := run_rmk t { s' with md := .rmk, col := s'.col + 1 } h1 rfl h
  generalize rn { s' with md := .rmk, col := s'.col + 1 } t = u at q1 q2 q3
  have e : fin1 u = u := by
    unfold fin1
    rw [q1]
    unfold cls
    rw [q2]
  rw [e]
  exact ⟨q1, by rw [q3]; exact h5⟩⟩
def tails : List (List Nat) := [[], [32], [10], [35], [35, 32, 65, 33], [32, 10, 10, 32]]
theorem tails_ok : ∀ t ∈ tails, Tl t := by
  intro t ht
  simp only [tails, List.mem_cons, List.not_mem_nil, or_false] at ht
  rcases ht with rfl | rfl | rfl | rfl | rfl | rfl
  · exact tl_gp (gp_ws (by decide)) (by decide)
  · exact tl_gp (gp_ws (by decide)) (by decide)
  · exact tl_gp (gp_ws (by decide)) (by decide)
  · exact tl_rmk (by decide) (by decide)
  · exact tl_rmk (by decide) (by decide)
  · exact tl_gp (gp_ws (by decide)) (by decide)
/-- the pieces of a right text -/
structure Gd (ps : List (List Nat)) : Prop where
  ex : ∃ qs t, ps = qs ++ [t] ∧ 2 ≤ qs.length ∧ qs.length ≤ 91 ∧ (∀ p ∈ qs, p.length ≤ 32) ∧ (∀ j, j ≤ qs.length → ∃ b, Qc b (rn (ini 1) (qs.take j).flatten) ∧ cnt b (rn (ini 1) (qs.take j).flatten) = j) ∧ Tl t
theorem qc_ini (r : Nat) : Qc false (ini r) := ⟨rfl, rfl⟩
theorem pieces_ok (K : PySem.W.Frag) {n : Nat} {d : D} (h : St n d) (hn : n + 5000 < 2 ^ 40) : ∃ ps d', F__law_pieces K [d] = .rt (.lst true (ps.map .str)) [d'] ∧ Gd ps ∧ St (n + 5000) d' := by
  obtain ⟨x, d1, e1, x0, x1, s1⟩ := next_ok K (many := 3) h (by omega) (by decide) (by decide)
  obtain ⟨i, d2, e2, i0, i1, s2⟩ := next_ok K (many := 4) s1 (by omega) (by decide) (by decide)
  obtain ⟨m, hm, hm1, hm2⟩ := pick_at (l := ([12, 30, 30, 90] : List Int)) (p := fun c => 0 < c ∧ c ≤ 90) (by decide) i0 (by simpa using i1)
  have hmD : ixD [D.int 12, D.int 30, D.int 30, D.int 90] i = some (.int m) := by
    have := ixD_map D.int [12, 30, 30, 90] i
    simp only [List.map_cons, List.map_nil] at this
    rw [this, hm]
    rfl
  obtain ⟨y, d3, e3, y0, y1, s3⟩ := next_ok K (many := m) s2 (by omega) hm1 (by omega)
  have hd := h.ne
  have hd1 := s1.ne
  have hd2 := s2.ne
  have hd3 := s3.ne
  obtain ⟨N, hN⟩ : ∃ N : Nat, N = (2 + y).toNat := ⟨_, rfl⟩
  have hN2 : 2 ≤ N := by omega
  have hN3 : N ≤ 91 := by omega
  have hj0 : ∀ j, j ≤ ([] : List (List Nat)).length → ∃ b, Qc b (rn (ini 1) (([] : List (List Nat)).take j).flatten) ∧ cnt b (rn (ini 1) (([] : List (List Nat)).take j).flatten) = j := fun j hj => by
    have e : j = 0 := by simpa using hj
    subst e
    exact ⟨false, qc_ini 1, rfl⟩
  have loop : ∃ ρ', forF (fName 5) (b__law_pieces_6 K) (rgD 0 N) [some d3, some (.lst true (kept.map .str)), some (.lst true []), some (.bl false), some (.bl (decide (x = 0))), none, none, none, none] = .nx ρ' ∧
      ∃ (d' : D) (qs : List (List Nat)) (a : Bool) (k' pk gp tk : Option D), ρ' = [some d', some (.lst true (kept.map .str)), some (.lst true (qs.map .str)), some (.bl a), some (.bl (decide (x = 0))), k', pk, gp, tk] ∧ qs.length = N ∧ (∀ p ∈ qs, p.length ≤ 32) ∧
        (∀ j, j ≤ qs.length → ∃ b, Qc b (rn (ini 1) (qs.take j).flatten) ∧ cnt b (rn (ini 1) (qs.take j).flatten) = j) ∧ Qc a (rn (ini 1) qs.flatten) ∧ cnt a (rn (ini 1) qs.flatten) = N ∧ St (n + 3 + 40 * N) d' := by
    refine forF_range (fun k ρ => ∃ (d' : D) (qs : List (List Nat)) (a : Bool) (k' pk gp tk : Option D), ρ = [some d', some (.lst true (kept.map .str)), some (.lst true (qs.map .str)), some (.bl a), some (.bl (decide (x = 0))), k', pk, gp, tk] ∧ qs.length = k ∧ (∀ p ∈ qs, p.length ≤ 32) ∧
        (∀ j, j ≤ qs.length → ∃ b, Qc b (rn (ini 1) (qs.take j).flatten) ∧ cnt b (rn (ini 1) (qs.take j).flatten) = j) ∧ Qc a (rn (ini 1) qs.flatten) ∧ cnt a (rn (ini 1) qs.flatten) = k ∧ St (n + 3 + 40 * k) d')
      ⟨d3, [], false, none, none, none, none, rfl, rfl, by simp, fun j hj => hj0 j hj, qc_ini 1, rfl, s3⟩ ?_
    rintro k ρ hk ⟨d', qs, a, k', pk, gp, tk, rfl, hl, hp, hj, hq, hc, hs⟩
    obtain ⟨d4, p, a', pk', gp', tk', e4, hpc, hpl, s4⟩ := turn_ok K (k := k) (ps := qs) (a := a) (fl := decide (x = 0)) pk gp tk hs (by omega) (by omega)
    obtain ⟨q1, c1⟩ := hpc _ hq
    rw [← rn_app] at q1 c1
    have fl : (qs ++ [p]).flatten = qs.flatten ++ p := by simp
    refine ⟨_, _, rfl, .inl ?_, d4, qs ++ [p], a', some (.int k), pk', gp', tk', rfl, by simp [hl], fun z hz => ?_, fun j hjl => ?_, by rw [fl]; exact q1, by rw [fl, c1, hc], by rw [show n + 3 + 40 * (k + 1) = n + 3 + 40 * k + 40 by omega]; exact s4⟩
    · have e5 : (0 : Int) + (k : Nat) = (k : Nat) := by omega
      rw [e5]
      exact e4
    · rcases List.mem_append.mp hz with z1 | z1
      · exact hp z z1
      · cases List.mem_singleton.mp z1; exact hpl
    · by_cases e : j ≤ qs.length
      · rw [List.take_append_of_le_length e]
        exact hj j e
      · have ej : j = (qs ++ [p]).length := by
          rw [List.length_append, List.length_singleton] at hjl ⊢
          omega
        rw [ej, List.take_length, fl]
        refine ⟨a', q1, ?_⟩
        rw [c1, hc, List.length_append, List.length_singleton, hl]
  obtain ⟨ρ', e4, d4, qs, a, k', pk, gp, tk, rfl, hl, hp, hj, hq, hc, s4⟩ := loop
  obtain ⟨z, d5, e5, z0, z1, s5⟩ := next_ok K (many := 6) s4 (by omega) (by decide) (by decide)
  obtain ⟨t, ht, htl⟩ := pick_at (l := tails) tails_ok z0 (by simpa [tails] using z1)
  have htD : ixD (tails.map D.str) z = some (.str t) := by rw [ixD_map, ht]; rfl
  simp only [tails, List.map_cons, List.map_nil] at htD
  have hd4 := s4.ne
  have b1 : -4611686018427387904 < 2 + y := by omega
  have b2 : 2 + y < 4611686018427387904 := by omega
  have lq : qs.length < 16777216 := by omega
  simp only [kept, List.map_cons, List.map_nil] at e4
  refine ⟨qs ++ [t], d5, ?_, ⟨qs, t, rfl, by omega, by omega, hp, hj, htl⟩, s5.le (by omega)⟩
  simp [F__law_pieces, u131, startE, m__law_pieces, e1, e2, e3, e5, hd, hd1, hd2, hd4, szl, gIx, hmD, rg1_of b1 b2, ← hN, e4, htD, lq]
end K02

namespace K02
open Se PySem
theorem o5_ok : ∀ c ∈ o5, isO c = true ∧ isA c = false := by decide
theorem faults_ok (K : PySem.W.Frag) {n : Nat} {d : D} (h : St n d) (hn : n + 200 < 2 ^ 40) : ∃ f0 f1 f2 d', F__law_faults K [d] = .rt (.lst true [.str f0, .str f1, .str f2]) [d'] ∧ Ft sig f0 ∧ Ft lng f1 ∧ Ft sig f2 ∧ f0.length ≤ 70 ∧ f1.length ≤ 70 ∧ f2.length ≤ 70 ∧ St (n + 200) d' := by
  obtain ⟨pk, d1, e1, p0, p1, s1⟩ := next_ok K (many := 4) h (by omega) (by decide) (by decide)
  obtain ⟨x, d2, e2, x0, x1, s2⟩ := next_ok K (many := 40) s1 (by omega) (by decide) (by decide)
  obtain ⟨i, d3, e3, i0, i1, s3⟩ := next_ok K (many := 3) s2 (by omega) (by decide) (by decide)
  obtain ⟨m, hm, hm0, hm1⟩ := pick_at (l := ([0, 1, x] : List Int)) (p := fun c => 0 ≤ c ∧ c < 40) (by intro c hc; simp at hc; omega) i0 (by simpa using i1)
  have hmD : ixD [D.int 0, D.int 1, D.int x] i = some (.int m) := by
    have := ixD_map D.int [0, 1, x] i
    simp only [List.map_cons, List.map_nil] at this
    rw [this, hm]
    rfl
  obtain ⟨w, d4, e4, hw, s4⟩ := word_ok K (k := (13 + m).toNat) s3 (by omega) (by omega) (by omega)
  have e4 : F__law_word K [d3, .int (13 + m)] = .rt (.str w) [d4, .int (13 + m)] := by
    have : (((13 + m).toNat : Nat) : Int) = 13 + m := Int.toNat_of_nonneg (by omega)
    rwa [this] at e4
  obtain ⟨a1, d5, e5, ha1, s5⟩ := odd_ok K s4 (by omega)
  obtain ⟨a2, d6, e6, ha2, s6⟩ := odd_ok K s5 (by omega)
  obtain ⟨w3, d7, e7, hw3, s7⟩ := word_ok K (k := 3) s6 (by omega) (by decide) (by decide)
  have e7 : F__law_word K [d6, .int 3] = .rt (.str w3) [d7, .int 3] := e7
  obtain ⟨a3, d8, e8, ha3, s8⟩ := odd_ok K s7 (by omega)
  obtain ⟨y, d9, e9, y0, y1, s9⟩ := next_ok K (many := 11) s8 (by omega) (by decide) (by decide)
  obtain ⟨w4, d10, e10, hw4, s10⟩ := word_ok K (k := (1 + y).toNat) s9 (by omega) (by omega) (by omega)
  have e10 : F__law_word K [d9, .int (1 + y)] = .rt (.str w4) [d10, .int (1 + y)] := by
    have : (((1 + y).toNat : Nat) : Int) = 1 + y := Int.toNat_of_nonneg (by omega)
    rwa [this] at e10
  obtain ⟨j, d11, e11, j0, j1, s11⟩ := next_ok K (many := 5) s10 (by omega) (by decide) (by decide)
  obtain ⟨b, hb, hbO, hbA⟩ := pick_at (l := o5) o5_ok j0 (by simpa [o5] using j1)
  simp only [o5] at hb
  obtain ⟨w5, d12, e12, hw5, s12⟩ := word_ok K (k := 1) s11 (by omega) (by decide) (by decide)
  have e12 : F__law_word K [d11, .int 1] = .rt (.str w5) [d12, .int 1] := e12
  obtain ⟨q, d13, e13, q0, q1, s13⟩ := next_ok K (many := 4) s12 (by omega) (by decide) (by decide)
  obtain ⟨c, hc, hcA⟩ := pick_at (l := ([32, 59, 33, 65] : List Nat)) (p := fun c => isA c = false) (by decide) q0 (by simpa using q1)
  have hcD : ixD [D.str [32], D.str [59], D.str [33], D.str [65]] q = some (.str [c]) := by
    have := ixD_map (fun c => D.str [c]) [32, 59, 33, 65] q
    simp only [List.map_cons, List.map_nil] at this
    rw [this, hc]
    rfl
  -- the first one
  obtain ⟨f0, hf, hf0, hfl⟩ := pick_at (l := ([[32, a1, 32], 32 :: a2 :: w3, [123, a3], [32, 55, 97, 98, 99, 100, 101, 102, 103, 104, 105, 106, 107, 108, 109, 110, 111, 112]] : List (List Nat))) (p := fun f => Ft sig f ∧ f.length ≤ 70) (by
    intro f hf
    simp only [List.mem_cons, List.not_mem_nil, or_false] at hf
    rcases hf with rfl | rfl | rfl | rfl
    · exact ⟨ft_app (g := [32]) (ft_sig (.inl rfl) ha1), by simp⟩
    · exact ⟨ft_app (g := w3) (ft_sig (.inl rfl) ha2), by simp [hw3.1]⟩
    · exact ⟨ft_sig (.inr rfl) ha3, by simp⟩
    · exact ⟨ft_app (g := [97, 98, 99, 100, 101, 102, 103, 104, 105, 106, 107, 108, 109, 110, 111, 112]) (ft_sig (x := 55) (.inl rfl) (by decide)), by simp⟩) p0 (by simpa using p1)
  have hfD : ixD [D.str [32, a1, 32], D.str (32 :: a2 :: w3), D.str [123, a3], D.str [32, 55, 97, 98, 99, 100, 101, 102, 103, 104, 105, 106, 107, 108, 109, 110, 111, 112]] pk = some (.str f0) := by
    have := ixD_map D.str [[32, a1, 32], 32 :: a2 :: w3, [123, a3], [32, 55, 97, 98, 99, 100, 101, 102, 103, 104, 105, 106, 107, 108, 109, 110, 111, 112]] pk
    simp only [List.map_cons, List.map_nil] at this
    rw [this, hf]
    rfl
  have hd := h.ne
  have n1 := s1.ne
  have n2 := s2.ne
  have n3 := s3.ne
  have n4 := s4.ne
  have n5 := s5.ne
  have n6 := s6.ne
  have n7 := s7.ne
  have n8 := s8.ne
  have n9 := s9.ne
  have n10 := s10.ne
  have n11 := s11.ne
  have n12 := s12.ne
  have lw := hw.1
  have lw3 := hw3.1
  have lw4 := hw4.1
  have lw5 := hw5.1
  have z1 : w.length + 1 ≤ 16777216 := by omega
  have z2 : w.length + 1 + 1 ≤ 16777216 := by omega
  have z3 : 1 + w.length ≤ 16777216 := by omega
  have z4 : w4.length + 1 ≤ 16777216 := by omega
  have z5 : w4.length + 1 + w5.length ≤ 16777216 := by omega
  have z6 : 1 + (w4.length + 1 + w5.length) ≤ 16777216 := by omega
  have z7 : 2 + w3.length ≤ 16777216 := by omega
  have z8 : w4.length + (w5.length + 1) ≤ 16777216 := by omega
  have z9 : 1 + (w4.length + (w5.length + 1)) ≤ 16777216 := by omega
  refine ⟨f0, 32 :: (w ++ [c]), 32 :: (w4 ++ [b]) ++ w5, d13, ?_, hf0, ft_lng hw (by omega) hcA, ft_app (ft_near hw4 (by omega) hbO hbA), hfl, by simp; omega, by simp; omega, s13.le (by omega)⟩
  simp [F__law_faults, u131, startE, m__law_faults, e1, e2, e3, e4, e5, e6, e7, e8, e9, e10, e11, e12, e13, hd, n1, n2, n3, n4, n5, n6, n7, n8, n9, n10, n11, n12, szl, gIx, hmD, hcD, hfD, hb, z1, z2, z3, z4, z5, z6, z7, z8, z9]
end K02

namespace K02
open Se PySem
/-- a while that walks over signs -/
theorem scan {mc : M Bool} {m : MS} (E : Nat → Se.Env) (P : Nat → Bool) (x : List Nat) (hc : ∀ j c, x[j]? = some c → mc (E j) = .ok (P c) (E j)) (h0 : mc (E x.length) = .ok false (E x.length)) (hm : ∀ j, j < x.length → m (E j) = .nx (E (j + 1))) :
    ∀ (g p z : List Nat) (fuel : Nat), x = p ++ (g ++ z) → (∀ c ∈ g, P c = true) → (z = [] ∨ ∃ c z', z = c :: z' ∧ P c = false) → g.length < fuel → whileF mc m fuel (E p.length) = .nx (E (p.length + g.length))
  | g, p, z, 0, _, _, _, hf => absurd hf (Nat.not_lt_zero _)
  | [], p, z, f + 1, hx, _, hz, _ => by
    rw [List.nil_append] at hx
    unfold whileF
    have e : mc (E p.length) = .ok false (E p.length) := by
      rcases hz with rfl | ⟨c, z', rfl, hP⟩
      · rw [List.append_nil] at hx
        rw [← hx]
        exact h0
      · rw [hc p.length c (by rw [hx]; simp), hP]
    rw [e]
    rfl
  | a :: g, p, z, f + 1, hx, hg, hz, hf => by
    have hl : p.length < x.length := by rw [hx]; simp
    unfold whileF
    rw [hc p.length a (by rw [hx]; simp), hg a List.mem_cons_self]
    dsimp only
    rw [if_pos rfl, hm p.length hl]
    dsimp only
    have e := scan E P x hc h0 hm g (p ++ [a]) z f (by rw [hx]; simp) (fun c h => hg c (List.mem_cons_of_mem _ h)) hz (by rw [List.length_cons] at hf; omega)
    rw [List.length_append, List.length_singleton] at e
    rw [e, List.length_cons]
    have : p.length + 1 + g.length = p.length + (g.length + 1) := by omega
    rw [this]
theorem ix_nat {x : List Nat} {j : Nat} : ixD x (j : Int) = x[j]? := by
  unfold ixD
  rw [if_pos (Int.natCast_nonneg j)]
  rfl
/-- the longest head of signs that P holds of -/
theorem split_at (P : Nat → Bool) : ∀ y : List Nat, ∃ g z, y = g ++ z ∧ (∀ c ∈ g, P c = true) ∧ (z = [] ∨ ∃ c z', z = c :: z' ∧ P c = false)
  | [] => ⟨[], [], rfl, by simp, .inl rfl⟩
  | a :: y => by
    by_cases h : P a = true
    · obtain ⟨g, z, e, hg, hz⟩ := split_at P y
      exact ⟨a :: g, z, by rw [e]; rfl, fun c hc => by
        rcases List.mem_cons.mp hc with rfl | hc
        · exact h
        · exact hg c hc, hz⟩
    · exact ⟨[], a :: y, rfl, by simp, .inr ⟨a, y, rfl, by simpa using h⟩⟩
def az26 : List Nat := [97, 98, 99, 100, 101, 102, 103, 104, 105, 106, 107, 108, 109, 110, 111, 112, 113, 114, 115, 116, 117, 118, 119, 120, 121, 122]
theorem mem_az {c : Nat} : c ∈ az26 ↔ isL c = true := by
  simp only [az26, List.mem_cons, List.not_mem_nil, or_false, isL, Bool.and_eq_true, decide_eq_true_eq]
  omega
def dg : List Nat := [48, 49, 50, 51, 52, 53, 54, 55, 56, 57]
theorem mem_dg {c : Nat} : c ∈ dg ↔ 48 ≤ c ∧ c ≤ 57 := by
  simp only [dg, List.mem_cons, List.not_mem_nil, or_false]
  omega
/-- the reader's remark -/
theorem rd_rmk (K : PySem.W.Frag) {x g p z : List Nat} {fuel : Nat} {L T R B A S : Option D} (hx : x = p ++ (g ++ z)) (hl : x.length ≤ 8388608) (hg : ∀ c ∈ g, c ≠ 10) (hz : z = [] ∨ ∃ z', z = 10 :: z') (hf : g.length < fuel) :
    whileF (c__law_read_2 K) (b__law_read_1 K) fuel [some (.str x), L, T, R, B, A, S, some (.int p.length)] = .nx [some (.str x), L, T, R, B, A, S, some (.int ((p.length + g.length : Nat)))] := by
  have hz2 : x.length ≤ 16777216 := by omega
  refine scan (fun j => [some (.str x), L, T, R, B, A, S, some (.int (j : Nat))]) (fun c => !decide (c = 10)) x (fun j c hj => ?_) ?_ (fun j hj => ?_) g p z fuel hx (fun c hc => by simp [hg c hc]) ?_ hf
  · obtain ⟨hjl, hxc⟩ := List.getElem?_eq_some_iff.mp hj
    simp [c__law_read_2, szl, hz2, ix_nat, hj, hjl, hxc]
  · simp [c__law_read_2, szl, hz2]
  · simp [b__law_read_1]
  · rcases hz with rfl | ⟨z', rfl⟩
    · exact .inl rfl
    · exact .inr ⟨10, z', rfl, by decide⟩
/-- the reader's word -/
theorem rd_word (K : PySem.W.Frag) {x g p z : List Nat} {fuel : Nat} {T R B A S : Option D} (hx : x = p ++ (g ++ z)) (hl : x.length ≤ 8388608) (hg : ∀ c ∈ g, isA c = true) (hz : z = [] ∨ ∃ c z', z = c :: z' ∧ isA c = false) (hf : g.length < fuel) :
    whileF (c__law_read_4 K) (b__law_read_3 K) fuel [some (.str x), some (.str az26), T, R, B, A, S, some (.int p.length)] = .nx [some (.str x), some (.str az26), T, R, B, A, S, some (.int ((p.length + g.length : Nat)))] := by
  have hz2 : x.length ≤ 16777216 := by omega
  refine scan (fun j => [some (.str x), some (.str az26), T, R, B, A, S, some (.int (j : Nat))]) isA x (fun j c hj => ?_) ?_ (fun j hj => ?_) g p z fuel hx hg hz hf
  · obtain ⟨hjl, hxc⟩ := List.getElem?_eq_some_iff.mp hj
    by_cases h1 : isL c = true
    · have h2 : c ∈ az26 := mem_az.mpr h1
      have h3 : isA c = true := by simp [isA, h1]
      simp [c__law_read_4, szl, hz2, ix_nat, hj, hjl, hxc, h2, h3]
    · have h2 : ¬ c ∈ az26 := fun h => h1 (mem_az.mp h)
      have h3 : isA c = decide (c ∈ dg) := by
        have h4 : isL c = false := by simpa using h1
        unfold isA
        rw [h4, Bool.false_or, Bool.eq_iff_iff]
        simp only [Bool.and_eq_true, decide_eq_true_eq]
        exact mem_dg.symm
      simp only [dg] at h3
      simp [c__law_read_4, szl, hz2, ix_nat, hj, hjl, hxc, h2, h3]
  · simp [c__law_read_4, szl, hz2]
  · simp [b__law_read_3]
end K02

namespace K02
open Se PySem
abbrev Fn := Option (Nat × Nat × List Nat) × List D
def Fin (z : List Nat) (s : RS) : Fn := ((fin1 (rn s z)).flt, (fin1 (rn s z)).toks)
theorem Fin_cons (a : Nat) (z : List Nat) (s : RS) : Fin (a :: z) s = Fin z (stp s a) := rfl
theorem Fin_app (g z : List Nat) (s : RS) : Fin (g ++ z) s = Fin z (rn s g) := by unfold Fin; rw [rn_app]
theorem Fin_flt {s : RS} {f : Nat × Nat × List Nat} (h : s.flt = some f) (z : List Nat) : Fin z s = (some f, s.toks) := by
  unfold Fin
  rw [rn_flt (by rw [h]; simp)]
  unfold fin1
  rw [h]
  simp [h]
theorem Fin_nil {s : RS} (h : s.flt = none) (hm : s.md = .nrm) : Fin [] s = (none, s.toks) := by
  unfold Fin
  rw [rn_nil]
  unfold fin1
  rw [h]
  dsimp only
  unfold cls
  rw [hm]
  simp [h]
/-- at the end of a remark -/
theorem Fin_rmk {u : RS} {z : List Nat} (h : u.flt = none) (hm : u.md = .rmk) (hz : z = [] ∨ ∃ z', z = 10 :: z') : Fin z u = Fin z { u with md := .nrm } := by
  rcases hz with rfl | ⟨z', rfl⟩
  · rw [Fin_nil (s := { u with md := .nrm }) h rfl]
    unfold Fin
    rw [rn_nil]
    unfold fin1
    rw [h]
    dsimp only
    unfold cls
    rw [hm]
    simp [h]
  · rw [Fin_cons, Fin_cons, stp_nrm (s := { u with md := .nrm }) h rfl, nrm1_nl]
    have e : stp u 10 = { u with md := .nrm, row := u.row + 1, col := 1 } := by
      unfold stp
      rw [h, hm]
      rfl
    rw [e]
/-- at the end of a word -/
theorem Fin_wrd {u : RS} {z w : List Nat} {st : Nat} (h : u.flt = none) (hm : u.md = .wrd st w) (hz : z = [] ∨ ∃ c z', z = c :: z' ∧ isA c = false) : Fin z u = Fin z (cls u) := by
  by_cases hw : w.length > 12
  · have e : cls u = { u with md := .nrm, flt := some (u.row, st, lng) } := by
      unfold cls
      rw [hm]
      dsimp only
      rw [if_pos hw]
    rw [Fin_flt (s := cls u) (f := (u.row, st, lng)) (by rw [e])]
    rcases hz with rfl | ⟨c, z', rfl, hc⟩
    · unfold Fin
      rw [rn_nil]
      unfold fin1
      rw [h]
      dsimp only
      rw [e]
    · rw [Fin_cons]
      have e2 : stp u c = cls u := by
        unfold stp
        rw [h, hm]
        dsimp only
        rw [hc, if_neg (by decide), e]
      rw [e2, Fin_flt (s := cls u) (f := (u.row, st, lng)) (by rw [e])]
  · have hw : w.length ≤ 12 := by omega
    have e := cls_ok hm hw
    rcases hz with rfl | ⟨c, z', rfl, hc⟩
    · rw [e, Fin_nil (s := { u with md := .nrm, toks := u.toks ++ [tkW w u.row st] }) h rfl]
      unfold Fin
      rw [rn_nil]
      unfold fin1
      rw [h]
      dsimp only
      rw [e]
      simp [h]
    · rw [Fin_cons, Fin_cons]
      have e2 : stp u c = nrm1 (cls u) c := by
        unfold stp
        rw [h, hm]
        dsimp only
        rw [hc, if_neg (by decide), e]
        dsimp only
        rw [h]
      rw [e2, stp_nrm (s := cls u) (by rw [e]; exact h) (by rw [e])]
/-- what the reader's loop gives -/
def RR (x : List Nat) (F : Fn) (r : SR) : Prop := match F.1 with
  | none => ∃ ro be a sg bh, r = .nx [some (.str x), some (.str az26), some (.lst true F.2), ro, be, a, sg, bh]
  | some (r0, c0, k) => ∃ ρ', r = .rt (.lst true [.lst true F.2, .int r0, .int c0, .str k]) ρ'
theorem cut_mid {p w z : List Nat} : cutL (p ++ (w ++ z)) (some (p.length : Int)) (some ((p.length : Int) + w.length)) = w := by
  unfold cutL
  have e1 : HT.sIx (p ++ (w ++ z)).length 0 (some (p.length : Int)) = p.length := by
    rw [HT.sIx_nat]
    simp
  have e2 : HT.sIx (p ++ (w ++ z)).length (p ++ (w ++ z)).length (some ((p.length : Int) + w.length)) = p.length + w.length := by
    rw [show (p.length : Int) + w.length = ((p.length + w.length : Nat) : Int) by simp, HT.sIx_nat]
    simp
  rw [e1, e2, List.drop_left, Nat.add_sub_cancel_left, List.take_left]
theorem rmk_full : ∀ (g : List Nat) (s : RS), s.flt = none → s.md = .rmk → (∀ x ∈ g, x ≠ 10) → rn s g = { s with col := s.col + g.length }
  | [], s, _, _, _ => rfl
  | x :: g, s, h1, h2, hg => by
    have e : stp s x = { s with col := s.col + 1 } := by
      unfold stp
      rw [h1, h2]
      exact if_neg (hg x List.mem_cons_self)
    rw [rn_cons, e, rmk_full g { s with col := s.col + 1 } h1 h2 fun y hy => hg y (List.mem_cons_of_mem _ hy), List.length_cons]
    show RS.mk _ _ (s.col + 1 + g.length) _ _ = RS.mk _ _ (s.col + (g.length + 1)) _ _
    rw [show s.col + 1 + g.length = s.col + (g.length + 1) by omega]
theorem wrd_full : ∀ (r : List Nat) (s : RS) (st : Nat) (w : List Nat), s.flt = none → s.md = .wrd st w → (∀ x ∈ r, isA x = true) → rn s r = { s with md := .wrd st (w ++ r), col := s.col + r.length }
  | [], s, st, w, h1, h2, _ => by
    obtain ⟨md, a, b, c, d⟩ := s
    have h2 : md = .wrd st w := h2
    subst h2
    rw [rn_nil, List.append_nil]
    rfl
  | x :: r, s, st, w, h1, h2, h => by
    have e : stp s x = { s with md := .wrd st (w ++ [x]), col := s.col + 1 } := by
      unfold stp
      rw [h1, h2]
      exact if_pos (h x List.mem_cons_self)
    rw [rn_cons, e, wrd_full r { s with md := .wrd st (w ++ [x]), col := s.col + 1 } st (w ++ [x]) h1 rfl fun y hy => h y (List.mem_cons_of_mem _ hy), List.length_cons, List.append_assoc]
    show RS.mk _ _ (s.col + 1 + r.length) _ _ = RS.mk _ _ (s.col + (r.length + 1)) _ _
    rw [show s.col + 1 + r.length = s.col + (r.length + 1) by omega]
    rfl
def Rd1 (x : List Nat) (s : RS) (i : Nat) (sg bh : Option D) : Se.Env := [some (.str x), some (.str az26), some (.lst true s.toks), some (.int s.row), some (.int ((i : Int) + 1 - s.col)), some (.int i), sg, bh]
theorem read_go (K : PySem.W.Frag) {x : List Nat} (hl : x.length ≤ 8388608) : ∀ (N : Nat) (y p : List Nat) (s : RS) (fuel : Nat) (sg bh : Option D), y.length ≤ N → y.length < fuel → x = p ++ y → s.md = .nrm → s.flt = none → s.toks.length ≤ p.length →
    RR x (Fin y s) (whileF (c__law_read_12 K) (b__law_read_11 K) fuel (Rd1 x s p.length sg bh)) := by
  intro N
  have hz : x.length ≤ 16777216 := by omega
  induction N with
  | zero =>
    intro y p s fuel sg bh hN hf hx hm hfl ht
    have hy : y = [] := List.length_eq_zero_iff.mp (by omega)
    subst hy
    rw [Fin_nil hfl hm]
    match fuel, hf with
    | f + 1, _ =>
      have hx2 : ¬ p.length < x.length := by rw [hx]; simp
      refine ⟨some (.int s.row), some (.int ((p.length : Int) + 1 - s.col)), some (.int p.length), sg, bh, ?_⟩
      unfold whileF
      have e : c__law_read_12 K (Rd1 x s p.length sg bh) = .ok false (Rd1 x s p.length sg bh) := by simp [c__law_read_12, Rd1, szl, hz, hx2]
      rw [e]
      rfl
  | succ N ih =>
    intro y p s fuel sg bh hN hf hx hm hfl ht
    match y, fuel, hf with
    | [], f + 1, _ =>
      rw [Fin_nil hfl hm]
      have hx2 : ¬ p.length < x.length := by rw [hx]; simp
      refine ⟨some (.int s.row), some (.int ((p.length : Int) + 1 - s.col)), some (.int p.length), sg, bh, ?_⟩
      unfold whileF
      have e : c__law_read_12 K (Rd1 x s p.length sg bh) = .ok false (Rd1 x s p.length sg bh) := by simp [c__law_read_12, Rd1, szl, hz, hx2]
      rw [e]
      rfl
    | a :: y, f + 1, hf =>
      have hx2 : p.length < x.length := by rw [hx]; simp
      have hxa : x[p.length] = a := by simp [hx]
      have hxa2 : ixD x (p.length : Int) = some a := by rw [ix_nat, List.getElem?_eq_getElem hx2, hxa]
      have hxp : x = (p ++ [a]) ++ y := by rw [hx]; simp
      have hlp : (p ++ [a]).length = p.length + 1 := by simp
      have ec : c__law_read_12 K (Rd1 x s p.length sg bh) = .ok true (Rd1 x s p.length sg bh) := by simp [c__law_read_12, Rd1, szl, hz, hx2]
      have t1 : s.toks.length < 16777216 := by omega
      have c1 : (p.length : Int) + 1 - ((p.length : Int) + 1 - (s.col : Int)) = s.col := by omega
      have c2 : (p.length : Int) - ((p.length : Int) + 1 - (s.col : Int)) + 1 = s.col := by omega
      rw [Fin_cons, stp_nrm hfl hm]
      unfold whileF
      rw [ec]
      dsimp only
      rw [if_pos rfl]
      -- one turn that goes on
      have go : ∀ (s2 : RS) (sg2 bh2 : Option D), b__law_read_11 K (Rd1 x s p.length sg bh) = .nx (Rd1 x s2 (p.length + 1) sg2 bh2) → s2.md = .nrm → s2.flt = none → s2.toks.length ≤ p.length + 1 → RR x (Fin y s2) (match b__law_read_11 K (Rd1 x s p.length sg bh) with
          | .nx ρ2 => whileF (c__law_read_12 K) (b__law_read_11 K) f ρ2
          | .ct ρ2 => whileF (c__law_read_12 K) (b__law_read_11 K) f ρ2
          | .bk ρ2 => .nx ρ2
          | r => r) := fun s2 sg2 bh2 e h1 h2 h3 => by
        rw [e]
        dsimp only
        have := ih y (p ++ [a]) s2 f sg2 bh2 (by simp at hN; omega) (by simp at hf; omega) hxp h1 h2 (by rw [hlp]; exact h3)
        rwa [hlp] at this
      -- one that passes over g as well
      have go2 : ∀ (g z : List Nat) (s2 : RS) (sg2 bh2 : Option D), y = g ++ z → b__law_read_11 K (Rd1 x s p.length sg bh) = .nx (Rd1 x s2 (p.length + 1 + g.length) sg2 bh2) → s2.md = .nrm → s2.flt = none → s2.toks.length ≤ p.length + 1 → RR x (Fin z s2) (match b__law_read_11 K (Rd1 x s p.length sg bh) with
          | .nx ρ2 => whileF (c__law_read_12 K) (b__law_read_11 K) f ρ2
          | .ct ρ2 => whileF (c__law_read_12 K) (b__law_read_11 K) f ρ2
          | .bk ρ2 => .nx ρ2
          | r => r) := fun g z s2 sg2 bh2 hy e h1 h2 h3 => by
        rw [e]
        dsimp only
        have hyl : y.length = g.length + z.length := by rw [hy]; simp
        have hlp2 : (p ++ [a] ++ g).length = p.length + 1 + g.length := by simp; omega
        have := ih z (p ++ [a] ++ g) s2 f sg2 bh2 (by simp at hN; omega) (by simp at hf; omega) (by rw [hxp, hy]; simp) h1 h2 (by rw [hlp2]; omega)
        rwa [hlp2] at this
      by_cases h10 : a = 10
      · subst h10
        rw [nrm1_nl]
        refine go _ (some (.str [10])) (some (.int ((p.length : Int) + 1))) ?_ rfl hfl (by show s.toks.length ≤ _; omega)
        simp [b__law_read_11, i__law_read_10, Rd1, szl, hz, gIx, hxa2]
      by_cases h32 : a = 32
      · subst h32
        rw [nrm1_sp]
        refine go _ (some (.str [32])) (some (.int ((p.length : Int) + 1))) ?_ rfl hfl (by show s.toks.length ≤ _; omega)
        simp [b__law_read_11, i__law_read_10, i__law_read_9, i__law_read_8, i__law_read_7, i__law_read_6, Rd1, szl, hz, gIx, hxa2, az26]
        omega
      by_cases hs : a ∈ sgn
      · rw [nrm1_s hs]
        have h35 : ¬ a = 35 := (sgn_not hs).2.1
        refine go _ (some (.str [a])) (some (.int ((p.length : Int) + 1))) ?_ rfl hfl (by show (s.toks ++ _).length ≤ _; rw [List.length_append]; simp; omega)
        simp only [sgn] at hs
        simp [b__law_read_11, i__law_read_10, i__law_read_9, i__law_read_8, Rd1, szl, hz, gIx, hxa2, h10, h35, hs, t1, c1, tkS]
        omega
      have hyx : y.length < wF := by
        have : x.length = p.length + (y.length + 1) := by rw [hx]; simp
        unfold wF
        omega
      have cst : (((p ++ [a]).length : Nat) : Int) = (p.length : Int) + 1 := by simp
      have cst2 : ∀ g : List Nat, (((p ++ [a]).length + g.length : Nat) : Int) = (p.length : Int) + 1 + g.length := fun g => by simp
      by_cases h35 : a = 35
      · subst h35
        obtain ⟨g, z, hy, hg, hz'⟩ := split_at (fun c => !decide (c = 10)) y
        have hg : ∀ c ∈ g, c ≠ 10 := fun c hc => by simpa using hg c hc
        have hz' : z = [] ∨ ∃ z', z = 10 :: z' := by
          rcases hz' with h | ⟨c, z', h, hc⟩
          · exact .inl h
          · have : c = 10 := by simpa using hc
            exact .inr ⟨z', by rw [h, this]⟩
        have e1 := rd_rmk K (fuel := wF) (p := p ++ [35]) (g := g) (z := z) (L := some (.str az26)) (T := some (.lst true s.toks)) (R := some (.int s.row)) (B := some (.int ((p.length : Int) + 1 - s.col))) (A := some (.int p.length)) (S := some (.str [35])) (by rw [hxp, hy]) hl hg hz' (by rw [hy, List.length_append] at hyx; omega)
        rw [cst, cst2 g] at e1
        simp only [az26] at e1
        have eF : Fin y (nrm1 s 35) = Fin z { s with md := .nrm, col := s.col + 1 + g.length } := by
          rw [nrm1_hs, hy, Fin_app, rmk_full g { s with md := .rmk, col := s.col + 1 } hfl rfl hg, Fin_rmk (u := { s with md := .rmk, col := s.col + 1 + g.length }) hfl rfl hz']
        rw [eF]
        refine go2 g z _ (some (.str [35])) (some (.int ((p.length : Int) + 1 + g.length))) hy ?_ rfl hfl (by show s.toks.length ≤ _; omega)
        simp [b__law_read_11, i__law_read_10, i__law_read_9, Rd1, szl, hz, gIx, hxa2, az26, e1]
        omega
      by_cases hL : isL a = true
      · obtain ⟨g, z, hy, hg, hz'⟩ := split_at isA y
        have hm26 : a ∈ az26 := mem_az.mpr hL
        have e1 := rd_word K (fuel := wF) (p := p ++ [a]) (g := g) (z := z) (T := some (.lst true s.toks)) (R := some (.int s.row)) (B := some (.int ((p.length : Int) + 1 - s.col))) (A := some (.int p.length)) (S := some (.str [a])) (by rw [hxp, hy]) hl hg hz' (by rw [hy, List.length_append] at hyx; omega)
        rw [cst, cst2 g] at e1
        have eF : Fin y (nrm1 s a) = Fin z (cls { s with md := .wrd s.col (a :: g), col := s.col + 1 + g.length }) := by
          rw [nrm1_l hL, hy, Fin_app, wrd_full g { s with md := .wrd s.col [a], col := s.col + 1 } s.col [a] hfl rfl hg]
          exact Fin_wrd (u := { s with md := .wrd s.col (a :: g), col := s.col + 1 + g.length }) hfl rfl hz'
        rw [eF]
        simp only [sgn] at hs
        have hcut : cutL x (some (p.length : Int)) (some ((p.length : Int) + 1 + g.length)) = a :: g := by
          have := cut_mid (p := p) (w := a :: g) (z := z)
          rw [List.length_cons, show ((p.length : Int) + ((g.length + 1 : Nat) : Int)) = (p.length : Int) + 1 + g.length by omega] at this
          rw [← this, hx, hy]
          rfl
        by_cases hw : (a :: g).length > 12
        · have hw2 : ((p.length : Int) + 1 + g.length - p.length) > 12 := by rw [List.length_cons] at hw; omega
          have e2 : cls { s with md := .wrd s.col (a :: g), col := s.col + 1 + g.length } = { s with md := .nrm, col := s.col + 1 + g.length, flt := some (s.row, s.col, lng) } := by
            unfold cls
            dsimp only
            rw [if_pos hw]
          rw [e2, Fin_flt (s := { s with md := .nrm, col := s.col + 1 + g.length, flt := some (s.row, s.col, lng) }) rfl]
          have eb : ∃ ρ', b__law_read_11 K (Rd1 x s p.length sg bh) = .rt (.lst true [.lst true s.toks, .int s.row, .int s.col, .str lng]) ρ' := by
            exact ⟨_, by
              simp [b__law_read_11, i__law_read_10, i__law_read_9, i__law_read_8, i__law_read_7, i__law_read_5, Rd1, szl, hz, gIx, hxa2, h10, h35, hs, hm26, e1, hw2, c2, lng]
              rfl⟩
          obtain ⟨ρ', eb⟩ := eb
          rw [eb]
          exact ⟨ρ', rfl⟩
        · have hw2 : ¬ ((p.length : Int) + 1 + g.length - p.length) > 12 := by rw [List.length_cons] at hw; omega
          have e2 := cls_ok (s := { s with md := .wrd s.col (a :: g), col := s.col + 1 + g.length }) (st := s.col) (w := a :: g) rfl (by omega)
          rw [e2]
          refine go2 g z _ (some (.str [a])) (some (.int ((p.length : Int) + 1 + g.length))) hy ?_ rfl hfl (by show (s.toks ++ _).length ≤ _; rw [List.length_append]; simp; omega)
          simp [b__law_read_11, i__law_read_10, i__law_read_9, i__law_read_8, i__law_read_7, i__law_read_5, Rd1, szl, hz, gIx, hxa2, h10, h35, hs, hm26, e1, hw2, c2, t1, gSl, hcut, tkW]
          omega
      · have hO : isO a = true := by simp [isO, h10, h35, h32, hs, hL]
        rw [nrm1_o hO, Fin_flt (s := { s with flt := some (s.row, s.col, sig) }) rfl]
        have hm26 : ¬ a ∈ az26 := fun h => hL (mem_az.mp h)
        simp only [sgn] at hs
        have eb : ∃ ρ', b__law_read_11 K (Rd1 x s p.length sg bh) = .rt (.lst true [.lst true s.toks, .int s.row, .int s.col, .str sig]) ρ' := by
          exact ⟨_, by
            simp [b__law_read_11, i__law_read_10, i__law_read_9, i__law_read_8, i__law_read_7, i__law_read_6, Rd1, szl, hz, gIx, hxa2, h10, h35, h32, hs, hm26, c2, sig]
            rfl⟩
        obtain ⟨ρ', eb⟩ := eb
        rw [eb]
        exact ⟨ρ', rfl⟩
end K02

namespace K02
open Se PySem
def resD (F : Fn) : D := match F.1 with
  | none => .lst true [.lst true F.2, .int 0, .int 0, .str []]
  | some (r, c, k) => .lst true [.lst true F.2, .int r, .int c, .str k]
/-- THE READER -/
theorem read_ok (K : PySem.W.Frag) {x : List Nat} (hl : x.length ≤ 8388608) : F__law_read K [.str x] = .rt (resD (Fin x (ini 1))) [.str x] := by
  have h := read_go K hl x.length x [] (ini 1) wF none none (Nat.le_refl _) (by unfold wF; omega) rfl rfl rfl (by simp [ini])
  have e0 : Rd1 x (ini 1) ([] : List Nat).length none none = [some (.str x), some (.str az26), some (.lst true []), some (.int 1), some (.int 0), some (.int 0), none, none] := rfl
  rw [e0] at h
  simp only [az26] at h
  unfold RR at h
  unfold resD
  generalize Fin x (ini 1) = F at h ⊢
  obtain ⟨f, ts⟩ := F
  cases f with
  | none =>
    obtain ⟨ro, be, a, sg, bh, e⟩ := h
    simp only [az26] at e
    simp [F__law_read, u131, startE, m__law_read, szl, e]
  | some q =>
    obtain ⟨r, c, k⟩ := q
    obtain ⟨ρ', e⟩ := h
    simp [F__law_read, u131, startE, m__law_read, szl, e]
end K02

namespace K02
open Se PySem
def augK (i : Nat) (g : Int → Int → Int) (x : Option (Option D)) (r : RE D) : SR := match x with
  | some (some (.int a)) => (match r with
    | .ok (.int b) ρ1 => if i < ρ1.length then .nx (ρ1.set i (some (.int (g a b)))) else .bad
    | .ex e ρ1 => .ex e ρ1
    | _ => .bad)
  | _ => .bad
@[simp] theorem y1 {i : Nat} {g : Int → Int → Int} {me : M D} {ρ : Se.Env} : sAug i g me ρ = augK i g (ρ[i]?) (me ρ) := by
  unfold sAug augK
  rcases ρ[i]? with _ | _ | d
  · rfl
  · rfl
  · cases d <;> rfl
@[simp] theorem y2 {i : Nat} {g : Int → Int → Int} {a b : Int} {ρ : Se.Env} : augK i g (some (some (.int a))) (.ok (.int b) ρ) = if i < ρ.length then .nx (ρ.set i (some (.int (g a b)))) else .bad := rfl
theorem end_ok (K : PySem.W.Frag) {x g p z sg : List Nat} (hx : x = p ++ (g ++ z)) (hl : x.length ≤ 8388608) (hg : ∀ c ∈ g, c ∈ sg) (hz : z = [] ∨ ∃ c z', z = c :: z' ∧ c ∉ sg) :
    F_end_of K [.str x, .int p.length, .str sg] = .rt (.int ((p.length : Int) + g.length)) [.str x, .int p.length, .str sg] := by
  have hz2 : x.length ≤ 16777216 := by omega
  have hgl : g.length < wF := by
    have : x.length = p.length + (g.length + z.length) := by rw [hx]; simp
    unfold wF
    omega
  have e := scan (mc := c_end_of_2 K) (m := b_end_of_1 K) (fun j => [some (.str x), some (.int (j : Nat)), some (.str sg)]) (fun c => decide (c ∈ sg)) x (fun j c hj => by
      obtain ⟨hjl, hxc⟩ := List.getElem?_eq_some_iff.mp hj
      simp [c_end_of_2, szl, hz2, ix_nat, hj, hjl, hxc]) (by simp [c_end_of_2, szl, hz2]) (fun j hj => by simp [b_end_of_1]) g p z wF hx (fun c hc => decide_eq_true (hg c hc)) (by
      rcases hz with h | ⟨c, z', h, hc⟩
      · exact .inl h
      · exact .inr ⟨c, z', h, decide_eq_false hc⟩) hgl
  simp [F_end_of, u131, startE, m_end_of, e]
def anum : List Nat := [97, 98, 99, 100, 101, 102, 103, 104, 105, 106, 107, 108, 109, 110, 111, 112, 113, 114, 115, 116, 117, 118, 119, 120, 121, 122, 48, 49, 50, 51, 52, 53, 54, 55, 56, 57]
theorem mem_an {c : Nat} : c ∈ anum ↔ isA c = true := by
  have e : anum = az26 ++ dg := rfl
  rw [e, List.mem_append, mem_az, mem_dg]
  simp only [isA, Bool.or_eq_true, Bool.and_eq_true, decide_eq_true_eq]
def bad (K : PySem.W.Frag) (r c : Nat) (k : List Nat) : EX := ⟨He.ga K "BadSource", ["word", "place", "line"], [.str k, .int c, .int r]⟩
section
variable (K : PySem.W.Frag) {x p y : List Nat} {a : Nat} {r : Nat}
/-- a word -/
theorem tok_word {g z : List Nat} (hx : x = p ++ (a :: (g ++ z))) (hl : x.length ≤ 8388608) (hL : isL a = true) (hg : ∀ c ∈ g, isA c = true) (hz : z = [] ∨ ∃ c z', z = c :: z' ∧ isA c = false) (hw : (a :: g).length ≤ 12) :
    F_token_at K [.int r, .str x, .int p.length] = .rt (tkW (a :: g) r (p.length + 1)) [.int r, .str x, .int p.length] := by
  have hz2 : x.length ≤ 16777216 := by omega
  have hx2 : p.length < x.length := by rw [hx]; simp
  have hxa : x[p.length] = a := by simp [hx]
  have hxa2 : ixD x (p.length : Int) = some a := by rw [ix_nat, List.getElem?_eq_getElem hx2, hxa]
  have hm : a ∈ az26 := mem_az.mpr hL
  simp only [az26] at hm
  have e := end_ok K (p := p) (g := a :: g) (z := z) (sg := anum) (by rw [hx]; rfl) hl (fun c hc => by
    rcases List.mem_cons.mp hc with rfl | hc
    · exact mem_an.mpr (isL_not hL).2.2.2.2
    · exact mem_an.mpr (hg c hc)) (by
    rcases hz with h | ⟨c, z', h, hc⟩
    · exact .inl h
    · exact .inr ⟨c, z', h, fun q => by rw [mem_an.mp q] at hc; cases hc⟩)
  simp only [anum, List.length_cons] at e
  have cst : (p.length : Int) + ((g.length + 1 : Nat) : Int) = (p.length : Int) + (g.length + 1) := by simp
  rw [cst] at e
  have hcut : cutL x (some (p.length : Int)) (some ((p.length : Int) + (g.length + 1))) = a :: g := by
    have := cut_mid (p := p) (w := a :: g) (z := z)
    rw [List.length_cons, cst] at this
    rw [hx]
    exact this
  have hw2 : ¬ ((p.length : Int) + (g.length + 1) - p.length) > 12 := by rw [List.length_cons] at hw; omega
  have hne : ¬ (12 < (p.length : Int) + (g.length + 1) - p.length) := hw2
  simp [F_token_at, u131, startE, m_token_at, szl, hz2, hxa2, hm, e, hne, gSl, hcut, tkW]
/-- a word that is too long -/
theorem tok_long {g z : List Nat} (hx : x = p ++ (a :: (g ++ z))) (hl : x.length ≤ 8388608) (hL : isL a = true) (hg : ∀ c ∈ g, isA c = true) (hz : z = [] ∨ ∃ c z', z = c :: z' ∧ isA c = false) (hw : (a :: g).length > 12) :
    F_token_at K [.int r, .str x, .int p.length] = .ex (bad K r (p.length + 1) lng) [.int r, .str x, .int p.length] := by
  have hz2 : x.length ≤ 16777216 := by omega
  have hx2 : p.length < x.length := by rw [hx]; simp
  have hxa : x[p.length] = a := by simp [hx]
  have hxa2 : ixD x (p.length : Int) = some a := by rw [ix_nat, List.getElem?_eq_getElem hx2, hxa]
  have hm : a ∈ az26 := mem_az.mpr hL
  simp only [az26] at hm
  have e := end_ok K (p := p) (g := a :: g) (z := z) (sg := anum) (by rw [hx]; rfl) hl (fun c hc => by
    rcases List.mem_cons.mp hc with rfl | hc
    · exact mem_an.mpr (isL_not hL).2.2.2.2
    · exact mem_an.mpr (hg c hc)) (by
    rcases hz with h | ⟨c, z', h, hc⟩
    · exact .inl h
    · exact .inr ⟨c, z', h, fun q => by rw [mem_an.mp q] at hc; cases hc⟩)
  simp only [anum, List.length_cons] at e
  have cst : (p.length : Int) + ((g.length + 1 : Nat) : Int) = (p.length : Int) + (g.length + 1) := by simp
  rw [cst] at e
  have hne : 12 < (p.length : Int) + (g.length + 1) - p.length := by rw [List.length_cons] at hw; omega
  simp [F_token_at, u131, startE, m_token_at, szl, hz2, hxa2, hm, e, hne, bad, lng]
theorem tok_sign (hx : x = p ++ (a :: y)) (hl : x.length ≤ 8388608) (hs : a ∈ sgn) : F_token_at K [.int r, .str x, .int p.length] = .rt (tkS a r (p.length + 1)) [.int r, .str x, .int p.length] := by
  have hz2 : x.length ≤ 16777216 := by omega
  have hx2 : p.length < x.length := by rw [hx]; simp
  have hxa : x[p.length] = a := by simp [hx]
  have hxa2 : ixD x (p.length : Int) = some a := by rw [ix_nat, List.getElem?_eq_getElem hx2, hxa]
  have hm : ¬ a ∈ az26 := fun h => (isL_not (mem_az.mp h)).2.2.1 hs
  simp only [az26] at hm
  simp only [sgn] at hs
  simp [F_token_at, u131, startE, m_token_at, szl, hz2, hxa2, hm, hs, gIx, tkS]
theorem tok_bad (hx : x = p ++ (a :: y)) (hl : x.length ≤ 8388608) (hs : a ∉ sgn) (hL : ¬ isL a = true) : F_token_at K [.int r, .str x, .int p.length] = .ex (bad K r (p.length + 1) sig) [.int r, .str x, .int p.length] := by
  have hz2 : x.length ≤ 16777216 := by omega
  have hx2 : p.length < x.length := by rw [hx]; simp
  have hxa : x[p.length] = a := by simp [hx]
  have hxa2 : ixD x (p.length : Int) = some a := by rw [ix_nat, List.getElem?_eq_getElem hx2, hxa]
  have hm : ¬ a ∈ az26 := fun h => hL (mem_az.mp h)
  simp only [az26] at hm
  simp only [sgn] at hs
  simp [F_token_at, u131, startE, m_token_at, szl, hz2, hxa2, hm, hs, bad, sig]
end
end K02

namespace K02
open Se PySem
theorem blk_full : ∀ (g : List Nat) (s : RS), s.flt = none → s.md = .nrm → (∀ x ∈ g, x = 32) → rn s g = { s with col := s.col + g.length }
  | [], s, _, _, _ => rfl
  | x :: g, s, h1, h2, hg => by
    have hx := hg x List.mem_cons_self
    subst hx
    have e : stp s 32 = { s with col := s.col + 1 } := by
      rw [stp_nrm h1 h2, nrm1_sp]
      obtain ⟨md, a, b, c, d⟩ := s
      have h2 : md = .nrm := h2
      subst h2
      rfl
    rw [rn_cons, e, blk_full g { s with col := s.col + 1 } h1 h2 fun y hy => hg y (List.mem_cons_of_mem _ hy), List.length_cons]
    show RS.mk _ _ (s.col + 1 + g.length) _ _ = RS.mk _ _ (s.col + (g.length + 1)) _ _
    rw [show s.col + 1 + g.length = s.col + (g.length + 1) by omega]
theorem Fin_hash {s : RS} {y : List Nat} (h : s.flt = none) (hm : s.md = .nrm) (hy : ∀ c ∈ y, c ≠ 10) : Fin (35 :: y) s = (none, s.toks) := by
  have e : Fin y { s with md := .rmk, col := s.col + 1 } = Fin ([] : List Nat) (rn { s with md := .rmk, col := s.col + 1 } y) := rfl
  rw [Fin_cons, stp_nrm h hm, nrm1_hs, e, rmk_full y { s with md := .rmk, col := s.col + 1 } h rfl hy, Fin_rmk (z := []) (u := { s with md := .rmk, col := s.col + 1 + y.length }) h rfl (.inl rfl), Fin_nil (s := { s with md := .nrm, col := s.col + 1 + y.length }) h rfl]
def LR (K : PySem.W.Frag) (r : Nat) (x : List Nat) (F : Fn) (q : SR) : Prop := match F.1 with
  | none => ∃ a b, q = .nx [some (.int r), some (.str x), some (.lst true F.2), a, b]
  | some (r0, c0, k) => ∃ a b c, q = .ex (bad K r0 c0 k) [some (.int r), some (.str x), a, b, c]
theorem line_go (K : PySem.W.Frag) {x : List Nat} {r : Nat} (hl : x.length ≤ 8388608) : ∀ (N : Nat) (y p : List Nat) (s : RS) (fuel : Nat) (tk : Option D), y.length ≤ N → y.length < fuel → x = p ++ y → s.md = .nrm → s.flt = none → s.row = r → s.col = p.length + 1 → s.toks.length ≤ p.length →
    (y = [] ∨ ∃ c y', y = c :: y' ∧ c ≠ 32) → (∀ c ∈ y, c ≠ 10) → LR K r x (Fin y s) (whileF (c_line_tokens_2 K) (b_line_tokens_1 K) fuel [some (.int r), some (.str x), some (.lst true s.toks), some (.int p.length), tk]) := by
  intro N
  have hz : x.length ≤ 16777216 := by omega
  induction N with
  | zero =>
    intro y p s fuel tk hN hf hx hm hfl hr hc ht hy h10
    have hy : y = [] := List.length_eq_zero_iff.mp (by omega)
    subst hy
    rw [Fin_nil hfl hm]
    match fuel, hf with
    | f + 1, _ =>
      have hx2 : ¬ p.length < x.length := by rw [hx]; simp
      refine ⟨some (.int p.length), tk, ?_⟩
      unfold whileF
      have e : c_line_tokens_2 K [some (.int r), some (.str x), some (.lst true s.toks), some (.int p.length), tk] = .ok false [some (.int r), some (.str x), some (.lst true s.toks), some (.int p.length), tk] := by simp [c_line_tokens_2, szl, hz, hx2]
      rw [e]
      rfl
  | succ N ih =>
    intro y p s fuel tk hN hf hx hm hfl hr hc ht hy h10
    match y, fuel, hf with
    | [], f + 1, _ =>
      rw [Fin_nil hfl hm]
      have hx2 : ¬ p.length < x.length := by rw [hx]; simp
      refine ⟨some (.int p.length), tk, ?_⟩
      unfold whileF
      have e : c_line_tokens_2 K [some (.int r), some (.str x), some (.lst true s.toks), some (.int p.length), tk] = .ok false [some (.int r), some (.str x), some (.lst true s.toks), some (.int p.length), tk] := by simp [c_line_tokens_2, szl, hz, hx2]
      rw [e]
      rfl
    | a :: y, f + 1, hf =>
      have hx2 : p.length < x.length := by rw [hx]; simp
      have hxa : x[p.length] = a := by simp [hx]
      have hxa2 : ixD x (p.length : Int) = some a := by rw [ix_nat, List.getElem?_eq_getElem hx2, hxa]
      have t1 : s.toks.length < 16777216 := by omega
      have hyl : ∀ c ∈ y, c ≠ 10 := fun c hc => h10 c (List.mem_cons_of_mem _ hc)
      have h32 : a ≠ 32 := by
        rcases hy with h | ⟨c, y', h, hc⟩
        · cases h
        · cases h; exact hc
      by_cases h35 : a = 35
      · subst h35
        rw [Fin_hash hfl hm hyl]
        refine ⟨some (.int p.length), tk, ?_⟩
        unfold whileF
        have e : c_line_tokens_2 K [some (.int r), some (.str x), some (.lst true s.toks), some (.int p.length), tk] = .ok false [some (.int r), some (.str x), some (.lst true s.toks), some (.int p.length), tk] := by simp [c_line_tokens_2, szl, hz, hx2, hxa2]
        rw [e]
        rfl
      have ec : c_line_tokens_2 K [some (.int r), some (.str x), some (.lst true s.toks), some (.int p.length), tk] = .ok true [some (.int r), some (.str x), some (.lst true s.toks), some (.int p.length), tk] := by simp [c_line_tokens_2, szl, hz, hx2, hxa2, h35]
      rw [Fin_cons, stp_nrm hfl hm]
      unfold whileF
      rw [ec]
      dsimp only
      rw [if_pos rfl]
      -- a token w, blanks behind it
      have go : ∀ (w z : List Nat) (T : D) (s2 : RS), a :: y = w ++ z → w ≠ [] → F_token_at K [.int r, .str x, .int p.length] = .rt T [.int r, .str x, .int p.length] → (∃ k c, T = .tup [k, .str w, .int r, .int c] ∧ fz k = true ∧ ne k = true ∧ frz k = k) →
          s2.md = .nrm → s2.flt = none → s2.row = r → s2.col = p.length + w.length + 1 → s2.toks = s.toks ++ [T] →
          LR K r x (Fin z s2) (match b_line_tokens_1 K [some (.int r), some (.str x), some (.lst true s.toks), some (.int p.length), tk] with
            | .nx ρ2 => whileF (c_line_tokens_2 K) (b_line_tokens_1 K) f ρ2
            | .ct ρ2 => whileF (c_line_tokens_2 K) (b_line_tokens_1 K) f ρ2
            | .bk ρ2 => .nx ρ2
            | r => r) := by
        intro w z T s2 hw hwn eT hT g1 g2 g3 g4 g5
        obtain ⟨kd, cc, rfl, q1, q2, q3⟩ := hT
        obtain ⟨g, z2, hzz, hg, hz2⟩ := split_at (fun c => decide (c = 32)) z
        have hg : ∀ c ∈ g, c = 32 := fun c hc => by simpa using hg c hc
        have hwl : w.length ≤ 16777216 := by
          have : x.length = p.length + (w.length + z.length) := by rw [hx, hw]; simp
          omega
        have e1 := end_ok K (p := p ++ w) (g := g) (z := z2) (sg := [32]) (x := x) (by rw [hx, hw, hzz]; simp) hl (fun c hc => by simp [hg c hc]) (by
          rcases hz2 with h | ⟨c, z', h, hc⟩
          · exact .inl h
          · exact .inr ⟨c, z', h, by simpa using hc⟩)
        have cst : (((p ++ w).length : Nat) : Int) = (p.length : Int) + w.length := by simp
        rw [cst] at e1
        have eb : b_line_tokens_1 K [some (.int r), some (.str x), some (.lst true s.toks), some (.int p.length), tk] = .nx [some (.int r), some (.str x), some (.lst true s2.toks), some (.int ((p.length : Int) + w.length + g.length)), some (.tup [kd, .str w, .int r, .int cc])] := by
          simp [b_line_tokens_1, eT, e1, szl, t1, q1, q2, q3, ixD, hwl, g5]
        rw [eb]
        dsimp only
        have hlp : (p ++ w ++ g).length = p.length + w.length + g.length := by simp; omega
        have hwp : 0 < w.length := List.length_pos_iff.mpr hwn
        have hyy : (a :: y).length = w.length + (g.length + z2.length) := by rw [hw, hzz]; simp
        have := ih z2 (p ++ w ++ g) { s2 with col := s2.col + g.length } f (some (.tup [kd, .str w, .int r, .int cc])) (by omega) (by omega) (by rw [hx, hw, hzz]; simp) g1 g2 g3 (by show s2.col + g.length = _; rw [hlp, g4]; omega) (by show s2.toks.length ≤ _; rw [g5, hlp, List.length_append]; simp; omega) (by
          rcases hz2 with h | ⟨c, z', h, hc⟩
          · exact .inl h
          · exact .inr ⟨c, z', h, by simpa using hc⟩) (fun c hc => h10 c (by rw [hw, hzz]; simp [hc]))
        have e2 : (((p ++ w ++ g).length : Nat) : Int) = (p.length : Int) + w.length + g.length := by rw [hlp]; simp
        rw [e2] at this
        rw [hzz, Fin_app, blk_full g s2 g2 g1 hg]
        exact this
      -- a token that can't be
      have stop : ∀ (k : List Nat), F_token_at K [.int r, .str x, .int p.length] = .ex (bad K r (p.length + 1) k) [.int r, .str x, .int p.length] → ∀ s2 : RS, s2.flt = some (r, p.length + 1, k) →
          LR K r x (Fin y s2) (match b_line_tokens_1 K [some (.int r), some (.str x), some (.lst true s.toks), some (.int p.length), tk] with
            | .nx ρ2 => whileF (c_line_tokens_2 K) (b_line_tokens_1 K) f ρ2
            | .ct ρ2 => whileF (c_line_tokens_2 K) (b_line_tokens_1 K) f ρ2
            | .bk ρ2 => .nx ρ2
            | r => r) := by
        intro k eT s2 h2
        have eb : b_line_tokens_1 K [some (.int r), some (.str x), some (.lst true s.toks), some (.int p.length), tk] = .ex (bad K r (p.length + 1) k) [some (.int r), some (.str x), some (.lst true s.toks), some (.int p.length), tk] := by
          simp [b_line_tokens_1, eT]
        rw [Fin_flt h2, eb]
        exact ⟨_, _, _, rfl⟩
      by_cases hs : a ∈ sgn
      · rw [nrm1_s hs]
        refine go [a] y (tkS a r (p.length + 1)) _ rfl (by simp) (tok_sign K hx hl hs) ⟨.str sig, _, rfl, rfl, rfl, rfl⟩ rfl hfl hr (by show s.col + 1 = _; rw [hc]; rfl) (by show s.toks ++ [tkS a s.row s.col] = _; rw [hr, hc])
      by_cases hL : isL a = true
      · obtain ⟨g, z, hyz, hg, hz'⟩ := split_at isA y
        have hxz : x = p ++ (a :: (g ++ z)) := by rw [hx, hyz]
        have eF : Fin y (nrm1 s a) = Fin z (cls { s with md := .wrd s.col (a :: g), col := s.col + 1 + g.length }) := by
          rw [nrm1_l hL, hyz, Fin_app, wrd_full g { s with md := .wrd s.col [a], col := s.col + 1 } s.col [a] hfl rfl hg]
          exact Fin_wrd (u := { s with md := .wrd s.col (a :: g), col := s.col + 1 + g.length }) hfl rfl hz'
        by_cases hw : (a :: g).length > 12
        · have e2 : cls { s with md := .wrd s.col (a :: g), col := s.col + 1 + g.length } = { s with md := .nrm, col := s.col + 1 + g.length, flt := some (s.row, s.col, lng) } := by
            unfold cls
            dsimp only
            rw [if_pos hw]
          have e3 : Fin y (nrm1 s a) = Fin y { s with md := .nrm, col := s.col + 1 + g.length, flt := some (s.row, s.col, lng) } := by
            rw [eF, e2, Fin_flt (s := { s with md := .nrm, col := s.col + 1 + g.length, flt := some (s.row, s.col, lng) }) rfl, Fin_flt (s := { s with md := .nrm, col := s.col + 1 + g.length, flt := some (s.row, s.col, lng) }) rfl]
          rw [e3]
          exact stop lng (tok_long K hxz hl hL hg hz' hw) _ (by show some (s.row, s.col, lng) = _; rw [hr, hc])
        · have e2 := cls_ok (s := { s with md := .wrd s.col (a :: g), col := s.col + 1 + g.length }) (st := s.col) (w := a :: g) rfl (by omega)
          rw [eF, e2]
          refine go (a :: g) z (tkW (a :: g) r (p.length + 1)) _ (by rw [hyz]; rfl) (by simp) (tok_word K hxz hl hL hg hz' (by omega)) ⟨.str [119, 111, 114, 100], _, rfl, rfl, rfl, rfl⟩ rfl hfl hr (by show s.col + 1 + g.length = _; rw [hc, List.length_cons]; omega) (by show s.toks ++ [tkW (a :: g) s.row s.col] = _; rw [hr, hc])
      · have hO : isO a = true := by
          have h10a : a ≠ 10 := h10 a List.mem_cons_self
          simp [isO, h10a, h35, h32, hs, hL]
        rw [nrm1_o hO]
        exact stop sig (tok_bad K hx hl hs hL) _ (by show some (s.row, s.col, sig) = _; rw [hr, hc])
end K02

namespace K02
open Se PySem
def lineR (K : PySem.W.Frag) (ds : List D) (F : Fn) : FR := match F.1 with
  | none => .rt (.lst true F.2) ds
  | some (r0, c0, k) => .ex (bad K r0 c0 k) ds
theorem line_ok (K : PySem.W.Frag) {x : List Nat} {r : Nat} (hl : x.length ≤ 8388608) (h10 : ∀ c ∈ x, c ≠ 10) : F_line_tokens K [.int r, .str x] = lineR K [.int r, .str x] (Fin x (ini r)) := by
  obtain ⟨g, z, hx, hg, hz⟩ := split_at (fun c => decide (c = 32)) x
  have hg : ∀ c ∈ g, c = 32 := fun c hc => by simpa using hg c hc
  have hxl : x.length = g.length + z.length := by rw [hx]; simp
  have e1 := end_ok K (p := []) (g := g) (z := z) (sg := [32]) (x := x) (by rw [hx]; rfl) hl (fun c hc => by simp [hg c hc]) (by
    rcases hz with h | ⟨c, z', h, hc⟩
    · exact .inl h
    · exact .inr ⟨c, z', h, by simpa using hc⟩)
  simp only [List.length_nil, Int.natCast_zero, Int.zero_add] at e1
  have e1 : F_end_of K [.str x, .int 0, .str [32]] = .rt (.int g.length) [.str x, .int 0, .str [32]] := e1
  have h := line_go K (r := r) hl z.length z g { ini r with col := 1 + g.length } wF none (Nat.le_refl _) (by unfold wF; omega) hx rfl rfl rfl (by show 1 + g.length = _; omega) (by show 0 ≤ _; omega) (by
    rcases hz with h | ⟨c, z', h, hc⟩
    · exact .inl h
    · exact .inr ⟨c, z', h, by simpa using hc⟩) (fun c hc => h10 c (by rw [hx]; exact List.mem_append_right _ hc))
  have eF : Fin x (ini r) = Fin z { ini r with col := 1 + g.length } := by
    rw [hx, Fin_app, blk_full g (ini r) rfl rfl hg]
    rfl
  rw [eF]
  have et : (({ ini r with col := 1 + g.length } : RS)).toks = [] := rfl
  rw [et] at h
  unfold LR at h
  unfold lineR
  generalize Fin z { ini r with col := 1 + g.length } = F at h ⊢
  obtain ⟨f, ts⟩ := F
  cases f with
  | none =>
    obtain ⟨a, b, e⟩ := h
    simp [F_line_tokens, u131, startE, m_line_tokens, szl, e1, e]
  | some q =>
    obtain ⟨r0, c0, k⟩ := q
    obtain ⟨a, b, c, e⟩ := h
    simp [F_line_tokens, u131, startE, m_line_tokens, szl, e1, e]
/-- tokens of one line: all frozen -/
theorem fz_rn : ∀ (x : List Nat) (s : RS), fzL s.toks = true → fzL (rn s x).toks = true ∧ fzL (fin1 (rn s x)).toks = true := by
  have app : ∀ (ts : List D) (t : D), fzL ts = true → fz t = true → fzL (ts ++ [t]) = true := by
    intro ts t h1 h2
    rw [fzL_all] at h1 ⊢
    simp [h1, h2] at *
  have cl : ∀ s : RS, fzL s.toks = true → fzL (cls s).toks = true := by
    intro s h
    unfold cls
    split
    · split
      · exact h
      · exact app _ _ h rfl
    · exact h
  have n1 : ∀ (s : RS) (x : Nat), fzL s.toks = true → fzL (nrm1 s x).toks = true := by
    intro s x h
    unfold nrm1
    split
    · exact h
    split
    · exact h
    split
    · exact app _ _ h rfl
    split
    · exact h
    split
    · exact h
    · exact h
  have st : ∀ (s : RS) (x : Nat), fzL s.toks = true → fzL (stp s x).toks = true := by
    intro s x h
    unfold stp
    split
    · exact h
    · split
      · exact n1 s x h
      · split <;> exact h
      · split
        · exact h
        · split
          · exact cl s h
          · exact n1 _ _ (cl s h)
  have f1 : ∀ s : RS, fzL s.toks = true → fzL (fin1 s).toks = true := by
    intro s h
    unfold fin1
    split
    · exact h
    · exact cl s h
  intro x
  induction x with
  | nil => exact fun s h => ⟨h, f1 s h⟩
  | cons a x ih => exact fun s h => ih (stp s a) (st s a h)
end K02

namespace K02
open Se PySem
/-- tokens ahead are only carried along -/
def pre (ts : List D) (s : RS) : RS := { s with toks := ts ++ s.toks }
theorem cls_pre (ts : List D) (s : RS) : cls (pre ts s) = pre ts (cls s) := by
  obtain ⟨md, r, c, t, f⟩ := s
  cases md with
  | wrd st w =>
    unfold cls pre
    dsimp only
    split
    · rfl
    · rw [List.append_assoc]
  | nrm => rfl
  | rmk => rfl
theorem nrm1_pre (ts : List D) (s : RS) (x : Nat) : nrm1 (pre ts s) x = pre ts (nrm1 s x) := by
  unfold nrm1 pre
  by_cases h1 : x = 10
  · rw [if_pos h1, if_pos h1]
  rw [if_neg h1, if_neg h1]
  by_cases h2 : x = 35
  · rw [if_pos h2, if_pos h2]
  rw [if_neg h2, if_neg h2]
  by_cases h3 : x ∈ sgn
  · rw [if_pos h3, if_pos h3]
    dsimp only
    rw [List.append_assoc]
  rw [if_neg h3, if_neg h3]
  by_cases h4 : isL x = true
  · rw [if_pos h4, if_pos h4]
  rw [if_neg h4, if_neg h4]
  by_cases h5 : x = 32
  · rw [if_pos h5, if_pos h5]
  rw [if_neg h5, if_neg h5]
theorem stp_pre (ts : List D) (s : RS) (x : Nat) : stp (pre ts s) x = pre ts (stp s x) := by
  obtain ⟨md, r, c, t, f⟩ := s
  cases f with
  | some f => rfl
  | none =>
    cases md with
    | nrm => exact nrm1_pre ts ⟨.nrm, r, c, t, none⟩ x
    | rmk =>
      by_cases h : x = 10
      · unfold stp pre
        dsimp only
        rw [if_pos h, if_pos h]
      · unfold stp pre
        dsimp only
        rw [if_neg h, if_neg h]
    | wrd st w =>
      have e := cls_pre ts ⟨.wrd st w, r, c, t, none⟩
      by_cases h : isA x = true
      · unfold stp pre
        dsimp only
        rw [if_pos h, if_pos h]
      · have e1 : stp (pre ts ⟨.wrd st w, r, c, t, none⟩) x = (match (cls (pre ts ⟨.wrd st w, r, c, t, none⟩)).flt with
          | some _ => cls (pre ts ⟨.wrd st w, r, c, t, none⟩)
          | none => nrm1 (cls (pre ts ⟨.wrd st w, r, c, t, none⟩)) x) := if_neg h
        have e2 : stp ⟨.wrd st w, r, c, t, none⟩ x = (match (cls ⟨.wrd st w, r, c, t, none⟩).flt with
          | some _ => cls ⟨.wrd st w, r, c, t, none⟩
          | none => nrm1 (cls ⟨.wrd st w, r, c, t, none⟩) x) := if_neg h
        rw [e1, e2, e]
        generalize cls ⟨.wrd st w, r, c, t, none⟩ = u
        have e3 : (pre ts u).flt = u.flt := rfl
        rw [e3]
        cases u.flt with
        | some f => rfl
        | none => exact nrm1_pre ts u x
theorem rn_pre (ts : List D) : ∀ (x : List Nat) (s : RS), rn (pre ts s) x = pre ts (rn s x)
  | [], s => rfl
  | a :: x, s => by rw [rn_cons, rn_cons, stp_pre, rn_pre ts x]
theorem Fin_pre (ts : List D) (x : List Nat) (s : RS) : Fin x (pre ts s) = ((Fin x s).1, ts ++ (Fin x s).2) := by
  unfold Fin
  rw [rn_pre]
  generalize rn s x = u
  unfold fin1
  have e3 : (pre ts u).flt = u.flt := rfl
  rw [e3]
  cases hf : u.flt with
  | some f => simp [pre, hf]
  | none =>
    dsimp only
    rw [cls_pre]
    rfl
/-- the row stays within a line -/
theorem row_rn : ∀ (x : List Nat) (s : RS), (∀ c ∈ x, c ≠ 10) → (rn s x).row = s.row ∧ (cls (rn s x)).row = s.row := by
  have cl : ∀ s : RS, (cls s).row = s.row := by
    intro s
    unfold cls
    split
    · split <;> rfl
    · rfl
  have st : ∀ (s : RS) (x : Nat), x ≠ 10 → (stp s x).row = s.row := by
    intro s x hx
    have n1 : ∀ s : RS, (nrm1 s x).row = s.row := by
      intro s
      unfold nrm1
      rw [if_neg hx]
      split
      · rfl
      split
      · rfl
      split
      · rfl
      split <;> rfl
    unfold stp
    split
    · rfl
    · split
      · exact n1 s
      · rw [if_neg hx]
      · split
        · rfl
        · split
          · exact cl s
          · rw [n1, cl]
  intro x
  induction x with
  | nil => exact fun s _ => ⟨rfl, cl s⟩
  | cons a x ih =>
    intro s h
    obtain ⟨h1, h2⟩ := ih (stp s a) fun c hc => h c (List.mem_cons_of_mem _ hc)
    rw [rn_cons, h1, h2, st s a (h a List.mem_cons_self)]
    exact ⟨rfl, rfl⟩
/-- line by line -/
def LF (r : Nat) : List (List Nat) → Fn
  | [] => (none, [])
  | l :: ls => match Fin l (ini r) with
    | (some f, ts) => (some f, ts)
    | (none, ts) => ((LF (r + 1) ls).1, ts ++ (LF (r + 1) ls).2)
theorem Fin_nl {p rest : List Nat} {r : Nat} (h : ∀ c ∈ p, c ≠ 10) : Fin (p ++ 10 :: rest) (ini r) = match Fin p (ini r) with
    | (some f, ts) => (some f, ts)
    | (none, ts) => ((Fin rest (ini (r + 1))).1, ts ++ (Fin rest (ini (r + 1))).2) := by
  obtain ⟨h1, h2⟩ := row_rn p (ini r) h
  rw [Fin_app, Fin_cons]
  have eP : Fin p (ini r) = ((fin1 (rn (ini r) p)).flt, (fin1 (rn (ini r) p)).toks) := rfl
  rw [eP]
  generalize rn (ini r) p = u at h1 h2
  cases hf : u.flt with
  | some f =>
    have e : stp u 10 = u := stp_flt (by rw [hf]; simp) 10
    have e2 : fin1 u = u := by unfold fin1; rw [hf]
    rw [e, e2, Fin_flt hf, hf]
  | none =>
    have e2 : fin1 u = cls u := by unfold fin1; rw [hf]
    rw [e2]
    -- after the newline
    have nl : ∀ v : RS, v.row = r → nrm1 v 10 = pre v.toks { ini (r + 1) with flt := v.flt } := by
      intro v hv
      rw [nrm1_nl]
      unfold pre ini
      rw [hv, List.append_nil]
    have key : (cls u).flt = none → stp u 10 = pre (cls u).toks (ini (r + 1)) := by
      intro hc
      have e3 : pre (cls u).toks (ini (r + 1)) = pre (cls u).toks { ini (r + 1) with flt := (cls u).flt } := by rw [hc]; rfl
      rw [e3, ← nl (cls u) h2]
      unfold stp
      rw [hf]
      cases hm : u.md with
      | nrm =>
        have : cls u = u := by unfold cls; rw [hm]
        rw [this]
      | rmk =>
        have : cls u = u := by unfold cls; rw [hm]
        rw [this, nrm1_nl, hf]
        rfl
      | wrd st w =>
        dsimp only
        rw [if_neg (by decide), hc]
    cases hc : (cls u).flt with
    | none =>
      rw [key hc, Fin_pre]
    | some f =>
      have e4 : stp u 10 = cls u := by
        unfold stp
        rw [hf]
        cases hm : u.md with
        | nrm => exact absurd hc (by unfold cls; rw [hm]; simp [hf])
        | rmk => exact absurd hc (by unfold cls; rw [hm]; simp [hf])
        | wrd st w =>
          dsimp only
          rw [if_neg (by decide), hc]
      rw [e4, Fin_flt hc]
end K02

namespace K02
open Se PySem
/-- tokens are at most as many as signs -/
def mu (s : RS) : Nat := s.toks.length + (match s.md with
  | .wrd _ _ => 1
  | _ => 0)
theorem mu_cls (s : RS) : (cls s).toks.length ≤ mu s ∧ mu (cls s) ≤ mu s := by
  obtain ⟨md, r, c, t, f⟩ := s
  cases md with
  | wrd st w =>
    unfold cls mu
    dsimp only
    split <;> simp
  | nrm => exact ⟨Nat.le_refl _, Nat.le_refl _⟩
  | rmk => exact ⟨Nat.le_refl _, Nat.le_refl _⟩
theorem mu_nrm1 (s : RS) (x : Nat) : mu (nrm1 s x) ≤ s.toks.length + 1 ∨ mu (nrm1 s x) ≤ mu s := by
  unfold nrm1
  split
  · left; simp [mu]
  split
  · left; simp [mu]
  split
  · left; simp [mu]
  split
  · left; simp [mu]
  split
  · left; simp [mu]
  · right; exact Nat.le_refl _
theorem mu_stp (s : RS) (x : Nat) : mu (stp s x) ≤ mu s + 1 := by
  have t : ∀ s : RS, s.toks.length ≤ mu s := fun s => Nat.le_add_right _ _
  have n1 : ∀ s : RS, mu (nrm1 s x) ≤ mu s + 1 := fun s => by
    rcases mu_nrm1 s x with h | h
    · have := t s; omega
    · omega
  unfold stp
  split
  · omega
  · split
    · exact n1 s
    · rename_i hm
      split <;> simp [mu, hm]
    · rename_i st w hm
      split
      · simp [mu, hm]
      · have h2 := mu_cls s
        split
        · omega
        · rcases mu_nrm1 (cls s) x with h | h <;> omega
theorem mu_rn : ∀ (x : List Nat) (s : RS), mu (rn s x) ≤ mu s + x.length
  | [], s => Nat.le_refl _
  | a :: x, s => by
    have h1 := mu_rn x (stp s a)
    have h2 := mu_stp s a
    rw [rn_cons, List.length_cons]
    omega
theorem toks_len (x : List Nat) (r : Nat) : (Fin x (ini r)).2.length ≤ x.length := by
  have h := mu_rn x (ini r)
  have h2 := (mu_cls (rn (ini r) x)).1
  have h3 : (rn (ini r) x).toks.length ≤ mu (rn (ini r) x) := Nat.le_add_right _ _
  have h4 : mu (ini r) = 0 := rfl
  unfold Fin
  unfold fin1
  dsimp only
  split <;> omega
theorem lines_eq : ∀ (n : Nat) (x : List Nat) (r : Nat), x.length ≤ n → LF r (TL.spl [10] 0 [] x) = Fin x (ini r) ∧ (∀ l ∈ TL.spl [10] 0 [] x, (∀ c ∈ l, c ≠ 10) ∧ l.length ≤ x.length) := by
  have one : ∀ (p : List Nat) (r : Nat), LF r [p] = Fin p (ini r) := by
    intro p r
    unfold LF
    have : ∀ F : Fn, (match F with
      | (some f, ts) => (some f, ts)
      | (none, ts) => ((LF (r + 1) []).1, ts ++ (LF (r + 1) []).2)) = F := by
      rintro ⟨f, ts⟩
      cases f with
      | some f => rfl
      | none => simp [LF]
    exact this _
  intro n
  induction n with
  | zero =>
    intro x r h
    have : x = [] := List.length_eq_zero_iff.mp (by omega)
    subst this
    exact ⟨one [] r, by simp [TL.spl]⟩
  | succ n ih =>
    intro x r h
    obtain ⟨p, z, hx, hp, hz⟩ := split_at (fun c => !decide (c = 10)) x
    have hp10 : ∀ c ∈ p, c ≠ 10 := fun c hc => by simpa using hp c hc
    have hm : (10 : Nat) ∉ p := fun h => hp10 10 h rfl
    rcases hz with rfl | ⟨c, rest, rfl, hc⟩
    · rw [List.append_nil] at hx
      subst hx
      rw [TL.spl_last1 hm, List.nil_append]
      exact ⟨one x r, fun l hl => by cases List.mem_singleton.mp hl; exact ⟨hp10, Nat.le_refl _⟩⟩
    · have hc : c = 10 := by simpa using hc
      subst hc
      have e : TL.spl [10] 0 [] x = p :: TL.spl [10] 0 [] rest := by
        have := TL.spl_part1 (s := 10) (S := []) (p := p) (rest := rest) (acc := []) hm
        rw [hx]
        simpa using this
      have hl : rest.length ≤ n := by rw [hx] at h; simp at h; omega
      obtain ⟨h1, h2⟩ := ih rest (r + 1) hl
      have hxl : x.length = p.length + (rest.length + 1) := by rw [hx]; simp
      rw [e]
      refine ⟨?_, fun l hl => ?_⟩
      · rw [hx, Fin_nl hp10]
        unfold LF
        rw [h1]
      · rcases List.mem_cons.mp hl with rfl | hl
        · exact ⟨hp10, by omega⟩
        · exact ⟨(h2 l hl).1, by have := (h2 l hl).2; omega⟩
/-- what every token is -/
theorem all_rn (P : D → Prop) (hW : ∀ w r c, P (tkW w r c)) (hS : ∀ x r c, P (tkS x r c)) : ∀ (x : List Nat) (s : RS), (∀ t ∈ s.toks, P t) → ∀ t ∈ (Fin x s).2, P t := by
  have app : ∀ (ts : List D) (t : D), (∀ t ∈ ts, P t) → P t → ∀ q ∈ ts ++ [t], P q := by
    intro ts t h1 h2 q hq
    rcases List.mem_append.mp hq with h | h
    · exact h1 q h
    · cases List.mem_singleton.mp h; exact h2
  have cl : ∀ s : RS, (∀ t ∈ s.toks, P t) → ∀ t ∈ (cls s).toks, P t := by
    intro s h
    unfold cls
    split
    · split
      · exact h
      · exact app _ _ h (hW _ _ _)
    · exact h
  have n1 : ∀ (s : RS) (x : Nat), (∀ t ∈ s.toks, P t) → ∀ t ∈ (nrm1 s x).toks, P t := by
    intro s x h
    unfold nrm1
    split
    · exact h
    split
    · exact h
    split
    · exact app _ _ h (hS _ _ _)
    split
    · exact h
    split
    · exact h
    · exact h
  have st : ∀ (s : RS) (x : Nat), (∀ t ∈ s.toks, P t) → ∀ t ∈ (stp s x).toks, P t := by
    intro s x h
    unfold stp
    split
    · exact h
    · split
      · exact n1 s x h
      · split <;> exact h
      · split
        · exact h
        · split
          · exact cl s h
          · exact n1 _ _ (cl s h)
  intro x
  induction x with
  | nil =>
    intro s h
    show ∀ t ∈ (fin1 s).toks, P t
    unfold fin1
    split
    · exact h
    · exact cl s h
  | cons a x ih => exact fun s h => ih (stp s a) (st s a h)
theorem fz_all : ∀ {ts : List D}, (∀ t ∈ ts, fz t = true ∧ frz t = t ∧ ne t = true) → fzL ts = true ∧ frzL ts = ts ∧ neL ts = true
  | [], _ => ⟨rfl, rfl, rfl⟩
  | t :: ts, h => by
    obtain ⟨h1, h2, h3⟩ := h t List.mem_cons_self
    obtain ⟨g1, g2, g3⟩ := fz_all fun q hq => h q (List.mem_cons_of_mem _ hq)
    exact ⟨by simp [h1, g1], by simp [h2, g2], by simp [h3, g3]⟩
def Tk (t : D) : Prop := fz t = true ∧ frz t = t ∧ ne t = true
theorem tk_fin (x : List Nat) (r : Nat) : ∀ t ∈ (Fin x (ini r)).2, Tk t := all_rn Tk (fun _ _ _ => ⟨rfl, rfl, rfl⟩) (fun _ _ _ => ⟨rfl, rfl, rfl⟩) x (ini r) (fun t h => nomatch h)
end K02

namespace K02
open Se PySem
@[simp] theorem y3 {f : List D → Se.Env → Option Se.Env} {ds : List D} {ρ : Se.Env} : fTup f (.tup ds) ρ = f ds ρ := rfl
def fcK (x : Option Se.Env) (fs : List D → Se.Env → Option Se.Env) (ds : List D) : Option Se.Env := x.bind fun ρ => fs ds ρ
@[simp] theorem y4 {f : D → Se.Env → Option Se.Env} {fs : List D → Se.Env → Option Se.Env} {d : D} {ds : List D} {ρ : Se.Env} : fCons f fs (d :: ds) ρ = fcK (f d ρ) fs ds := rfl
@[simp] theorem y5 {fs : List D → Se.Env → Option Se.Env} {ds : List D} {ρ : Se.Env} : fcK (some ρ) fs ds = fs ds ρ := rfl
@[simp] theorem y6 {ρ : Se.Env} : fNil [] ρ = some ρ := rfl
def TR (K : PySem.W.Frag) (x : List Nat) (acc : List D) (F : Fn) (q : SR) : Prop := match F.1 with
  | none => ∃ a b, q = .nx [some (.str x), some (.lst true (acc ++ F.2)), a, b]
  | some (r0, c0, k) => ∃ w a b, q = .ex (bad K r0 c0 k) [some (.str x), w, a, b]
theorem tok_go (K : PySem.W.Frag) {x : List Nat} : ∀ (ls : List (List Nat)) (k : Nat) (acc : List D) (a b : Option D), (∀ l ∈ ls, (∀ c ∈ l, c ≠ 10) ∧ l.length ≤ 8388608) → (∀ t ∈ acc, Tk t) → acc.length + (ls.map List.length).sum ≤ 16777216 →
    TR K x acc (LF (k + 1) ls) (forF (fTup (fCons (fName 2) (fCons (fName 3) (fNil)))) (b_tokens_of_1 K) (enD k (ls.map .str)) [some (.str x), some (.lst true acc), a, b])
  | [], k, acc, a, b, _, _, _ => ⟨a, b, by simp [LF, enD, forF]⟩
  | l :: ls, k, acc, a, b, hl, ha, hz => by
    obtain ⟨h10, hll⟩ := hl l List.mem_cons_self
    obtain ⟨z1, z2, z3⟩ := fz_all ha
    have eL := line_ok K (r := k + 1) hll h10
    have tkl := tk_fin l (k + 1)
    have ln := toks_len l (k + 1)
    have cst : ((k + 1 : Nat) : Int) = (k : Int) + 1 := by simp
    rw [cst] at eL
    have hz : acc.length + (l.length + (ls.map List.length).sum) ≤ 16777216 := by simpa using hz
    show TR K x acc (LF (k + 1) (l :: ls)) (forF _ _ (.tup [.int k, .str l] :: enD (k + 1) (ls.map .str)) _)
    unfold forF LF
    have ef : fTup (fCons (fName 2) (fCons (fName 3) (fNil))) (.tup [.int k, .str l]) [some (.str x), some (.lst true acc), a, b] = some [some (.str x), some (.lst true acc), some (.int k), some (.str l)] := by simp
    rw [ef]
    dsimp only
    generalize Fin l (ini (k + 1)) = F at eL tkl ln
    obtain ⟨f, ts⟩ := F
    cases f with
    | some q =>
      obtain ⟨r0, c0, kd⟩ := q
      have eb : ∃ w a b, b_tokens_of_1 K [some (.str x), some (.lst true acc), some (.int k), some (.str l)] = .ex (bad K r0 c0 kd) [some (.str x), w, a, b] := ⟨some (.lst false (frzL acc)), some (.int k), some (.str l), by
        simp [b_tokens_of_1, eL, lineR]⟩
      obtain ⟨w, a', b', eb⟩ := eb
      rw [eb]
      exact ⟨w, a', b', rfl⟩
    | none =>
      obtain ⟨q1, q2, q3⟩ := fz_all tkl
      have hlen : acc.length + ts.length ≤ 16777216 := by
        have : ts.length ≤ l.length := ln
        omega
      have eb : b_tokens_of_1 K [some (.str x), some (.lst true acc), some (.int k), some (.str l)] = .nx [some (.str x), some (.lst true (acc ++ ts)), some (.int k), some (.str l)] := by
        simp [b_tokens_of_1, eL, lineR, szl, z1, z2, q1, q2, hlen]
      rw [eb]
      dsimp only
      have ih := tok_go K (x := x) ls (k + 1) (acc ++ ts) (some (.int k)) (some (.str l)) (fun m hm => hl m (List.mem_cons_of_mem _ hm)) (fun t ht => by
        rcases List.mem_append.mp ht with h | h
        · exact ha t h
        · exact tkl t h) (by
        have : ts.length ≤ l.length := ln
        rw [List.length_append]
        omega)
      generalize LF (k + 1 + 1) ls = G at ih ⊢
      obtain ⟨f2, ts2⟩ := G
      unfold TR at ih ⊢
      cases f2 with
      | none =>
        obtain ⟨a', b', e⟩ := ih
        exact ⟨a', b', by rw [e, List.append_assoc]⟩
      | some q => exact ih
/-- TOKENS_OF -/
def toksR (K : PySem.W.Frag) (x : List Nat) (F : Fn) : FR := match F.1 with
  | none => .rt (.tup F.2) [.str x]
  | some (r0, c0, k) => .ex (bad K r0 c0 k) [.str x]
theorem spl_sum : ∀ (n : Nat) (x : List Nat), x.length ≤ n → ((TL.spl [10] 0 [] x).map List.length).sum ≤ x.length := by
  intro n
  induction n with
  | zero =>
    intro x h
    have : x = [] := List.length_eq_zero_iff.mp (by omega)
    subst this
    simp [TL.spl]
  | succ n ih =>
    intro x h
    obtain ⟨p, z, hx, hp, hz⟩ := split_at (fun c => !decide (c = 10)) x
    have hp10 : ∀ c ∈ p, c ≠ 10 := fun c hc => by simpa using hp c hc
    have hm : (10 : Nat) ∉ p := fun h => hp10 10 h rfl
    rcases hz with rfl | ⟨c, rest, rfl, hc⟩
    · rw [List.append_nil] at hx
      subst hx
      rw [TL.spl_last1 hm]
      simp
    · have hc : c = 10 := by simpa using hc
      subst hc
      have e : TL.spl [10] 0 [] x = p :: TL.spl [10] 0 [] rest := by
        have := TL.spl_part1 (s := 10) (S := []) (p := p) (rest := rest) (acc := []) hm
        rw [hx]
        simpa using this
      have hl : rest.length ≤ n := by rw [hx] at h; simp at h; omega
      have := ih rest hl
      rw [e, hx]
      simp
      omega
theorem tokens_ok (K : PySem.W.Frag) {x : List Nat} (hl : x.length ≤ 8388608) : F_tokens_of K [.str x] = toksR K x (Fin x (ini 1)) := by
  obtain ⟨h1, h2⟩ := lines_eq x.length x 1 (Nat.le_refl _)
  have hs := spl_sum x.length x (Nat.le_refl _)
  have h := tok_go K (x := x) (TL.spl [10] 0 [] x) 0 [] none none (fun l hl' => ⟨(h2 l hl').1, Nat.le_trans (h2 l hl').2 hl⟩) (fun t h => nomatch h) (by simp; omega)
  rw [h1] at h
  have tk := tk_fin x 1
  have hsp : gSplit x (.str [10]) = some (.lst true ((TL.spl [10] 0 [] x).map D.str)) := by
    have l2 : x.length + 2 ≤ 16777216 := by omega
    simp [gSplit, szl, l2]
  unfold TR at h
  unfold toksR
  generalize Fin x (ini 1) = F at h tk ⊢
  obtain ⟨f, ts⟩ := F
  cases f with
  | none =>
    obtain ⟨a, b, e⟩ := h
    obtain ⟨q1, q2, q3⟩ := fz_all tk
    rw [List.nil_append] at e
    simp [F_tokens_of, u131, startE, m_tokens_of, szl, hsp, frzL_strs, enA, e, q1]
  | some q =>
    obtain ⟨r0, c0, k⟩ := q
    obtain ⟨w, a, b, e⟩ := h
    simp [F_tokens_of, u131, startE, m_tokens_of, szl, hsp, frzL_strs, enA, e]
end K02

namespace K02
open Se PySem
section
variable (K : PySem.W.Frag)
theorem is_tt {d : D} {t n : String} {b : Bool} (h : tyD d = some t) (k : L2.kitB t n = some b) : gIsi K [d, .ty n] = some (.bl b) := by
  have e : PySem.W.kitOne K (.type t) (.type n) = some b := L2.kit_ty k
  simp [gIsi, h, isK, clD, e]
@[simp] theorem is_int {i : Int} : gIsi K [.int i, .ty "int"] = some (.bl true) := is_tt K (t := "int") rfl (by decide +kernel)
@[simp] theorem is_ib {i : Int} : gIsi K [.int i, .ty "bool"] = some (.bl false) := is_tt K (t := "int") rfl (by decide +kernel)
@[simp] theorem is_str {x : List Nat} : gIsi K [.str x, .ty "str"] = some (.bl true) := is_tt K (t := "str") rfl (by decide +kernel)
@[simp] theorem is_tup {ds : List D} : gIsi K [.tup ds, .ty "tuple"] = some (.bl true) := is_tt K (t := "tuple") rfl (by decide +kernel)
@[simp] theorem y7 {a : D} {l : List D} : ixD (a :: l) 0 = some a := rfl
@[simp] theorem y8 {a b : D} {l : List D} : ixD (a :: b :: l) 1 = some b := rfl
@[simp] theorem y9 {a b c : D} {l : List D} : ixD (a :: b :: c :: l) 2 = some c := rfl
@[simp] theorem y10 {a b c d : D} {l : List D} : ixD (a :: b :: c :: d :: l) 3 = some d := rfl
theorem string_ok (x : List Nat) : F__law_string K [.str x, .str x] = .rt (.bl true) [.str x, .str x] := by
  simp [F__law_string, u131, startE, m__law_string]
theorem number_ok (i : Int) : F__law_number K [.int i, .int i] = .rt (.bl true) [.int i, .int i] := by
  simp [F__law_number, u131, startE, m__law_number]
/-- a token: kind, word, line, place -/
def T4 (t : D) : Prop := ∃ (k w : List Nat) (r c : Int), t = .tup [.str k, .str w, .int r, .int c]
theorem t4_fin (x : List Nat) (r : Nat) : ∀ t ∈ (Fin x (ini r)).2, T4 t := all_rn T4 (fun w r c => ⟨_, _, _, _, rfl⟩) (fun x r c => ⟨_, _, _, _, rfl⟩) x (ini r) (fun t h => nomatch h)
theorem alike_step {ts : List D} {i : Nat} {k w : List Nat} {r c : Int} {b : Option D} (ei : ixD ts (i : Int) = some (.tup [.str k, .str w, .int r, .int c])) :
    b__law_alike_1 K [some (.tup ts), some (.lst false ts), some (.int i), b] = .nx [some (.tup ts), some (.lst false ts), some (.int i), some (.tup [.str k, .str w, .int r, .int c])] ∨ fzL ts = false := by
  by_cases q1 : fzL ts = true
  · left
    unfold b__law_alike_1
    refine seq_step (ρ1 := [some (.tup ts), some (.lst false ts), some (.int i), some (.tup [.str k, .str w, .int r, .int c])]) (by simp [gIx, ei, q1]) ?_
    refine seq_step (ρ1 := [some (.tup ts), some (.lst false ts), some (.int i), some (.tup [.str k, .str w, .int r, .int c])]) (by simp) ?_
    refine seq_step (ρ1 := [some (.tup ts), some (.lst false ts), some (.int i), some (.tup [.str k, .str w, .int r, .int c])]) (by simp [gIx, ei, q1, string_ok]) ?_
    refine seq_step (ρ1 := [some (.tup ts), some (.lst false ts), some (.int i), some (.tup [.str k, .str w, .int r, .int c])]) (by simp [gIx, ei, q1, number_ok]) ?_
    rfl
  · right
    simpa using q1
theorem alike_ok {ts : List D} (h : ∀ t ∈ ts, T4 t) (hl : ts.length ≤ 16777216) : F__law_alike K [.tup ts, .lst false ts] = .rt (.bl true) [.tup ts, .lst false ts] := by
  have hz : fzL ts = true ∧ frzL ts = ts ∧ neL ts = true := fz_all fun t ht => by
    obtain ⟨k, w, r, c, rfl⟩ := h t ht
    exact ⟨rfl, rfl, rfl⟩
  obtain ⟨q1, q2, q3⟩ := hz
  have loop : ∃ ρ', forF (fName 2) (b__law_alike_1 K) (rgD 0 ts.length) [some (.tup ts), some (.lst false ts), none, none] = .nx ρ' ∧ ∃ a b, ρ' = [some (.tup ts), some (.lst false ts), a, b] := by
    refine forF_range (fun _ ρ => ∃ a b, ρ = [some (.tup ts), some (.lst false ts), a, b]) ⟨none, none, rfl⟩ ?_
    rintro i ρ hi ⟨a, b, rfl⟩
    have hm := List.getElem_mem hi
    obtain ⟨k, w, r, c, e⟩ := h _ hm
    have ei : ixD ts (i : Int) = some (.tup [.str k, .str w, .int r, .int c]) := by
      unfold ixD
      rw [if_pos (Int.natCast_nonneg i)]
      show ts[i]? = _
      rw [List.getElem?_eq_getElem hi, e]
    refine ⟨_, [some (.tup ts), some (.lst false ts), some (.int (0 + i)), some (.tup [.str k, .str w, .int r, .int c])], rfl, .inl ?_, _, _, rfl⟩
    have e5 : (0 : Int) + (i : Nat) = (i : Nat) := by omega
    rw [e5]
    rcases alike_step K (b := b) ei with h | h
    · exact h
    · rw [q1] at h; cases h
  obtain ⟨ρ', e, a, b, rfl⟩ := loop
  have hr := rg1_nat (n := ts.length) (by omega)
  simp [F__law_alike, u131, startE, m__law_alike, hr, e, q1]
end
end K02

namespace K02
open Se PySem
def resF (F : Fn) : D := match F.1 with
  | none => .lst false [.lst false F.2, .int 0, .int 0, .str []]
  | some (r, c, k) => .lst false [.lst false F.2, .int r, .int c, .str k]
theorem frz_res (x : List Nat) (r : Nat) : frz (resD (Fin x (ini r))) = resF (Fin x (ini r)) := by
  obtain ⟨q1, q2, q3⟩ := fz_all (tk_fin x r)
  unfold resD resF
  generalize Fin x (ini r) = F at q2
  obtain ⟨f, ts⟩ := F
  dsimp only at q2
  rcases f with _ | ⟨a, b, c⟩ <;> simp [q2]
theorem cls_kind (s : RS) (h : s.flt = none) : ∀ f, (cls s).flt = some f → f.2.2 = sig ∨ f.2.2 = lng := by
  intro f e
  unfold cls at e
  split at e
  · split at e
    · cases e; exact .inr rfl
    · dsimp only at e; rw [h] at e; cases e
  · rw [h] at e; cases e
theorem nrm1_kind (s : RS) (h : s.flt = none) (x : Nat) : ∀ f, (nrm1 s x).flt = some f → f.2.2 = sig ∨ f.2.2 = lng := by
  intro f e
  unfold nrm1 at e
  repeat' split at e
  all_goals first
    | (dsimp only at e; rw [h] at e; cases e; done)
    | (cases e; exact .inl rfl)
theorem stp_kind (s : RS) (x : Nat) (h : ∀ f, s.flt = some f → f.2.2 = sig ∨ f.2.2 = lng) : ∀ f, (stp s x).flt = some f → f.2.2 = sig ∨ f.2.2 = lng := by
  intro f e
  unfold stp at e
  split at e
  · exact h f e
  · rename_i hn
    split at e
    · exact nrm1_kind s hn x f e
    · split at e
      · dsimp only at e; rw [hn] at e; cases e
      · dsimp only at e; rw [hn] at e; cases e
    · split at e
      · dsimp only at e; rw [hn] at e; cases e
      · split at e
        · exact cls_kind s hn f e
        · rename_i hc
          exact nrm1_kind _ hc x f e
theorem rn_kind : ∀ (x : List Nat) (s : RS), (∀ f, s.flt = some f → f.2.2 = sig ∨ f.2.2 = lng) → ∀ f, (rn s x).flt = some f → f.2.2 = sig ∨ f.2.2 = lng
  | [], s, h => h
  | a :: x, s, h => rn_kind x (stp s a) (stp_kind s a h)
theorem fin_kind (x : List Nat) (r : Nat) : ∀ f, (Fin x (ini r)).1 = some f → f.2.2 = sig ∨ f.2.2 = lng := by
  intro f e
  have e : (fin1 (rn (ini r) x)).flt = some f := e
  have h := rn_kind x (ini r) (fun f h => nomatch h)
  unfold fin1 at e
  split at e
  · exact h f e
  · rename_i hn
    exact cls_kind _ hn f e
theorem asked_ok {K : PySem.W.Frag} {mg : Str → Option Value} (z : Z K mg) {x : List Nat} (b : Bool) (hl : x.length ≤ 8388608) : F__law_asked K [.str x, resF (Fin x (ini 1)), .bl b] = .rt (.bl true) [.str x, resF (Fin x (ini 1)), .bl b] := by
  have ht := tokens_ok K hl
  have h4 := t4_fin x 1
  have tk := tk_fin x 1
  have ln := toks_len x 1
  have kd := fin_kind x 1
  generalize Fin x (ini 1) = F at ht h4 tk ln kd
  obtain ⟨f, ts⟩ := F
  obtain ⟨q1, q2, q3⟩ := fz_all tk
  dsimp only at q1 q2 q3 h4 ln kd
  have ha := alike_ok K h4 (by omega)
  cases f with
  | none =>
    unfold toksR at ht
    dsimp only at ht
    unfold resF
    cases b <;> simp [F__law_asked, u131, startE, m__law_asked, i__law_asked_1, ht, ha, q1, q2, q3, gIx]
  | some q =>
    obtain ⟨r, c, k⟩ := q
    unfold toksR at ht
    dsimp only at ht
    unfold resF
    have hk : ¬ k = [] := by
      rcases kd _ rfl with h | h <;> (dsimp only at h; rw [h]; decide)
    have e1 := z.e_BadSource_SizeError
    have e2 := z.b_BadSource
    have a1 := z.k_BadSource_BadCommand
    have a2 := z.k_BadSource_BadSource
    have a3 := z.k_BadSource_BadText
    have a4 := z.k_BadSource_CallError
    have a5 := z.k_BadSource_DataError
    have a6 := z.k_BadSource_TextError
    have a7 := z.k_BadSource_ValueError
    have t1 := z.t_BadSource_line
    have t2 := z.t_BadSource_place
    have t3 := z.t_BadSource_word
    have s1 : (Str.ofString "line" == Str.ofString "word") = false := by decide +kernel
    have s2 : (Str.ofString "line" == Str.ofString "place") = false := by decide +kernel
    have s3 : (Str.ofString "place" == Str.ofString "word") = false := by decide +kernel
    have s4 : (Str.ofString "line" == Str.ofString "line") = true := by decide +kernel
    have s5 : (Str.ofString "place" == Str.ofString "place") = true := by decide +kernel
    have s6 : (Str.ofString "word" == Str.ofString "word") = true := by decide +kernel
    have n1 := number_ok K (r : Int)
    have n2 := number_ok K (c : Int)
    have n3 := string_ok K k
    cases b <;> simp [F__law_asked, u131, startE, m__law_asked, i__law_asked_1, i__law_asked_2, i__law_asked_3, ht, q1, q2, q3, gIx, bad, e1, e2, a1, a2, a3, a4, a5, a6, a7, szl, kia_f, t1, t2, t3, hk, n1, n2, n3, List.lookup, s1, s2, s3, s4, s5, s6]
end K02

namespace K02
open Se PySem
section
variable {K : PySem.W.Frag} {mg : Str → Option Value}
/-- the reader at a text with a fault, and what is asked then -/
theorem read_flt {x : List Nat} {r c : Nat} {k : List Nat} {ts : List D} (hl : x.length ≤ 8388608) (e : Fin x (ini 1) = (some (r, c, k), ts)) : F__law_read K [.str x] = .rt (.lst true [.lst true ts, .int r, .int c, .str k]) [.str x] ∧ frzL ts = ts ∧ neL ts = true := by
  have h := read_ok K hl
  obtain ⟨q1, q2, q3⟩ := fz_all (tk_fin x 1)
  rw [e] at h q2 q3
  exact ⟨h, q2, q3⟩
theorem asked_flt (z : Z K mg) {x : List Nat} {r c : Nat} {k : List Nat} {ts : List D} (b : Bool) (hl : x.length ≤ 8388608) (e : Fin x (ini 1) = (some (r, c, k), ts)) : F__law_asked K [.str x, .lst false [.lst false ts, .int r, .int c, .str k], .bl b] = .rt (.bl true) [.str x, .lst false [.lst false ts, .int r, .int c, .str k], .bl b] := by
  have h := asked_ok z b hl
  rw [e] at h
  exact h
theorem gd_flt {ps : List (List Nat)} (h : Gd ps) {j : Nat} (hj : j < ps.length) {k f : List Nat} (hf : Ft k f) (rest : List Nat) : ∃ r c ts, Fin ((ps.take j).flatten ++ (f ++ rest)) (ini 1) = (some (r, c, k), ts) := by
  obtain ⟨qs, t, rfl, h1, h2, h3, h4, h5⟩ := h.ex
  rw [List.length_append, List.length_singleton] at hj
  rw [List.take_append_of_le_length (by omega)]
  obtain ⟨b, q, _⟩ := h4 j (by omega)
  obtain ⟨r, c, e⟩ := hf _ b q
  rw [Fin_app, Fin_app]
  exact ⟨r, c, _, Fin_flt e rest⟩
theorem gd_len {ps : List (List Nat)} (h : Gd ps) : ps.flatten.length ≤ 3000 ∧ ps.length ≤ 92 := by
  obtain ⟨qs, t, rfl, h1, h2, h3, h4, h5⟩ := h.ex
  have : ∀ l : List (List Nat), (∀ p ∈ l, p.length ≤ 32) → l.flatten.length ≤ 32 * l.length := by
    intro l
    induction l with
    | nil => intro _; simp
    | cons a l ih =>
      intro hl
      have := ih fun p hp => hl p (List.mem_cons_of_mem _ hp)
      have := hl a List.mem_cons_self
      simp only [List.flatten_cons, List.length_append, List.length_cons]
      omega
  have := this qs h3
  have := h5.1
  constructor
  · simp only [List.flatten_append, List.flatten_cons, List.flatten_nil, List.append_nil, List.length_append]
    omega
  · simp
    omega
theorem take_len {ps : List (List Nat)} (j : Nat) : (ps.take j).flatten.length ≤ ps.flatten.length := by
  have := congrArg (fun l => (List.flatten l).length) (List.take_append_drop j ps)
  simp only [List.flatten_append, List.length_append] at this
  omega
theorem drop_len {ps : List (List Nat)} (j : Nat) : (ps.drop j).flatten.length ≤ ps.flatten.length := by
  have := congrArg (fun l => (List.flatten l).length) (List.take_append_drop j ps)
  simp only [List.flatten_append, List.length_append] at this
  omega
theorem join_take {ps : List (List Nat)} (j : Nat) (h : ps.flatten.length ≤ 3000) : (gSl (.lst false (ps.map .str)) none (some (j : Int))).bind (gJoin []) = some (.str (ps.take j).flatten) := by
  show ((if fzL (ps.map D.str) = true then some (D.lst true (cutL (ps.map D.str) none (some (j : Int)))) else none)).bind _ = _
  rw [if_pos (fzL_strs ps), Option.bind_some, cutL_take, ← List.map_take]
  exact gJoin_strs (by have := take_len (ps := ps) j; omega)
theorem join_drop {ps : List (List Nat)} (j : Nat) (h : ps.flatten.length ≤ 3000) : (gSl (.lst false (ps.map .str)) (some (j : Int)) none).bind (gJoin []) = some (.str (ps.drop j).flatten) := by
  show ((if fzL (ps.map D.str) = true then some (D.lst true (cutL (ps.map D.str) (some (j : Int)) none)) else none)).bind _ = _
  rw [if_pos (fzL_strs ps), Option.bind_some, cutL_drop, ← List.map_drop]
  exact gJoin_strs (by have := drop_len (ps := ps) j; omega)
theorem join_mid {ps : List (List Nat)} {i j : Nat} (hij : i ≤ j) (h : ps.flatten.length ≤ 3000) : (gSl (.lst false (ps.map .str)) (some (i : Int)) (some (j : Int))).bind (gJoin []) = some (.str ((ps.drop i).take (j - i)).flatten) := by
  show ((if fzL (ps.map D.str) = true then some (D.lst true (cutL (ps.map D.str) (some (i : Int)) (some (j : Int)))) else none)).bind _ = _
  rw [if_pos (fzL_strs ps), Option.bind_some, cutL_range hij, ← List.map_drop, ← List.map_take]
  exact gJoin_strs (by
    have := take_len (ps := ps.drop i) (j - i)
    have := drop_len (ps := ps) i
    omega)
theorem bv_any {gm : List Nat → D → Option D} {w : List Nat} {y : Option D} : bvK gm (some (.str w)) y = y.bind (gm w) := rfl
theorem sp_step (z : Z K mg) {ps : List (List Nat)} (g : Gd ps) {n : Nat} {d : D} (s : St n d) (hn : n + 1 < 2 ^ 40) {fs : List D} {k : Nat} (hk : k < 3) {f kd : List Nat} (hf : ixD fs (k : Int) = some (.str f)) (hkd : ixD [D.str [115, 105, 103, 110], D.str [108, 111, 110, 103], D.str [115, 105, 103, 110]] (k : Int) = some (.str kd)) (hft : Ft kd f) (hl : f.length ≤ 70) (a7 a8 a9 : Option D) :
    ∃ d' a7' a8' a9', b__law_spoilt_2 K [some d, some (.lst false (ps.map .str)), some (.lst true fs), some (.int k), none, none, none, a7, a8, a9] = .nx [some d', some (.lst false (ps.map .str)), some (.lst true fs), some (.int k), none, none, none, a7', a8', a9'] ∧ St (n + 1) d' := by
  obtain ⟨l1, l2⟩ := gd_len g
  have l3 : 0 < ps.length := by
    obtain ⟨qs, t, rfl, _⟩ := g.ex
    simp
  obtain ⟨x, d1, e1, x0, x1, s1⟩ := next_ok K (many := ps.length) s (by omega) (by omega) (by omega)
  obtain ⟨j, rfl⟩ : ∃ j : Nat, x = j := ⟨x.toNat, by omega⟩
  obtain ⟨r, c, ts, e⟩ := gd_flt g (j := j) (by omega) hft (ps.drop j).flatten
  have jt := join_take (ps := ps) j l1
  have jd := join_drop (ps := ps) j l1
  have la := take_len (ps := ps) j
  have lb := drop_len (ps := ps) j
  generalize (ps.take j).flatten = A at e jt la
  generalize (ps.drop j).flatten = B at e jd lb
  obtain ⟨er, q2, q3⟩ := read_flt (K := K) (x := A ++ (f ++ B)) (by simp; omega) e
  have ea := asked_flt z (x := A ++ (f ++ B)) (decide (k = 0)) (by simp; omega) e
  have hd := s.ne
  have z1 : A.length + f.length ≤ 16777216 := by omega
  have z2 : A.length + f.length + B.length ≤ 16777216 := by omega
  have z3 : A.length + (f.length + B.length) ≤ 16777216 := by omega
  have hq : ((k : Int) = 0) = (k = 0) := by simp
  have hfz := fzL_strs ps
  have hne := neL_strs ps
  refine ⟨d1, some (.str (A ++ (f ++ B))), some (.lst false [.lst false ts, .int r, .int c, .str kd]), some (.int j), ?_, s1⟩
  simp [b__law_spoilt_2, i__law_spoilt_1, e1, hd, hne, hfz, szl, bv_any, jt, jd, hf, hkd, z1, z2, z3, er, q2, q3, ea, gIx, hq]
theorem spoilt_ok (z : Z K mg) {ps : List (List Nat)} (g : Gd ps) {n : Nat} {d : D} (s : St n d) (hn : n + 300 < 2 ^ 40) : ∃ d', F__law_spoilt K [d, .lst false (ps.map .str)] = .rt (.bl true) [d', .lst false (ps.map .str)] ∧ St (n + 300) d' := by
  obtain ⟨f0, f1, f2, d1, e1, hf0, hf1, hf2, hl0, hl1, hl2, s1⟩ := faults_ok K s (by omega)
  obtain ⟨l1, l2⟩ := gd_len g
  have l3 : 0 < ps.length := by
    obtain ⟨qs, t, rfl, _⟩ := g.ex
    simp
  have hd := s.ne
  have hd1 := s1.ne
  have loop : ∃ ρ', forF (fName 3) (b__law_spoilt_2 K) (rgD 0 3) [some d1, some (.lst false (ps.map .str)), some (.lst true [.str f0, .str f1, .str f2]), none, none, none, none, none, none, none] = .nx ρ' ∧ ∃ d' a3 a7 a8 a9, ρ' = [some d', some (.lst false (ps.map .str)), some (.lst true [.str f0, .str f1, .str f2]), a3, none, none, none, a7, a8, a9] ∧ St (n + 200 + 3) d' := by
    refine forF_range (fun k ρ => ∃ d' a3 a7 a8 a9, ρ = [some d', some (.lst false (ps.map .str)), some (.lst true [.str f0, .str f1, .str f2]), a3, none, none, none, a7, a8, a9] ∧ St (n + 200 + k) d') ⟨d1, none, none, none, none, rfl, s1⟩ ?_
    rintro k ρ hk ⟨d', a3, a7, a8, a9, rfl, s2⟩
    have key : ∃ f kd, ixD [D.str f0, D.str f1, D.str f2] (k : Int) = some (.str f) ∧ ixD [D.str [115, 105, 103, 110], D.str [108, 111, 110, 103], D.str [115, 105, 103, 110]] (k : Int) = some (.str kd) ∧ Ft kd f ∧ f.length ≤ 70 := by
      rcases (by omega : k = 0 ∨ k = 1 ∨ k = 2) with rfl | rfl | rfl
      · exact ⟨f0, sig, rfl, rfl, hf0, hl0⟩
      · exact ⟨f1, lng, rfl, rfl, hf1, hl1⟩
      · exact ⟨f2, sig, rfl, rfl, hf2, hl2⟩
    obtain ⟨f, kd, h1, h2, h3, h4⟩ := key
    obtain ⟨d2, b7, b8, b9, e2, s3⟩ := sp_step z g s2 (by omega) hk h1 h2 h3 h4 a7 a8 a9
    have e5 : (0 : Int) + (k : Nat) = (k : Nat) := by omega
    refine ⟨_, _, rfl, .inl ?_, d2, some (.int k), b7, b8, b9, rfl, s3⟩
    rw [e5]
    exact e2
  obtain ⟨ρ', e2, d2, a3, a7, a8, a9, rfl, s2⟩ := loop
  have hd2 := s2.ne
  obtain ⟨x, d3, e3, x0, x1, s3⟩ := next_ok K (many := ps.length) s2 (by omega) (by omega) (by omega)
  obtain ⟨i, rfl⟩ : ∃ i : Nat, x = i := ⟨x.toNat, by omega⟩
  have hd3 := s3.ne
  obtain ⟨y, d4, e4, y0, y1, s4⟩ := next_ok K (many := (ps.length : Int) - i) s3 (by omega) (by omega) (by omega)
  have hd4 := s4.ne
  obtain ⟨j, hj⟩ : ∃ j : Nat, (i : Int) + y = j := ⟨((i : Int) + y).toNat, by omega⟩
  obtain ⟨t, d5, e5, t0, t1, s5⟩ := next_ok K (many := 2) s4 (by omega) (by decide) (by decide)
  have key : ∃ f kd f', ixD [D.str f0, D.str f1, D.str f2] t = some (.str f) ∧ ixD [D.str f0, D.str f1, D.str f2] (1 - t) = some (.str f') ∧ ixD [D.str [115, 105, 103, 110], D.str [108, 111, 110, 103]] t = some (.str kd) ∧ Ft kd f ∧ f.length ≤ 70 ∧ f'.length ≤ 70 := by
    rcases (by omega : t = 0 ∨ t = 1) with rfl | rfl
    · exact ⟨f0, sig, f1, rfl, rfl, rfl, hf0, hl0, hl1⟩
    · exact ⟨f1, lng, f0, rfl, rfl, rfl, hf1, hl1, hl0⟩
  obtain ⟨f, kd, f', h1, h2, h3, h4, h5, h6⟩ := key
  obtain ⟨r, c, ts, e⟩ := gd_flt g (j := i) (by omega) h4 (((ps.drop i).take (j - i)).flatten ++ (f' ++ (ps.drop j).flatten))
  have jt := join_take (ps := ps) i l1
  have jm := join_mid (ps := ps) (i := i) (j := j) (by omega) l1
  have jd := join_drop (ps := ps) j l1
  have la := take_len (ps := ps) i
  have lb := drop_len (ps := ps) j
  have lm : ((ps.drop i).take (j - i)).flatten.length ≤ ps.flatten.length := Nat.le_trans (take_len _) (drop_len _)
  generalize (ps.take i).flatten = A at e jt la
  generalize (ps.drop j).flatten = B at e jd lb
  generalize ((ps.drop i).take (j - i)).flatten = C at e jm lm
  obtain ⟨er, q2, q3⟩ := read_flt (K := K) (x := A ++ (f ++ (C ++ (f' ++ B)))) (by simp; omega) e
  have ea := asked_flt z (x := A ++ (f ++ (C ++ (f' ++ B)))) false (by simp; omega) e
  have z1 : A.length + f.length ≤ 16777216 := by omega
  have z2 : A.length + f.length + C.length ≤ 16777216 := by omega
  have z3 : A.length + (f.length + C.length) ≤ 16777216 := by omega
  have z4 : A.length + f.length + C.length + f'.length ≤ 16777216 := by omega
  have z5 : A.length + (f.length + (C.length + f'.length)) ≤ 16777216 := by omega
  have z6 : A.length + f.length + C.length + f'.length + B.length ≤ 16777216 := by omega
  have z7 : A.length + (f.length + (C.length + (f'.length + B.length))) ≤ 16777216 := by omega
  have hfz := fzL_strs ps
  have hne := neL_strs ps
  have z8 : A.length + (f.length + C.length) + f'.length ≤ 16777216 := by omega
  have z9 : A.length + (f.length + (C.length + f'.length)) + B.length ≤ 16777216 := by omega
  have hr3 : rg1 [D.int 3] = some (rgD 0 3) := rfl
  refine ⟨d5, ?_, s5.le (by omega)⟩
  simp [F__law_spoilt, u131, startE, m__law_spoilt, e1, hd, hne, hr3, e2, hd1, hd2, e3, hd3, e4, hd4, hj, e5, hfz, szl, bv_any, jt, jm, jd, h1, h2, h3, z1, z2, z3, z4, z5, z6, z7, z8, z9, er, q2, q3, ea, gIx]
end
end K02

namespace K02
open Se PySem
section
variable {K : PySem.W.Frag} {mg : Str → Option Value}
theorem repD_len {α : Type} (k : Nat) (l : List α) : (repD k l).length = k * l.length := by
  unfold repD
  induction k with
  | zero => simp
  | succ k ih => rw [List.replicate_succ, List.flatten_cons, List.length_append, ih, Nat.succ_mul]; omega
theorem start_ok (K : PySem.W.Frag) (ns : List Int) (hn : ns.length ≤ 63) : ∃ d, F__law_start K [.lst false (ns.map D.int)] = .rt d [.lst false (ns.map D.int)] ∧ St 0 d := by
  have loop : ∃ ρ', forF (fName 3) (b__law_start_1 K) (ns.map D.int) [some (.lst false (ns.map D.int)), some (.int 2207), some (.lst true []), none] = .nx ρ' ∧
      ∃ (s : Int) (gs : List Int) (c : Option D), ρ' = [some (.lst false (ns.map D.int)), some (.int s), some (.lst true (gs.map D.int)), c] ∧ (0 ≤ s ∧ s < 1000003 ∧ (∀ g ∈ gs, 0 < g) ∧ gs.length ≤ (ns.map D.int).length) := by
    have z := forF_inv (f := fName 3) (m := b__law_start_1 K) (fun i ρ => ∃ (s : Int) (gs : List Int) (c : Option D), ρ = [some (.lst false (ns.map D.int)), some (.int s), some (.lst true (gs.map D.int)), c] ∧ (0 ≤ s ∧ s < 1000003 ∧ (∀ g ∈ gs, 0 < g) ∧ gs.length ≤ i)) (ns.map D.int) 0 [some (.lst false (ns.map D.int)), some (.int 2207), some (.lst true []), none] ⟨2207, [], none, rfl, by decide, by decide, by simp, by simp⟩ ?_
    · rwa [Nat.zero_add] at z
    rintro i d ρ hd ⟨s, gs, c, rfl, h1, h2, h3, h4⟩
    have hi : i < ns.length := by
      have := (List.getElem?_eq_some_iff.mp hd).1
      simpa using this
    simp only [List.getElem?_map, Option.map_eq_some_iff] at hd
    obtain ⟨x, hx, rfl⟩ := hd
    have k1 : CMulA s 4409 := cm7 (by decide) (by decide)
    have kp : L2.CPow 10 18 := ⟨by decide, by decide, by decide⟩
    have hg : gPow (.int 10) (.int 18) = some (.int 1000000000000000000) := by
      simp [gPow, kp]
    have hm0 : 0 ≤ (s * 4409 + x) % 1000003 := Int.emod_nonneg _ (by decide)
    have hm1 : (s * 4409 + x) % 1000003 < 1000003 := Int.emod_lt_of_pos _ (by decide)
    have hgl : gs.length < 16777216 := by omega
    by_cases hb : (1000000000000000000 : Int) ≤ (if x < 0 then -x else x)
    · refine ⟨_, [some (.lst false (ns.map D.int)), some (.int ((s * 4409 + x) % 1000003)), some (.lst true ((gs ++ [if x < 0 then -x else x]).map D.int)), some (.int x)], rfl, .inl ?_, _, gs ++ [if x < 0 then -x else x], some (.int x), rfl, hm0, hm1, fun g hg => ?_, by simp; omega⟩
      · simp [b__law_start_1, k1, hg, hb, szl, hgl]
      · rcases List.mem_append.mp hg with h | h
        · exact h3 g h
        · cases List.mem_singleton.mp h; omega
    · refine ⟨_, [some (.lst false (ns.map D.int)), some (.int ((s * 4409 + x) % 1000003)), some (.lst true (gs.map D.int)), some (.int x)], rfl, .inl ?_, _, gs, some (.int x), rfl, hm0, hm1, h3, by omega⟩
      simp [b__law_start_1, k1, hg, hb]
  obtain ⟨ρ', e, s, gs, c, rfl, h1, h2, h3, h4⟩ := loop
  have fr : frzL (ns.map D.int) = ns.map D.int := by clear e h4 hn; induction ns <;> simp_all
  have fz := fzL_ints ns
  refine ⟨stD gs 0 s 0, ?_, gs, 0, s, 0, rfl, h3, by omega, by omega, h1, h2, by omega⟩
  have it : itemsD (.lst false (ns.map D.int)) = some (ns.map D.int) := rfl
  simp [F__law_start, u131, startE, m__law_start, szl, e, fr, it, stD]
theorem wide_ok (z : Z K mg) {n : Nat} {d : D} (s : St n d) (hn : n + 20 < 2 ^ 40) : ∃ d', F__law_wide K [d] = .rt (.bl true) [d'] ∧ St (n + 20) d' := by
  obtain ⟨i, d1, e1, i0, i1, s1⟩ := next_ok K (many := 8) s (by omega) (by decide) (by decide)
  obtain ⟨u, hu, hu1, hu2⟩ := pick_at (l := ([[97, 98, 61], [10], [32], [59], [35, 65, 10], [120, 49, 32], [113, 10], [122]] : List (List Nat))) (p := fun c => 0 < c.length ∧ c.length ≤ 3) (by decide) i0 (by simpa using i1)
  have huD : ixD [D.str [97, 98, 61], D.str [10], D.str [32], D.str [59], D.str [35, 65, 10], D.str [120, 49, 32], D.str [113, 10], D.str [122]] i = some (.str u) := by
    have := ixD_map D.str [[97, 98, 61], [10], [32], [59], [35, 65, 10], [120, 49, 32], [113, 10], [122]] i
    simp only [List.map_cons, List.map_nil] at this
    rw [this, hu]
    rfl
  obtain ⟨y, d2, e2, y0, y1, s2⟩ := next_ok K (many := 40) s1 (by omega) (by decide) (by decide)
  obtain ⟨q, d3, e3, q0, q1, s3⟩ := next_ok K (many := 11) s2 (by omega) (by decide) (by decide)
  obtain ⟨w, d4, e4, hw, s4⟩ := word_ok K (k := (1 + q).toNat) s3 (by omega) (by omega) (by omega)
  have e4 : F__law_word K [d3, .int (1 + q)] = .rt (.str w) [d4, .int (1 + q)] := by
    have : (((1 + q).toNat : Nat) : Int) = 1 + q := Int.toNat_of_nonneg (by omega)
    rwa [this] at e4
  obtain ⟨t, d5, e5, t0, t1, s5⟩ := next_ok K (many := 8) s4 (by omega) (by decide) (by decide)
  obtain ⟨v, hv, hv1⟩ := pick_at (l := ([[59], [10, 40], [32, 97, 49, 50, 51, 52, 53, 54, 55, 56, 57, 48, 49], [32, 97, 49, 50, 51, 52, 53, 54, 55, 56, 57, 48, 49, 50], [10, 33], [10, 32, 90], [35, 32, 101, 110, 100], [61, 10, 10]] : List (List Nat))) (p := fun c => c.length ≤ 20) (by decide) t0 (by simpa using t1)
  have hvD : ixD [D.str [59], D.str [10, 40], D.str [32, 97, 49, 50, 51, 52, 53, 54, 55, 56, 57, 48, 49], D.str [32, 97, 49, 50, 51, 52, 53, 54, 55, 56, 57, 48, 49, 50], D.str [10, 33], D.str [10, 32, 90], D.str [35, 32, 101, 110, 100], D.str [61, 10, 10]] t = some (.str v) := by
    have := ixD_map D.str [[59], [10, 40], [32, 97, 49, 50, 51, 52, 53, 54, 55, 56, 57, 48, 49], [32, 97, 49, 50, 51, 52, 53, 54, 55, 56, 57, 48, 49, 50], [10, 33], [10, 32, 90], [35, 32, 101, 110, 100], [61, 10, 10]] t
    simp only [List.map_cons, List.map_nil] at this
    rw [this, hv]
    rfl
  obtain ⟨m, hm⟩ : ∃ m : Nat, (19800 : Int) / u.length - y = m := by
    refine ⟨((19800 : Int) / u.length - y).toNat, ?_⟩
    have : (6600 : Int) ≤ 19800 / u.length := by
      rcases (by omega : u.length = 1 ∨ u.length = 2 ∨ u.length = 3) with h | h | h <;> rw [h] <;> decide
    omega
  have hm2 : m ≤ 19800 := by
    have : (19800 : Int) / u.length ≤ 19800 := by
      rcases (by omega : u.length = 1 ∨ u.length = 2 ∨ u.length = 3) with h | h | h <;> rw [h] <;> decide
    omega
  have hum : m * u.length ≤ 60000 := by
    rcases (by omega : u.length = 1 ∨ u.length = 2 ∨ u.length = 3) with h | h | h <;> rw [h] <;> omega
  have hM : gMulA (.str u) (.int (m : Int)) = some (.str (repD m u)) := by
    have := gMulA_str (x := u) (k := (m : Int)) (by omega) (by omega) (by rw [Int.toNat_natCast, Nat.mul_comm]; omega)
    rwa [Int.toNat_natCast] at this
  have hbl := repD_len m u
  have hx : ∃ x : List Nat, x = w ++ (32 :: (repD m u ++ v)) ∧ x.length ≤ 8388608 := ⟨_, rfl, by
    have := hw.1
    simp only [List.length_append, List.length_cons, hbl]
    omega⟩
  obtain ⟨x, hx, hxl⟩ := hx
  have er := read_ok K hxl
  have fr := frz_res x 1
  have nr : neL [resF (Fin x (ini 1))] = true := by
    obtain ⟨q1, q2, q3⟩ := fz_all (tk_fin x 1)
    unfold resF
    generalize Fin x (ini 1) = F at q3
    obtain ⟨f, ts⟩ := F
    dsimp only at q3
    rcases f with _ | ⟨a, b, c⟩ <;> simp [q3]
  have nr : ne (resF (Fin x (ini 1))) = true := by simpa using nr
  have ea := asked_ok z (x := x) false hxl
  have hd := s.ne
  have hd1 := s1.ne
  have hd2 := s2.ne
  have hd3 := s3.ne
  have hd4 := s4.ne
  have hwl := hw.1
  have k0 : (0 : Int) < u.length := by omega
  have k1 : (u.length : Int) < 1073741824 := by omega
  have kD : L2.CDiv 19800 u.length := ⟨k0, k1⟩
  have z0 : u.length ≤ 16777216 := by omega
  have z1 : w.length + 1 ≤ 16777216 := by omega
  have z2 : w.length + 1 + (repD m u).length ≤ 16777216 := by omega
  have z3 : w.length + (1 + (repD m u).length) ≤ 16777216 := by omega
  have z4 : w.length + ((repD m u).length + 1) ≤ 16777216 := by omega
  have z5 : w.length + ((repD m u).length + 1) + v.length ≤ 16777216 := by omega
  have z6 : w.length + ((repD m u).length + v.length + 1) ≤ 16777216 := by omega
  refine ⟨d5, ?_, s5.le (by omega)⟩
  simp [F__law_wide, u131, startE, m__law_wide, e1, hd, huD, e2, hd1, kD, hm, hM, e3, hd2, e4, hd3, e5, hd4, hvD, szl, gIx, z0, z1, z2, z3, z4, z5, z6, ← hx, er, fr, nr, ea]
end
end K02

namespace K02
open Se PySem
section
variable {K : PySem.W.Frag} {mg : Str → Option Value}
theorem gd_fin {ps : List (List Nat)} (g : Gd ps) : ∃ ts, Fin ps.flatten (ini 1) = (none, ts) ∧ 2 ≤ ts.length := by
  obtain ⟨qs, t, rfl, h1, h2, h3, h4, h5⟩ := g.ex
  obtain ⟨b, q, hc⟩ := h4 qs.length (Nat.le_refl _)
  rw [List.take_length] at q hc
  obtain ⟨f1, f2⟩ := h5.2 _ b q
  refine ⟨(fin1 (rn (rn (ini 1) qs.flatten) t)).toks, ?_, ?_⟩
  · rw [List.flatten_append, Fin_app]
    show ((fin1 (rn _ ([t].flatten))).flt, (fin1 (rn _ ([t].flatten))).toks) = _
    rw [List.flatten_cons, List.flatten_nil, List.append_nil, f1]
  · rw [f2, hc]
    exact h1
theorem res_ok (x : List Nat) : fz (resF (Fin x (ini 1))) = true ∧ ne (resF (Fin x (ini 1))) = true := by
  obtain ⟨q1, q2, q3⟩ := fz_all (tk_fin x 1)
  unfold resF
  generalize Fin x (ini 1) = F at q3
  obtain ⟨f, ts⟩ := F
  dsimp only at q3
  rcases f with _ | ⟨a, b, c⟩ <;> simp [q3]
def bares : List (List Nat) := [[], [10], [32], [35], [35, 32, 97, 32, 61, 32, 33, 10], [32, 10, 10, 32, 32, 35, 32, 66]]
theorem bares_ok : ∀ b ∈ bares, Fin b (ini 1) = (none, []) ∧ b.length ≤ 10 := by
  intro b hb
  simp only [bares, List.mem_cons, List.not_mem_nil, or_false] at hb
  rcases hb with rfl | rfl | rfl | rfl | rfl | rfl <;> exact ⟨by rfl, by decide⟩
theorem law_ok (z : Z K mg) (ns : List Int) (hn : ns.length ≤ 63) : ∃ ds, F_law K [.lst false (ns.map Se.D.int)] = .rt (.bl true) ds := by
  obtain ⟨d0, e0, s0⟩ := start_ok K ns hn
  obtain ⟨ps, d1, e1, g, s1⟩ := pieces_ok K s0 (by omega)
  obtain ⟨l1, l2⟩ := gd_len g
  obtain ⟨ts, ef, ht⟩ := gd_fin g
  have eR := read_ok K (x := ps.flatten) (by omega)
  have eA := asked_ok z (x := ps.flatten) false (by omega)
  obtain ⟨q1, q2, q3⟩ := fz_all (tk_fin ps.flatten 1)
  have hln := toks_len ps.flatten 1
  rw [ef] at eR eA q1 q2 q3 hln
  dsimp only at q1 q2 q3 hln
  obtain ⟨d2, e2, s2⟩ := spoilt_ok z g s1 (by omega)
  have hj : gJoin [] (.lst true (ps.map .str)) = some (.str ps.flatten) := gJoin_strs (by omega)
  generalize ps.flatten = S at *
  simp only [resD] at eR
  simp only [resF] at eA
  obtain ⟨a, d3, e3, a0, a1, s3⟩ := next_ok K (many := (S.length : Int) + 1) s2 (by omega) (by omega) (by omega)
  obtain ⟨at', rfl⟩ : ∃ j : Nat, a = j := ⟨a.toNat, by omega⟩
  obtain ⟨o, d4, e4, ho, s4⟩ := odd_ok K s3 (by omega)
  obtain ⟨w1, d5, e5, hw1, s5⟩ := word_ok K (k := 1) s4 (by omega) (by decide) (by decide)
  have e5 : F__law_word K [d4, .int 1] = .rt (.str w1) [d5, .int 1] := e5
  obtain ⟨w2, d6, e6, hw2, s6⟩ := word_ok K (k := 12) s5 (by omega) (by decide) (by decide)
  have e6 : F__law_word K [d5, .int 12] = .rt (.str w2) [d6, .int 12] := e6
  obtain ⟨i, d7, e7, i0, i1, s7⟩ := next_ok K (many := 7) s6 (by omega) (by decide) (by decide)
  have lw1 := hw1.1
  have lw2 := hw2.1
  obtain ⟨m, hm, hm1⟩ := pick_at (l := ([[o], w1, [32], [10], [35], [59], w2] : List (List Nat))) (p := fun c => c.length ≤ 12) (by
    intro c hc
    simp only [List.mem_cons, List.not_mem_nil, or_false] at hc
    rcases hc with rfl | rfl | rfl | rfl | rfl | rfl | rfl <;> (try simp only [List.length_cons, List.length_nil]) <;> omega) i0 (by simpa using i1)
  have hmD : ixD [D.str [o], D.str w1, D.str [32], D.str [10], D.str [35], D.str [59], D.str w2] i = some (.str m) := by
    have := ixD_map D.str [[o], w1, [32], [10], [35], [59], w2] i
    simp only [List.map_cons, List.map_nil] at this
    rw [this, hm]
    rfl
  obtain ⟨A, hA⟩ : ∃ A, A = S.take at' := ⟨_, rfl⟩
  obtain ⟨B, hB⟩ : ∃ B, B = S.drop at' := ⟨_, rfl⟩
  have lA : A.length ≤ S.length := by rw [hA, List.length_take]; omega
  have lB : B.length ≤ S.length := by rw [hB, List.length_drop]; omega
  have cA : gSl (.str S) none (some (at' : Int)) = some (.str A) := by
    show (if S.length ≤ sizeLine then some (D.str (cutL S none (some (at' : Int)))) else none) = _
    rw [if_pos (by rw [szl]; omega), cutL_take, hA]
  have cB : gSl (.str S) (some (at' : Int)) none = some (.str B) := by
    show (if S.length ≤ sizeLine then some (D.str (cutL S (some (at' : Int)) none)) else none) = _
    rw [if_pos (by rw [szl]; omega), cutL_drop, hB]
  have eR3 := read_ok K (x := A ++ (m ++ B)) (by simp; omega)
  have eA3 := asked_ok z (x := A ++ (m ++ B)) true (by simp; omega)
  have fr3 := frz_res (A ++ (m ++ B)) 1
  obtain ⟨rf3, rn3⟩ := res_ok (A ++ (m ++ B))
  obtain ⟨j, d8, e8, j0, j1, s8⟩ := next_ok K (many := 6) s7 (by omega) (by decide) (by decide)
  obtain ⟨b, hb, hb1, hb2⟩ := pick_at (l := bares) (p := fun c => Fin c (ini 1) = (none, []) ∧ c.length ≤ 10) bares_ok j0 (by simpa [bares] using j1)
  have hbD : ixD (bares.map D.str) j = some (.str b) := by rw [ixD_map, hb]; rfl
  simp only [bares, List.map_cons, List.map_nil] at hbD
  have eA4 := asked_ok z (x := b) false (by omega)
  rw [hb1] at eA4
  simp only [resF] at eA4
  obtain ⟨c, d9, e9, c0, c1, s9⟩ := next_ok K (many := 13) s8 (by omega) (by decide) (by decide)
  obtain ⟨dA, e10, s10⟩ := wide_ok z s9 (by omega)
  have n0 := s0.ne
  have n1 := s1.ne
  have n2 := s2.ne
  have n3 := s3.ne
  have n4 := s4.ne
  have n5 := s5.ne
  have n6 := s6.ne
  have n7 := s7.ne
  have n8 := s8.ne
  have n9 := s9.ne
  have fp := fzL_strs ps
  have np := neL_strs ps
  have frp := frzL_strs ps
  have ni := neL_ints ns
  have fi := fzL_ints ns
  have z0 : S.length ≤ 16777216 := by omega
  have z1 : A.length + m.length ≤ 16777216 := by omega
  have z2 : A.length + m.length + B.length ≤ 16777216 := by omega
  have z3 : A.length + (m.length + B.length) ≤ 16777216 := by omega
  have hts : ¬ ((ts.length : Int) < 2) := by omega
  by_cases h4 : c = 4
  · subst h4
    refine ⟨[.lst false (ns.map Se.D.int)], ?_⟩
    simp [F_law, u131, startE, m_law, i_law_1, i_law_2, i_law_3, i_law_4, i_law_5, e0, e1, e2, e3, e4, e5, e6, e7, e8, e9, e10, n0, n1, n2, n3, n4, n5, n6, n7, n8, n9, ni, fi, fp, np, frp, hj, eR, eA, q1, q2, q3, hts, hmD, cA, cB, eR3, eA3, fr3, rf3, rn3, hbD, eA4, szl, gIx, z0, z1, z2, z3]
  · refine ⟨[.lst false (ns.map Se.D.int)], ?_⟩
    simp [F_law, u131, startE, m_law, i_law_1, i_law_2, i_law_3, i_law_4, i_law_5, e0, e1, e2, e3, e4, e5, e6, e7, e8, e9, n0, n1, n2, n3, n4, n5, n6, n7, n8, n9, ni, fi, fp, np, frp, hj, eR, eA, q1, q2, q3, hts, hmD, cA, cB, eR3, eA3, fr3, rf3, rn3, hbD, eA4, szl, gIx, z0, z1, z2, z3, h4]
end
end K02

theorem PySem.Challenge.cw_anysizes_k02_tokens_of_holds : PySem.Challenge.rw_anysizes_k02_tokens_of.Holds := by
  exact K02.holds fun K mg z => K02.law_ok z

