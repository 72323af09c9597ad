import PyProof.Rows.All
import Wide.All
import OpenK.AllK
import Wide.FinOn
import HandS.ForMost
import HandS.Exc
import HandS.ExcOwn
import HandS.TryOnly
import HandS.WordsExc
import HandS.Flow
import HandS.HotCalls
import HandS.IsInst
import HandS.Wide
import HandS.TupAny
import HandS.TupMul
import HandS.FStr
import HandS.More
import HandS.Style
import HandS.Rev
import HandS.Zip
import HandS.Defaults
import KE.KExcIs
import HandS.ExcField
import HandS.ExcInit
import HandS.ExcInitHot
import HandS.RaiseFrom
import HandS.Codes
import HandS.RaiseMore
import HandS.MapJoin
import HandS.HeadHook1
import HandS.HeadHook2
import HandS.Head0
import HandS.Head1
import HandS.Head2
import HandS.HeadEnd
import HandS.HeadHook4
import HandS.Dict
import HandS.SortInts
import KE.DataMinMax
import HandS.DictComp
import KE.GoesEnum
import KE.GoesZip
import KE.GoesMore
import PySem.Challenge.RW_anysizes_k09_forms_unknowns
set_option Elab.async false
set_option linter.all false
set_option maxRecDepth 100000
set_option maxHeartbeats 4000000

/-! Se: a value layer over HandS. Data (D) in the place of values and heap; what a piece of Python computes as a plain function over data; each rule once. -/
namespace Se
open PySem L2

/-- a text by its codes -/
def sx (l : List Nat) : Str := ⟨l.toArray⟩
/-- data: frozen lists (false) never change any more; own lists (true) stand at one place alone -/
inductive D where
  | non | bl (b : Bool) | int (i : Int) | str (x : List Nat) | ty (n : String) | obj (a : Addr)
  | exc (cls : Addr) (ns : List Str) (ds : List D)
  | tup (ds : List D)
  | lst (f : Bool) (ds : List D)
  | dct (f : Bool) (ks : List Key) (ds : List D)

structure RC where
  K : PySem.W.Frag
  hx : Option (Addr × Addr × Addr)

/-- a list that will not change -/
def FzL (_K : PySem.W.Frag) (H : Hp) (a : Addr) (vs : List V) : Prop := ∃ ob, H a = some (.frz ob (.lst vs))
theorem FzL.sq {K : PySem.W.Frag} {H : Hp} {a : Addr} {vs : List V} (h : FzL K H a vs) : SqL K H a vs := by
  obtain ⟨ob, h⟩ := h
  exact .inl (.inr ⟨ob, h⟩)

mutual
def Rep (C : RC) (H : Hp) : D → V → List Addr → Prop
  | .non, v, o => v = .non ∧ o = []
  | .bl b, v, o => v = .bl b ∧ o = []
  | .int i, v, o => v = .int i ∧ o = []
  | .str x, v, o => v = .str (sx x) ∧ o = []
  | .ty n, v, o => v = .ty n ∧ o = []
  | .obj a, v, o => v = .ref a ∧ o = []
  | .exc cls ns ds, v, o => ∃ a d vs, v = .ref a ∧ C.hx = some (a, cls, d) ∧ H d = some (.xd (ns.zip vs)) ∧ ns.length = ds.length ∧ RepL C H ds vs [] ∧ o = []
  | .tup ds, v, o => ∃ a vs, v = .ref a ∧ SqT C.K H a vs ∧ RepL C H ds vs o
  | .lst false ds, v, o => ∃ a vs, v = .ref a ∧ FzL C.K H a vs ∧ RepL C H ds vs [] ∧ o = []
  | .lst true ds, v, o => ∃ a vs o', v = .ref a ∧ H a = some (.lst vs) ∧ RepL C H ds vs o' ∧ a ∉ o' ∧ o = a :: o'
  | .dct false ks ds, v, o => ∃ a vs ob, v = .ref a ∧ H a = some (.frz ob (.dK (ks.zip vs))) ∧ ks.length = ds.length ∧ RepL C H ds vs [] ∧ o = []
  | .dct true ks ds, v, o => ∃ a vs o', v = .ref a ∧ H a = some (.dK (ks.zip vs)) ∧ ks.length = ds.length ∧ RepL C H ds vs o' ∧ a ∉ o' ∧ o = a :: o'
def RepL (C : RC) (H : Hp) : List D → List V → List Addr → Prop
  | [], vs, o => vs = [] ∧ o = []
  | d :: ds, vs, o => ∃ v vs' o1 o2, vs = v :: vs' ∧ Rep C H d v o1 ∧ RepL C H ds vs' o2 ∧ (∀ a ∈ o1, a ∉ o2) ∧ o = o1 ++ o2
end

/-- the environment -/
abbrev Env := List (Option D)
def ER (C : RC) (H : Hp) : Env → St → List Addr → Prop
  | [], σ, o => σ = [] ∧ o = []
  | none :: ρ, σ, o => ∃ x σ', σ = x :: σ' ∧ ER C H ρ σ' o
  | some d :: ρ, σ, o => ∃ v σ' o1 o2, σ = some v :: σ' ∧ Rep C H d v o1 ∧ ER C H ρ σ' o2 ∧ (∀ a ∈ o1, a ∉ o2) ∧ o = o1 ++ o2

structure Stp (H H' : Hp) (own own' : List Addr) : Prop where
  keep : ∀ a ob, H a = some ob → a ∉ own → H' a = some ob
  sub : ∀ a ∈ own', a ∈ own ∨ H a = none

def Muts (H : Hp) (own : List Addr) : Prop := ∀ a ∈ own, ∃ u, H a = some u ∧ Mut (some u)

section
variable {C : RC} {H H' : Hp}
mutual
theorem Rep.mut : ∀ {d : D} {v : V} {o : List Addr}, Rep C H d v o → Muts H o
  | .non, v, o, h => by obtain ⟨_, rfl⟩ := h; intro a ha; cases ha
  | .bl _, v, o, h => by obtain ⟨_, rfl⟩ := h; intro a ha; cases ha
  | .int _, v, o, h => by obtain ⟨_, rfl⟩ := h; intro a ha; cases ha
  | .str _, v, o, h => by obtain ⟨_, rfl⟩ := h; intro a ha; cases ha
  | .ty _, v, o, h => by obtain ⟨_, rfl⟩ := h; intro a ha; cases ha
  | .obj _, v, o, h => by obtain ⟨_, rfl⟩ := h; intro a ha; cases ha
  | .exc _ _ _, v, o, h => by obtain ⟨_, _, _, _, _, _, _, _, rfl⟩ := h; intro a ha; cases ha
  | .tup ds, v, o, h => by obtain ⟨_, _, _, _, h⟩ := h; exact RepL.mut h
  | .lst false ds, v, o, h => by obtain ⟨_, _, _, _, _, rfl⟩ := h; intro a ha; cases ha
  | .lst true ds, v, o, h => by
    obtain ⟨a, vs, o', _, e, h, _, rfl⟩ := h
    intro b hb
    rcases List.mem_cons.mp hb with rfl | hb
    · exact ⟨_, e, trivial⟩
    · exact RepL.mut h b hb
  | .dct false ks ds, v, o, h => by obtain ⟨_, _, _, _, _, _, _, rfl⟩ := h; intro a ha; cases ha
  | .dct true ks ds, v, o, h => by
    obtain ⟨a, vs, o', _, e, _, h, _, rfl⟩ := h
    intro b hb
    rcases List.mem_cons.mp hb with rfl | hb
    · exact ⟨_, e, trivial⟩
    · exact RepL.mut h b hb
theorem RepL.mut : ∀ {ds : List D} {vs : List V} {o : List Addr}, RepL C H ds vs o → Muts H o
  | [], vs, o, h => by obtain ⟨_, rfl⟩ := h; intro a ha; cases ha
  | d :: ds, vs, o, h => by
    obtain ⟨v, vs', o1, o2, _, h1, h2, _, rfl⟩ := h
    intro a ha
    rcases List.mem_append.mp ha with ha | ha
    · exact Rep.mut h1 a ha
    · exact RepL.mut h2 a ha
end
theorem ER.mut : ∀ {ρ : Env} {σ : St} {o : List Addr}, ER C H ρ σ o → Muts H o
  | [], _, o, h => by obtain ⟨_, rfl⟩ := h; intro a ha; cases ha
  | none :: ρ, _, o, h => by obtain ⟨_, _, _, h⟩ := h; exact ER.mut h
  | some d :: ρ, _, o, h => by
    obtain ⟨v, σ', o1, o2, _, h1, h2, _, rfl⟩ := h
    intro a ha
    rcases List.mem_append.mp ha with ha | ha
    · exact Rep.mut h1 a ha
    · exact ER.mut h2 a ha

/-- what is tracked, and not among own, stays -/
def Keeps (H H' : Hp) (own : List Addr) : Prop := ∀ a ob, H a = some ob → a ∉ own → H' a = some ob
theorem notMem {own : List Addr} (m : Muts H own) {a : Addr} {u : HO} (e : H a = some u) (n : ¬ Mut (some u)) : a ∉ own := fun ha => by
  obtain ⟨w, e', q⟩ := m a ha
  rw [e] at e'; cases e'
  exact n q
theorem Keeps.sqT {own : List Addr} (k : Keeps H H' own) (m : Muts H own) {K : PySem.W.Frag} {a : Addr} {vs : List V} (h : SqT K H a vs) : SqT K H' a vs := by
  rcases h with (h | ⟨o, h⟩) | h
  · exact .inl (.inl (k a _ h (notMem m h fun z => z)))
  · exact .inl (.inr ⟨o, k a _ h (notMem m h fun z => z)⟩)
  · exact .inr h
theorem Keeps.fzL {own : List Addr} (k : Keeps H H' own) (m : Muts H own) {K : PySem.W.Frag} {a : Addr} {vs : List V} (h : FzL K H a vs) : FzL K H' a vs := by
  obtain ⟨o, h⟩ := h
  exact ⟨o, k a _ h (notMem m h fun z => z)⟩
mutual
theorem Rep.keep {own : List Addr} (k : Keeps H H' own) (m : Muts H own) : ∀ {d : D} {v : V} {o : List Addr}, (∀ a ∈ o, a ∉ own) → Rep C H d v o → Rep C H' d v o
  | .non, v, o, _, h => h
  | .bl _, v, o, _, h => h
  | .int _, v, o, _, h => h
  | .str _, v, o, _, h => h
  | .ty _, v, o, _, h => h
  | .obj _, v, o, _, h => h
  | .exc _ _ ds, v, o, _, h => by
    obtain ⟨a, d, vs, e1, e2, e3, e4, h, rfl⟩ := h
    exact ⟨a, d, vs, e1, e2, k d _ e3 (notMem m e3 fun z => z), e4, RepL.keep k m (fun _ z => nomatch z) h, rfl⟩
  | .tup ds, v, o, hd, h => by
    obtain ⟨a, vs, e, q, h⟩ := h
    exact ⟨a, vs, e, k.sqT m q, RepL.keep k m hd h⟩
  | .lst false ds, v, o, hd, h => by
    obtain ⟨a, vs, e, q, h, rfl⟩ := h
    exact ⟨a, vs, e, k.fzL m q, RepL.keep k m (fun _ z => nomatch z) h, rfl⟩
  | .lst true ds, v, o, hd, h => by
    obtain ⟨a, vs, o', e, q, h, n, rfl⟩ := h
    exact ⟨a, vs, o', e, k a _ q (hd a List.mem_cons_self), RepL.keep k m (fun b hb => hd b (List.mem_cons_of_mem _ hb)) h, n, rfl⟩
  | .dct false ks ds, v, o, hd, h => by
    obtain ⟨a, vs, ob, e, q, l, h, rfl⟩ := h
    exact ⟨a, vs, ob, e, k a _ q (notMem m q fun z => z), l, RepL.keep k m (fun _ z => nomatch z) h, rfl⟩
  | .dct true ks ds, v, o, hd, h => by
    obtain ⟨a, vs, o', e, q, l, h, n, rfl⟩ := h
    exact ⟨a, vs, o', e, k a _ q (hd a List.mem_cons_self), l, RepL.keep k m (fun b hb => hd b (List.mem_cons_of_mem _ hb)) h, n, rfl⟩
theorem RepL.keep {own : List Addr} (k : Keeps H H' own) (m : Muts H own) : ∀ {ds : List D} {vs : List V} {o : List Addr}, (∀ a ∈ o, a ∉ own) → RepL C H ds vs o → RepL C H' ds vs o
  | [], vs, o, _, h => h
  | d :: ds, vs, o, hd, h => by
    obtain ⟨v, vs', o1, o2, e, h1, h2, n, rfl⟩ := h
    exact ⟨v, vs', o1, o2, e, Rep.keep k m (fun a ha => hd a (List.mem_append_left _ ha)) h1, RepL.keep k m (fun a ha => hd a (List.mem_append_right _ ha)) h2, n, rfl⟩
end
theorem ER.keep {own : List Addr} (k : Keeps H H' own) (m : Muts H own) : ∀ {ρ : Env} {σ : St} {o : List Addr}, (∀ a ∈ o, a ∉ own) → ER C H ρ σ o → ER C H' ρ σ o
  | [], _, o, _, h => h
  | none :: ρ, _, o, hd, h => by
    obtain ⟨x, σ', e, h⟩ := h
    exact ⟨x, σ', e, ER.keep k m hd h⟩
  | some d :: ρ, _, o, hd, h => by
    obtain ⟨v, vs', o1, o2, e, h1, h2, n, rfl⟩ := h
    exact ⟨v, vs', o1, o2, e, Rep.keep k m (fun a ha => hd a (List.mem_append_left _ ha)) h1, ER.keep k m (fun a ha => hd a (List.mem_append_right _ ha)) h2, n, rfl⟩
theorem ER.len : ∀ {ρ : Env} {σ : St} {o : List Addr}, ER C H ρ σ o → σ.length = ρ.length
  | [], _, o, h => by obtain ⟨rfl, _⟩ := h; rfl
  | none :: ρ, _, o, h => by obtain ⟨x, σ', rfl, h⟩ := h; simp [ER.len h]
  | some d :: ρ, _, o, h => by obtain ⟨v, σ', o1, o2, rfl, h1, h2, _, rfl⟩ := h; simp [ER.len h2]
theorem RepL.len : ∀ {ds : List D} {vs : List V} {o : List Addr}, RepL C H ds vs o → vs.length = ds.length
  | [], _, o, h => by obtain ⟨rfl, _⟩ := h; rfl
  | d :: ds, _, o, h => by obtain ⟨v, vs', o1, o2, rfl, h1, h2, _, rfl⟩ := h; simp [RepL.len h2]

theorem Stp.refl {own own' : List Addr} (h : ∀ a ∈ own', a ∈ own) : Stp H H own own' := ⟨fun _ _ e _ => e, fun a ha => .inl (h a ha)⟩
theorem Stp.trans {H1 H2 H3 : Hp} {o1 o2 o3 : List Addr} (a : Stp H1 H2 o1 o2) (b : Stp H2 H3 o2 o3) : Stp H1 H3 o1 o3 := by
  refine ⟨fun x ob e n => b.keep x ob (a.keep x ob e n) fun z => ?_, fun x hx => ?_⟩
  · rcases a.sub x z with q | q
    · exact n q
    · rw [e] at q; cases q
  · rcases b.sub x hx with q | q
    · exact a.sub x q
    · by_cases z : x ∈ o1
      · exact .inl z
      · right
        cases e : H1 x with
        | none => rfl
        | some ob => rw [a.keep x ob e z] at q; cases q
/-- with a part o held, that the second step does not touch -/
theorem Stp.held {H1 H2 H3 : Hp} {o1 o o2 o3 : List Addr} (a : Stp H1 H2 o1 (o ++ o2)) (b : Stp H2 H3 o2 o3) : Stp H1 H3 o1 (o ++ o3) := by
  refine ⟨fun x ob e n => b.keep x ob (a.keep x ob e n) fun z => ?_, fun x hx => ?_⟩
  · rcases a.sub x (List.mem_append_right _ z) with q | q
    · exact n q
    · rw [e] at q; cases q
  · rcases List.mem_append.mp hx with hx | hx
    · exact a.sub x (List.mem_append_left _ hx)
    · rcases b.sub x hx with q | q
      · exact a.sub x (List.mem_append_right _ q)
      · by_cases z : x ∈ o1
        · exact .inl z
        · right
          cases e : H1 x with
          | none => rfl
          | some ob => rw [a.keep x ob e z] at q; cases q
theorem Stp.less {own o o' : List Addr} (s : Stp H H' own o) (h : ∀ a ∈ o', a ∈ o) : Stp H H' own o' := ⟨s.keep, fun a ha => s.sub a (h a ha)⟩
/-- what was held is apart from what a further step owns -/
theorem Stp.apart {own own' o : List Addr} (s : Stp H H' own own') (m : Muts H o) (hd : ∀ a ∈ o, a ∉ own) : ∀ a ∈ o, a ∉ own' := fun a ha z => by
  rcases s.sub a z with q | q
  · exact hd a ha q
  · obtain ⟨u, e, _⟩ := m a ha
    rw [e] at q; cases q
end

/-! ### results -/
structure EX where
  cls : Addr
  ns : List Str
  ds : List D
inductive RE (α : Type) where
  | ok (a : α) (ρ : Env) | ex (e : EX) (ρ : Env) | bad
def RE.bind {α β : Type} (r : RE α) (k : α → Env → RE β) : RE β := match r with
  | .ok a ρ => k a ρ
  | .ex e ρ => .ex e ρ
  | .bad => .bad
abbrev M (α : Type) := Env → RE α
inductive SR where
  | nx (ρ : Env) | rt (d : D) (ρ : Env) | bk (ρ : Env) | ct (ρ : Env) | ex (e : EX) (ρ : Env) | bad
abbrev MS := Env → SR

def XR (C : RC) (H : Hp) (e : EX) (cls : Value) (d : Option Addr) : Prop :=
  cls = .ref e.cls ∧ ∃ dd vs, d = some dd ∧ H dd = some (.xd (e.ns.zip vs)) ∧ e.ns.length = e.ds.length ∧ RepL C H e.ds vs []

def PoE (C : RC) (W : WX) (r : RE D) (σ : St) (H : Hp) (own : List Addr) (Q : VK) : Prop := match r with
  | .ok d ρ' => ∀ v H' o own', Rep C H' d v o → ER C H' ρ' σ own' → (∀ a ∈ o, a ∉ own') → Stp H H' own (o ++ own') → Q v H'
  | .ex e ρ' => ∀ cls d H' own', XR C H' e cls d → ER C H' ρ' σ own' → Stp H H' own own' → W cls d σ H'
  | .bad => False
def PoA (C : RC) (W : WX) (r : RE (List D)) (σ : St) (H : Hp) (own : List Addr) (Q : List V → Hp → Prop) : Prop := match r with
  | .ok ds ρ' => ∀ vs H' o own', RepL C H' ds vs o → ER C H' ρ' σ own' → (∀ a ∈ o, a ∉ own') → Stp H H' own (o ++ own') → Q vs H'
  | .ex e ρ' => ∀ cls d H' own', XR C H' e cls d → ER C H' ρ' σ own' → Stp H H' own own' → W cls d σ H'
  | .bad => False
def PoT (C : RC) (W : WX) (r : RE Bool) (σ : St) (H : Hp) (own : List Addr) (Q : Bool → Hp → Prop) : Prop := match r with
  | .ok b ρ' => ∀ H' own', ER C H' ρ' σ own' → Stp H H' own own' → Q b H'
  | .ex e ρ' => ∀ cls d H' own', XR C H' e cls d → ER C H' ρ' σ own' → Stp H H' own own' → W cls d σ H'
  | .bad => False
/-- B: the slots that no statement rebinds -/
def PoS (C : RC) (W : WX) (B : List Nat) (r : SR) (σ : St) (H : Hp) (own : List Addr) (Dn : Ends) : Prop := match r with
  | .nx ρ' => ∀ σ' H' own', ER C H' ρ' σ' own' → Stp H H' own own' → (∀ j ∈ B, σ'[j]? = σ[j]?) → Dn.nx σ' H'
  | .rt d ρ' => ∀ v σ' H' o own', Rep C H' d v o → ER C H' ρ' σ' own' → (∀ a ∈ o, a ∉ own') → Stp H H' own (o ++ own') → (∀ j ∈ B, σ'[j]? = σ[j]?) → Dn.rt v H'
  | .bk ρ' => ∀ σ' H' own', ER C H' ρ' σ' own' → Stp H H' own own' → (∀ j ∈ B, σ'[j]? = σ[j]?) → Dn.bk σ' H'
  | .ct ρ' => ∀ σ' H' own', ER C H' ρ' σ' own' → Stp H H' own own' → (∀ j ∈ B, σ'[j]? = σ[j]?) → Dn.ct σ' H'
  | .ex e ρ' => ∀ cls d σ' H' own', XR C H' e cls d → ER C H' ρ' σ' own' → Stp H H' own own' → (∀ j ∈ B, σ'[j]? = σ[j]?) → W cls d σ' H'
  | .bad => False

/-- an expression computes m -/
structure SE (X : Cx) (W : WX) (C : RC) (e : Expr) (m : M D) : Prop where
  ex : ∃ t, PE X e t ∧ ∀ ρ σ H own Q, ER C H ρ σ own → PoE C W (m ρ) σ H own Q → t σ H Q
structure SA (X : Cx) (W : WX) (C : RC) (es : List Expr) (m : M (List D)) : Prop where
  ex : ∃ t, PA X es t ∧ ∀ ρ σ H own Q, ER C H ρ σ own → PoA C W (m ρ) σ H own Q → t σ H Q
structure ST (X : Cx) (W : WX) (C : RC) (e : Expr) (m : M Bool) : Prop where
  ex : ∃ t, PT X e t ∧ ∀ ρ σ H own Q, ER C H ρ σ own → PoT C W (m ρ) σ H own Q → t σ H Q
structure SS (X : Cx) (W : WX) (C : RC) (B : List Nat) (s : Stmt) (m : MS) : Prop where
  ex : ∃ t, PS X s t ∧ ∀ ρ σ H own Dn, ER C H ρ σ own → PoS C W B (m ρ) σ H own Dn → t Dn σ H
structure SSs (X : Cx) (W : WX) (C : RC) (B : List Nat) (s : List Stmt) (m : MS) : Prop where
  ex : ∃ t, PSs X s t ∧ ∀ ρ σ H own Dn, ER C H ρ σ own → PoS C W B (m ρ) σ H own Dn → t Dn σ H
end Se

namespace Se
open PySem L2

/-! ### taking a slot's datum out of the environment, putting one in -/
section
variable {C : RC} {H H' : Hp}
theorem ER.take : ∀ {ρ : Env} {σ : St} {own : List Addr} {i : Nat} {d : D}, ER C H ρ σ own → ρ[i]? = some (some d) →
    ∃ v o own1, σ[i]? = some (some v) ∧ Rep C H d v o ∧ ER C H (ρ.set i none) σ own1 ∧ (∀ a ∈ o, a ∉ own1) ∧ ∀ a, a ∈ own ↔ a ∈ o ∨ a ∈ own1
  | [], _, _, i, _, _, h => by simp at h
  | none :: ρ, _, own, 0, _, _, h => by simp at h
  | some d :: ρ, _, own, 0, d', h, e => by
    obtain ⟨v, σ', o1, o2, rfl, h1, h2, n, rfl⟩ := h
    simp at e; subst e
    exact ⟨v, o1, o2, rfl, h1, ⟨_, _, rfl, h2⟩, n, fun a => List.mem_append⟩
  | none :: ρ, _, own, i + 1, d', h, e => by
    obtain ⟨x, σ', rfl, h⟩ := h
    obtain ⟨v, o, own1, e1, r, er, n, m⟩ := ER.take (i := i) h (by simpa using e)
    exact ⟨v, o, own1, by simpa using e1, r, ⟨_, _, rfl, er⟩, n, m⟩
  | some d :: ρ, _, own, i + 1, d', h, e => by
    obtain ⟨v0, σ', o1, o2, rfl, h1, h2, n0, rfl⟩ := h
    obtain ⟨v, o, own1, e1, r, er, n, m⟩ := ER.take (i := i) h2 (by simpa using e)
    refine ⟨v, o, o1 ++ own1, by simpa using e1, r, ⟨v0, σ', o1, own1, rfl, h1, er, fun a ha z => n0 a ha ((m a).mpr (.inr z)), rfl⟩, fun a ha z => ?_, fun a => ?_⟩
    · rcases List.mem_append.mp z with z | z
      · exact n0 a z ((m a).mpr (.inl ha))
      · exact n a ha z
    · simp only [List.mem_append, m a]
      constructor
      · rintro (z | z | z)
        · exact .inr (.inl z)
        · exact .inl z
        · exact .inr (.inr z)
      · rintro (z | z | z)
        · exact .inr (.inl z)
        · exact .inl z
        · exact .inr (.inr z)
theorem ER.put : ∀ {ρ : Env} {σ : St} {own1 o : List Addr} {i : Nat} {d : D} {v : V}, ER C H ρ σ own1 → ρ[i]? = some none → σ[i]? = some (some v) → Rep C H d v o → (∀ a ∈ o, a ∉ own1) →
    ∃ own, ER C H (ρ.set i (some d)) σ own ∧ ∀ a, a ∈ own ↔ a ∈ o ∨ a ∈ own1
  | [], _, _, _, i, _, _, _, h, _, _, _ => by simp at h
  | some d :: ρ, _, own, _, 0, _, _, _, h, _, _, _ => by simp at h
  | none :: ρ, _, own, o, 0, d', v, h, e, es, r, n => by
    obtain ⟨x, σ', rfl, h⟩ := h
    simp at es; subst es
    exact ⟨o ++ own, ⟨v, σ', o, own, rfl, r, h, n, rfl⟩, fun a => List.mem_append⟩
  | none :: ρ, _, own, o, i + 1, d', v, h, e, es, r, n => by
    obtain ⟨x, σ', rfl, h⟩ := h
    obtain ⟨own', er, m⟩ := ER.put (i := i) h (by simpa using e) (by simpa using es) r n
    exact ⟨own', ⟨_, _, rfl, er⟩, m⟩
  | some d :: ρ, _, own, o, i + 1, d', v, h, e, es, r, n => by
    obtain ⟨v0, σ', o1, o2, rfl, h1, h2, n0, rfl⟩ := h
    obtain ⟨own', er, m⟩ := ER.put (i := i) h2 (by simpa using e) (by simpa using es) r fun a ha z => n a ha (List.mem_append_right _ z)
    refine ⟨o1 ++ own', ⟨v0, σ', o1, own', rfl, h1, er, fun a ha z => ?_, rfl⟩, fun a => ?_⟩
    · rcases (m a).mp z with z | z
      · exact n a z (List.mem_append_left _ ha)
      · exact n0 a ha z
    · simp only [List.mem_append, m a]
      constructor
      · rintro (z | z | z)
        · exact .inr (.inl z)
        · exact .inl z
        · exact .inr (.inr z)
      · rintro (z | z | z)
        · exact .inr (.inl z)
        · exact .inl z
        · exact .inr (.inr z)
/-- a slot forgotten, whatever stands in it -/
theorem ER.drop : ∀ {ρ : Env} {σ : St} {own : List Addr} {i : Nat} (x : Option V), ER C H ρ σ own → ∃ own1, ER C H (ρ.set i none) (σ.set i x) own1 ∧ ∀ a ∈ own1, a ∈ own
  | [], _, own, i, x, h => by obtain ⟨rfl, rfl⟩ := h; exact ⟨[], ⟨rfl, rfl⟩, fun _ z => z⟩
  | none :: ρ, _, own, 0, x, h => by obtain ⟨y, σ', rfl, h⟩ := h; exact ⟨own, ⟨x, σ', rfl, h⟩, fun _ z => z⟩
  | some d :: ρ, _, own, 0, x, h => by
    obtain ⟨v, σ', o1, o2, rfl, h1, h2, n, rfl⟩ := h
    exact ⟨o2, ⟨x, σ', rfl, h2⟩, fun _ z => List.mem_append_right _ z⟩
  | none :: ρ, _, own, i + 1, x, h => by
    obtain ⟨y, σ', rfl, h⟩ := h
    obtain ⟨own1, er, m⟩ := ER.drop (i := i) x h
    exact ⟨own1, ⟨y, _, rfl, er⟩, m⟩
  | some d :: ρ, _, own, i + 1, x, h => by
    obtain ⟨v, σ', o1, o2, rfl, h1, h2, n, rfl⟩ := h
    obtain ⟨own1, er, m⟩ := ER.drop (i := i) x h2
    refine ⟨o1 ++ own1, ⟨v, _, o1, own1, rfl, h1, er, fun a ha z => n a ha (m a z), rfl⟩, fun a ha => ?_⟩
    rcases List.mem_append.mp ha with z | z
    · exact List.mem_append_left _ z
    · exact List.mem_append_right _ (m a z)
/-- a slot set anew -/
theorem ER.set {ρ : Env} {σ : St} {own o : List Addr} {i : Nat} {d : D} {v : V} (h : ER C H ρ σ own) (hi : i < ρ.length) (r : Rep C H d v o) (n : ∀ a ∈ o, a ∉ own) :
    ∃ own', ER C H (ρ.set i (some d)) (σ.set i (some v)) own' ∧ ∀ a ∈ own', a ∈ o ∨ a ∈ own := by
  obtain ⟨own1, er, m⟩ := ER.drop (i := i) (some v) h
  have hl := h.len
  obtain ⟨own', er', m'⟩ := ER.put (i := i) er (by rw [List.getElem?_set_self hi]) (by rw [List.getElem?_set_self (by omega)]) r fun a ha z => n a ha (m a z)
  refine ⟨own', ?_, fun a ha => ?_⟩
  · rw [List.set_set] at er'
    exact er'
  · rcases (m' a).mp ha with z | z
    · exact .inl z
    · exact .inr (m a z)
end

/-! ### frozen data -/
mutual
def fz : D → Bool
  | .tup ds => fzL ds
  | .lst true _ => false
  | .dct true _ _ => false
  | _ => true
def fzL : List D → Bool
  | [] => true
  | d :: ds => fz d && fzL ds
end
mutual
def frz : D → D
  | .tup ds => .tup (frzL ds)
  | .lst _ ds => .lst false (frzL ds)
  | .dct _ ks ds => .dct false ks (frzL ds)
  | d => d
def frzL : List D → List D
  | [] => []
  | d :: ds => frz d :: frzL ds
end
theorem frzL_len : ∀ ds : List D, (frzL ds).length = ds.length
  | [] => rfl
  | d :: ds => by show (frzL ds).length + 1 = _; rw [frzL_len ds]; rfl
theorem fzL_all : ∀ ds : List D, fzL ds = ds.all fz
  | [] => rfl
  | d :: ds => by show (fz d && fzL ds) = _; rw [fzL_all ds]; rfl

def Frzn (o : List Addr) (H H' : Hp) : Prop := (∀ a, a ∉ o → H' a = H a) ∧ ∀ a ∈ o, ∀ u, H a = some u → ∃ od, H' a = some (.frz od u)
section
variable {C : RC} {H H' : Hp}
mutual
theorem Rep.fz_nil : ∀ {d : D} {v : V} {o : List Addr}, fz d = true → Rep C H d v o → o = []
  | .non, _, _, _, h => h.2
  | .bl _, _, _, _, h => h.2
  | .int _, _, _, _, h => h.2
  | .str _, _, _, _, h => h.2
  | .ty _, _, _, _, h => h.2
  | .obj _, _, _, _, h => h.2
  | .exc _ _ _, _, _, _, h => by obtain ⟨_, _, _, _, _, _, _, _, e⟩ := h; exact e
  | .tup ds, _, _, q, h => by obtain ⟨_, _, _, _, h⟩ := h; exact RepL.fz_nil (by simpa [fz] using q) h
  | .lst false ds, _, _, _, h => by obtain ⟨_, _, _, _, _, e⟩ := h; exact e
  | .lst true ds, _, _, q, h => by simp [fz] at q
  | .dct false ks ds, _, _, _, h => by obtain ⟨_, _, _, _, _, _, _, e⟩ := h; exact e
  | .dct true ks ds, _, _, q, h => by simp [fz] at q
theorem RepL.fz_nil : ∀ {ds : List D} {vs : List V} {o : List Addr}, fzL ds = true → RepL C H ds vs o → o = []
  | [], _, _, _, h => h.2
  | d :: ds, _, _, q, h => by
    obtain ⟨v, vs', o1, o2, _, h1, h2, _, rfl⟩ := h
    simp only [fzL, Bool.and_eq_true] at q
    rw [Rep.fz_nil q.1 h1, RepL.fz_nil q.2 h2]
    rfl
end
theorem Frzn.keeps {o : List Addr} (f : Frzn o H H') : Keeps H H' o := fun a ob e n => by rw [f.1 a n]; exact e
mutual
theorem Rep.frz {o' : List Addr} (f : Frzn o' H H') (m : Muts H o') : ∀ {d : D} {v : V} {o : List Addr}, (∀ a ∈ o, a ∈ o') → Rep C H d v o → Rep C H' (Se.frz d) v []
  | .non, _, _, _, h => ⟨h.1, rfl⟩
  | .bl _, _, _, _, h => ⟨h.1, rfl⟩
  | .int _, _, _, _, h => ⟨h.1, rfl⟩
  | .str _, _, _, _, h => ⟨h.1, rfl⟩
  | .ty _, _, _, _, h => ⟨h.1, rfl⟩
  | .obj _, _, _, _, h => ⟨h.1, rfl⟩
  | .exc cls ns ds, v, o, hs, h => by
    have e := Rep.fz_nil (by rfl) h
    subst e
    exact Rep.keep f.keeps m (fun _ z => nomatch z) h
  | .tup ds, v, o, hs, h => by
    obtain ⟨a, vs, e, q, h⟩ := h
    exact ⟨a, vs, e, f.keeps.sqT m q, RepL.frz f m hs h⟩
  | .lst false ds, v, o, hs, h => by
    obtain ⟨a, vs, e, q, h, rfl⟩ := h
    exact ⟨a, vs, e, f.keeps.fzL m q, RepL.frz f m (by simp) h, rfl⟩
  | .lst true ds, v, o, hs, h => by
    obtain ⟨a, vs, o', e, q, h, n, rfl⟩ := h
    obtain ⟨od, q'⟩ := f.2 a (hs a List.mem_cons_self) _ q
    exact ⟨a, vs, e, ⟨od, q'⟩, RepL.frz f m (fun b hb => hs b (List.mem_cons_of_mem _ hb)) h, rfl⟩
  | .dct false ks ds, v, o, hs, h => by
    obtain ⟨a, vs, ob, e, q, l, h, rfl⟩ := h
    exact ⟨a, vs, ob, e, f.keeps a _ q (notMem m q fun z => z), by rw [l]; exact (frzL_len ds).symm, RepL.frz f m (by simp) h, rfl⟩
  | .dct true ks ds, v, o, hs, h => by
    obtain ⟨a, vs, o', e, q, l, h, n, rfl⟩ := h
    obtain ⟨od, q'⟩ := f.2 a (hs a List.mem_cons_self) _ q
    exact ⟨a, vs, od, e, q', by rw [l]; exact (frzL_len ds).symm, RepL.frz f m (fun b hb => hs b (List.mem_cons_of_mem _ hb)) h, rfl⟩
theorem RepL.frz {o' : List Addr} (f : Frzn o' H H') (m : Muts H o') : ∀ {ds : List D} {vs : List V} {o : List Addr}, (∀ a ∈ o, a ∈ o') → RepL C H ds vs o → RepL C H' (frzL ds) vs []
  | [], _, _, _, h => ⟨h.1, rfl⟩
  | d :: ds, vs, o, hs, h => by
    obtain ⟨v, vs', o1, o2, rfl, h1, h2, n, rfl⟩ := h
    exact ⟨v, vs', [], [], rfl, Rep.frz f m (fun a ha => hs a (List.mem_append_left _ ha)) h1, RepL.frz f m (fun a ha => hs a (List.mem_append_right _ ha)) h2, fun _ z => (nomatch z), rfl⟩
end
end
section
variable {X : Cx} {pins : List (Addr × Obj)} {σ : St} {s : Shared} {e : Expr} {t : TE}
theorem lockAll : ∀ (o : List Addr) {H : Hp}, Inv X pins σ H s → Muts H o → ∃ H', Inv X pins σ H' s ∧ Frzn o H H'
  | [], H, I, _ => ⟨H, I, fun _ _ => rfl, fun _ z => nomatch z⟩
  | a :: o, H, I, m => by
    obtain ⟨H1, I1, f1⟩ := lockAll o I fun b hb => m b (List.mem_cons_of_mem _ hb)
    by_cases ha : a ∈ o
    · refine ⟨H1, I1, fun b hb => f1.1 b fun z => hb (List.mem_cons_of_mem _ z), fun b hb => ?_⟩
      rcases List.mem_cons.mp hb with rfl | hb
      · exact f1.2 b ha
      · exact f1.2 b hb
    · obtain ⟨u, e, mu⟩ := m a List.mem_cons_self
      have e1 : H1 a = some u := (f1.1 a ha).trans e
      obtain ⟨od, I2⟩ := Inv.lock I1 e1 mu
      refine ⟨_, I2, fun b hb => ?_, fun b hb v hv => ?_⟩
      · have hba : b ≠ a := fun z => hb (z ▸ List.mem_cons_self)
        rw [upd_ne hba]
        exact f1.1 b fun z => hb (List.mem_cons_of_mem _ z)
      · by_cases hba : b = a
        · subst hba
          rw [e] at hv; cases hv
          exact ⟨od, upd_same⟩
        · rw [upd_ne hba]
          exact f1.2 b ((List.mem_cons.mp hb).resolve_left hba) v hv
/-- what an expression gives, frozen behind it -/
def tFz (t : TE) : TE := fun σ H Q => t σ H fun v H1 => ∃ o, Muts H1 o ∧ ∀ H2, Frzn o H1 H2 → Q v H2
theorem pe_fz (h : PE X e t) : PE X e (tFz t) := by
  refine ⟨fun pins s σ H Q I hw => ?_⟩
  refine thn (h.run pins s σ H _ I hw) fun u s1 ⟨v, H1, I1, r, o, m, q⟩ => ?_
  obtain ⟨H2, I2, f⟩ := lockAll o I1 m
  exact ⟨v, H2, I2, r, q H2 f⟩
end

/-! ### one computation behind another -/
section
variable {C : RC} {W : WX} {σ : St} {H Hb : Hp} {own ownb : List Addr}
abbrev ExOk (C : RC) (W : WX) (σ : St) (H : Hp) (own : List Addr) (P : EX → Env → Prop) : Prop := ∀ e ρ', P e ρ' → ∀ cls d H' own', XR C H' e cls d → ER C H' ρ' σ own' → Stp H H' own own' → W cls d σ H'
theorem poE_bind {β : Type} {r : RE D} {k : D → Env → RE β} {P : RE β → Prop} {Q1 : VK} (hw : P (r.bind k)) (hb : ¬ P .bad) (hex : ExOk C W σ H own fun e ρ' => P (.ex e ρ'))
    (hok : ∀ d ρ' v H' o own', Rep C H' d v o → ER C H' ρ' σ own' → (∀ a ∈ o, a ∉ own') → Stp H H' own (o ++ own') → P (k d ρ') → Q1 v H') : PoE C W r σ H own Q1 := by
  cases r with
  | ok d ρ' => exact fun v H' o own' r1 r2 r3 r4 => hok d ρ' v H' o own' r1 r2 r3 r4 hw
  | ex e ρ' => exact hex e ρ' hw
  | bad => exact (hb hw).elim
theorem poA_bind {β : Type} {r : RE (List D)} {k : List D → Env → RE β} {P : RE β → Prop} {Q1 : List V → Hp → Prop} (hw : P (r.bind k)) (hb : ¬ P .bad) (hex : ExOk C W σ H own fun e ρ' => P (.ex e ρ'))
    (hok : ∀ ds ρ' vs H' o own', RepL C H' ds vs o → ER C H' ρ' σ own' → (∀ a ∈ o, a ∉ own') → Stp H H' own (o ++ own') → P (k ds ρ') → Q1 vs H') : PoA C W r σ H own Q1 := by
  cases r with
  | ok d ρ' => exact fun v H' o own' r1 r2 r3 r4 => hok d ρ' v H' o own' r1 r2 r3 r4 hw
  | ex e ρ' => exact hex e ρ' hw
  | bad => exact (hb hw).elim
theorem poT_bind {β : Type} {r : RE Bool} {k : Bool → Env → RE β} {P : RE β → Prop} {Q1 : Bool → Hp → Prop} (hw : P (r.bind k)) (hb : ¬ P .bad) (hex : ExOk C W σ H own fun e ρ' => P (.ex e ρ'))
    (hok : ∀ b ρ' H' own', ER C H' ρ' σ own' → Stp H H' own own' → P (k b ρ') → Q1 b H') : PoT C W r σ H own Q1 := by
  cases r with
  | ok d ρ' => exact fun H' own' r2 r4 => hok d ρ' H' own' r2 r4 hw
  | ex e ρ' => exact hex e ρ' hw
  | bad => exact (hb hw).elim
theorem exE {Q : VK} : ExOk C W σ H own fun e ρ' => PoE C W (.ex e ρ') σ H own Q := fun _ _ h => h
theorem exA {Q : List V → Hp → Prop} : ExOk C W σ H own fun e ρ' => PoA C W (.ex e ρ') σ H own Q := fun _ _ h => h
theorem exT {Q : Bool → Hp → Prop} : ExOk C W σ H own fun e ρ' => PoT C W (.ex e ρ') σ H own Q := fun _ _ h => h
/-- the same with a part held at a later base -/
theorem ExOk.at {P : EX → Env → Prop} {o : List Addr} (h : ExOk C W σ H own P) (s : Stp H Hb own (o ++ ownb)) : ExOk C W σ Hb ownb P := fun e ρ' p cls d H' own' x er st =>
  h e ρ' p cls d H' own' x er ((s.held st).less fun a ha => List.mem_append_right _ ha)
theorem ExOk.at0 {P : EX → Env → Prop} (h : ExOk C W σ H own P) (s : Stp H Hb own ownb) : ExOk C W σ Hb ownb P := fun e ρ' p cls d H' own' x er st =>
  h e ρ' p cls d H' own' x er (s.trans st)
end
/-- a result of the same heap base, moved: Q wanted relative to an earlier base -/
theorem Stp.ext {H H1 H2 : Hp} {own o own1 o2 : List Addr} (s : Stp H H1 own (o ++ own1)) (k : ∀ a ob, H1 a = some ob → H2 a = some ob) (hn : ∀ a ∈ o2, a ∈ o ∨ H1 a = none) : Stp H H2 own (o2 ++ own1) := by
  refine ⟨fun a ob e n => k a ob (s.keep a ob e n), fun a ha => ?_⟩
  rcases List.mem_append.mp ha with z | z
  · rcases hn a z with q | q
    · exact s.sub a (List.mem_append_left _ q)
    · by_cases y : a ∈ own
      · exact .inl y
      · right
        cases e : H a with
        | none => rfl
        | some ob => rw [s.keep a ob e y] at q; cases q
  · exact s.sub a (List.mem_append_right _ z)
abbrev Ext (H H' : Hp) : Prop := ∀ a ob, H a = some ob → H' a = some ob
theorem Ext.refl {H : Hp} : Ext H H := fun _ _ h => h
theorem Ext.new {H : Hp} {p : Addr} {o : HO} (h : H p = none) : Ext H (upd H p o) := fun a u e => by
  rw [upd_ne (ne_of_none e h)]
  exact e
theorem Ext.keeps {H H' : Hp} (k : Ext H H') : Keeps H H' [] := fun a ob e _ => k a ob e
theorem muts_nil {H : Hp} : Muts H [] := fun _ z => nomatch z
theorem Rep.ext {C : RC} {H H' : Hp} {d : D} {v : V} {o : List Addr} (h : Rep C H d v o) (k : Ext H H') : Rep C H' d v o := h.keep k.keeps muts_nil fun _ _ z => nomatch z
theorem RepL.ext {C : RC} {H H' : Hp} {ds : List D} {vs : List V} {o : List Addr} (h : RepL C H ds vs o) (k : Ext H H') : RepL C H' ds vs o := h.keep k.keeps muts_nil fun _ _ z => nomatch z
theorem ER.ext {C : RC} {H H' : Hp} {ρ : Env} {σ : St} {o : List Addr} (h : ER C H ρ σ o) (k : Ext H H') : ER C H' ρ σ o := h.keep k.keeps muts_nil fun _ _ z => nomatch z
/-- the end of an expression: d made of what was held (o) and new -/
theorem PoE.fin {C : RC} {W : WX} {σ : St} {H H1 H2 : Hp} {own o own1 o2 : List Addr} {Q : VK} {d : D} {ρ' : Env} {v : V} (hw : PoE C W (.ok d ρ') σ H own Q) (s : Stp H H1 own (o ++ own1)) (er : ER C H1 ρ' σ own1) (dj : ∀ a ∈ o, a ∉ own1)
    (k : Ext H1 H2) (r : Rep C H2 d v o2) (hn : ∀ a ∈ o2, a ∈ o ∨ H1 a = none) : Q v H2 := by
  refine hw v H2 o2 own1 r (er.ext k) (fun a ha z => ?_) (s.ext k hn)
  rcases hn a ha with q | q
  · exact dj a q z
  · obtain ⟨u, e, _⟩ := er.mut a z
    rw [e] at q; cases q
theorem RepL.two {C : RC} {H : Hp} {d1 d2 : D} {v1 v2 : V} {o1 o2 : List Addr} (h1 : Rep C H d1 v1 o1) (h2 : Rep C H d2 v2 o2) (n : ∀ a ∈ o1, a ∉ o2) : RepL C H [d1, d2] [v1, v2] (o1 ++ (o2 ++ [])) :=
  ⟨v1, [v2], o1, o2 ++ [], rfl, h1, ⟨v2, [], o2, [], rfl, h2, (show ([] : List V) = [] ∧ ([] : List Addr) = [] from ⟨rfl, rfl⟩), (by simp), rfl⟩, fun a ha z => n a ha (by simpa using z), rfl⟩
/-- two expressions in a row -/
theorem two {C : RC} {W : WX} {σ : St} {H : Hp} {own : List Addr} {ma mb : M D} {ta tb : TE} (sa : ∀ ρ σ H own Q, ER C H ρ σ own → PoE C W (ma ρ) σ H own Q → ta σ H Q) (sb : ∀ ρ σ H own Q, ER C H ρ σ own → PoE C W (mb ρ) σ H own Q → tb σ H Q)
    {β : Type} {k : D → D → Env → RE β} {P : RE β → Prop} {ρ : Env} {R : V → V → Hp → Prop} (er : ER C H ρ σ own) (hw : P ((ma ρ).bind fun d1 ρ1 => (mb ρ1).bind fun d2 ρ2 => k d1 d2 ρ2)) (hb : ¬ P .bad) (hex : ExOk C W σ H own fun e ρ' => P (.ex e ρ'))
    (fin : ∀ d1 d2 ρ2 v1 v2 H2 o1 o2 own2, Rep C H2 d1 v1 o1 → Rep C H2 d2 v2 o2 → ER C H2 ρ2 σ own2 → (∀ a ∈ o1, a ∉ o2) → (∀ a ∈ o1 ++ o2, a ∉ own2) → Stp H H2 own ((o1 ++ o2) ++ own2) → P (k d1 d2 ρ2) → R v1 v2 H2) :
    ta σ H fun x H1 => tb σ H1 fun y H2 => R x y H2 := by
  refine sa ρ σ H own _ er (poE_bind hw hb hex fun d1 ρ1 v1 H1 o1 own1 r1 e1 j1 s1 hw1 => ?_)
  refine sb ρ1 σ H1 own1 _ e1 (poE_bind hw1 hb (hex.at s1) fun d2 ρ2 v2 H2 o2 own2 r2 e2 j2 s2 hw2 => ?_)
  have j12 : ∀ a ∈ o1, a ∉ o2 ++ own2 := s2.apart r1.mut j1
  refine fin d1 d2 ρ2 v1 v2 H2 o1 o2 own2 (r1.keep s2.keep e1.mut j1) r2 e2 (fun a ha z => j12 a ha (List.mem_append_left _ z)) (fun a ha z => ?_) ?_ hw2
  · rcases List.mem_append.mp ha with q | q
    · exact j12 a q (List.mem_append_right _ z)
    · exact j2 a q z
  · rw [List.append_assoc]
    exact s1.held s2
end Se

namespace Se
open PySem L2

/-! ### views: expressions that change nothing -/
structure SV (X : Cx) (C : RC) (e : Expr) (f : Env → Option D) : Prop where
  ex : ∃ t, PE X e t ∧ ∀ ρ σ H own Q, ER C H ρ σ own → ∀ d, f ρ = some d → (∀ v H' o, Rep C H' d v o → Ext H H' → Q v H') → t σ H Q
/-- pairwise, whoever owns what -/
def RepW (C : RC) (H : Hp) : List D → List V → Prop
  | [], vs => vs = []
  | d :: ds, vs => ∃ v vs' o, vs = v :: vs' ∧ Rep C H d v o ∧ RepW C H ds vs'
theorem RepL.w {C : RC} {H : Hp} : ∀ {ds : List D} {vs : List V} {o : List Addr}, RepL C H ds vs o → RepW C H ds vs
  | [], _, _, h => h.1
  | _ :: _, _, _, h => by obtain ⟨v, vs', o1, o2, e, h1, h2, _, _⟩ := h; exact ⟨v, vs', o1, e, h1, h2.w⟩
theorem RepW.ext {C : RC} {H H' : Hp} (k : Ext H H') : ∀ {ds : List D} {vs : List V}, RepW C H ds vs → RepW C H' ds vs
  | [], _, h => h
  | _ :: _, _, h => by obtain ⟨v, vs', o, e, h1, h2⟩ := h; exact ⟨v, vs', o, e, h1.ext k, RepW.ext k h2⟩
theorem RepW.fz {C : RC} {H : Hp} : ∀ {ds : List D} {vs : List V}, fzL ds = true → RepW C H ds vs → RepL C H ds vs []
  | [], _, _, h => ⟨h, rfl⟩
  | d :: ds, _, q, h => by
    obtain ⟨v, vs', o, e, h1, h2⟩ := h
    simp only [fzL, Bool.and_eq_true] at q
    have e1 := Rep.fz_nil q.1 h1
    subst e1
    exact ⟨v, vs', [], [], e, h1, RepW.fz q.2 h2, (by simp), rfl⟩
theorem RepL.at {C : RC} {H : Hp} : ∀ {ds : List D} {vs : List V} {o : List Addr} {i : Nat} {d : D}, RepL C H ds vs o → ds[i]? = some d → ∃ v o', vs[i]? = some v ∧ Rep C H d v o' ∧ ∀ a ∈ o', a ∈ o
  | [], _, _, i, _, _, e => by simp at e
  | d :: ds, _, _, 0, d', h, e => by
    obtain ⟨v, vs', o1, o2, rfl, h1, h2, _, rfl⟩ := h
    simp at e; subst e
    exact ⟨v, o1, rfl, h1, fun a z => List.mem_append_left _ z⟩
  | d :: ds, _, _, i + 1, d', h, e => by
    obtain ⟨v, vs', o1, o2, rfl, h1, h2, _, rfl⟩ := h
    obtain ⟨v2, o', e2, r2, s2⟩ := RepL.at (i := i) h2 (by simpa using e)
    exact ⟨v2, o', by simpa using e2, r2, fun a z => List.mem_append_right _ (s2 a z)⟩

/-! ### combinators -/
def eLit (d : D) : M D := fun ρ => .ok d ρ
def vLit (d : D) : Env → Option D := fun _ => some d
def vVar (i : Nat) : Env → Option D := fun ρ => (ρ[i]?).join
/-- a name as a value that may be kept: frozen -/
def eVar (i : Nat) : M D := fun ρ => match (ρ[i]?).join with
  | some d => if fz d = true then .ok d ρ else .ok (frz d) (ρ.set i (some (frz d)))
  | none => .bad
/-- a name read for the last time -/
def eMove (i : Nat) : M D := fun ρ => match (ρ[i]?).join with
  | some d => .ok d (ρ.set i none)
  | none => .bad
def eQ (f : Env → Option D) : M D := fun ρ => match f ρ with
  | some d => if fz d = true then .ok d ρ else .bad
  | none => .bad
def ofO {α : Type} (x : Option α) (ρ : Env) : RE α := match x with
  | some d => .ok d ρ
  | none => .bad
def eOp2 (g : D → D → Option D) (ma mb : M D) : M D := fun ρ => (ma ρ).bind fun a ρ1 => (mb ρ1).bind fun b ρ2 => ofO (g a b) ρ2
def vOp2 (g : D → D → Option D) (fa fb : Env → Option D) : Env → Option D := fun ρ => (fa ρ).bind fun a => (fb ρ).bind fun b => g a b
def aNil : M (List D) := fun ρ => .ok [] ρ
def aCons (ma : M D) (ms : M (List D)) : M (List D) := fun ρ => (ma ρ).bind fun d ρ1 => (ms ρ1).bind fun ds ρ2 => .ok (d :: ds) ρ2
def eOpn (g : List D → Option D) (ms : M (List D)) : M D := fun ρ => (ms ρ).bind fun ds ρ1 => ofO (g ds) ρ1
def wNil : Env → Option (List D) := fun _ => some []
def wCons (fa : Env → Option D) (fs : Env → Option (List D)) : Env → Option (List D) := fun ρ => (fa ρ).bind fun d => (fs ρ).bind fun ds => some (d :: ds)
def vOpn (g : List D → Option D) (fs : Env → Option (List D)) : Env → Option D := fun ρ => (fs ρ).bind g
structure SW (X : Cx) (C : RC) (es : List Expr) (f : Env → Option (List D)) : Prop where
  ex : ∃ t, PA X es t ∧ ∀ ρ σ H own Q, ER C H ρ σ own → ∀ ds, f ρ = some ds → (∀ vs H', RepW C H' ds vs → Ext H H' → Q vs H') → t σ H Q

section
variable {X : Cx} {W : WX} {C : RC} {e a b : Expr} {es : List Expr} {ma mb : M D} {ms : M (List D)} {fa fb : Env → Option D} {fs : Env → Option (List D)} {pos : Pos}

theorem se_c {v : V} {d : D} (h : PE X e (tC v)) (r : ∀ H, Rep C H d v []) : SE X W C e (eLit d) := by
  refine ⟨_, h, fun ρ σ H own Q er hw => ?_⟩
  exact hw v H [] own (r H) er (by simp) (Stp.refl (by simp))
theorem sv_c {v : V} {d : D} (h : PE X e (tC v)) (r : ∀ H, Rep C H d v []) : SV X C e (vLit d) := by
  refine ⟨_, h, fun ρ σ H own Q er d' hd hw => ?_⟩
  cases hd
  exact hw v H [] (r H) Ext.refl
theorem se_int {i j pos} : SE X W C (.Constant (.int i) j pos) (eLit (.int i)) := se_c pe_int fun _ => ⟨rfl, rfl⟩
theorem sv_int {i j pos} : SV X C (.Constant (.int i) j pos) (vLit (.int i)) := sv_c pe_int fun _ => ⟨rfl, rfl⟩
theorem se_bl {i j pos} : SE X W C (.Constant (.bool i) j pos) (eLit (.bl i)) := se_c pe_bl fun _ => ⟨rfl, rfl⟩
theorem sv_bl {i j pos} : SV X C (.Constant (.bool i) j pos) (vLit (.bl i)) := sv_c pe_bl fun _ => ⟨rfl, rfl⟩
theorem se_non {j pos} : SE X W C (.Constant .none j pos) (eLit .non) := se_c pe_non fun _ => ⟨rfl, rfl⟩
theorem sv_non {j pos} : SV X C (.Constant .none j pos) (vLit .non) := sv_c pe_non fun _ => ⟨rfl, rfl⟩
theorem se_str {x j pos} (l : List Nat) (e : x = sx l) : SE X W C (.Constant (.str x) j pos) (eLit (.str l)) := se_c pe_str fun _ => ⟨by rw [e], rfl⟩
theorem sv_str {x j pos} (l : List Nat) (e : x = sx l) : SV X C (.Constant (.str x) j pos) (vLit (.str l)) := sv_c pe_str fun _ => ⟨by rw [e], rfl⟩
theorem se_glob {x : Str} {v : V} {d : D} {u : Value} {pos : Pos} (hg : Gl X x) (hm : X.mg x = some u) (r : RelV v u) (rd : ∀ H, Rep C H d v []) (hd : (x == ("__debug__" : Str)) = false := by decide) : SE X W C (.Name x pos) (eLit d) := se_c (pe_glob hg hm r hd) rd
theorem sv_glob {x : Str} {v : V} {d : D} {u : Value} {pos : Pos} (hg : Gl X x) (hm : X.mg x = some u) (r : RelV v u) (rd : ∀ H, Rep C H d v []) (hd : (x == ("__debug__" : Str)) = false := by decide) : SV X C (.Name x pos) (vLit d) := sv_c (pe_glob hg hm r hd) rd
theorem se_ty {x : Str} {n : String} {pos : Pos} (hg : Gl X x) (hm : X.mg x = none) (hv : bootBuiltins x = some (.type n)) (hn : x ≠ "__name__" := by decide) (hd : (x == ("__debug__" : Str)) = false := by decide) : SE X W C (.Name x pos) (eLit (.ty n)) :=
  se_c (v := .ty n) (pe_bltn hg hm hv rfl hn hd) fun _ => ⟨rfl, rfl⟩
theorem sv_ty {x : Str} {n : String} {pos : Pos} (hg : Gl X x) (hm : X.mg x = none) (hv : bootBuiltins x = some (.type n)) (hn : x ≠ "__name__" := by decide) (hd : (x == ("__debug__" : Str)) = false := by decide) : SV X C (.Name x pos) (vLit (.ty n)) :=
  sv_c (v := .ty n) (pe_bltn hg hm hv rfl hn hd) fun _ => ⟨rfl, rfl⟩

theorem join_some {ρ : Env} {i : Nat} {d : D} (h : (ρ[i]?).join = some d) : ρ[i]? = some (some d) := by
  cases e : ρ[i]? with
  | none => rw [e] at h; cases h
  | some x =>
    rw [e] at h
    cases x with
    | none => cases h
    | some y => cases h; rfl
theorem sv_var {i : Nat} {x : Str} {pos : Pos} (h : PE X (.Name x pos) (tVar i)) : SV X C (.Name x pos) (vVar i) := by
  refine ⟨_, h, fun ρ σ H own Q er d hd hw => ?_⟩
  obtain ⟨v, o, own1, e1, r, _, _, _⟩ := er.take (join_some hd)
  exact ⟨v, e1, hw v H o r Ext.refl⟩
theorem se_move {i : Nat} {x : Str} {pos : Pos} (h : PE X (.Name x pos) (tVar i)) : SE X W C (.Name x pos) (eMove i) := by
  refine ⟨_, h, fun ρ σ H own Q er hw => ?_⟩
  unfold eMove at hw
  split at hw
  · rename_i d hd
    obtain ⟨v, o, own1, e1, r, er1, n, m⟩ := er.take (join_some hd)
    exact ⟨v, e1, hw v H o own1 r er1 n (Stp.refl fun a z => (m a).mpr (List.mem_append.mp z))⟩
  · exact hw.elim
theorem se_var {i : Nat} {x : Str} {pos : Pos} (h : PE X (.Name x pos) (tVar i)) : SE X W C (.Name x pos) (eVar i) := by
  refine ⟨_, pe_fz h, fun ρ σ H own Q er hw => ?_⟩
  unfold eVar at hw
  split at hw
  · rename_i d hd
    obtain ⟨v, o, own1, e1, r, er1, n, m⟩ := er.take (join_some hd)
    refine ⟨v, e1, o, r.mut, fun H2 f => ?_⟩
    have hi : i < ρ.length := (List.getElem?_eq_some_iff.mp (join_some hd)).1
    split at hw
    · rename_i hf
      have eo := Rep.fz_nil hf r
      subst eo
      exact hw v H2 [] own (r.keep f.keeps muts_nil (by simp)) (er.keep f.keeps muts_nil (by simp)) (by simp) ⟨fun a ob q _ => f.keeps a ob q (by simp), fun a z => .inl (by simpa using z)⟩
    · obtain ⟨own2, er2, m2⟩ := ER.put (i := i) (d := frz d) (v := v) (o := []) (er1.keep f.keeps r.mut fun a ha z => n a z ha) (by rw [List.getElem?_set_self hi]) e1 (r.frz f r.mut fun _ z => z) (by simp)
      rw [List.set_set] at er2
      refine hw v H2 [] own2 (r.frz f r.mut fun _ z => z) er2 (by simp) ⟨fun a ob q na => f.keeps a ob q fun z => na ((m a).mpr (.inl z)), fun a z => .inl ?_⟩
      rcases (m2 a).mp (by simpa using z) with z | z
      · cases z
      · exact (m a).mpr (.inr z)
  · exact hw.elim
theorem se_q {f : Env → Option D} (h : SV X C e f) : SE X W C e (eQ f) := by
  obtain ⟨t, pe, s⟩ := h.ex
  refine ⟨t, pe, fun ρ σ H own Q er hw => ?_⟩
  unfold eQ at hw
  split at hw
  · rename_i d hd
    split at hw
    · rename_i hf
      refine s ρ σ H own Q er d hd fun v H' o r k => ?_
      have eo := Rep.fz_nil hf r
      subst eo
      exact hw v H' [] own r (er.ext k) (by simp) ⟨fun a ob q _ => k a ob q, fun a z => .inl (by simpa using z)⟩
    · exact hw.elim
  · exact hw.elim

/-! ### operations on two values -/
abbrev VO2 (C : RC) (r : R2) (g : D → D → Option D) : Prop := ∀ (d1 d2 d : D) (v1 v2 : V) (H : Hp) (o1 o2 : List Addr) (Q : VK), Rep C H d1 v1 o1 → Rep C H d2 v2 o2 → g d1 d2 = some d →
  (∀ v H' o, Rep C H' d v o → Ext H H' → (∀ a ∈ o, H a = none) → Q v H') → r v1 v2 H Q
abbrev VV2 (C : RC) (r : R2) (g : D → D → Option D) : Prop := ∀ (d1 d2 d : D) (v1 v2 : V) (H : Hp) (o1 o2 : List Addr) (Q : VK), Rep C H d1 v1 o1 → Rep C H d2 v2 o2 → g d1 d2 = some d →
  (∀ v H' o, Rep C H' d v o → Ext H H' → Q v H') → r v1 v2 H Q
theorem VO2.vv {r : R2} {g : D → D → Option D} (h : VO2 C r g) : VV2 C r g := fun d1 d2 d v1 v2 H o1 o2 Q r1 r2 hg hq => h d1 d2 d v1 v2 H o1 o2 Q r1 r2 hg fun v H' o rv k _ => hq v H' o rv k
/-- t does what m says -/
abbrev Snd (W : WX) (C : RC) (t : TE) (m : M D) : Prop := ∀ ρ σ H own Q, ER C H ρ σ own → PoE C W (m ρ) σ H own Q → t σ H Q
abbrev SndV (C : RC) (t : TE) (f : Env → Option D) : Prop := ∀ ρ σ H own Q, ER C H ρ σ own → ∀ d, f ρ = some d → (∀ v H' o, Rep C H' d v o → Ext H H' → Q v H') → t σ H Q
def eV (f : Env → Option D) : M D := fun ρ => ofO (f ρ) ρ
theorem snd_op2 {r : R2} {g : D → D → Option D} {ta tb : TE} (vo : VO2 C r g) (sa : Snd W C ta ma) (sb : Snd W C tb mb) : Snd W C (tOp r ta tb) (eOp2 g ma mb) := fun ρ σ H own Q er hw => by
  refine two (P := fun r => PoE C W r σ H own Q) sa sb er hw (fun z => z) exE fun d1 d2 ρ2 v1 v2 H2 o1 o2 own2 r1 r2 e2 j12 j s hw2 => ?_
  unfold ofO at hw2
  split at hw2
  · rename_i d hd
    exact vo d1 d2 d v1 v2 H2 o1 o2 Q r1 r2 hd fun v H' o rv k hn => hw2.fin s e2 j k rv fun a ha => .inr (hn a ha)
  · exact hw2.elim
theorem sndv_op2 {r : R2} {g : D → D → Option D} {ta tb : TE} (vo : VV2 C r g) (sa : SndV C ta fa) (sb : SndV C tb fb) : SndV C (tOp r ta tb) (vOp2 g fa fb) := fun ρ σ H own Q er d hd hw => by
  simp only [vOp2, Option.bind_eq_some_iff] at hd
  obtain ⟨d1, h1, d2, h2, h3⟩ := hd
  refine sa ρ σ H own _ er d1 h1 fun v1 H1 o1 r1 k1 => ?_
  refine sb ρ σ H1 own _ (er.ext k1) d2 h2 fun v2 H2 o2 r2 k2 => ?_
  exact vo d1 d2 d v1 v2 H2 o1 o2 Q (r1.ext k2) r2 h3 fun v H' o rv k => hw v H' o rv fun a ob q => k a ob (k2 a ob (k1 a ob q))
theorem fin_v {d : D} {ρ : Env} {σ : St} {H H2 H' : Hp} {own o : List Addr} {Q : VK} {v : V} (hw : PoE C W (.ok d ρ) σ H own Q) (er : ER C H ρ σ own) (k1 : Ext H H2) (r : Rep C H' d v o) (k : Ext H2 H') (hn : ∀ a ∈ o, H2 a = none) : Q v H' := by
  refine hw v H' o own r (er.ext fun a ob q => k a ob (k1 a ob q)) (fun a ha z => ?_) ⟨fun a ob q _ => k a ob (k1 a ob q), fun a ha => ?_⟩
  · obtain ⟨u, e, _⟩ := (er.ext k1).mut a z
    rw [hn a ha] at e; cases e
  · rcases List.mem_append.mp ha with z | z
    · right
      cases e : H a with
      | none => rfl
      | some ob => have := hn a z; rw [k1 a ob e] at this; cases this
    · exact .inl z
theorem snd_v2 {r : R2} {g : D → D → Option D} {ta tb : TE} (vo : VO2 C r g) (sa : SndV C ta fa) (sb : SndV C tb fb) : Snd W C (tOp r ta tb) (eV (vOp2 g fa fb)) := fun ρ σ H own Q er hw => by
  unfold eV ofO at hw
  split at hw
  · rename_i d hd
    simp only [vOp2, Option.bind_eq_some_iff] at hd
    obtain ⟨d1, h1, d2, h2, h3⟩ := hd
    refine sa ρ σ H own _ er d1 h1 fun v1 H1 o1 r1 k1 => ?_
    refine sb ρ σ H1 own _ (er.ext k1) d2 h2 fun v2 H2 o2 r2 k2 => ?_
    exact vo d1 d2 d v1 v2 H2 o1 o2 Q (r1.ext k2) r2 h3 fun v H' o rv k hn => fin_v hw er (fun a ob q => k2 a ob (k1 a ob q)) rv k hn
  · exact hw.elim
theorem se_op2 {r : R2} {g : D → D → Option D} (pe : ∀ ta tb, PE X a ta → PE X b tb → PE X e (tOp r ta tb)) (vo : VO2 C r g) (ha : SE X W C a ma) (hb : SE X W C b mb) : SE X W C e (eOp2 g ma mb) := by
  obtain ⟨ta, pa, sa⟩ := ha.ex
  obtain ⟨tb, pb, sb⟩ := hb.ex
  exact ⟨_, pe ta tb pa pb, snd_op2 vo sa sb⟩
theorem sv_op2 {r : R2} {g : D → D → Option D} (pe : ∀ ta tb, PE X a ta → PE X b tb → PE X e (tOp r ta tb)) (vo : VV2 C r g) (ha : SV X C a fa) (hb : SV X C b fb) : SV X C e (vOp2 g fa fb) := by
  obtain ⟨ta, pa, sa⟩ := ha.ex
  obtain ⟨tb, pb, sb⟩ := hb.ex
  exact ⟨_, pe ta tb pa pb, sndv_op2 vo sa sb⟩
theorem sev_op2 {r : R2} {g : D → D → Option D} (pe : ∀ ta tb, PE X a ta → PE X b tb → PE X e (tOp r ta tb)) (vo : VO2 C r g) (ha : SV X C a fa) (hb : SV X C b fb) : SE X W C e (eV (vOp2 g fa fb)) := by
  obtain ⟨ta, pa, sa⟩ := ha.ex
  obtain ⟨tb, pb, sb⟩ := hb.ex
  exact ⟨_, pe ta tb pa pb, snd_v2 vo sa sb⟩

/-! ### arguments; operations on many values -/
theorem sa_nil : SA X W C [] aNil := ⟨_, pa_nil, fun ρ σ H own Q er hw => hw [] H [] own ⟨rfl, rfl⟩ er (by simp) (Stp.refl (by simp))⟩
theorem sa_cons (ha : SE X W C e ma) (hr : SA X W C es ms) (hs : starEach (e :: es) X.env = (false, eval e X.env) :: starEach es X.env := by rfl) : SA X W C (e :: es) (aCons ma ms) := by
  obtain ⟨ta, pa, sa⟩ := ha.ex
  obtain ⟨tr, pr, sr⟩ := hr.ex
  refine ⟨_, pa_cons pa pr hs, fun ρ σ H own Q er hw => ?_⟩
  have hw : PoA C W ((ma ρ).bind fun d ρ1 => (ms ρ1).bind fun ds ρ2 => .ok (d :: ds) ρ2) σ H own Q := hw
  refine sa ρ σ H own _ er (poE_bind (P := fun r => PoA C W r σ H own Q) hw (fun z => z) exA fun d1 ρ1 v1 H1 o1 own1 r1 e1 j1 s1 hw1 => ?_)
  refine sr ρ1 σ H1 own1 _ e1 (poA_bind (P := fun r => PoA C W r σ H own Q) hw1 (fun z => z) (exA.at s1) fun ds ρ2 vs H2 o2 own2 r2 e2 j2 s2 hw2 => ?_)
  have j12 : ∀ a ∈ o1, a ∉ o2 ++ own2 := s2.apart r1.mut j1
  refine hw2 (v1 :: vs) H2 (o1 ++ o2) own2 ⟨v1, vs, o1, o2, rfl, r1.keep s2.keep e1.mut j1, r2, fun a ha z => j12 a ha (List.mem_append_left _ z), rfl⟩ e2 (fun a ha z => ?_) ?_
  · rcases List.mem_append.mp ha with q | q
    · exact j12 a q (List.mem_append_right _ z)
    · exact j2 a q z
  · rw [List.append_assoc]
    exact s1.held s2
theorem sw_nil : SW X C [] wNil := ⟨_, pa_nil, fun ρ σ H own Q er ds hd hw => by cases hd; exact hw [] H rfl Ext.refl⟩
theorem sw_cons (ha : SV X C e fa) (hr : SW X C es fs) (hs : starEach (e :: es) X.env = (false, eval e X.env) :: starEach es X.env := by rfl) : SW X C (e :: es) (wCons fa fs) := by
  obtain ⟨ta, pa, sa⟩ := ha.ex
  obtain ⟨tr, pr, sr⟩ := hr.ex
  refine ⟨_, pa_cons pa pr hs, fun ρ σ H own Q er ds hd hw => ?_⟩
  simp only [wCons, Option.bind_eq_some_iff] at hd
  obtain ⟨d1, h1, ds2, h2, h3⟩ := hd
  cases h3
  refine sa ρ σ H own _ er d1 h1 fun v1 H1 o1 r1 k1 => ?_
  refine sr ρ σ H1 own _ (er.ext k1) ds2 h2 fun vs H2 r2 k2 => ?_
  exact hw (v1 :: vs) H2 ⟨v1, vs, o1, rfl, r1.ext k2, r2⟩ fun a ob q => k2 a ob (k1 a ob q)
abbrev VOn (C : RC) (r : List V → Hp → VK → Prop) (g : List D → Option D) : Prop := ∀ (ds : List D) (d : D) (vs : List V) (H : Hp) (Q : VK), RepW C H ds vs → g ds = some d →
  (∀ v H' o, Rep C H' d v o → Ext H H' → (∀ a ∈ o, H a = none) → Q v H') → r vs H Q
theorem se_opn {r : List V → Hp → VK → Prop} {g : List D → Option D} (pe : ∀ t, PA X es t → PE X e (tCB r t)) (vo : VOn C r g) (ha : SA X W C es ms) : SE X W C e (eOpn g ms) := by
  obtain ⟨ta, pa, sa⟩ := ha.ex
  refine ⟨_, pe ta pa, fun ρ σ H own Q er hw => ?_⟩
  have hw : PoE C W ((ms ρ).bind fun ds ρ1 => ofO (g ds) ρ1) σ H own Q := hw
  refine sa ρ σ H own _ er (poA_bind (P := fun r => PoE C W r σ H own Q) hw (fun z => z) exE fun ds ρ1 vs H1 o1 own1 r1 e1 j1 s1 hw1 => ?_)
  unfold ofO at hw1
  split at hw1
  · rename_i d hd
    exact vo ds d vs H1 Q r1.w hd fun v H' o rv k hn => hw1.fin s1 e1 j1 k rv fun a ha => .inr (hn a ha)
  · exact hw1.elim
theorem sv_opn {r : List V → Hp → VK → Prop} {g : List D → Option D} (pe : ∀ t, PA X es t → PE X e (tCB r t)) (vo : VOn C r g) (ha : SW X C es fs) : SV X C e (vOpn g fs) := by
  obtain ⟨ta, pa, sa⟩ := ha.ex
  refine ⟨_, pe ta pa, fun ρ σ H own Q er d hd hw => ?_⟩
  simp only [vOpn, Option.bind_eq_some_iff] at hd
  obtain ⟨ds, h1, h2⟩ := hd
  exact sa ρ σ H own _ er ds h1 fun vs H1 r1 k1 => vo ds d vs H1 Q r1 h2 fun v H' o rv k _ => hw v H' o rv fun a ob q => k a ob (k1 a ob q)
theorem sev_opn {r : List V → Hp → VK → Prop} {g : List D → Option D} (pe : ∀ t, PA X es t → PE X e (tCB r t)) (vo : VOn C r g) (ha : SW X C es fs) : SE X W C e (eV (vOpn g fs)) := by
  obtain ⟨ta, pa, sa⟩ := ha.ex
  refine ⟨_, pe ta pa, fun ρ σ H own Q er hw => ?_⟩
  unfold eV ofO at hw
  split at hw
  · rename_i d hd
    simp only [vOpn, Option.bind_eq_some_iff] at hd
    obtain ⟨ds, h1, h2⟩ := hd
    exact sa ρ σ H own _ er ds h1 fun vs H1 r1 k1 => vo ds d vs H1 Q r1 h2 fun v H' o rv k hn => fin_v hw er k1 rv k hn
  · exact hw.elim
/-! ### one value -/
abbrev VO1 (C : RC) (r : V → Hp → VK → Prop) (g : D → Option D) : Prop := ∀ (d1 d : D) (v1 : V) (H : Hp) (o1 : List Addr) (Q : VK), Rep C H d1 v1 o1 → g d1 = some d →
  (∀ v H' o, Rep C H' d v o → Ext H H' → (∀ a ∈ o, H a = none) → Q v H') → r v1 H Q
def eOp1 (g : D → Option D) (ma : M D) : M D := fun ρ => (ma ρ).bind fun a ρ1 => ofO (g a) ρ1
def vOp1 (g : D → Option D) (fa : Env → Option D) : Env → Option D := fun ρ => (fa ρ).bind g
theorem se_op1 {r : V → Hp → VK → Prop} {g : D → Option D} (pe : ∀ ta, PE X a ta → PE X e (tUn r ta)) (vo : VO1 C r g) (ha : SE X W C a ma) : SE X W C e (eOp1 g ma) := by
  obtain ⟨ta, pa, sa⟩ := ha.ex
  refine ⟨_, pe ta pa, fun ρ σ H own Q er hw => ?_⟩
  have hw : PoE C W ((ma ρ).bind fun a ρ1 => ofO (g a) ρ1) σ H own Q := hw
  refine sa ρ σ H own _ er (poE_bind (P := fun r => PoE C W r σ H own Q) hw (fun z => z) exE fun d1 ρ1 v1 H1 o1 own1 r1 e1 j1 s1 hw1 => ?_)
  unfold ofO at hw1
  split at hw1
  · rename_i d hd
    exact vo d1 d v1 H1 o1 Q r1 hd fun v H' o rv k hn => hw1.fin s1 e1 j1 k rv fun a ha => .inr (hn a ha)
  · exact hw1.elim
theorem sv_op1 {r : V → Hp → VK → Prop} {g : D → Option D} (pe : ∀ ta, PE X a ta → PE X e (tUn r ta)) (vo : VO1 C r g) (ha : SV X C a fa) : SV X C e (vOp1 g fa) := by
  obtain ⟨ta, pa, sa⟩ := ha.ex
  refine ⟨_, pe ta pa, fun ρ σ H own Q er d hd hw => ?_⟩
  simp only [vOp1, Option.bind_eq_some_iff] at hd
  obtain ⟨d1, h1, h2⟩ := hd
  exact sa ρ σ H own _ er d1 h1 fun v1 H1 o1 r1 k1 => vo d1 d v1 H1 o1 Q r1 h2 fun v H' o rv k _ => hw v H' o rv fun a ob q => k a ob (k1 a ob q)
theorem sev_op1 {r : V → Hp → VK → Prop} {g : D → Option D} (pe : ∀ ta, PE X a ta → PE X e (tUn r ta)) (vo : VO1 C r g) (ha : SV X C a fa) : SE X W C e (eV (vOp1 g fa)) := by
  obtain ⟨ta, pa, sa⟩ := ha.ex
  refine ⟨_, pe ta pa, fun ρ σ H own Q er hw => ?_⟩
  unfold eV ofO at hw
  split at hw
  · rename_i d hd
    simp only [vOp1, Option.bind_eq_some_iff] at hd
    obtain ⟨d1, h1, h2⟩ := hd
    exact sa ρ σ H own _ er d1 h1 fun v1 H1 o1 r1 k1 => vo d1 d v1 H1 o1 Q r1 h2 fun v H' o rv k hn => fin_v hw er k1 rv k hn
  · exact hw.elim
end
end Se

namespace Se
open PySem L2

section
variable {C : RC} {H : Hp}
theorem RepW.len : ∀ {ds : List D} {vs : List V}, RepW C H ds vs → vs.length = ds.length
  | [], _, h => by cases h; rfl
  | _ :: _, _, h => by obtain ⟨_, _, _, rfl, _, h2⟩ := h; simp [h2.len]
theorem RepW.at : ∀ {ds : List D} {vs : List V} {i : Nat} {d : D}, RepW C H ds vs → ds[i]? = some d → ∃ v o, vs[i]? = some v ∧ Rep C H d v o
  | [], _, i, _, _, e => by simp at e
  | _ :: _, _, 0, d, h, e => by obtain ⟨v, _, o, rfl, h1, h2⟩ := h; simp at e; subst e; exact ⟨v, o, rfl, h1⟩
  | _ :: _, _, i + 1, d, h, e => by
    obtain ⟨v, _, o, rfl, h1, h2⟩ := h
    obtain ⟨v', o', e', r⟩ := RepW.at (i := i) h2 (by simpa using e)
    exact ⟨v', o', by simpa using e', r⟩
theorem Rep.lstS {f : Bool} {ds : List D} {v : V} {o : List Addr} (h : Rep C H (.lst f ds) v o) : ∃ a vs, v = .ref a ∧ Rd H a (.lst vs) ∧ RepW C H ds vs := by
  cases f with
  | true => obtain ⟨a, vs, o', e, q, r, _, _⟩ := h; exact ⟨a, vs, e, .inl q, r.w⟩
  | false => obtain ⟨a, vs, e, q, r, _⟩ := h; exact ⟨a, vs, e, .inr q, r.w⟩
theorem Rep.tupS {ds : List D} {v : V} {o : List Addr} (h : Rep C H (.tup ds) v o) : ∃ a vs, v = .ref a ∧ SqT C.K H a vs ∧ RepW C H ds vs := by
  obtain ⟨a, vs, e, q, r⟩ := h
  exact ⟨a, vs, e, q, r.w⟩
theorem RepL.app : ∀ {d1 d2 : List D} {v1 v2 : List V}, RepL C H d1 v1 [] → RepL C H d2 v2 [] → RepL C H (d1 ++ d2) (v1 ++ v2) []
  | [], _, _, _, h1, h2 => by obtain ⟨rfl, _⟩ := h1; exact h2
  | d :: ds, _, _, _, h1, h2 => by
    obtain ⟨v, vs, o1, o2, rfl, r, h1, _, e⟩ := h1
    have e := e.symm
    simp only [List.append_eq_nil_iff] at e
    obtain ⟨rfl, rfl⟩ := e
    exact ⟨v, vs ++ _, [], [], rfl, r, RepL.app h1 h2, (by simp), rfl⟩
theorem RepL.take0 : ∀ {ds : List D} {vs : List V} (n : Nat), RepL C H ds vs [] → RepL C H (ds.take n) (vs.take n) []
  | [], _, n, h => by obtain ⟨rfl, _⟩ := h; simp; exact ⟨rfl, rfl⟩
  | d :: ds, _, 0, h => by simp; exact ⟨rfl, rfl⟩
  | d :: ds, _, n + 1, h => by
    obtain ⟨v, vs, o1, o2, rfl, r, h1, _, e⟩ := h
    have e := e.symm
    simp only [List.append_eq_nil_iff] at e
    obtain ⟨rfl, rfl⟩ := e
    exact ⟨v, vs.take n, [], [], rfl, r, RepL.take0 n h1, (by simp), rfl⟩
theorem RepL.drop0 : ∀ {ds : List D} {vs : List V} (n : Nat), RepL C H ds vs [] → RepL C H (ds.drop n) (vs.drop n) []
  | [], _, n, h => by obtain ⟨rfl, _⟩ := h; simp; exact ⟨rfl, rfl⟩
  | d :: ds, _, 0, h => h
  | d :: ds, _, n + 1, h => by
    obtain ⟨v, vs, o1, o2, rfl, r, h1, _, e⟩ := h
    have e := e.symm
    simp only [List.append_eq_nil_iff] at e
    obtain ⟨rfl, rfl⟩ := e
    exact RepL.drop0 n h1
theorem RepL.rep : ∀ (n : Nat) {ds : List D} {vs : List V}, RepL C H ds vs [] → RepL C H (List.replicate n ds).flatten (List.replicate n vs).flatten []
  | 0, _, _, _ => ⟨rfl, rfl⟩
  | n + 1, _, _, h => by
    simp only [List.replicate_succ, List.flatten_cons]
    exact h.app (RepL.rep n h)
/-- a new list, a new tuple -/
theorem rep_new_lst {ds : List D} {vs : List V} {p : Addr} (r : RepL C H ds vs []) (hp : H p = none) : Rep C (upd H p (.lst vs)) (.lst true ds) (.ref p) [p] :=
  ⟨p, vs, [], rfl, upd_same, r.ext (Ext.new hp), (by simp), rfl⟩
theorem rep_new_tup {ds : List D} {vs : List V} {p : Addr} (r : RepL C H ds vs []) (hp : H p = none) : Rep C (upd H p (.tup vs)) (.tup ds) (.ref p) [] :=
  ⟨p, vs, rfl, .inl (.inl upd_same), r.ext (Ext.new hp)⟩
end
theorem one_none {H : Hp} {p : Addr} (hp : H p = none) : ∀ a ∈ [p], H a = none := fun a ha => by
  cases List.mem_singleton.mp ha; exact hp

theorem sx_len (l : List Nat) : (sx l).length = l.length := by simp [sx, Str.length]
theorem sx_cat (a b : List Nat) : sx a ++ sx b = sx (a ++ b) := by
  show (⟨a.toArray ++ b.toArray⟩ : Str) = ⟨(a ++ b).toArray⟩
  simp
theorem sx_inj {a b : List Nat} (h : sx a = sx b) : a = b := by
  have e : a.toArray = b.toArray := congrArg Str.cps h
  simpa using congrArg Array.toList e
theorem sx_list (l : List Nat) : (sx l).cps.toList = l := by simp [sx]

/-! ### + - * // % ** -/
def rCatR : R2 := fun x y H Q => ∃ l b xs zs, x = .ref l ∧ y = .ref b ∧ Rd H l (.lst xs) ∧ Rd H b (.lst zs) ∧ xs.length + zs.length ≤ sizeLine ∧ ∀ p, H p = none → Q (.ref p) (upd H p (.lst (xs ++ zs)))
def rRepR : R2 := fun x y H Q => ∃ l k xs, x = .ref l ∧ y = .int k ∧ Rd H l (.lst xs) ∧ -(2 ^ 63) ≤ k ∧ k < 2 ^ 63 ∧ xs.length * k.toNat ≤ sizeLine ∧
  ∀ p, H p = none → Q (.ref p) (upd H p (.lst (List.replicate k.toNat xs).flatten))
section
variable {X : Cx}
theorem op_catR : OpR X (binaryOp .Add) rCatR := by
  intro pins s σ H x y v u Q I rx ry h
  obtain ⟨l, b, xs, zs, rfl, rfl, hH, hB, hz, q⟩ := h
  cases rx
  cases ry
  obtain ⟨z, its, n, r, e⟩ := hH.ok I.hok
  obtain ⟨z2, its2, n2, r2, e2⟩ := hB.ok I.hok
  have hl := r.length
  have hl2 := r2.length
  refine PySem.P.add_list e e2 ?_ (by rw [List.size_toArray, List.size_toArray]; omega)
  have ea : its.toArray ++ its2.toArray = (its ++ its2).toArray := by simp
  rw [ea]
  exact ⟨.ref _, _, I.lnew (t' := s.toks) (r.append r2) (by rw [List.length_append]; omega), rfl, q _ I.fresh⟩
end
abbrev CMulA (i j : Int) : Prop := CMul i j ∨ CMulW i j
instance {i j : Int} : Decidable (CMul i j) := by unfold CMul; infer_instance
instance {i j : Int} : Decidable (CMulW i j) := by unfold CMulW; infer_instance
instance {i j : Int} : Decidable (CDiv i j) := by unfold CDiv; infer_instance
instance {i j : Int} : Decidable (CDivW i j) := by unfold CDivW; infer_instance
instance {i j : Int} : Decidable (CPow i j) := by unfold CPow; infer_instance
def gAdd : D → D → Option D
  | .int a, .int b => some (.int (a + b))
  | .str a, .str b => if a.length + b.length ≤ sizeLine then some (.str (a ++ b)) else none
  | .lst _ a, .lst _ b => if fzL a = true ∧ fzL b = true ∧ a.length + b.length ≤ sizeLine then some (.lst true (a ++ b)) else none
  | .tup a, .tup b => if fzL a = true ∧ fzL b = true ∧ a.length + b.length ≤ sizeLine then some (.tup (a ++ b)) else none
  | _, _ => none
def gSub : D → D → Option D
  | .int a, .int b => some (.int (a - b))
  | _, _ => none
def gMul : D → D → Option D
  | .int a, .int b => if CMul a b ∨ CMulW a b then some (.int (a * b)) else none
  | _, _ => none
def gDiv : D → D → Option D
  | .int a, .int b => if CDiv a b ∨ CDivW a b then some (.int (a / b)) else none
  | _, _ => none
def gMod : D → D → Option D
  | .int a, .int b => if 0 < b then some (.int (a % b)) else none
  | _, _ => none
def gPow : D → D → Option D
  | .int a, .int b => if CPow a b then some (.int (a ^ b.toNat)) else none
  | _, _ => none
section
variable {X : Cx} {C : RC}
abbrev rAddA (K : PySem.W.Frag) : R2 := fun x y H Q => (rI0 fun i j => .int (i + j)) x y H Q ∨ ((∃ i j, x = .str i ∧ y = .str j ∧ i.length + j.length ≤ sizeLine ∧ Q (.str (i ++ j)) H) ∨ (rCatR x y H Q ∨ rCatA K x y H Q))
theorem op_addA : OpR X (binaryOp .Add) (rAddA X.K) := op_add.or (op_add_str.or (op_catR.or op_catA))
theorem vo_add : VO2 C (rAddA C.K) gAdd := by
  intro d1 d2 d v1 v2 H o1 o2 Q r1 r2 hg hq
  unfold gAdd at hg
  split at hg
  · cases hg; obtain ⟨rfl, _⟩ := r1; obtain ⟨rfl, _⟩ := r2
    exact .inl ⟨_, _, rfl, rfl, hq _ H [] ⟨rfl, rfl⟩ Ext.refl (by simp)⟩
  · split at hg
    · rename_i hz
      cases hg; obtain ⟨rfl, _⟩ := r1; obtain ⟨rfl, _⟩ := r2
      exact .inr (.inl ⟨_, _, rfl, rfl, by rw [sx_len, sx_len]; exact hz, hq _ H [] ⟨by rw [sx_cat], rfl⟩ Ext.refl (by simp)⟩)
    · cases hg
  · split at hg
    · rename_i hz
      obtain ⟨f1, f2, hz⟩ := hz
      cases hg
      obtain ⟨a, xs, rfl, ha, w1⟩ := r1.lstS
      obtain ⟨b, ys, rfl, hb, w2⟩ := r2.lstS
      exact .inr (.inr (.inl ⟨a, b, xs, ys, rfl, rfl, ha, hb, by rw [w1.len, w2.len]; exact hz, fun p hp => hq _ _ [p] (rep_new_lst ((w1.fz f1).app (w2.fz f2)) hp) (Ext.new hp) (one_none hp)⟩))
    · cases hg
  · split at hg
    · rename_i hz
      obtain ⟨f1, f2, hz⟩ := hz
      cases hg
      obtain ⟨a, xs, rfl, ha, w1⟩ := r1.tupS
      obtain ⟨b, ys, rfl, hb, w2⟩ := r2.tupS
      have l1 := w1.len
      have l2 := w2.len
      refine .inr (.inr (.inr ⟨a, b, xs, ys, rfl, rfl, ha, hb, by omega, fun e => ?_, fun e1 e2 => ?_, fun e1 e2 p hp => ?_⟩))
      · subst e
        have e' := List.eq_nil_of_length_eq_zero l1.symm
        subst e'
        exact hq _ H [] ⟨b, ys, rfl, hb, w2.fz f2⟩ Ext.refl (by simp)
      · subst e2
        have e' := List.eq_nil_of_length_eq_zero l2.symm
        subst e'
        exact hq _ H [] (by rw [List.append_nil]; exact ⟨a, xs, rfl, ha, w1.fz f1⟩) Ext.refl (by simp)
      · exact hq _ _ [] (rep_new_tup ((w1.fz f1).app (w2.fz f2)) hp) (Ext.new hp) (by simp)
    · cases hg
  · cases hg
/-- ints in, a scalar out -/
theorem vo_int {P : Int → Int → Prop} {g : Int → Int → V} {gd : D → D → Option D} {k : Int → Int → D} (hk : ∀ i j H, Rep C H (k i j) (g i j) []) (hgd : ∀ a b d, gd a b = some d → ∃ i j, a = .int i ∧ b = .int j ∧ P i j ∧ d = k i j) : VO2 C (rI P g) gd := by
  intro d1 d2 d v1 v2 H o1 o2 Q r1 r2 hg hq
  obtain ⟨i, j, rfl, rfl, p, rfl⟩ := hgd _ _ _ hg
  obtain ⟨rfl, _⟩ := r1
  obtain ⟨rfl, _⟩ := r2
  exact ⟨i, j, rfl, rfl, p, hq _ H [] (hk i j H) Ext.refl (by simp)⟩
theorem vo_int0 {g : Int → Int → V} {gd : D → D → Option D} {k : Int → Int → D} (hk : ∀ i j H, Rep C H (k i j) (g i j) []) (hgd : ∀ a b d, gd a b = some d → ∃ i j, a = .int i ∧ b = .int j ∧ d = k i j) : VO2 C (rI0 g) gd := by
  intro d1 d2 d v1 v2 H o1 o2 Q r1 r2 hg hq
  obtain ⟨i, j, rfl, rfl, rfl⟩ := hgd _ _ _ hg
  obtain ⟨rfl, _⟩ := r1
  obtain ⟨rfl, _⟩ := r2
  exact ⟨i, j, rfl, rfl, hq _ H [] (hk i j H) Ext.refl (by simp)⟩
theorem vo_sub : VO2 C (rI0 fun i j => .int (i - j)) gSub := vo_int0 (k := fun i j => .int (i - j)) (fun _ _ _ => ⟨rfl, rfl⟩) fun a b d h => by
  unfold gSub at h
  split at h
  · cases h; exact ⟨_, _, rfl, rfl, rfl⟩
  · cases h
theorem vo_div : VO2 C (fun x y H Q => (rI CDiv fun i j => .int (i / j)) x y H Q ∨ (rI CDivW fun i j => .int (i / j)) x y H Q) gDiv := by
  intro d1 d2 d v1 v2 H o1 o2 Q r1 r2 hg hq
  unfold gDiv at hg
  split at hg
  · split at hg
    · rename_i i j p
      cases hg
      obtain ⟨rfl, _⟩ := r1
      obtain ⟨rfl, _⟩ := r2
      rcases p with p | p
      · exact .inl ⟨_, _, rfl, rfl, p, hq _ H [] ⟨rfl, rfl⟩ Ext.refl (by simp)⟩
      · exact .inr ⟨_, _, rfl, rfl, p, hq _ H [] ⟨rfl, rfl⟩ Ext.refl (by simp)⟩
    · cases hg
  · cases hg
theorem op_divA : OpR X (binaryOp .FloorDiv) (fun x y H Q => (rI CDiv fun i j => .int (i / j)) x y H Q ∨ (rI CDivW fun i j => .int (i / j)) x y H Q) := op_fdiv.or op_fdivW
theorem vo_mod : VO2 C (rI (fun _ j => 0 < j) fun i j => .int (i % j)) gMod := vo_int (k := fun i j => .int (i % j)) (fun _ _ _ => ⟨rfl, rfl⟩) fun a b d h => by
  unfold gMod at h
  split at h
  · split at h
    · rename_i p; cases h; exact ⟨_, _, rfl, rfl, p, rfl⟩
    · cases h
  · cases h
theorem vo_pow : VO2 C (rI CPow fun i j => .int (i ^ j.toNat)) gPow := vo_int (k := fun i j => .int (i ^ j.toNat)) (fun _ _ _ => ⟨rfl, rfl⟩) fun a b d h => by
  unfold gPow at h
  split at h
  · split at h
    · rename_i p; cases h; exact ⟨_, _, rfl, rfl, p, rfl⟩
    · cases h
  · cases h
end

/-! ### * -/
def strRep (z : Str) (k : Nat) : Str := ⟨(List.replicate k z.cps.toList).flatten.toArray⟩
def rMulS : R2 := fun x y H Q => ∃ z k, x = .str z ∧ y = .int k ∧ -(2 ^ 63) ≤ k ∧ k < 2 ^ 63 ∧ z.length * k.toNat ≤ sizeLine ∧ Q (.str (strRep z k.toNat)) H
theorem foldl_repA (z : Array Nat) : ∀ (k : Nat) (acc : List Nat), (List.replicate k z).foldl (· ++ ·) acc.toArray = (acc ++ (List.replicate k z.toList).flatten).toArray
  | 0, acc => by simp
  | k + 1, acc => by
    have e : acc.toArray ++ z = (acc ++ z.toList).toArray := by simp
    rw [List.replicate_succ, List.foldl_cons, e, foldl_repA z k (acc ++ z.toList), List.replicate_succ, List.flatten_cons, List.append_assoc]
theorem strRep_len (z : Str) (k : Nat) : (strRep z k).length = k * z.length := by
  show ((List.replicate k z.cps.toList).flatten.toArray).size = k * z.cps.size
  simp
section
variable {X : Cx} {C : RC}
theorem op_mulS : OpR X (binaryOp .Mult) rMulS := by
  intro pins s σ H x y v u Q I rx ry h
  obtain ⟨z, k, rfl, rfl, h1, h2, hz, q⟩ := h
  obtain ⟨t, rfl⟩ := rx
  obtain ⟨t', rfl⟩ := ry
  have hs : sizeLine = 16777216 := sizeLine_eq
  have hsz : (strRep z k.toNat).length ≤ sizeLine := by rw [strRep_len, Nat.mul_comm]; exact hz
  have fin : ∀ (t : Tok) (k' : Nat), EP X pins σ Q (.str (strRep z k.toNat) t) { s with toks := k' } := fun t k' => ⟨.str _, H, I.tok k', ⟨t, rfl⟩, q⟩
  refine PySem.P.mul_str ?_ (fun h3 h4 => ?_) (fun h3 h4 => ?_) ?_
  · rw [decide_eq_false (by omega), decide_eq_false (by omega)]; rfl
  · have hk : (0 : Int) < k := by omega
    have hle : (z.length : Int) * k ≤ 16777216 := by
      have e : ((z.length * k.toNat : Nat) : Int) = (z.length : Int) * k := by rw [Int.natCast_mul, Int.toNat_of_nonneg (by omega)]
      have := hz
      omega
    have : (z.length : Int) ≤ (2 ^ 63 - 1) / k := (Int.le_ediv_iff_mul_le hk).mpr (by omega)
    omega
  · unfold Builtin.Str.tooLong
    exact decide_eq_false (by omega)
  · by_cases c1 : k < 1
    · rw [if_pos c1]
      have e : strRep z k.toNat = Str.empty := by
        have : k.toNat = 0 := by omega
        rw [this]; rfl
      have f := fin s.toks (s.toks + 1)
      rw [e] at f hsz
      exact ⟨hsz, f⟩
    · rw [if_neg c1]
      by_cases c2 : (k == 1 || z.length == 0) = true
      · rw [if_pos c2]
        have e : strRep z k.toNat = z := by
          simp only [Bool.or_eq_true, beq_iff_eq] at c2
          rcases c2 with c2 | c2
          · subst c2
            show (⟨((List.replicate (1 : Int).toNat z.cps.toList).flatten).toArray⟩ : Str) = z
            cases z; simp
          · cases z with
            | mk cs =>
              have : cs = #[] := Array.eq_empty_of_size_eq_zero c2
              subst this
              show (⟨((List.replicate k.toNat ([] : List Nat)).flatten).toArray⟩ : Str) = ⟨#[]⟩
              simp
        have f := fin t s.toks
        rw [e] at f
        exact f
      · rw [if_neg c2]
        have e : (⟨(List.replicate k.toNat z.cps).foldl (· ++ ·) #[]⟩ : Str) = strRep z k.toNat := by
          have h := foldl_repA z.cps k.toNat []
          unfold strRep
          simp only [List.nil_append] at h
          rw [← h]
        rw [e]
        exact ⟨hsz, fin s.toks (s.toks + 1)⟩
end
end Se

namespace Se
open PySem L2

/-! ### == and != -/
def scD : D → Option V
  | .non => some .non
  | .bl b => some (.bl b)
  | .int i => some (.int i)
  | .str x => some (.str (sx x))
  | _ => none
mutual
def toPy : D → Option PyData
  | .non => some .none
  | .bl b => some (.bool b)
  | .int i => some (.int i)
  | .str x => some (.str (sx x))
  | .tup ds => (toPyL ds).map .tuple
  | .lst _ ds => (toPyL ds).map .list
  | _ => none
def toPyL : List D → Option (List PyData)
  | [] => some []
  | d :: ds => (toPy d).bind fun p => (toPyL ds).map fun ps => p :: ps
end
def eqD (d1 d2 : D) : Option Bool := match scD d1, scD d2 with
  | some x, some y => if scal x y = true then some (decide (x = y)) else none
  | _, _ => (toPy d1).bind fun p => (toPy d2).bind fun q => if SeqAt.shaped p = true ∧ SeqAt.shaped q = true then some (PyData.eqv p q) else none
def gEq (d1 d2 : D) : Option D := (eqD d1 d2).map .bl
def gNe (d1 d2 : D) : Option D := (eqD d1 d2).map fun b => .bl (!b)
section
variable {C : RC} {H : Hp}
theorem scD_rep {d : D} {v x : V} {o : List Addr} (h : Rep C H d v o) (e : scD d = some x) : v = x := by
  cases d <;> simp [scD] at e <;> (subst e; exact h.1)
mutual
theorem toPy_dp : ∀ {d : D} {p : PyData} {v : V} {o : List Addr}, Rep C H d v o → toPy d = some p → Dp C.K H v p
  | .non, p, v, o, h, e => by cases e; rw [h.1]; exact .non
  | .bl b, p, v, o, h, e => by cases e; rw [h.1]; exact .bl b
  | .int b, p, v, o, h, e => by cases e; rw [h.1]; exact .int b
  | .str b, p, v, o, h, e => by cases e; rw [h.1]; exact .str _
  | .tup ds, p, v, o, h, e => by
    obtain ⟨a, vs, rfl, hs, r⟩ := h
    simp only [toPy, Option.map_eq_some_iff] at e
    obtain ⟨ps, e1, rfl⟩ := e
    exact .tup hs (toPyL_dp r e1)
  | .lst true ds, p, v, o, h, e => by
    obtain ⟨a, vs, o', rfl, hs, r, _, _⟩ := h
    simp only [toPy, Option.map_eq_some_iff] at e
    obtain ⟨ps, e1, rfl⟩ := e
    exact .lst (SqL.of hs) (toPyL_dp r e1)
  | .lst false ds, p, v, o, h, e => by
    obtain ⟨a, vs, rfl, hs, r, _⟩ := h
    simp only [toPy, Option.map_eq_some_iff] at e
    obtain ⟨ps, e1, rfl⟩ := e
    exact .lst hs.sq (toPyL_dp r e1)
  | .ty _, p, v, o, h, e => by simp [toPy] at e
  | .obj _, p, v, o, h, e => by simp [toPy] at e
  | .exc _ _ _, p, v, o, h, e => by simp [toPy] at e
  | .dct _ _ _, p, v, o, h, e => by simp [toPy] at e
theorem toPyL_dp : ∀ {ds : List D} {ps : List PyData} {vs : List V} {o : List Addr}, RepL C H ds vs o → toPyL ds = some ps → DpAll C.K H vs ps
  | [], ps, vs, o, h, e => by cases e; rw [h.1]; exact .nil
  | d :: ds, ps, vs, o, h, e => by
    obtain ⟨v, vs', o1, o2, rfl, h1, h2, _, _⟩ := h
    simp only [toPyL, Option.bind_eq_some_iff, Option.map_eq_some_iff] at e
    obtain ⟨p, e1, ps', e2, rfl⟩ := e
    exact .cons (toPy_dp h1 e1) (toPyL_dp h2 e2)
end
theorem eqD_cases {d1 d2 : D} {v1 v2 : V} {o1 o2 : List Addr} {b : Bool} (r1 : Rep C H d1 v1 o1) (r2 : Rep C H d2 v2 o2) (e : eqD d1 d2 = some b) :
    (scal v1 v2 = true ∧ decide (v1 = v2) = b) ∨ ∃ p q, Dp C.K H v1 p ∧ Dp C.K H v2 q ∧ SeqAt.shaped p = true ∧ SeqAt.shaped q = true ∧ PyData.eqv p q = b := by
  unfold eqD at e
  split at e
  · rename_i x y h1 h2
    rw [scD_rep r1 h1, scD_rep r2 h2]
    split at e
    · rename_i hs
      exact .inl ⟨hs, Option.some.inj e⟩
    · cases e
  · simp only [Option.bind_eq_some_iff] at e
    obtain ⟨p, h1, q, h2, h3⟩ := e
    split at h3
    · rename_i hs
      exact .inr ⟨p, q, toPy_dp r1 h1, toPy_dp r2 h2, hs.1, hs.2, Option.some.inj h3⟩
    · cases h3
end
section
variable {X : Cx} {C : RC}
theorem vo_eq : VO2 C (fun x y H Q => rEq x y H Q ∨ rEqD C.K x y H Q) gEq := by
  intro d1 d2 d v1 v2 H o1 o2 Q r1 r2 hg hq
  simp only [gEq, Option.map_eq_some_iff] at hg
  obtain ⟨b, hb, rfl⟩ := hg
  have q : Q (.bl b) H := hq _ H [] ⟨rfl, rfl⟩ Ext.refl (by simp)
  rcases eqD_cases r1 r2 hb with ⟨h1, h2⟩ | ⟨p, q', h1, h2, h3, h4, h5⟩
  · exact .inl ⟨h1, by rw [h2]; exact q⟩
  · exact .inr ⟨p, q', h1, h2, h3, h4, by rw [h5]; exact q⟩
theorem vo_ne : VO2 C (fun x y H Q => rNe x y H Q ∨ rNeD C.K x y H Q) gNe := by
  intro d1 d2 d v1 v2 H o1 o2 Q r1 r2 hg hq
  simp only [gNe, Option.map_eq_some_iff] at hg
  obtain ⟨b, hb, rfl⟩ := hg
  have q : Q (.bl (!b)) H := hq _ H [] ⟨rfl, rfl⟩ Ext.refl (by simp)
  rcases eqD_cases r1 r2 hb with ⟨h1, h2⟩ | ⟨p, q', h1, h2, h3, h4, h5⟩
  · exact .inl ⟨h1, by rw [h2]; exact q⟩
  · exact .inr ⟨p, q', h1, h2, h3, h4, by rw [h5]; exact q⟩
theorem op_eqA (hu : X.A.units + 64 < cLine) : OpR X (compareOp .Eq) (fun x y H Q => rEq x y H Q ∨ rEqD X.K x y H Q) := op_eq.or (op_eqD hu)
theorem op_neA (hu : X.A.units + 64 < cLine) : OpR X (compareOp .NotEq) (fun x y H Q => rNe x y H Q ∨ rNeD X.K x y H Q) := op_ne.or (op_neD hu)

/-! ### order -/
def gCmp (p : Int → Int → Bool) : D → D → Option D
  | .int a, .int b => some (.bl (p a b))
  | _, _ => none
theorem vo_cmp (p : Int → Int → Bool) : VO2 C (rI0 fun i j => .bl (p i j)) (gCmp p) := vo_int0 (k := fun i j => .bl (p i j)) (fun _ _ _ => ⟨rfl, rfl⟩) fun a b d h => by
  unfold gCmp at h
  split at h
  · cases h; exact ⟨_, _, rfl, rfl, rfl⟩
  · cases h
abbrev gLt := gCmp fun a b => decide (a < b)
abbrev gLe := gCmp fun a b => decide (a ≤ b)
abbrev gGt := gCmp fun a b => decide (b < a)
abbrev gGe := gCmp fun a b => decide (b ≤ a)

/-! ### in -/
/-- flat data, as values -/
def flD : D → Bool
  | .non | .bl _ | .int _ | .str _ => true
  | _ => false
def eqF : D → D → Bool
  | .non, .non => true
  | .bl a, .bl b => a == b
  | .bl a, .int b => (if a then 1 else 0) == b
  | .int a, .bl b => a == (if b then 1 else 0)
  | .int a, .int b => a == b
  | .str a, .str b => a == b
  | _, _ => false
theorem sx_beq (a b : List Nat) : (sx a == sx b) = (a == b) := by
  rw [Bool.eq_iff_iff]
  simp only [beq_iff_eq]
  exact ⟨sx_inj, fun e => by rw [e]⟩
theorem eqF_rep {H : Hp} {d1 d2 : D} {v1 v2 : V} {o1 o2 : List Addr} (r1 : Rep C H d1 v1 o1) (r2 : Rep C H d2 v2 o2) (f1 : flD d1 = true) (f2 : flD d2 = true) : eqV v1 v2 = eqF d1 d2 := by
  cases d1 <;> simp [flD] at f1 <;> cases d2 <;> simp [flD] at f2 <;> rw [r1.1, r2.1] <;> first | rfl | exact sx_beq _ _
theorem flD_flat {H : Hp} {d : D} {v : V} {o : List Addr} (r : Rep C H d v o) (f : flD d = true) : flatV v = true := by
  cases d <;> simp [flD] at f <;> rw [r.1] <;> rfl
theorem inF_rep {H : Hp} {d : D} {v : V} {o : List Addr} (r : Rep C H d v o) (f : flD d = true) : ∀ {ds : List D} {vs : List V}, RepW C H ds vs → ds.all flD = true → vs.all flatV = true ∧ inV v vs = ds.any fun y => eqF y d
  | [], _, h, _ => by cases h; exact ⟨rfl, rfl⟩
  | x :: ds, _, h, q => by
    obtain ⟨y, vs, o', rfl, h1, h2⟩ := h
    simp only [List.all_cons, Bool.and_eq_true] at q
    obtain ⟨i1, i2⟩ := inF_rep r f h2 q.2
    refine ⟨by simp [flD_flat h1 q.1, i1], ?_⟩
    have e := eqF_rep h1 r q.1 f
    unfold inV at i2 ⊢
    simp only [List.any_cons, e, i2]
def inD (x y : D) : Option Bool := match y with
  | .str z => match x with
    | .str [c] => some (decide (c ∈ z))
    | _ => none
  | .lst _ ds => if flD x = true ∧ ds.all flD = true then some (ds.any fun y => eqF y x) else none
  | .tup ds => if flD x = true ∧ ds.all flD = true then some (ds.any fun y => eqF y x) else none
  | _ => none
def gIn (x y : D) : Option D := (inD x y).map .bl
def gNin (x y : D) : Option D := (inD x y).map fun b => .bl (!b)
def rInA (K : PySem.W.Frag) (neg : Bool) : R2 := fun x y H Q => (∃ (c : Nat) (z : Str), x = .str ⟨#[c]⟩ ∧ y = .str z ∧ Q (.bl (if neg then !decide (c ∈ z.cps.toList) else decide (c ∈ z.cps.toList))) H) ∨ rIn K neg x y H Q
theorem op_inA : OpR X (compareOp .In) (rInA X.K false) := OpR.or op_in_sign op_in_seq
theorem op_notin_sign : OpR X (compareOp .NotIn) (fun x y H Q => ∃ (c : Nat) (z : Str), x = .str ⟨#[c]⟩ ∧ y = .str z ∧ Q (.bl (!decide (c ∈ z.cps.toList))) H) := by
  intro pins s σ H x y v u Q I rx ry h
  obtain ⟨c, z, rfl, rfl, q⟩ := h
  refine op_notin_str pins s σ H _ _ v u Q I rx ry ⟨_, _, rfl, rfl, ?_⟩
  rw [StrLaws.found_one z c]
  exact q
theorem op_ninA : OpR X (compareOp .NotIn) (rInA X.K true) := OpR.or op_notin_sign op_notIn_seq
theorem vo_in_aux {neg : Bool} {d1 d2 : D} {v1 v2 : V} {H : Hp} {o1 o2 : List Addr} {Q : VK} {b : Bool} (r1 : Rep C H d1 v1 o1) (r2 : Rep C H d2 v2 o2) (hg : inD d1 d2 = some b) (q : Q (.bl (if neg then !b else b)) H) : rInA C.K neg v1 v2 H Q := by
  unfold inD at hg
  split at hg
  · rename_i z
    split at hg
    · rename_i c
      cases hg
      refine .inl ⟨c, sx z, r1.1, r2.1, ?_⟩
      rw [sx_list]
      exact q
    · cases hg
  · split at hg
    · rename_i hf
      cases hg
      obtain ⟨a, vs, rfl, hr, w⟩ := r2.lstS
      obtain ⟨h1, h2⟩ := inF_rep r1 hf.1 w hf.2
      refine .inr ⟨a, vs, rfl, .inl (.inl hr), flD_flat r1 hf.1, h1, ?_⟩
      rw [h2]; exact q
    · cases hg
  · split at hg
    · rename_i hf
      cases hg
      obtain ⟨a, vs, rfl, hr, w⟩ := r2.tupS
      obtain ⟨h1, h2⟩ := inF_rep r1 hf.1 w hf.2
      refine .inr ⟨a, vs, rfl, .inr hr, flD_flat r1 hf.1, h1, ?_⟩
      rw [h2]; exact q
    · cases hg
  · cases hg
theorem vo_in : VO2 C (rInA C.K false) gIn := by
  intro d1 d2 d v1 v2 H o1 o2 Q r1 r2 hg hq
  simp only [gIn, Option.map_eq_some_iff] at hg
  obtain ⟨b, hb, rfl⟩ := hg
  exact vo_in_aux r1 r2 hb (hq _ H [] ⟨rfl, rfl⟩ Ext.refl (by simp))
theorem vo_nin : VO2 C (rInA C.K true) gNin := by
  intro d1 d2 d v1 v2 H o1 o2 Q r1 r2 hg hq
  simp only [gNin, Option.map_eq_some_iff] at hg
  obtain ⟨b, hb, rfl⟩ := hg
  exact vo_in_aux (neg := true) r1 r2 hb (hq _ H [] ⟨rfl, rfl⟩ Ext.refl (by simp))

/-! ### is None, is True -/
def isNon : D → Bool
  | .non => true
  | _ => false
theorem isNon_rep {H : Hp} {d : D} {v : V} {o : List Addr} (r : Rep C H d v o) : decide (v = .non) = isNon d := by
  cases d with
  | lst f ds => obtain ⟨a, vs, rfl, _⟩ := r.lstS; rfl
  | tup ds => obtain ⟨a, vs, rfl, _⟩ := r.tupS; rfl
  | dct f ks ds => cases f <;> (obtain ⟨a, vs, ob, rfl, _⟩ := r; rfl)
  | exc c ns ds => obtain ⟨a, vs, ob, rfl, _⟩ := r; rfl
  | _ => rw [r.1]; rfl
def isD (x y : D) : Option Bool := match x, y with
  | x, .non => some (isNon x)
  | .bl a, .bl b => some (decide (a = b))
  | _, _ => none
def gIs (x y : D) : Option D := (isD x y).map .bl
def gIsn (x y : D) : Option D := (isD x y).map fun b => .bl (!b)
def rIsA : R2 := fun x y H Q => (y = .non ∧ Q (.bl (decide (x = .non))) H) ∨ rIsB x y H Q
def rIsnA : R2 := fun x y H Q => (y = .non ∧ Q (.bl (!decide (x = .non))) H) ∨ rNotB x y H Q
theorem op_isA : OpR X (compareOp .Is) rIsA := OpR.or op_isN op_isBl
theorem op_isnA : OpR X (compareOp .IsNot) rIsnA := OpR.or op_notN op_notBl
theorem vo_is : VO2 C rIsA gIs := by
  intro d1 d2 d v1 v2 H o1 o2 Q r1 r2 hg hq
  simp only [gIs, Option.map_eq_some_iff] at hg
  obtain ⟨b, hb, rfl⟩ := hg
  unfold isD at hb
  split at hb
  · cases hb
    exact .inl ⟨r2.1, by rw [isNon_rep r1]; exact hq _ H [] ⟨rfl, rfl⟩ Ext.refl (by simp)⟩
  · cases hb
    exact .inr ⟨_, _, r1.1, r2.1, hq _ H [] ⟨rfl, rfl⟩ Ext.refl (by simp)⟩
  · cases hb
theorem vo_isn : VO2 C rIsnA gIsn := by
  intro d1 d2 d v1 v2 H o1 o2 Q r1 r2 hg hq
  simp only [gIsn, Option.map_eq_some_iff] at hg
  obtain ⟨b, hb, rfl⟩ := hg
  unfold isD at hb
  split at hb
  · cases hb
    exact .inl ⟨r2.1, by rw [isNon_rep r1]; exact hq _ H [] ⟨rfl, rfl⟩ Ext.refl (by simp)⟩
  · cases hb
    exact .inr ⟨_, _, r1.1, r2.1, hq _ H [] ⟨rfl, rfl⟩ Ext.refl (by simp)⟩
  · cases hb
/-! ### - -/
def gNeg : D → Option D
  | .int a => some (.int (-a))
  | _ => none
theorem vo_neg : VO1 C (rU fun i => .int (-i)) gNeg := by
  intro d1 d v1 H o1 Q r1 hg hq
  unfold gNeg at hg
  split at hg
  · cases hg
    exact ⟨_, r1.1, hq _ H [] ⟨rfl, rfl⟩ Ext.refl (by simp)⟩
  · cases hg

/-! ### subscripts -/
def ixD {α : Type} (ds : List α) (i : Int) : Option α := if 0 ≤ i then ds[i.toNat]? else if -(ds.length : Int) ≤ i then ds[(i + ds.length).toNat]? else none
theorem ixD_map {α β : Type} (f : α → β) (ds : List α) (i : Int) : ixD (ds.map f) i = (ixD ds i).map f := by
  unfold ixD
  simp only [List.getElem?_map, List.length_map]
  split
  · rfl
  · split <;> rfl
theorem ixD_at {α : Type} {ds : List α} {i : Int} {d : α} (h : ixD ds i = some d) : ∃ j : Nat, ds[j]? = some d ∧ ∀ {β : Type} (vs : List β), vs.length = ds.length → atI vs i = vs[j]? := by
  unfold ixD at h
  split at h
  · rename_i h0
    refine ⟨_, h, fun vs e => ?_⟩
    have hl := (List.getElem?_eq_some_iff.mp h).1
    unfold atI ixN
    rw [if_pos h0, if_pos (by omega)]
    rfl
  · rename_i h0
    split at h
    · rename_i h1
      refine ⟨_, h, fun vs e => ?_⟩
      unfold atI ixN
      rw [if_neg h0, if_pos (by omega), e]
      rfl
    · cases h
def ixv (x y : D) : Option D := match x, y with
  | .str z, .int i => if z.length ≤ sizeLine then (ixD z i).map fun c => .str [c] else none
  | .lst _ ds, .int i => ixD ds i
  | .tup ds, .int i => ixD ds i
  | _, _ => none
def gIx (x y : D) : Option D := (ixv x y).bind fun d => if fz d = true then some d else none
theorem vv_ix : VV2 C (rIx C.K) ixv := by
  intro d1 d2 d v1 v2 H o1 o2 Q r1 r2 hg hq
  unfold ixv at hg
  split at hg
  · split at hg
    · rename_i z i hz
      simp only [Option.map_eq_some_iff] at hg
      obtain ⟨c, hc, rfl⟩ := hg
      obtain ⟨j, hj, ha⟩ := ixD_at hc
      refine .inr (.inr ⟨sx z, i, c, r1.1, r2.1, by rw [sx_len]; exact hz, by rw [sx_list, ha z rfl]; exact hj, hq _ H [] ⟨rfl, rfl⟩ Ext.refl⟩)
    · cases hg
  · obtain ⟨a, vs, rfl, hr, w⟩ := r1.lstS
    obtain ⟨j, hj, ha⟩ := ixD_at hg
    obtain ⟨v, o, hv, rv⟩ := w.at hj
    exact .inl ⟨a, vs, _, v, rfl, r2.1, .inl hr, by rw [ha vs w.len]; exact hv, hq v H o rv Ext.refl⟩
  · obtain ⟨a, vs, rfl, hr, w⟩ := r1.tupS
    obtain ⟨j, hj, ha⟩ := ixD_at hg
    obtain ⟨v, o, hv, rv⟩ := w.at hj
    exact .inr (.inl ⟨a, vs, _, v, rfl, r2.1, hr, by rw [ha vs w.len]; exact hv, hq v H o rv Ext.refl⟩)
  · cases hg
theorem vo_ix : VO2 C (rIx C.K) gIx := by
  intro d1 d2 d v1 v2 H o1 o2 Q r1 r2 hg hq
  simp only [gIx, Option.bind_eq_some_iff] at hg
  obtain ⟨d', h1, h2⟩ := hg
  split at h2
  · rename_i hf
    cases h2
    exact vv_ix _ _ _ _ _ H _ _ Q r1 r2 h1 fun v H' o rv k => hq v H' o rv k (by rw [Rep.fz_nil hf rv]; simp)
  · cases h2
end
end Se

namespace Se
open PySem L2

/-! ### places: paths into own lists -/
inductive Sel where
  | ix (i : Int) | ky (k : Key)
/-- the place of an index -/
def nrm (n : Nat) (i : Int) : Option Nat := if 0 ≤ i then (if i < n then some i.toNat else none) else if -(n : Int) ≤ i then some (i + n).toNat else none
theorem nrm_lt {n j : Nat} {i : Int} (h : nrm n i = some j) : j < n := by
  unfold nrm at h
  split at h
  · split at h
    · cases h; omega
    · cases h
  · split at h
    · cases h; omega
    · cases h
theorem nrm_ixN {n j : Nat} {i : Int} (h : nrm n i = some j) : ixN n i = some j := h
def getP : D → List Sel → Option D
  | d, [] => some d
  | .lst true ds, .ix i :: π => (nrm ds.length i).bind fun j => (ds[j]?).bind fun x => getP x π
  | .dct true ks ds, .ky k :: π => (ks.idxOf? k).bind fun j => (ds[j]?).bind fun x => getP x π
  | _, _ :: _ => none
def updP (d : D) (π : List Sel) (f : D → Option D) : Option D := match π with
  | [] => f d
  | .ix i :: π => match d with
    | .lst true ds => (nrm ds.length i).bind fun j => (ds[j]?).bind fun x => (updP x π f).map fun y => .lst true (ds.set j y)
    | _ => none
  | .ky k :: π => match d with
    | .dct true ks ds => (ks.idxOf? k).bind fun j => (ds[j]?).bind fun x => (updP x π f).map fun y => .dct true ks (ds.set j y)
    | _ => none
/-- the value at a path -/
def ValP (H : Hp) : V → List Sel → V → Prop
  | v, [], w => w = v
  | v, .ix i :: π, w => ∃ (a : Addr) (vs : List V) (j : Nat) (x : V), v = .ref a ∧ H a = some (.lst vs) ∧ nrm vs.length i = some j ∧ vs[j]? = some x ∧ ValP H x π w
  | v, .ky k :: π, w => ∃ (a : Addr) (ks : List Key) (vs : List V) (j : Nat) (x : V), v = .ref a ∧ H a = some (.dK (ks.zip vs)) ∧ ks.length = vs.length ∧ ks.idxOf? k = some j ∧ vs[j]? = some x ∧ ValP H x π w
theorem zip_inj : ∀ {ks ks' : List Key} {vs vs' : List V}, ks.length = vs.length → ks'.length = vs'.length → ks.zip vs = ks'.zip vs' → ks = ks' ∧ vs = vs'
  | [], [], [], [], _, _, _ => ⟨rfl, rfl⟩
  | [], _ :: _, [], _ :: _, _, _, h => by simp at h
  | _ :: _, [], _ :: _, [], _, _, h => by simp at h
  | k :: ks, k' :: ks', v :: vs, v' :: vs', h1, h2, h => by
    simp only [List.zip_cons_cons, List.cons.injEq, Prod.mk.injEq] at h
    obtain ⟨⟨rfl, rfl⟩, h⟩ := h
    obtain ⟨rfl, rfl⟩ := zip_inj (by simpa using h1) (by simpa using h2) h
    exact ⟨rfl, rfl⟩
  | [], _, _ :: _, _, h, _, _ => by simp at h
  | _ :: _, _, [], _, h, _, _ => by simp at h
  | _, [], _, _ :: _, _, h, _ => by simp at h
  | _, _ :: _, _, [], _, h, _ => by simp at h
theorem ValP.det {H : Hp} : ∀ {π : List Sel} {v w w' : V}, ValP H v π w → ValP H v π w' → w = w'
  | [], _, _, _, h, h' => h.trans h'.symm
  | .ix i :: π, _, _, _, h, h' => by
    obtain ⟨a, vs, j, x, rfl, e1, e2, e3, h⟩ := h
    obtain ⟨a', vs', j', x', e0, e1', e2', e3', h'⟩ := h'
    cases e0
    rw [e1] at e1'; cases e1'
    rw [e2] at e2'; cases e2'
    rw [e3] at e3'; cases e3'
    exact ValP.det h h'
  | .ky i :: π, _, _, _, h, h' => by
    obtain ⟨a, ks, vs, j, x, rfl, e1, l, e2, e3, h⟩ := h
    obtain ⟨a', ks', vs', j', x', e0, e1', l', e2', e3', h'⟩ := h'
    cases e0
    rw [e1] at e1'
    obtain ⟨rfl, rfl⟩ := zip_inj l l' (HO.dK.inj (Option.some.inj e1'))
    rw [e2] at e2'; cases e2'
    rw [e3] at e3'; cases e3'
    exact ValP.det h h'
section
variable {C : RC} {H : Hp}
/-- one element of a row replaced -/
theorem RepL.set : ∀ {ds : List D} {vs : List V} {o : List Addr} {j : Nat} {x : D}, RepL C H ds vs o → ds[j]? = some x → ∃ w ox, vs[j]? = some w ∧ Rep C H x w ox ∧ (∀ a ∈ ox, a ∈ o) ∧
    ∀ (H' : Hp) (y : D) (oy : List Addr), (∀ b ob, b ∉ ox → H b = some ob → H' b = some ob) → Rep C H' y w oy → (∀ a ∈ oy, a ∈ ox ∨ a ∉ o) → ∃ o', RepL C H' (ds.set j y) vs o' ∧ ∀ a ∈ o', (a ∈ o ∧ a ∉ ox) ∨ a ∈ oy
  | [], _, _, j, _, _, e => by simp at e
  | d :: ds, _, _, 0, x, h, e => by
    obtain ⟨v, vs', o1, o2, rfl, h1, h2, n, rfl⟩ := h
    simp at e; subst e
    refine ⟨v, o1, rfl, h1, fun a z => List.mem_append_left _ z, fun H' y oy k ry hy => ⟨oy ++ o2, ⟨v, vs', oy, o2, rfl, ry, RepL.keep (own := o1) (fun a ob q na => k a ob na q) h1.mut (fun a ha z => n a z ha) h2, fun a ha z => ?_, rfl⟩, fun a ha => ?_⟩⟩
    · rcases hy a ha with q | q
      · exact n a q z
      · exact q (List.mem_append_right _ z)
    · rcases List.mem_append.mp ha with z | z
      · exact .inr z
      · exact .inl ⟨List.mem_append_right _ z, fun q => n a q z⟩
  | d :: ds, _, _, j + 1, x, h, e => by
    obtain ⟨v, vs', o1, o2, rfl, h1, h2, n, rfl⟩ := h
    obtain ⟨w, ox, e1, rx, sx', f⟩ := RepL.set (j := j) h2 (by simpa using e)
    refine ⟨w, ox, by simpa using e1, rx, fun a z => List.mem_append_right _ (sx' a z), fun H' y oy k ry hy => ?_⟩
    obtain ⟨o', r', m⟩ := f H' y oy k ry fun a ha => by
      rcases hy a ha with q | q
      · exact .inl q
      · exact .inr fun z => q (List.mem_append_right _ z)
    refine ⟨o1 ++ o', ⟨v, vs', o1, o', rfl, h1.keep (own := ox) (fun a ob q na => k a ob na q) rx.mut fun a ha z => n a ha (sx' a z), r', fun a ha z => ?_, rfl⟩, fun a ha => ?_⟩
    · rcases m a z with ⟨q, _⟩ | q
      · exact n a ha q
      · rcases hy a q with q | q
        · exact n a ha (sx' a q)
        · exact q (List.mem_append_left _ ha)
    · rcases List.mem_append.mp ha with z | z
      · exact .inl ⟨List.mem_append_left _ z, fun q => n a z (sx' a q)⟩
      · rcases m a z with ⟨q, q'⟩ | q
        · exact .inl ⟨List.mem_append_right _ q, q'⟩
        · exact .inr q
theorem Rep.upd : ∀ {π : List Sel} {d d' : D} {v : V} {o : List Addr} {f : D → Option D}, Rep C H d v o → updP d π f = some d' → ∃ x y w ox, f x = some y ∧ getP d π = some x ∧ ValP H v π w ∧ Rep C H x w ox ∧ (∀ a ∈ ox, a ∈ o) ∧
    ∀ (H' : Hp) (oy : List Addr), (∀ b ob, b ∉ ox → H b = some ob → H' b = some ob) → Rep C H' y w oy → (∀ a ∈ oy, a ∈ ox ∨ a ∉ o) → ∃ o', Rep C H' d' v o' ∧ ∀ a ∈ o', (a ∈ o ∧ a ∉ ox) ∨ a ∈ oy
  | [], d, d', v, o, f, h, e => ⟨d, d', v, o, e, by cases d <;> rfl, rfl, h, fun _ z => z, fun H' oy k ry hy => ⟨oy, ry, fun a z => .inr z⟩⟩
  | .ix i :: π, d, d', v, o, f, h, e => by
    unfold updP at e
    split at e
    · rename_i ds
      simp only [Option.bind_eq_some_iff, Option.map_eq_some_iff] at e
      obtain ⟨j, hj, x, hx, y, hy, rfl⟩ := e
      obtain ⟨a, vs, o', rfl, hH, r, na, rfl⟩ := h
      obtain ⟨w, ox, hw, rx, sx', fx⟩ := r.set hx
      obtain ⟨x1, y1, w1, ox1, e1, g1, p1, r1, s1, f1⟩ := Rep.upd rx hy
      refine ⟨x1, y1, w1, ox1, e1, ?_, ⟨a, vs, j, w, rfl, hH, by rw [r.len]; exact hj, hw, p1⟩, r1, fun b z => List.mem_cons_of_mem _ (sx' b (s1 b z)), fun H' oy k ry ho => ?_⟩
      · simp only [getP, hj, hx, Option.bind_some, g1]
      · obtain ⟨o2, r2, m2⟩ := f1 H' oy k ry fun b hb => by
          rcases ho b hb with q | q
          · exact .inl q
          · exact .inr fun z => q (List.mem_cons_of_mem _ (sx' b z))
        have kx : ∀ b ob, b ∉ ox → H b = some ob → H' b = some ob := fun b ob nb q => k b ob (fun z => nb (s1 b z)) q
        obtain ⟨o3, r3, m3⟩ := fx H' y o2 kx r2 fun b hb => by
          rcases m2 b hb with ⟨q, _⟩ | q
          · exact .inl q
          · rcases ho b q with q | q
            · exact .inl (s1 b q)
            · exact .inr fun z => q (List.mem_cons_of_mem _ z)
        have hm : ∀ b ∈ o3, ((b ∈ a :: o') ∧ b ∉ ox1) ∨ b ∈ oy := fun b hb => by
          rcases m3 b hb with ⟨q, q'⟩ | q
          · exact .inl ⟨List.mem_cons_of_mem _ q, fun z => q' (s1 b z)⟩
          · rcases m2 b q with ⟨q, q'⟩ | q
            · exact .inl ⟨List.mem_cons_of_mem _ (sx' b q), q'⟩
            · exact .inr q
        refine ⟨a :: o3, ⟨a, vs, o3, rfl, k a _ (fun z => na (sx' a (s1 a z))) hH, r3, fun z => ?_, rfl⟩, fun b hb => ?_⟩
        · rcases m3 a z with ⟨q, _⟩ | q
          · exact na q
          · rcases m2 a q with ⟨q, _⟩ | q
            · exact na (sx' a q)
            · rcases ho a q with q | q
              · exact na (sx' a (s1 a q))
              · exact q List.mem_cons_self
        · rcases List.mem_cons.mp hb with rfl | hb
          · exact .inl ⟨List.mem_cons_self, fun z => na (sx' _ (s1 _ z))⟩
          · exact hm b hb
    · cases e
  | .ky i :: π, d, d', v, o, f, h, e => by
    unfold updP at e
    split at e
    · rename_i ks ds
      simp only [Option.bind_eq_some_iff, Option.map_eq_some_iff] at e
      obtain ⟨j, hj, x, hx, y, hy, rfl⟩ := e
      obtain ⟨a, vs, o', rfl, hH, hl, r, na, rfl⟩ := h
      obtain ⟨w, ox, hw, rx, sx', fx⟩ := r.set hx
      obtain ⟨x1, y1, w1, ox1, e1, g1, p1, r1, s1, f1⟩ := Rep.upd rx hy
      refine ⟨x1, y1, w1, ox1, e1, ?_, ⟨a, ks, vs, j, w, rfl, hH, by rw [r.len]; exact hl, hj, hw, p1⟩, r1, fun b z => List.mem_cons_of_mem _ (sx' b (s1 b z)), fun H' oy k ry ho => ?_⟩
      · simp only [getP, hj, hx, Option.bind_some, g1]
      · obtain ⟨o2, r2, m2⟩ := f1 H' oy k ry fun b hb => by
          rcases ho b hb with q | q
          · exact .inl q
          · exact .inr fun z => q (List.mem_cons_of_mem _ (sx' b z))
        have kx : ∀ b ob, b ∉ ox → H b = some ob → H' b = some ob := fun b ob nb q => k b ob (fun z => nb (s1 b z)) q
        obtain ⟨o3, r3, m3⟩ := fx H' y o2 kx r2 fun b hb => by
          rcases m2 b hb with ⟨q, _⟩ | q
          · exact .inl q
          · rcases ho b q with q | q
            · exact .inl (s1 b q)
            · exact .inr fun z => q (List.mem_cons_of_mem _ z)
        have hm : ∀ b ∈ o3, ((b ∈ a :: o') ∧ b ∉ ox1) ∨ b ∈ oy := fun b hb => by
          rcases m3 b hb with ⟨q, q'⟩ | q
          · exact .inl ⟨List.mem_cons_of_mem _ q, fun z => q' (s1 b z)⟩
          · rcases m2 b q with ⟨q, q'⟩ | q
            · exact .inl ⟨List.mem_cons_of_mem _ (sx' b q), q'⟩
            · exact .inr q
        refine ⟨a :: o3, ⟨a, vs, o3, rfl, k a _ (fun z => na (sx' a (s1 a z))) hH, by simpa using hl, r3, fun z => ?_, rfl⟩, fun b hb => ?_⟩
        · rcases m3 a z with ⟨q, _⟩ | q
          · exact na q
          · rcases m2 a q with ⟨q, _⟩ | q
            · exact na (sx' a q)
            · rcases ho a q with q | q
              · exact na (sx' a (s1 a q))
              · exact q List.mem_cons_self
        · rcases List.mem_cons.mp hb with rfl | hb
          · exact .inl ⟨List.mem_cons_self, fun z => na (sx' _ (s1 _ z))⟩
          · exact hm b hb
    · cases e
theorem ValP.ext {H' : Hp} (k : Ext H H') : ∀ {π : List Sel} {v w : V}, ValP H v π w → ValP H' v π w
  | [], _, _, h => h
  | .ix i :: π, _, _, h => by
    obtain ⟨a, vs, j, x, e, e1, e2, e3, h⟩ := h
    exact ⟨a, vs, j, x, e, k a _ e1, e2, e3, ValP.ext k h⟩
  | .ky i :: π, _, _, h => by
    obtain ⟨a, ks, vs, j, x, e, e1, l, e2, e3, h⟩ := h
    exact ⟨a, ks, vs, j, x, e, k a _ e1, l, e2, e3, ValP.ext k h⟩
/-- the datum at a path, represented; the path stands as long as what is owned stands -/
theorem Rep.getP : ∀ {π : List Sel} {d x : D} {v : V} {o : List Addr}, Rep C H d v o → Se.getP d π = some x → ∃ w ox, (∀ H' : Hp, (∀ a ∈ o, H' a = H a) → ValP H' v π w) ∧ Rep C H x w ox ∧ ∀ a ∈ ox, a ∈ o
  | [], d, x, v, o, h, e => by
    have e : d = x := by cases d <;> (simp [Se.getP] at e; exact e)
    subst e
    exact ⟨v, o, fun _ _ => rfl, h, fun _ z => z⟩
  | .ix i :: π, d, x, v, o, h, e => by
    cases d with
    | lst f ds =>
      cases f with
      | true =>
        simp only [Se.getP, Option.bind_eq_some_iff] at e
        obtain ⟨j, hj, y, hy, e⟩ := e
        obtain ⟨a, vs, o', rfl, hH, r, na, rfl⟩ := h
        obtain ⟨w, o2, hw, ry, sy⟩ := r.at hy
        obtain ⟨w2, o3, p, rx, s3⟩ := Rep.getP ry e
        refine ⟨w2, o3, fun H' k => ⟨a, vs, j, w, rfl, by rw [k a List.mem_cons_self]; exact hH, by rw [r.len]; exact hj, hw, p H' fun b hb => k b (List.mem_cons_of_mem _ (sy b hb))⟩, rx, fun b z => List.mem_cons_of_mem _ (sy b (s3 b z))⟩
      | false => simp [Se.getP] at e
    | dct f ks ds => cases f <;> simp [Se.getP] at e
    | _ => simp [Se.getP] at e
  | .ky i :: π, d, x, v, o, h, e => by
    cases d with
    | dct f ks ds =>
      cases f with
      | true =>
        simp only [Se.getP, Option.bind_eq_some_iff] at e
        obtain ⟨j, hj, y, hy, e⟩ := e
        obtain ⟨a, vs, o', rfl, hH, hl, r, na, rfl⟩ := h
        obtain ⟨w, o2, hw, ry, sy⟩ := r.at hy
        obtain ⟨w2, o3, p, rx, s3⟩ := Rep.getP ry e
        refine ⟨w2, o3, fun H' k => ⟨a, ks, vs, j, w, rfl, by rw [k a List.mem_cons_self]; exact hH, by rw [r.len]; exact hl, hj, hw, p H' fun b hb => k b (List.mem_cons_of_mem _ (sy b hb))⟩, rx, fun b z => List.mem_cons_of_mem _ (sy b (s3 b z))⟩
      | false => simp [Se.getP] at e
    | lst f ds => cases f <;> simp [Se.getP] at e
    | _ => simp [Se.getP] at e
theorem ValP.snoc : ∀ {π : List Sel} {s : Sel} {v u w : V}, ValP H v π u → ValP H u [s] w → ValP H v (π ++ [s]) w
  | [], s, v, u, w, h, h' => by cases h; exact h'
  | .ix i :: π, s, v, u, w, h, h' => by
    obtain ⟨a, vs, j, x, e, e1, e2, e3, h⟩ := h
    exact ⟨a, vs, j, x, e, e1, e2, e3, ValP.snoc h h'⟩
  | .ky i :: π, s, v, u, w, h, h' => by
    obtain ⟨a, ks, vs, j, x, e, e1, l, e2, e3, h⟩ := h
    exact ⟨a, ks, vs, j, x, e, e1, l, e2, e3, ValP.snoc h h'⟩
theorem getP_nil (d : D) : Se.getP d [] = some d := by cases d <;> rfl
theorem getP_snoc : ∀ {π : List Sel} {s : Sel} {d : D}, Se.getP d (π ++ [s]) = (Se.getP d π).bind fun x => Se.getP x [s]
  | [], s, d => by rw [getP_nil]; rfl
  | .ix i :: π, s, d => by
    cases d with
    | lst f ds =>
      cases f with
      | true =>
        simp only [List.cons_append, Se.getP, Option.bind_assoc]
        congr; funext j; congr; funext x
        exact getP_snoc
      | false => rfl
    | dct f ks ds => cases f <;> rfl
    | _ => rfl
  | .ky i :: π, s, d => by
    cases d with
    | dct f ks ds =>
      cases f with
      | true =>
        simp only [List.cons_append, Se.getP, Option.bind_assoc]
        congr; funext j; congr; funext x
        exact getP_snoc
      | false => rfl
    | lst f ds => cases f <;> rfl
    | _ => rfl
/-- a row's element replaced by another value -/
theorem RepL.setV : ∀ {ds : List D} {vs : List V} {o oy : List Addr} {j : Nat} {y : D} {w : V}, RepL C H ds vs o → Rep C H y w oy → (∀ a ∈ oy, a ∉ o) → ∃ o', RepL C H (ds.set j y) (vs.set j w) o' ∧ ∀ a ∈ o', a ∈ o ∨ a ∈ oy
  | [], _, _, oy, j, y, w, h, ry, n => by obtain ⟨rfl, rfl⟩ := h; exact ⟨[], ⟨rfl, rfl⟩, fun _ z => .inl z⟩
  | d :: ds, _, _, oy, 0, y, w, h, ry, n => by
    obtain ⟨v, vs', o1, o2, rfl, h1, h2, dj, rfl⟩ := h
    exact ⟨oy ++ o2, ⟨w, vs', oy, o2, rfl, ry, h2, fun a ha z => n a ha (List.mem_append_right _ z), rfl⟩, fun a ha => (List.mem_append.mp ha).elim .inr fun z => .inl (List.mem_append_right _ z)⟩
  | d :: ds, _, _, oy, j + 1, y, w, h, ry, n => by
    obtain ⟨v, vs', o1, o2, rfl, h1, h2, dj, rfl⟩ := h
    obtain ⟨o', r', m⟩ := RepL.setV (j := j) h2 ry fun a ha z => n a ha (List.mem_append_right _ z)
    refine ⟨o1 ++ o', ⟨v, _, o1, o', rfl, h1, r', fun a ha z => ?_, rfl⟩, fun a ha => ?_⟩
    · rcases m a z with q | q
      · exact dj a ha q
      · exact n a q (List.mem_append_left _ ha)
    · rcases List.mem_append.mp ha with z | z
      · exact .inl (List.mem_append_left _ z)
      · rcases m a z with q | q
        · exact .inl (List.mem_append_right _ q)
        · exact .inr q
theorem RepL.append : ∀ {ds es : List D} {vs ws : List V} {o o2 : List Addr}, RepL C H ds vs o → RepL C H es ws o2 → (∀ a ∈ o, a ∉ o2) → RepL C H (ds ++ es) (vs ++ ws) (o ++ o2)
  | [], _, _, _, _, _, h, h', _ => by obtain ⟨rfl, rfl⟩ := h; exact h'
  | d :: ds, es, _, ws, _, o2, h, h', n => by
    obtain ⟨v, vs', o1, o3, rfl, h1, h2, dj, rfl⟩ := h
    refine ⟨v, vs' ++ ws, o1, o3 ++ o2, rfl, h1, RepL.append h2 h' fun a ha z => n a (List.mem_append_right _ ha) z, fun a ha z => ?_, by rw [List.append_assoc]⟩
    rcases List.mem_append.mp z with q | q
    · exact dj a ha q
    · exact n a (List.mem_append_left _ ha) q
theorem RepL.split : ∀ {ds es : List D} {vs : List V} {o : List Addr}, RepL C H (ds ++ es) vs o → ∃ v1 v2 o1 o2, vs = v1 ++ v2 ∧ RepL C H ds v1 o1 ∧ RepL C H es v2 o2 ∧ (∀ a ∈ o1, a ∉ o2) ∧ o = o1 ++ o2
  | [], es, vs, o, h => ⟨[], vs, [], o, rfl, ⟨rfl, rfl⟩, h, (by simp), rfl⟩
  | d :: ds, es, _, _, h => by
    obtain ⟨v, vs', o1, o3, rfl, h1, h2, dj, rfl⟩ := h
    obtain ⟨v1, v2, p1, p2, rfl, r1, r2, n, rfl⟩ := RepL.split h2
    refine ⟨v :: v1, v2, o1 ++ p1, p2, rfl, ⟨v, v1, o1, p1, rfl, h1, r1, fun a ha z => dj a ha (List.mem_append_left _ z), rfl⟩, r2, fun a ha z => ?_, by rw [List.append_assoc]⟩
    rcases List.mem_append.mp ha with q | q
    · exact dj a q (List.mem_append_right _ z)
    · exact n a q z
/-- a leaf changed in its place, the slot filled again -/
theorem mut_core {ρ1 : Env} {σ : St} {own2 o : List Addr} {i : Nat} {d d' : D} {v0 v : V} {π : List Sel} {f : D → Option D} (er : ER C H ρ1 σ own2) (hi : ρ1[i]? = some none) (hs : σ[i]? = some (some v0)) (r : Rep C H d v0 o) (dj : ∀ a ∈ o, a ∉ own2)
    (hu : updP d π f = some d') (hp : ValP H v0 π v) : ∃ x y ox, f x = some y ∧ Se.getP d π = some x ∧ Rep C H x v ox ∧ (∀ a ∈ ox, a ∈ o) ∧
      ∀ (H' : Hp) (oy : List Addr), (∀ b ob, b ∉ ox → H b = some ob → H' b = some ob) → Rep C H' y v oy → (∀ b ∈ oy, b ∈ ox ∨ (b ∉ o ∧ b ∉ own2)) →
        ∃ own', ER C H' (ρ1.set i (some d')) σ own' ∧ ∀ b ∈ own', b ∈ own2 ∨ (b ∈ o ∧ b ∉ ox) ∨ b ∈ oy := by
  obtain ⟨x, y, w, ox, e1, g, p, rx, sx', f'⟩ := Rep.upd r hu
  have ew := p.det hp
  subst ew
  refine ⟨x, y, ox, e1, g, rx, sx', fun H' oy k ry ho => ?_⟩
  obtain ⟨o', r', m⟩ := f' H' oy k ry fun a ha => (ho a ha).imp id And.left
  have er' : ER C H' ρ1 σ own2 := er.keep (own := ox) (fun a ob q na => k a ob na q) rx.mut fun a ha z => dj a (sx' a z) ha
  obtain ⟨own', er2, m2⟩ := ER.put er' hi hs r' fun a ha z => by
    rcases m a ha with ⟨q, _⟩ | q
    · exact dj a q z
    · rcases ho a q with q | q
      · exact dj a (sx' a q) z
      · exact q.2 z
  refine ⟨own', er2, fun b hb => ?_⟩
  rcases (m2 b).mp hb with q | q
  · rcases m b q with q | q
    · exact .inr (.inl q)
    · exact .inr (.inr q)
  · exact .inl q
theorem Stp.pre {H1 H' : Hp} {own own1 own' : List Addr} (k : Ext H H1) (s : Stp H1 H' own1 own') (h : ∀ a ∈ own1, a ∈ own) : Stp H H' own own' := by
  refine ⟨fun a ob e n => s.keep a ob (k a ob e) fun z => n (h a z), fun a ha => ?_⟩
  rcases s.sub a ha with q | q
  · exact .inl (h a q)
  · right
    cases e : H a with
    | none => rfl
    | some ob => rw [k a ob e] at q; cases q
end

/-! ### expressions that tell a place -/
structure SP (X : Cx) (C : RC) (e : Expr) (p : Env → Option (Nat × List Sel)) : Prop where
  ex : ∃ t, PE X e t ∧ ∀ ρ σ H own Q, ER C H ρ σ own → ∀ i π d x, p ρ = some (i, π) → (ρ[i]?).join = some d → getP d π = some x →
    (∀ v0 v H', σ[i]? = some (some v0) → ValP H v0 π v → Ext H H' → Q v H') → t σ H Q
def pVar (i : Nat) : Env → Option (Nat × List Sel) := fun _ => some (i, [])
def pIx (p : Env → Option (Nat × List Sel)) (f : Env → Option D) : Env → Option (Nat × List Sel) := fun ρ => (p ρ).bind fun q => match f ρ with
  | some (.int k) => some (q.1, q.2 ++ [.ix k])
  | _ => none
section
variable {X : Cx} {W : WX} {C : RC} {e a b : Expr} {pos : Pos} {f : Env → Option D} {p : Env → Option (Nat × List Sel)}
theorem sp_var {i : Nat} {x : Str} (h : PE X (.Name x pos) (tVar i)) : SP X C (.Name x pos) (pVar i) := by
  refine ⟨_, h, fun ρ σ H own Q er j π d y hp hd hg hw => ?_⟩
  cases hp
  obtain ⟨v, o, own1, e1, r, _, _, _⟩ := er.take (join_some hd)
  exact ⟨v, e1, hw v v H e1 rfl Ext.refl⟩
theorem sp_ix (hp : SP X C a p) (hb : SV X C b f) (hs : PlainIx b := by exact fun _ _ => rfl) : SP X C (.Subscript a b pos) (pIx p f) := by
  obtain ⟨ta, pa, sa⟩ := hp.ex
  obtain ⟨tb, pb, sb⟩ := hb.ex
  refine ⟨_, pe_ix ix_list pa pb hs, fun ρ σ H own Q er i π d x hq hd hg hw => ?_⟩
  simp only [pIx, Option.bind_eq_some_iff] at hq
  obtain ⟨⟨i', π'⟩, h1, h2⟩ := hq
  split at h2
  · rename_i k hk
    cases h2
    rw [getP_snoc, Option.bind_eq_some_iff] at hg
    obtain ⟨y, hy, hx⟩ := hg
    obtain ⟨v0', o, own1, e1, r, _, _, _⟩ := er.take (join_some hd)
    obtain ⟨w, ow, pw, rw', _⟩ := r.getP hy
    obtain ⟨w2, _, pw2, _, _⟩ := rw'.getP hx
    have q2 := pw2 H fun _ _ => rfl
    refine sa ρ σ H own _ er i' π' d y h1 hd hy fun v0 v H1 es hv k1 => ?_
    rw [e1] at es; cases es
    have ev := hv.det (pw H fun _ _ => rfl)
    subst ev
    refine sb ρ σ H1 own _ (er.ext k1) _ hk fun vi H2 oi ri k2 => ?_
    obtain ⟨l, vs, j, u, rfl, g1, g2, g3, g4⟩ := id q2
    cases g4
    refine ⟨l, vs, k, w2, rfl, ri.1, .inl (.inl (k2 _ _ (k1 _ _ g1))), ?_, hw _ _ H2 e1 (hv.snoc q2) fun a ob z => k2 a ob (k1 a ob z)⟩
    unfold atI
    rw [show ixN vs.length k = some j from g2]
    exact g3
  · cases h2
end
end Se

namespace Se
open PySem L2

/-! ### methods that change a list in its place -/
/-- what a method does to the items, with its arguments: the items then, its value -/
abbrev GM := List D → List D → Option (List D × D)
abbrev VMut (C : RC) (r : V → List V → Hp → VK → Prop) (g : GM) : Prop := ∀ (ds ys ds' : List D) (d : D) (a : Addr) (vs ws : List V) (o oy : List Addr) (H : Hp) (Q : VK), H a = some (.lst vs) → RepL C H ds vs o → a ∉ o → RepL C H ys ws oy → (∀ x ∈ oy, x ≠ a ∧ x ∉ o) →
  g ds ys = some (ds', d) → (∀ v vs' o2 oR, RepL C H ds' vs' o2 → Rep C H d v oR → (∀ x ∈ o2, x ∉ oR) → (∀ x, x ∈ o2 ∨ x ∈ oR → x ∈ o ∨ x ∈ oy) → Q v (upd H a (.lst vs'))) → r (.ref a) ws H Q
def leafM (g : GM) (ys : List D) : D → Option D := fun l => match l with
  | .lst true ds => (g ds ys).map fun p => .lst true p.1
  | _ => none
def valM (g : GM) (ys : List D) : D → Option D := fun l => match l with
  | .lst true ds => (g ds ys).map fun p => p.2
  | _ => none
def isOwnL : D → Bool
  | .lst true _ => true
  | _ => false
/-- x.m(args), the arguments may do anything but look at x -/
def eMut (g : GM) (p : Env → Option (Nat × List Sel)) (ms : M (List D)) : M D := fun ρ => match p ρ with
  | some (i, π) => match (ρ[i]?).join with
    | some d => match getP d π with
      | some l => if isOwnL l = true then (ms (ρ.set i none)).bind fun ys ρ1 => match ρ1[i]?, updP d π (leafM g ys), valM g ys l with
          | some none, some d', some v => .ok v (ρ1.set i (some d'))
          | _, _, _ => .bad
        else .bad
      | none => .bad
    | none => .bad
  | none => .bad
/-- x.m(args), the arguments change nothing and are frozen -/
def eMutQ (g : GM) (p : Env → Option (Nat × List Sel)) (fs : Env → Option (List D)) : M D := fun ρ => match p ρ with
  | some (i, π) => match (ρ[i]?).join with
    | some d => match getP d π, fs ρ with
      | some l, some ys => if isOwnL l = true ∧ fzL ys = true then match updP d π (leafM g ys), valM g ys l with
          | some d', some v => .ok v (ρ.set i (some d'))
          | _, _ => .bad
        else .bad
      | _, _ => .bad
    | none => .bad
  | none => .bad
section
variable {X : Cx} {W : WX} {C : RC} {e o : Expr} {es : List Expr} {g : GM} {p : Env → Option (Nat × List Sel)} {ms : M (List D)} {fs : Env → Option (List D)} {r : V → List V → Hp → VK → Prop}
/-- the end of both -/
theorem mut_end {ρ1 : Env} {σ : St} {H0 H2 : Hp} {own own2 ow oy : List Addr} {i : Nat} {d d' l vl : D} {v0 v : V} {π : List Sel} {ys : List D} {ws : List V} {Q : VK} (vm : VMut C r g) (er : ER C H2 ρ1 σ own2) (hi : ρ1[i]? = some none) (hs : σ[i]? = some (some v0)) (rd : Rep C H2 d v0 ow)
    (dj : ∀ a ∈ ow, a ∉ own2) (hg : getP d π = some l) (hu : updP d π (leafM g ys) = some d') (hv : valM g ys l = some vl) (hp : ValP H2 v0 π v) (ry : RepL C H2 ys ws oy) (dy : ∀ a ∈ oy, a ∉ ow ∧ a ∉ own2)
    (k : ∀ a ob, H0 a = some ob → a ∉ own → H2 a = some ob) (so : ∀ a ∈ ow, a ∈ own) (sn : ∀ a, a ∈ oy ∨ a ∈ own2 → a ∈ own ∨ H0 a = none)
    (hw : PoE C W (.ok vl (ρ1.set i (some d'))) σ H0 own Q) : r v ws H2 Q := by
  obtain ⟨x, y, ox, e1, g1, rx, sx', fin⟩ := mut_core er hi hs rd dj hu hp
  rw [hg] at g1; cases g1
  cases l with
  | lst fl ds =>
    cases fl with
    | false => simp [valM] at hv
    | true =>
      simp only [valM, Option.map_eq_some_iff] at hv
      obtain ⟨⟨ds', vl'⟩, hgd, rfl⟩ := hv
      simp only [leafM, hgd, Option.map_some, Option.some.injEq] at e1
      subst e1
      obtain ⟨a, vs, o', rfl, hH, rl, na, rfl⟩ := rx
      refine vm ds ys ds' vl' a vs ws o' oy H2 Q hH rl na ry (fun x hx => ⟨fun z => (dy x hx).1 (z ▸ sx' a List.mem_cons_self), fun z => (dy x hx).1 (sx' x (List.mem_cons_of_mem _ z))⟩) hgd fun v' vs' o2 oR r2 rR dj2 sb => ?_
      have na2 : ∀ x, x ∈ o2 ∨ x ∈ oR → x ≠ a := fun x hx z => by
        subst z
        rcases sb x hx with q | q
        · exact na q
        · exact (dy x q).1 (sx' x List.mem_cons_self)
      have kk : Keeps H2 (upd H2 a (.lst vs')) [a] := fun b ob q nb => by
        rw [upd_ne (fun z => nb (by simp [z]))]; exact q
      have mm : Muts H2 [a] := fun b hb => by
        cases List.mem_singleton.mp hb
        exact ⟨_, hH, trivial⟩
      obtain ⟨own', erF, mF⟩ := fin (upd H2 a (.lst vs')) (a :: o2) (fun b ob nb q => kk b ob q fun z => nb (by cases List.mem_singleton.mp z; exact List.mem_cons_self))
        ⟨a, vs', o2, rfl, upd_same, r2.keep kk mm fun x hx z => na2 x (.inl hx) (List.mem_singleton.mp z), fun z => na2 a (.inl z) rfl, rfl⟩ (fun b hb => by
          rcases List.mem_cons.mp hb with rfl | hb
          · exact .inl List.mem_cons_self
          · rcases sb b (.inl hb) with q | q
            · exact .inl (List.mem_cons_of_mem _ q)
            · exact .inr (dy b q))
      refine hw v' _ oR own' (rR.keep kk mm fun x hx z => na2 x (.inr hx) (List.mem_singleton.mp z)) erF (fun b hb z => ?_) ⟨fun b ob q nb => kk b ob (k b ob q nb) fun z => ?_, fun b hb => ?_⟩
      · have hb' := sb b (.inr hb)
        rcases mF b z with q | ⟨q, q'⟩ | q
        · rcases hb' with w | w
          · exact dj b (sx' b (List.mem_cons_of_mem _ w)) q
          · exact (dy b w).2 q
        · rcases hb' with w | w
          · exact q' (List.mem_cons_of_mem _ w)
          · exact (dy b w).1 q
        · rcases List.mem_cons.mp q with rfl | q
          · exact na2 _ (.inr hb) rfl
          · exact dj2 b q hb
      · cases List.mem_singleton.mp z
        exact nb (so _ (sx' _ List.mem_cons_self))
      · have hin : ∀ b, b ∈ o' ∨ b ∈ oy → b ∈ own ∨ H0 b = none := fun b hb => by
          rcases hb with q | q
          · exact .inl (so b (sx' b (List.mem_cons_of_mem _ q)))
          · exact sn b (.inl q)
        rcases List.mem_append.mp hb with q | q
        · exact hin b (sb b (.inr q))
        · rcases mF b q with q | ⟨q, _⟩ | q
          · exact sn b (.inr q)
          · exact .inl (so b q)
          · rcases List.mem_cons.mp q with rfl | q
            · exact .inl (so _ (sx' _ List.mem_cons_self))
            · exact hin b (sb b (.inl q))
  | _ => simp [valM] at hv
theorem se_mut (pe : ∀ to t, PE X o to → PA X es t → PE X e (tBM X.K "list" r to t)) (vm : VMut C r g) (hp : SP X C o p) (ha : SA X W C es ms) : SE X W C e (eMut g p ms) := by
  obtain ⟨to, po, sp⟩ := hp.ex
  obtain ⟨ta, pa, sa⟩ := ha.ex
  refine ⟨_, pe to ta po pa, fun ρ σ H own Q er hw => ?_⟩
  unfold eMut at hw
  split at hw
  · rename_i i π hpp
    split at hw
    · rename_i d hd
      split at hw
      · rename_i l hl
        split at hw
        · rename_i hown
          obtain ⟨v0, ow, own1, e1, rd, er1, dj, mo⟩ := er.take (join_some hd)
          obtain ⟨w, ox, pw, rw', sw'⟩ := rd.getP hl
          refine sp ρ σ H own _ er i π d l hpp hd hl fun v0' v H1 es' hv k1 => ?_
          rw [e1] at es'; cases es'
          have ev := hv.det (pw H fun _ _ => rfl)
          subst ev
          have tyl : tyV X.K "list" v H1 := by
            cases l with
            | lst f ds =>
              obtain ⟨a, vs, rfl, hr, _⟩ := rw'.lstS
              refine .inl ⟨rfl, vs, .inl ?_⟩
              rcases hr with hr | ⟨ob, hr⟩
              · exact .inl (k1 _ _ hr)
              · exact .inr ⟨ob, k1 _ _ hr⟩
            | _ => simp [isOwnL] at hown
          refine ⟨tyl, sa (ρ.set i none) σ H1 own1 _ (er1.ext k1) (poA_bind (P := fun r => PoE C W r σ H own Q) hw (fun z => z) ?_ fun ys ρ1 ws H2 oy own2 ry er2 dj2 st hw2 => ?_)⟩
          · exact fun e' ρ' q cls dd H' own' x1 x2 st => q cls dd H' own' x1 x2 (st.pre k1 fun a ha => (mo a).mpr (.inr ha))
          · have er1x := er1.ext k1
            split at hw2
            · rename_i d' vl h1 h2 h3
              have djo : ∀ a ∈ ow, a ∉ oy ++ own2 := st.apart (rd.ext k1).mut dj
              have hk : ∀ a ∈ ow, H2 a = H a := fun a ha => by
                obtain ⟨u, q, _⟩ := rd.mut a ha
                rw [q]
                exact st.keep a u (k1 a u q) (dj a ha)
              exact mut_end vm er2 h1 e1 ((rd.ext k1).keep st.keep er1x.mut dj) (fun a ha z => djo a ha (List.mem_append_right _ z)) hl h2 h3 (pw H2 hk) ry (fun a ha => ⟨fun z => djo a z (List.mem_append_left _ ha), fun z => dj2 a ha z⟩)
                (fun a ob q nb => st.keep a ob (k1 a ob q) fun z => nb ((mo a).mpr (.inr z))) (fun a ha => (mo a).mpr (.inl ha)) (fun a ha => (st.pre k1 fun a ha => (mo a).mpr (.inr ha)).sub a (List.mem_append.mpr ha)) hw2
            · exact hw2.elim
        · exact hw.elim
      · exact hw.elim
    · exact hw.elim
  · exact hw.elim
theorem snd_mutQ {to : TE} {ta : TA} {K : PySem.W.Frag} (vm : VMut C r g) (sp : ∀ ρ σ H own Q, ER C H ρ σ own → ∀ i π d x, p ρ = some (i, π) → (ρ[i]?).join = some d → getP d π = some x →
    (∀ v0 v H', σ[i]? = some (some v0) → ValP H v0 π v → Ext H H' → Q v H') → to σ H Q) (sa : ∀ ρ σ H own Q, ER C H ρ σ own → ∀ ds, fs ρ = some ds → (∀ vs H', RepW C H' ds vs → Ext H H' → Q vs H') → ta σ H Q) :
    Snd W C (tBM K "list" r to ta) (eMutQ g p fs) := fun ρ σ H own Q er hw => by
  unfold eMutQ at hw
  split at hw
  · rename_i i π hpp
    split at hw
    · rename_i d hd
      split at hw
      · rename_i l ys hl hys
        split at hw
        · rename_i hown
          obtain ⟨hown, hfz⟩ := hown
          obtain ⟨v0, ow, own1, e1, rd, er1, dj, mo⟩ := er.take (join_some hd)
          obtain ⟨w, ox, pw, rw', sw'⟩ := rd.getP hl
          refine sp ρ σ H own _ er i π d l hpp hd hl fun v0' v H1 es' hv k1 => ?_
          rw [e1] at es'; cases es'
          have ev := hv.det (pw H fun _ _ => rfl)
          subst ev
          have tyl : tyV K "list" v H1 := by
            cases l with
            | lst f ds =>
              obtain ⟨a, vs, rfl, hr, _⟩ := rw'.lstS
              refine .inl ⟨rfl, vs, .inl ?_⟩
              rcases hr with hr | ⟨ob, hr⟩
              · exact .inl (k1 _ _ hr)
              · exact .inr ⟨ob, k1 _ _ hr⟩
            | _ => simp [isOwnL] at hown
          refine ⟨tyl, sa ρ σ H1 own _ (er.ext k1) ys hys fun ws H2 rws k2 => ?_⟩
          have k12 : Ext H H2 := fun a ob q => k2 a ob (k1 a ob q)
          split at hw
          · rename_i d' vl h2 h3
            have hii : i < ρ.length := (List.getElem?_eq_some_iff.mp (join_some hd)).1
            have hw' : PoE C W (.ok vl ((ρ.set i none).set i (some d'))) σ H own Q := by rw [List.set_set]; exact hw
            exact mut_end vm (er1.ext k12) (by rw [List.getElem?_set_self hii]) e1 (rd.ext k12) dj hl h2 h3 (hv.ext k12) (rws.fz hfz) (by simp) (fun a ob q _ => k12 a ob q) (fun a ha => (mo a).mpr (.inl ha)) (fun a ha => .inl (by
              rcases ha with q | q
              · cases q
              · exact (mo a).mpr (.inr q))) hw'
          · exact hw.elim
        · exact hw.elim
      · exact hw.elim
    · exact hw.elim
  · exact hw.elim
theorem se_mutQ (pe : ∀ to t, PE X o to → PA X es t → PE X e (tBM X.K "list" r to t)) (vm : VMut C r g) (hp : SP X C o p) (ha : SW X C es fs) : SE X W C e (eMutQ g p fs) := by
  obtain ⟨to, po, sp⟩ := hp.ex
  obtain ⟨ta, pa, sa⟩ := ha.ex
  exact ⟨_, pe to ta po pa, snd_mutQ vm sp sa⟩
theorem se_mut0 (pe : ∀ to, PE X o to → PE X e (tBM0 X.K "list" r to)) (vm : VMut C r g) (hp : SP X C o p) : SE X W C e (eMutQ g p wNil) := by
  obtain ⟨to, po, sp⟩ := hp.ex
  exact ⟨_, pe to po, snd_mutQ (ta := tNil) (K := X.K) vm sp fun ρ σ H own Q er ds hd hw => by cases hd; exact hw [] H rfl Ext.refl⟩
end
def gmAppend : GM := fun ds ys => match ys with
  | [y] => if ds.length < sizeLine then some (ds ++ [y], .non) else none
  | _ => none
def gmPop : GM := fun ds ys => match ys with
  | [] => (ds.getLast?).map fun x => (ds.dropLast, x)
  | _ => none
def gmPopAt : GM := fun ds ys => match ys with
  | [.int i] => if -(2 ^ 63) ≤ i ∧ i < 2 ^ 63 then (nrm ds.length i).bind fun j => (ds[j]?).map fun x => (ds.eraseIdx j, x) else none
  | _ => none
def gmExtend : GM := fun ds ys => match ys with
  | [.lst _ es] => if fzL es = true ∧ ds.length + es.length ≤ sizeLine then some (ds ++ es, .non) else none
  | _ => none
def gmInsert : GM := fun ds ys => match ys with
  | [.int i, y] => if ds.length < sizeLine ∧ 0 ≤ i ∧ i < 2 ^ 63 then some (ds.take i.toNat ++ [y] ++ ds.drop i.toNat, .non) else none
  | _ => none
theorem RepL.sing {C : RC} {H : Hp} {y : D} {ws : List V} {o : List Addr} (h : RepL C H [y] ws o) : ∃ w, ws = [w] ∧ Rep C H y w o := by
  obtain ⟨v, vs', o1, o2, rfl, h1, ⟨rfl, rfl⟩, _, rfl⟩ := h
  exact ⟨v, rfl, by rw [List.append_nil]; exact h1⟩
section
variable {C : RC}
theorem vm_append : VMut C rAppend gmAppend := by
  intro ds ys ds' d a vs ws o oy H Q hH r na ry dy hg hq
  unfold gmAppend at hg
  split at hg
  · split at hg
    · rename_i y hz
      cases hg
      obtain ⟨w, rfl, r1⟩ := ry.sing
      refine ⟨a, vs, w, rfl, rfl, hH, by rw [r.len]; exact hz, hq .non (vs ++ [w]) (o ++ oy) [] (r.append ⟨w, [], oy, [], rfl, r1, (show ([] : List V) = [] ∧ ([] : List Addr) = [] from ⟨rfl, rfl⟩), (by simp), (by simp)⟩ fun x hx z => (dy x z).2 hx) ⟨rfl, rfl⟩ (by simp) fun x hx => ?_⟩
      rcases hx with q | q
      · exact List.mem_append.mp q
      · cases q
    · cases hg
  · cases hg
theorem RepL.dropLast {H : Hp} {ds : List D} {x : D} {vs : List V} {o : List Addr} (h : RepL C H ds vs o) (e : ds.getLast? = some x) : ∃ w o1 o2, vs[vs.length - 1]? = some w ∧ RepL C H ds.dropLast vs.dropLast o1 ∧ Rep C H x w o2 ∧ (∀ a ∈ o1, a ∉ o2) ∧ o = o1 ++ o2 := by
  have hne : ds ≠ [] := by rintro rfl; simp at e
  have e2 : ds = ds.dropLast ++ [x] := by
    obtain ⟨ys', h2⟩ := List.getLast?_eq_some_iff.mp e
    rw [h2]; simp
  rw [e2] at h
  obtain ⟨v1, v2, o1, o2, rfl, r1, r2, n, rfl⟩ := h.split
  obtain ⟨w, rfl, r3⟩ := r2.sing
  exact ⟨w, o1, o2, by simp, by simpa using r1, r3, n, rfl⟩
theorem vm_pop : VMut C rPop gmPop := by
  intro ds ys ds' d a vs ws o oy H Q hH r na ry dy hg hq
  unfold gmPop at hg
  split at hg
  · simp only [Option.map_eq_some_iff] at hg
    obtain ⟨x, hx, e⟩ := hg
    cases e
    obtain ⟨rfl, rfl⟩ := ry
    obtain ⟨w, o1, o2, hw, r1, r2, n, rfl⟩ := r.dropLast hx
    exact ⟨a, vs, w, rfl, rfl, hH, hw, hq w _ o1 o2 r1 r2 n fun x hx => .inl (List.mem_append.mpr hx)⟩
  · cases hg
theorem RepL.erase {H : Hp} : ∀ {ds : List D} {x : D} {vs : List V} {o : List Addr} {j : Nat}, RepL C H ds vs o → ds[j]? = some x → ∃ w o1 o2, vs[j]? = some w ∧ RepL C H (ds.eraseIdx j) (vs.eraseIdx j) o1 ∧ Rep C H x w o2 ∧ (∀ a ∈ o1, a ∉ o2) ∧ ∀ a, a ∈ o1 ∨ a ∈ o2 → a ∈ o
  | [], _, _, _, j, _, e => by simp at e
  | d :: ds, x, _, _, 0, h, e => by
    obtain ⟨v, vs', o1, o2, rfl, h1, h2, n, rfl⟩ := h
    simp at e; subst e
    exact ⟨v, o2, o1, rfl, h2, h1, fun a ha z => n a z ha, fun a ha => List.mem_append.mpr ha.symm⟩
  | d :: ds, x, _, _, j + 1, h, e => by
    obtain ⟨v, vs', o1, o2, rfl, h1, h2, n, rfl⟩ := h
    obtain ⟨w, p1, p2, e1, r1, r2, n2, m⟩ := RepL.erase (j := j) h2 (by simpa using e)
    refine ⟨w, o1 ++ p1, p2, by simpa using e1, ⟨v, _, o1, p1, rfl, h1, r1, fun a ha z => n a ha (m a (.inl z)), rfl⟩, r2, fun a ha z => ?_, fun a ha => ?_⟩
    · rcases List.mem_append.mp ha with q | q
      · exact n a q (m a (.inr z))
      · exact n2 a q z
    · rcases ha with q | q
      · rcases List.mem_append.mp q with q | q
        · exact List.mem_append_left _ q
        · exact List.mem_append_right _ (m a (.inl q))
      · exact List.mem_append_right _ (m a (.inr q))
theorem RepW.ints {H : Hp} {i : Int} {ws : List V} (h : RepW C H [.int i] ws) : ws = [.int i] := by
  obtain ⟨v, vs, o, rfl, h1, rfl⟩ := h
  rw [h1.1]
theorem vm_popAt : VMut C rPopAt gmPopAt := by
  intro ds ys ds' d a vs ws o oy H Q hH r na ry dy hg hq
  unfold gmPopAt at hg
  split at hg
  · rename_i i
    split at hg
    · rename_i hb
      simp only [Option.bind_eq_some_iff, Option.map_eq_some_iff] at hg
      obtain ⟨j, hj, x, hx, e⟩ := hg
      cases e
      have ew := ry.w.ints
      subst ew
      obtain ⟨w, o1, o2, hw, r1, r2, n, m⟩ := r.erase hx
      have hj' : ixN vs.length i = some j := by rw [r.len]; exact hj
      exact ⟨a, vs, i, j, w, rfl, rfl, hH, hb.1, hb.2, (ixN_seq hj').1, hw, hq w _ o1 o2 r1 r2 n fun x hx => .inl (m x hx)⟩
    · cases hg
  · cases hg
end

/-! ### x[k] = value -/
def leafSet (k : Int) (y : D) : D → Option D := fun l => match l with
  | .lst true ds => (nrm ds.length k).map fun j => .lst true (ds.set j y)
  | _ => none
def sSet (me : M D) (p : Env → Option (Nat × List Sel)) (fk : Env → Option D) : MS := fun ρ => match me ρ with
  | .ok y ρ1 => match p ρ1, fk ρ1 with
    | some (i, π), some (.int k) => match (ρ1[i]?).join with
      | some d => match updP d π (leafSet k y) with
        | some d' => .nx (ρ1.set i (some d'))
        | none => .bad
      | none => .bad
    | _, _ => .bad
  | .ex e ρ1 => .ex e ρ1
  | .bad => .bad
theorem upd_get : ∀ {π : List Sel} {d d' : D} {f : D → Option D}, updP d π f = some d' → ∃ x, getP d π = some x ∧ (f x).isSome = true
  | [], d, d', f, h => ⟨d, getP_nil d, by rw [show f d = some d' from h]; rfl⟩
  | .ix i :: π, d, d', f, h => by
    unfold updP at h
    split at h
    · simp only [Option.bind_eq_some_iff, Option.map_eq_some_iff] at h
      obtain ⟨j, hj, x, hx, y, hy, rfl⟩ := h
      obtain ⟨z, hz, fz'⟩ := upd_get hy
      exact ⟨z, by simp only [getP, hj, hx, Option.bind_some, hz], fz'⟩
    · cases h
  | .ky i :: π, d, d', f, h => by
    unfold updP at h
    split at h
    · simp only [Option.bind_eq_some_iff, Option.map_eq_some_iff] at h
      obtain ⟨j, hj, x, hx, y, hy, rfl⟩ := h
      obtain ⟨z, hz, fz'⟩ := upd_get hy
      exact ⟨z, by simp only [getP, hj, hx, Option.bind_some, hz], fz'⟩
    · cases h
section
variable {X : Cx} {W : WX} {C : RC} {B : List Nat} {o k e : Expr} {me : M D} {p : Env → Option (Nat × List Sel)} {fk : Env → Option D} {pos p' : Pos}
theorem ss_set (he : SE X W C e me) (hp : SP X C o p) (hk : SV X C k fk) (ha : ∀ v, assign (.Subscript o k p') X.env v = (do
      let ov ← holding [v] (eval o X.env)
      let iv ← holding [v, ov] (eval k X.env)
      standAt p'
      holding [v, ov, iv] (setItem ov iv v)
      release [v, ov, iv] []) := by intro _; rfl)
    (hs : swapsWithSole [.Subscript o k p'] e pos.line X.env = pure false := by rfl) (hw : swappedStores [.Subscript o k p'] e X.env = pure none := by rfl)
    (h1 : (assignEach [.Subscript o k p'] X.env).map (·.2) = [assign (.Subscript o k p') X.env] := by rfl) : SS X W C B (.Assign [.Subscript o k p'] e pos) (sSet me p fk) := by
  obtain ⟨te, pe, se⟩ := he.ex
  obtain ⟨to, po, sp⟩ := hp.ex
  obtain ⟨tk, pk, sk⟩ := hk.ex
  refine ⟨_, ps_asg pe (pg_sub po pk set_list ha) hs hw h1, fun ρ σ H own Dn er hw => ?_⟩
  refine se ρ σ H own _ er ?_
  unfold sSet at hw
  cases hme : me ρ with
  | bad => rw [hme] at hw; exact hw.elim
  | ex e' ρ1 =>
    rw [hme] at hw
    exact fun cls d H' own' x1 x2 st => hw cls d σ H' own' x1 x2 st fun _ _ => rfl
  | ok y ρ1 =>
    rw [hme] at hw
    intro vy H1 oy own1 ry er1 dj1 st1
    dsimp only at hw
    split at hw
    · rename_i i π kk hpp hkk
      split at hw
      · rename_i d hd
        split at hw
        · rename_i d' hu
          obtain ⟨l, hl, hf⟩ := upd_get hu
          obtain ⟨v0, ow, ownr, e1, rd, err, dj, mo⟩ := er1.take (join_some hd)
          have hii : i < ρ1.length := (List.getElem?_eq_some_iff.mp (join_some hd)).1
          obtain ⟨w, ox0, pw, _, _⟩ := rd.getP hl
          refine sp ρ1 σ H1 own1 _ er1 i π d l hpp hd hl fun v0' v H2 es' hv k2 => ?_
          rw [e1] at es'; cases es'
          have ev := hv.det (pw H1 fun _ _ => rfl)
          subst ev
          refine sk ρ1 σ H2 own1 _ (er1.ext k2) _ hkk fun vk H3 ok' rk k3 => ?_
          obtain ⟨rfl, _⟩ := rk
          have k13 : Ext H1 H3 := fun a ob q => k3 a ob (k2 a ob q)
          obtain ⟨x, y', ox, e2, g1, rx, sx', fin⟩ := mut_core (err.ext k13) (by rw [List.getElem?_set_self hii]) e1 (rd.ext k13) dj hu (hv.ext k13)
          rw [hl] at g1; cases g1
          cases l with
          | lst fl ds =>
            cases fl with
            | false => simp [leafSet] at e2
            | true =>
              simp only [leafSet, Option.map_eq_some_iff] at e2
              obtain ⟨j, hj, rfl⟩ := e2
              obtain ⟨a, vs, o', rfl, hH, rl, na, rfl⟩ := rx
              have dyo : ∀ b ∈ oy, b ∉ ow ∧ b ∉ ownr := fun b hb => ⟨fun z => dj1 b hb ((mo b).mpr (.inl z)), fun z => dj1 b hb ((mo b).mpr (.inr z))⟩
              refine ⟨a, vs, kk, j, rfl, rfl, hH, by rw [rl.len]; exact hj, ?_⟩
              have ry3 := ry.ext k13
              obtain ⟨o2, r2, m2⟩ := rl.setV (j := j) ry3 fun b hb z => (dyo b hb).1 (sx' b (List.mem_cons_of_mem _ z))
              have na2 : a ∉ o2 := fun z => by
                rcases m2 a z with q | q
                · exact na q
                · exact (dyo a q).1 (sx' a List.mem_cons_self)
              have kk' : Keeps H3 (upd H3 a (.lst (vs.set j vy))) [a] := fun b ob q nb => by
                rw [upd_ne (fun z => nb (by simp [z]))]; exact q
              have mm : Muts H3 [a] := fun b hb => by
                cases List.mem_singleton.mp hb
                exact ⟨_, hH, trivial⟩
              obtain ⟨own', erF, mF⟩ := fin (upd H3 a (.lst (vs.set j vy))) (a :: o2) (fun b ob nb q => kk' b ob q fun z => nb (by cases List.mem_singleton.mp z; exact List.mem_cons_self))
                ⟨a, _, o2, rfl, upd_same, r2.keep kk' mm fun x hx z => na2 (by cases List.mem_singleton.mp z; exact hx), na2, rfl⟩ (fun b hb => by
                  rcases List.mem_cons.mp hb with rfl | hb
                  · exact .inl List.mem_cons_self
                  · rcases m2 b hb with q | q
                    · exact .inl (List.mem_cons_of_mem _ q)
                    · exact .inr (dyo b q))
              rw [List.set_set] at erF
              have inown : ∀ b, b ∈ ow ∨ b ∈ ownr ∨ b ∈ oy → b ∈ own ∨ H b = none := fun b hb => by
                rcases hb with q | q | q
                · exact st1.sub b (List.mem_append_right _ ((mo b).mpr (.inl q)))
                · exact st1.sub b (List.mem_append_right _ ((mo b).mpr (.inr q)))
                · exact st1.sub b (List.mem_append_left _ q)
              refine hw σ _ own' erF ⟨fun b ob q nb => kk' b ob (k13 b ob (st1.keep b ob q nb)) fun z => ?_, fun b hb => ?_⟩ fun _ _ => rfl
              · cases List.mem_singleton.mp z
                rcases inown _ (.inl (sx' _ List.mem_cons_self)) with w | w
                · exact nb w
                · rw [q] at w; cases w
              · rcases mF b hb with q | ⟨q, _⟩ | q
                · exact inown b (.inr (.inl q))
                · exact inown b (.inl q)
                · rcases List.mem_cons.mp q with rfl | q
                  · exact inown _ (.inl (sx' _ List.mem_cons_self))
                  · rcases m2 b q with q | q
                    · exact inown b (.inl (sx' b (List.mem_cons_of_mem _ q)))
                    · exact inown b (.inr (.inr q))
          | _ => simp [leafSet] at e2
        · exact hw.elim
      · exact hw.elim
    · exact hw.elim
end
end Se

namespace Se
open PySem L2

/-! ### tests -/
def tB (ma : M D) : M Bool := fun ρ => (ma ρ).bind fun d ρ1 => match d with
  | .bl b => .ok b ρ1
  | _ => .bad
def truD : D → Option Bool
  | .non => some false
  | .bl b => some b
  | .int i => some (i != 0)
  | .str x => if x.length ≤ sizeLine then some (x.length != 0) else none
  | .lst _ ds => some (!ds.isEmpty)
  | .tup ds => some (!ds.isEmpty)
  | _ => none
def tV (f : Env → Option D) : M Bool := fun ρ => ofO ((f ρ).bind truD) ρ
def tE (ma : M D) : M Bool := fun ρ => (ma ρ).bind fun d ρ1 => ofO (truD d) ρ1
def tAndM (ma mb : M Bool) : M Bool := fun ρ => (ma ρ).bind fun b ρ1 => if b = true then mb ρ1 else .ok false ρ1
def tOrM (ma mb : M Bool) : M Bool := fun ρ => (ma ρ).bind fun b ρ1 => if b = true then .ok true ρ1 else mb ρ1
def tNotM (ma : M Bool) : M Bool := fun ρ => (ma ρ).bind fun b ρ1 => .ok (!b) ρ1
def eIf (mc : M Bool) (ma mb : M D) : M D := fun ρ => (mc ρ).bind fun b ρ1 => if b = true then ma ρ1 else mb ρ1
/-- and, or, not as values -/
def eAnd (ma mb : M D) : M D := fun ρ => (ma ρ).bind fun d ρ1 => match d with
  | .bl b => if b = true then mb ρ1 else .ok (.bl false) ρ1
  | _ => .bad
def eOr (ma mb : M D) : M D := fun ρ => (ma ρ).bind fun d ρ1 => match d with
  | .bl b => if b = true then .ok (.bl true) ρ1 else mb ρ1
  | _ => .bad
def eNot (ma : M D) : M D := fun ρ => (ma ρ).bind fun d ρ1 => match d with
  | .bl b => .ok (.bl (!b)) ρ1
  | _ => .bad
structure STW (X : Cx) (W : WX) (C : RC) (e : Expr) (m : M Bool) : Prop where
  ex : ∃ t, PW X e t ∧ ∀ ρ σ H own Q, ER C H ρ σ own → PoT C W (m ρ) σ H own Q → t σ H Q
abbrev SndT (W : WX) (C : RC) (t : TT) (m : M Bool) : Prop := ∀ ρ σ H own Q, ER C H ρ σ own → PoT C W (m ρ) σ H own Q → t σ H Q
section
variable {X : Cx} {W : WX} {C : RC} {e a b c : Expr} {rest : List Expr} {ma mb : M D} {na nb nc : M Bool} {fa fb f : Env → Option D} {pos : Pos}
theorem snd_tB {t : TE} (s : Snd W C t ma) : SndT W C (tTest t) (Se.tB ma) := fun ρ σ H own Q er hw => by
  have hw : PoT C W ((ma ρ).bind fun d ρ1 => match d with
    | .bl b => .ok b ρ1
    | _ => .bad) σ H own Q := hw
  refine s ρ σ H own _ er (poE_bind (P := fun r => PoT C W r σ H own Q) hw (fun z => z) exT fun d ρ1 v H1 o own1 r e1 j st hw1 => ?_)
  split at hw1
  · exact ⟨_, r.1, hw1 H1 own1 e1 (st.less fun a ha => List.mem_append_right _ ha)⟩
  · exact hw1.elim
theorem snd_ofV {t : TE} (s : SndV C t f) : Snd W C t (eQ f) := fun ρ σ H own Q er hw => by
  unfold eQ at hw
  split at hw
  · rename_i d hd
    split at hw
    · rename_i hf
      refine s ρ σ H own Q er d hd fun v H' o r k => ?_
      have eo := Rep.fz_nil hf r
      subst eo
      exact hw v H' [] own r (er.ext k) (by simp) ⟨fun a ob q _ => k a ob q, fun a z => .inl (by simpa using z)⟩
    · exact hw.elim
  · exact hw.elim
/-- a comparison as a test -/
theorem st_op2 {r : R2} {g : D → D → Option D} (pt : ∀ ta tb, PE X a ta → PE X b tb → PT X e (tTest (tOp r ta tb))) (vo : VO2 C r g) (ha : SE X W C a ma) (hb : SE X W C b mb) : ST X W C e (Se.tB (eOp2 g ma mb)) := by
  obtain ⟨ta, pa, sa⟩ := ha.ex
  obtain ⟨tb, pb, sb⟩ := hb.ex
  exact ⟨_, pt ta tb pa pb, snd_tB (snd_op2 vo sa sb)⟩
theorem stv_op2 {r : R2} {g : D → D → Option D} (pt : ∀ ta tb, PE X a ta → PE X b tb → PT X e (tTest (tOp r ta tb))) (vo : VO2 C r g) (ha : SV X C a fa) (hb : SV X C b fb) : ST X W C e (Se.tB (eV (vOp2 g fa fb))) := by
  obtain ⟨ta, pa, sa⟩ := ha.ex
  obtain ⟨tb, pb, sb⟩ := hb.ex
  exact ⟨_, pt ta tb pa pb, snd_tB (snd_v2 vo sa sb)⟩
theorem tru_rep {H : Hp} {d : D} {v : V} {o : List Addr} {b : Bool} (r : Rep C H d v o) (h : truD d = some b) : TruV C.K v H b := by
  unfold truD at h
  split at h
  · cases h; rw [r.1]; rfl
  · cases h; rw [r.1]; rfl
  · cases h; rw [r.1]; rfl
  · split at h
    · rename_i hz
      cases h; rw [r.1]
      refine ⟨by rw [sx_len]; exact hz, ?_⟩
      rw [sx_len]
      rename_i x
      cases x <;> simp <;> omega
    · cases h
  · cases h
    obtain ⟨a, vs, rfl, hr, w⟩ := r.lstS
    refine .inl ⟨vs, .inl hr, ?_⟩
    have := w.len
    rename_i f ds
    cases ds <;> cases vs <;> simp at this ⊢
  · cases h
    obtain ⟨a, vs, rfl, hr, w⟩ := r.tupS
    refine .inr (.inl ⟨vs, hr, ?_⟩)
    have := w.len
    rename_i ds
    cases ds <;> cases vs <;> simp at this ⊢
  · cases h
/-- a view's truth -/
theorem stv_tru (he : ∀ whole, isTrue e X.env whole = (do let v ← whole; standAt e.pos; holding [v] (truthy v))) (hK : C.K = X.K) (h : SV X C e f) : ST X W C e (tV f) := by
  obtain ⟨t, pe, s⟩ := h.ex
  refine ⟨_, pt_truth pe he, fun ρ σ H own Q er hw => ?_⟩
  unfold tV ofO at hw
  split at hw
  · rename_i b hb
    simp only [Option.bind_eq_some_iff] at hb
    obtain ⟨d, hd, hb⟩ := hb
    refine s ρ σ H own _ er d hd fun v H' o r k => ⟨b, by rw [← hK]; exact tru_rep r hb, ?_⟩
    exact hw H' own (er.ext k) ⟨fun a ob q _ => k a ob q, fun a z => .inl z⟩
  · exact hw.elim
theorem st_tru (he : ∀ whole, isTrue e X.env whole = (do let v ← whole; standAt e.pos; holding [v] (truthy v))) (hK : C.K = X.K) (h : SE X W C e ma) : ST X W C e (tE ma) := by
  obtain ⟨t, pe, s⟩ := h.ex
  refine ⟨_, pt_truth pe he, fun ρ σ H own Q er hw => ?_⟩
  have hw : PoT C W ((ma ρ).bind fun d ρ1 => ofO (truD d) ρ1) σ H own Q := hw
  refine s ρ σ H own _ er (poE_bind (P := fun r => PoT C W r σ H own Q) hw (fun z => z) exT fun d ρ1 v H1 o own1 r e1 j st hw1 => ?_)
  unfold ofO at hw1
  split at hw1
  · rename_i b hb
    exact ⟨b, by rw [← hK]; exact tru_rep r hb, hw1 H1 own1 e1 (st.less fun a ha => List.mem_append_right _ ha)⟩
  · exact hw1.elim
theorem stw_and1 (ha : ST X W C a na) : STW X W C (.BoolOp .And [a] pos) na := by
  obtain ⟨t, p, s⟩ := ha.ex
  exact ⟨t, pw_and1 p, s⟩
theorem stw_or1 (ha : ST X W C a na) : STW X W C (.BoolOp .Or [a] pos) na := by
  obtain ⟨t, p, s⟩ := ha.ex
  exact ⟨t, pw_or1 p, s⟩
theorem stw_and (ha : ST X W C a na) (hb : STW X W C (.BoolOp .And (b :: rest) pos) nb) : STW X W C (.BoolOp .And (a :: b :: rest) pos) (tAndM na nb) := by
  obtain ⟨t, p, s⟩ := ha.ex
  obtain ⟨u, q, s2⟩ := hb.ex
  refine ⟨_, pw_and p q, fun ρ σ H own Q er hw => ?_⟩
  have hw : PoT C W ((na ρ).bind fun b ρ1 => if b = true then nb ρ1 else .ok false ρ1) σ H own Q := hw
  refine s ρ σ H own _ er (poT_bind (P := fun r => PoT C W r σ H own Q) hw (fun z => z) exT fun d ρ1 H1 own1 e1 st hw1 => ?_)
  cases d with
  | true =>
    rw [if_pos rfl] at hw1 ⊢
    refine s2 ρ1 σ H1 own1 _ e1 ?_
    cases hr : nb ρ1 with
    | ok b2 ρ2 => rw [hr] at hw1; exact fun H2 own2 e2 st2 => hw1 H2 own2 e2 (st.trans st2)
    | ex e' ρ2 => rw [hr] at hw1; exact fun cls dd H2 own2 x e2 st2 => hw1 cls dd H2 own2 x e2 (st.trans st2)
    | bad => rw [hr] at hw1; exact hw1
  | false =>
    rw [if_neg Bool.false_ne_true] at hw1 ⊢
    exact hw1 H1 own1 e1 st
theorem stw_or (ha : ST X W C a na) (hb : STW X W C (.BoolOp .Or (b :: rest) pos) nb) : STW X W C (.BoolOp .Or (a :: b :: rest) pos) (tOrM na nb) := by
  obtain ⟨t, p, s⟩ := ha.ex
  obtain ⟨u, q, s2⟩ := hb.ex
  refine ⟨_, pw_or p q, fun ρ σ H own Q er hw => ?_⟩
  have hw : PoT C W ((na ρ).bind fun b ρ1 => if b = true then .ok true ρ1 else nb ρ1) σ H own Q := hw
  refine s ρ σ H own _ er (poT_bind (P := fun r => PoT C W r σ H own Q) hw (fun z => z) exT fun d ρ1 H1 own1 e1 st hw1 => ?_)
  cases d with
  | true =>
    rw [if_pos rfl] at hw1 ⊢
    exact hw1 H1 own1 e1 st
  | false =>
    rw [if_neg Bool.false_ne_true] at hw1 ⊢
    refine s2 ρ1 σ H1 own1 _ e1 ?_
    cases hr : nb ρ1 with
    | ok b2 ρ2 => rw [hr] at hw1; exact fun H2 own2 e2 st2 => hw1 H2 own2 e2 (st.trans st2)
    | ex e' ρ2 => rw [hr] at hw1; exact fun cls dd H2 own2 x e2 st2 => hw1 cls dd H2 own2 x e2 (st.trans st2)
    | bad => rw [hr] at hw1; exact hw1
theorem stw_t (h : STW X W C e na) : ST X W C e na := by
  obtain ⟨t, p, s⟩ := h.ex
  exact ⟨t, p.pt, s⟩
theorem st_not (ha : ST X W C a na) : ST X W C (.UnaryOp .Not a pos) (tNotM na) := by
  obtain ⟨t, p, s⟩ := ha.ex
  refine ⟨_, pt_not p, fun ρ σ H own Q er hw => ?_⟩
  have hw : PoT C W ((na ρ).bind fun b ρ1 => .ok (!b) ρ1) σ H own Q := hw
  exact s ρ σ H own _ er (poT_bind (P := fun r => PoT C W r σ H own Q) hw (fun z => z) exT fun d ρ1 H1 own1 e1 st hw1 => hw1 H1 own1 e1 st)
/-- a step's result from a later base -/
theorem PoE.later {r : RE D} {σ : St} {H H1 : Hp} {own own1 : List Addr} {Q : VK} (h : PoE C W r σ H own Q) (st : Stp H H1 own own1) : PoE C W r σ H1 own1 Q := by
  cases r with
  | ok d ρ => exact fun v H2 o own2 r e2 j st2 => h v H2 o own2 r e2 j (st.trans st2)
  | ex e ρ => exact fun cls dd H2 own2 x e2 st2 => h cls dd H2 own2 x e2 (st.trans st2)
  | bad => exact h
theorem se_if (hc : ST X W C c nc) (ha : SE X W C a ma) (hb : SE X W C b mb) : SE X W C (.IfExp c a b pos) (eIf nc ma mb) := by
  obtain ⟨t, p, s⟩ := hc.ex
  obtain ⟨ta, pa, sa⟩ := ha.ex
  obtain ⟨tb, pb, sb⟩ := hb.ex
  refine ⟨_, pe_ifExp p pa pb, fun ρ σ H own Q er hw => ?_⟩
  have hw : PoE C W ((nc ρ).bind fun b ρ1 => if b = true then ma ρ1 else mb ρ1) σ H own Q := hw
  refine s ρ σ H own _ er (poT_bind (P := fun r => PoE C W r σ H own Q) hw (fun z => z) exE fun d ρ1 H1 own1 e1 st hw1 => ?_)
  cases d with
  | true =>
    rw [if_pos rfl] at hw1 ⊢
    exact sa ρ1 σ H1 own1 Q e1 (hw1.later st)
  | false =>
    rw [if_neg Bool.false_ne_true] at hw1 ⊢
    exact sb ρ1 σ H1 own1 Q e1 (hw1.later st)
theorem se_one {op} (h : SE X W C a ma) : SE X W C (.BoolOp op [a] pos) ma := by
  obtain ⟨t, p, s⟩ := h.ex
  exact ⟨t, pe_one p, s⟩
theorem PoE.lessTemp {r : RE D} {σ : St} {H H1 : Hp} {own o own1 : List Addr} {Q : VK} (h : PoE C W r σ H own Q) (st : Stp H H1 own (o ++ own1)) : PoE C W r σ H1 own1 Q := h.later (st.less fun a ha => List.mem_append_right _ ha)
theorem se_and (ha : SE X W C a ma) (hb : SE X W C (.BoolOp .And (b :: rest) pos) mb) : SE X W C (.BoolOp .And (a :: b :: rest) pos) (eAnd ma mb) := by
  obtain ⟨t, p, s⟩ := ha.ex
  obtain ⟨u, q, s2⟩ := hb.ex
  refine ⟨_, pe_and p q, fun ρ σ H own Q er hw => ?_⟩
  have hw : PoE C W ((ma ρ).bind fun d ρ1 => match d with
    | .bl b => if b = true then mb ρ1 else .ok (.bl false) ρ1
    | _ => .bad) σ H own Q := hw
  refine s ρ σ H own _ er (poE_bind (P := fun r => PoE C W r σ H own Q) hw (fun z => z) exE fun d ρ1 v H1 o own1 r e1 j st hw1 => ?_)
  split at hw1
  · rename_i k
    refine ⟨k, r.1, ?_⟩
    cases k with
    | true => rw [if_pos rfl] at hw1 ⊢; exact s2 ρ1 σ H1 own1 Q e1 (hw1.lessTemp st)
    | false => rw [if_neg Bool.false_ne_true] at hw1 ⊢; exact hw1.lessTemp st _ H1 [] own1 ⟨rfl, rfl⟩ e1 (by simp) (Stp.refl (by simp))
  · exact hw1.elim
theorem se_or (ha : SE X W C a ma) (hb : SE X W C (.BoolOp .Or (b :: rest) pos) mb) : SE X W C (.BoolOp .Or (a :: b :: rest) pos) (eOr ma mb) := by
  obtain ⟨t, p, s⟩ := ha.ex
  obtain ⟨u, q, s2⟩ := hb.ex
  refine ⟨_, pe_or p q, fun ρ σ H own Q er hw => ?_⟩
  have hw : PoE C W ((ma ρ).bind fun d ρ1 => match d with
    | .bl b => if b = true then .ok (.bl true) ρ1 else mb ρ1
    | _ => .bad) σ H own Q := hw
  refine s ρ σ H own _ er (poE_bind (P := fun r => PoE C W r σ H own Q) hw (fun z => z) exE fun d ρ1 v H1 o own1 r e1 j st hw1 => ?_)
  split at hw1
  · rename_i k
    refine ⟨k, r.1, ?_⟩
    cases k with
    | true => rw [if_pos rfl] at hw1 ⊢; exact hw1.lessTemp st _ H1 [] own1 ⟨rfl, rfl⟩ e1 (by simp) (Stp.refl (by simp))
    | false => rw [if_neg Bool.false_ne_true] at hw1 ⊢; exact s2 ρ1 σ H1 own1 Q e1 (hw1.lessTemp st)
  · exact hw1.elim
theorem se_not (ha : SE X W C a ma) : SE X W C (.UnaryOp .Not a pos) (eNot ma) := by
  obtain ⟨t, p, s⟩ := ha.ex
  refine ⟨_, pe_not p, fun ρ σ H own Q er hw => ?_⟩
  have hw : PoE C W ((ma ρ).bind fun d ρ1 => match d with
    | .bl b => .ok (.bl (!b)) ρ1
    | _ => .bad) σ H own Q := hw
  refine s ρ σ H own _ er (poE_bind (P := fun r => PoE C W r σ H own Q) hw (fun z => z) exE fun d ρ1 v H1 o own1 r e1 j st hw1 => ?_)
  split at hw1
  · exact ⟨_, r.1, hw1.lessTemp st _ H1 [] own1 ⟨rfl, rfl⟩ e1 (by simp) (Stp.refl (by simp))⟩
  · exact hw1.elim

/-! ### displays -/
def eTup (ms : M (List D)) : M D := fun ρ => (ms ρ).bind fun ds ρ1 => if ds.length ≤ sizeLine then .ok (.tup ds) ρ1 else .bad
def eLst (ms : M (List D)) : M D := fun ρ => (ms ρ).bind fun ds ρ1 => if ds.length ≤ sizeLine then .ok (.lst true ds) ρ1 else .bad
theorem se_tup {es : List Expr} {ms : M (List D)} {x1} (h : SA X W C es ms) : SE X W C (.Tuple es x1 pos) (eTup ms) := by
  obtain ⟨t, p, s⟩ := h.ex
  refine ⟨_, pe_tup p, fun ρ σ H own Q er hw => ?_⟩
  have hw : PoE C W ((ms ρ).bind fun ds ρ1 => if ds.length ≤ sizeLine then .ok (.tup ds) ρ1 else .bad) σ H own Q := hw
  refine s ρ σ H own _ er (poA_bind (P := fun r => PoE C W r σ H own Q) hw (fun z => z) exE fun ds ρ1 vs H1 o own1 r e1 j st hw1 => ?_)
  split at hw1
  · rename_i hz
    refine ⟨by rw [r.len]; exact hz, fun p hp => ?_⟩
    exact hw1.fin st e1 j (Ext.new hp) ⟨p, vs, rfl, .inl (.inl upd_same), r.ext (Ext.new hp)⟩ fun a ha => .inl ha
  · exact hw1.elim
theorem se_lst {es : List Expr} {ms : M (List D)} (h : SA X W C es ms) : SE X W C (.List es pos) (eLst ms) := by
  obtain ⟨t, p, s⟩ := h.ex
  refine ⟨_, pe_lst p, fun ρ σ H own Q er hw => ?_⟩
  have hw : PoE C W ((ms ρ).bind fun ds ρ1 => if ds.length ≤ sizeLine then .ok (.lst true ds) ρ1 else .bad) σ H own Q := hw
  refine s ρ σ H own _ er (poA_bind (P := fun r => PoE C W r σ H own Q) hw (fun z => z) exE fun ds ρ1 vs H1 o own1 r e1 j st hw1 => ?_)
  split at hw1
  · rename_i hz
    refine ⟨by rw [r.len]; exact hz, fun p hp => ?_⟩
    have np : p ∉ o := fun z => by
      obtain ⟨u, q, _⟩ := r.mut p z
      rw [hp] at q; cases q
    exact hw1.fin st e1 j (o2 := p :: o) (Ext.new hp) ⟨p, vs, o, rfl, upd_same, r.ext (Ext.new hp), np, rfl⟩ fun a ha => by
      rcases List.mem_cons.mp ha with rfl | q
      · exact .inr hp
      · exact .inl q
  · exact hw1.elim

/-! ### x[e], e may do anything -/
def eIxVar (g : D → D → Option D) (i : Nat) (mb : M D) : M D := fun ρ => match (ρ[i]?).join with
  | some _ => (mb ρ).bind fun k ρ1 => ofO (((ρ1[i]?).join).bind fun d => g d k) ρ1
  | none => .bad
theorem se_ixvar {i : Nat} {x : Str} {p : Pos} {r : R2} {g : D → D → Option D} (hv : PE X (.Name x p) (tVar i)) (pe : ∀ ta tb, PE X (.Name x p) ta → PE X b tb → PE X e (tOp r ta tb)) (vo : VO2 C r g) (hb : SE X W C b mb) : SE X W C e (eIxVar g i mb) := by
  obtain ⟨tb, pb, sb⟩ := hb.ex
  refine ⟨_, pe _ tb hv pb, fun ρ σ H own Q er hw => ?_⟩
  unfold eIxVar at hw
  split at hw
  · rename_i d0 hd0
    obtain ⟨v, _, _, e1, _, _, _, _⟩ := er.take (join_some hd0)
    refine ⟨v, e1, sb ρ σ H own _ er (poE_bind (P := fun r => PoE C W r σ H own Q) hw (fun z => z) exE fun d ρ1 vk H1 o own1 r e2 j st hw1 => ?_)⟩
    unfold ofO at hw1
    split at hw1
    · rename_i y hy
      simp only [Option.bind_eq_some_iff] at hy
      obtain ⟨d1, h1, h2⟩ := hy
      obtain ⟨v', o', _, e1', r1, _, _, _⟩ := e2.take (join_some h1)
      rw [e1] at e1'; cases e1'
      exact vo d1 d y v vk H1 o' o Q r1 r h2 fun v2 H' o2 rv k hn => hw1.fin st e2 j k rv fun a ha => .inr (hn a ha)
    · exact hw1.elim
  · exact hw.elim
end
end Se

namespace Se
open PySem L2

/-! ### statements -/
def sNil : MS := fun ρ => .nx ρ
def sSeq (m n : MS) : MS := fun ρ => match m ρ with
  | .nx ρ1 => n ρ1
  | r => r
def sAsg (i : Nat) (me : M D) : MS := fun ρ => match me ρ with
  | .ok d ρ1 => if i < ρ1.length then .nx (ρ1.set i (some d)) else .bad
  | .ex e ρ1 => .ex e ρ1
  | .bad => .bad
def sExpr (me : M D) : MS := fun ρ => match me ρ with
  | .ok _ ρ1 => .nx ρ1
  | .ex e ρ1 => .ex e ρ1
  | .bad => .bad
def sRet (me : M D) : MS := fun ρ => match me ρ with
  | .ok d ρ1 => .rt d ρ1
  | .ex e ρ1 => .ex e ρ1
  | .bad => .bad
def sRetN : MS := fun ρ => .rt .non ρ
def sIf (mc : M Bool) (m n : MS) : MS := fun ρ => match mc ρ with
  | .ok b ρ1 => if b = true then m ρ1 else n ρ1
  | .ex e ρ1 => .ex e ρ1
  | .bad => .bad
def sBreak : MS := fun ρ => .bk ρ
def sCont : MS := fun ρ => .ct ρ
def whileF (mc : M Bool) (m : MS) : Nat → MS
  | 0, _ => .bad
  | n + 1, ρ => match mc ρ with
    | .ok b ρ1 => if b = true then (match m ρ1 with
        | .nx ρ2 => whileF mc m n ρ2
        | .ct ρ2 => whileF mc m n ρ2
        | .bk ρ2 => .nx ρ2
        | r => r) else .nx ρ1
    | .ex e ρ1 => .ex e ρ1
    | .bad => .bad
/-- more turns than any loop takes -/
def wF : Nat := 2 ^ 24
def sWhile (mc : M Bool) (m : MS) : MS := fun ρ => whileF mc m wF ρ
def forF (f : D → Env → Option Env) (m : MS) : List D → MS
  | [], ρ => .nx ρ
  | d :: ds, ρ => match f d ρ with
    | some ρ1 => (match m ρ1 with
      | .nx ρ2 => forF f m ds ρ2
      | .ct ρ2 => forF f m ds ρ2
      | .bk ρ2 => .nx ρ2
      | r => r)
    | none => .bad
def sFor (mi : M (List D)) (f : D → Env → Option Env) (m : MS) : MS := fun ρ => match mi ρ with
  | .ok ds ρ1 => forF f m ds ρ1
  | .ex e ρ1 => .ex e ρ1
  | .bad => .bad
section
variable {X : Cx} {W : WX} {C : RC} {B : List Nat} {st : Stmt} {sts : List Stmt} {m n : MS} {me : M D} {e : Expr} {pos : Pos}
theorem PoS.later {r : SR} {σ σ1 : St} {H H1 : Hp} {own own1 : List Addr} {Dn : Ends} (h : PoS C W B r σ H own Dn) (s : Stp H H1 own own1) (b : ∀ j ∈ B, σ1[j]? = σ[j]?) : PoS C W B r σ1 H1 own1 Dn := by
  cases r with
  | nx ρ => exact fun σ' H' own' er s' b' => h σ' H' own' er (s.trans s') fun j hj => (b' j hj).trans (b j hj)
  | rt d ρ => exact fun v σ' H' o own' r er dj s' b' => h v σ' H' o own' r er dj (s.trans s') fun j hj => (b' j hj).trans (b j hj)
  | bk ρ => exact fun σ' H' own' er s' b' => h σ' H' own' er (s.trans s') fun j hj => (b' j hj).trans (b j hj)
  | ct ρ => exact fun σ' H' own' er s' b' => h σ' H' own' er (s.trans s') fun j hj => (b' j hj).trans (b j hj)
  | ex e ρ => exact fun cls d σ' H' own' x er s' b' => h cls d σ' H' own' x er (s.trans s') fun j hj => (b' j hj).trans (b j hj)
  | bad => exact h
theorem sss_nil : SSs X W C B [] sNil := ⟨_, pss_nil, fun ρ σ H own Dn er hw => hw σ H own er (Stp.refl fun _ z => z) fun _ _ => rfl⟩
theorem sss_cons (h1 : SS X W C B st m) (h2 : SSs X W C B sts n) : SSs X W C B (st :: sts) (sSeq m n) := by
  obtain ⟨t, p, s⟩ := h1.ex
  obtain ⟨u, q, s2⟩ := h2.ex
  refine ⟨_, pss_cons p q, fun ρ σ H own Dn er hw => ?_⟩
  refine s ρ σ H own _ er ?_
  unfold sSeq at hw
  cases hm : m ρ with
  | nx ρ1 => rw [hm] at hw; exact fun σ' H' own' er' s' b' => s2 ρ1 σ' H' own' Dn er' (PoS.later hw s' b')
  | rt d ρ1 => rw [hm] at hw; exact hw
  | bk ρ1 => rw [hm] at hw; exact hw
  | ct ρ1 => rw [hm] at hw; exact hw
  | ex e ρ1 => rw [hm] at hw; exact hw
  | bad => rw [hm] at hw; exact hw
theorem sss_one (h1 : SS X W C B st m) : SSs X W C B [st] m := by
  obtain ⟨t, p, s⟩ := h1.ex
  exact ⟨t, pss_one p, s⟩
/-- from an expression's result to a statement's -/
theorem poS_e {r : RE D} {k : D → Env → SR} {σ : St} {H : Hp} {own : List Addr} {Dn : Ends} {Q1 : VK}
    (hw : PoS C W B (match r with
      | .ok d ρ1 => k d ρ1
      | .ex e ρ1 => .ex e ρ1
      | .bad => .bad) σ H own Dn)
    (hok : ∀ d ρ' v H' o own', Rep C H' d v o → ER C H' ρ' σ own' → (∀ a ∈ o, a ∉ own') → Stp H H' own (o ++ own') → PoS C W B (k d ρ') σ H own Dn → Q1 v H') : PoE C W r σ H own Q1 := by
  cases r with
  | ok d ρ' => exact fun v H' o own' r1 r2 r3 r4 => hok d ρ' v H' o own' r1 r2 r3 r4 hw
  | ex e ρ' => exact fun cls d H' own' x er s => hw cls d σ H' own' x er s fun _ _ => rfl
  | bad => exact (show False from hw).elim
theorem poS_t {r : RE Bool} {k : Bool → Env → SR} {σ : St} {H : Hp} {own : List Addr} {Dn : Ends} {Q1 : Bool → Hp → Prop}
    (hw : PoS C W B (match r with
      | .ok d ρ1 => k d ρ1
      | .ex e ρ1 => .ex e ρ1
      | .bad => .bad) σ H own Dn)
    (hok : ∀ d ρ' H' own', ER C H' ρ' σ own' → Stp H H' own own' → PoS C W B (k d ρ') σ H own Dn → Q1 d H') : PoT C W r σ H own Q1 := by
  cases r with
  | ok d ρ' => exact fun H' own' r2 r4 => hok d ρ' H' own' r2 r4 hw
  | ex e ρ' => exact fun cls d H' own' x er s => hw cls d σ H' own' x er s fun _ _ => rfl
  | bad => exact (show False from hw).elim
theorem snd_asg {t : TE} {i : Nat} (s : Snd W C t me) (hi : i ∉ B) : ∀ ρ σ H own Dn, ER C H ρ σ own → PoS C W B (sAsg i me ρ) σ H own Dn → tAsg t (gName i) Dn σ H := fun ρ σ H own Dn er hw => by
  refine s ρ σ H own _ er (poS_e (k := fun d ρ1 => if i < ρ1.length then .nx (ρ1.set i (some d)) else .bad) hw fun d ρ1 v H1 o own1 r e1 j st hw1 => ?_)
  split at hw1
  · rename_i hl
    obtain ⟨own2, e2, m2⟩ := e1.set hl r j
    refine hw1 _ H1 own2 e2 (st.less fun a ha => List.mem_append.mpr (m2 a ha)) fun k hk => ?_
    rw [List.getElem?_set_ne (fun z => hi (by rw [z]; exact hk))]
  · exact hw1.elim
theorem ss_asg {i : Nat} (pe : ∀ te, PE X e te → PS X st (tAsg te (gName i))) (he : SE X W C e me) (hi : i ∉ B := by decide) : SS X W C B st (sAsg i me) := by
  obtain ⟨t, p, s⟩ := he.ex
  exact ⟨_, pe t p, snd_asg s hi⟩
theorem ss_expr (he : SE X W C e me) (hs : swapsWith e none pos.line X.env = pure false := by rfl) : SS X W C B (.Expr e pos) (sExpr me) := by
  obtain ⟨t, p, s⟩ := he.ex
  refine ⟨_, ps_expr p hs, fun ρ σ H own Dn er hw => ?_⟩
  exact s ρ σ H own _ er (poS_e (k := fun _ ρ1 => .nx ρ1) hw fun d ρ1 v H1 o own1 r e1 j st hw1 => hw1 σ H1 own1 e1 (st.less fun a ha => List.mem_append_right _ ha) fun _ _ => rfl)
theorem ss_doc {x j pos pos'} : SS X W C B (.Expr (.Constant (.str x) j pos) pos') sNil := ⟨_, ps_doc, fun ρ σ H own Dn er hw => hw σ H own er (Stp.refl fun _ z => z) fun _ _ => rfl⟩
theorem ss_pass : SS X W C B (.Pass pos) sNil := ⟨_, ps_pass, fun ρ σ H own Dn er hw => hw σ H own er (Stp.refl fun _ z => z) fun _ _ => rfl⟩
theorem ss_break : SS X W C B (.Break pos) sBreak := ⟨_, ps_break, fun ρ σ H own Dn er hw => hw σ H own er (Stp.refl fun _ z => z) fun _ _ => rfl⟩
theorem ss_cont : SS X W C B (.Continue pos) sCont := ⟨_, ps_continue, fun ρ σ H own Dn er hw => hw σ H own er (Stp.refl fun _ z => z) fun _ _ => rfl⟩
theorem ss_ret (he : SE X W C e me) : SS X W C B (.Return (some e) pos) (sRet me) := by
  obtain ⟨t, p, s⟩ := he.ex
  refine ⟨_, ps_ret p, fun ρ σ H own Dn er hw => ?_⟩
  exact s ρ σ H own _ er (poS_e (k := fun d ρ1 => .rt d ρ1) hw fun d ρ1 v H1 o own1 r e1 j st hw1 => hw1 v σ H1 o own1 r e1 j st fun _ _ => rfl)
theorem ss_retN : SS X W C B (.Return none pos) sRetN := ⟨_, ps_retN, fun ρ σ H own Dn er hw => hw .non σ H [] own ⟨rfl, rfl⟩ er (by simp) (Stp.refl fun _ z => z) fun _ _ => rfl⟩
theorem ss_if {c : Expr} {a b : List Stmt} {mc : M Bool} (hc : ST X W C c mc) (ha : SSs X W C B a m) (hb : SSs X W C B b n) : SS X W C B (.If c a b pos) (sIf mc m n) := by
  obtain ⟨t, p, s⟩ := hc.ex
  obtain ⟨ta, pa, sa⟩ := ha.ex
  obtain ⟨tb, pb, sb⟩ := hb.ex
  refine ⟨_, ps_if p pa pb, fun ρ σ H own Dn er hw => ?_⟩
  refine s ρ σ H own _ er (poS_t (k := fun b ρ1 => if b = true then m ρ1 else n ρ1) hw fun d ρ1 H1 own1 e1 st hw1 => ?_)
  cases d with
  | true =>
    rw [if_pos rfl] at hw1 ⊢
    exact sa ρ1 σ H1 own1 Dn e1 (PoS.later hw1 st fun _ _ => rfl)
  | false =>
    rw [if_neg Bool.false_ne_true] at hw1 ⊢
    exact sb ρ1 σ H1 own1 Dn e1 (PoS.later hw1 st fun _ _ => rfl)
theorem ss_while {c : Expr} {body : List Stmt} {mc : M Bool} (hp : PassesOwn (model X.prog X.w) X.A X.env X.xe) (hc : ST X W C c mc) (hb : SSs X W C B body m) : SS X W C B (.While c body [] pos) (sWhile mc m) := by
  obtain ⟨t, p, s⟩ := hc.ex
  obtain ⟨tb, pb, sb⟩ := hb.ex
  refine ⟨_, ps_while hp p pb, fun ρ σ H own Dn er hw => ?_⟩
  refine ⟨fun k σ1 H1 => ∃ ρ1 own1, ER C H1 ρ1 σ1 own1 ∧ Stp H H1 own own1 ∧ (∀ j ∈ B, σ1[j]? = σ[j]?) ∧ PoS C W B (whileF mc m k ρ1) σ H own Dn, ⟨wF, ρ, own, er, Stp.refl fun _ z => z, fun _ _ => rfl, hw⟩, ?_⟩
  rintro k σ1 H1 ⟨ρ1, own1, e1, s1, b1, hw1⟩
  cases k with
  | zero => exact (show False from hw1).elim
  | succ k =>
    refine s ρ1 σ1 H1 own1 _ e1 ?_
    unfold whileF at hw1
    cases hc' : mc ρ1 with
    | bad => rw [hc'] at hw1; exact hw1
    | ex e ρ2 => rw [hc'] at hw1; exact fun cls d H2 own2 x e2 s2 => hw1 cls d σ1 H2 own2 x e2 (s1.trans s2) b1
    | ok b ρ2 =>
      rw [hc'] at hw1
      intro H2 own2 e2 s2
      have s12 := s1.trans s2
      cases b with
      | false => exact hw1 σ1 H2 own2 e2 s12 b1
      | true =>
        refine ⟨fun σ3 H3 => ∃ ρ3 own3, ER C H3 ρ3 σ3 own3 ∧ Stp H H3 own own3 ∧ (∀ j ∈ B, σ3[j]? = σ[j]?) ∧ PoS C W B (whileF mc m k ρ3) σ H own Dn, fun σ3 H3 h3 => ⟨k, Nat.lt_succ_self k, h3⟩, ?_⟩
        refine sb ρ2 σ1 H2 own2 _ e2 ?_
        dsimp only [if_pos] at hw1
        cases hm : m ρ2 with
        | nx ρ3 =>
          rw [hm] at hw1
          exact fun σ3 H3 own3 e3 s3 b3 => ⟨ρ3, own3, e3, s12.trans s3, fun j hj => (b3 j hj).trans (b1 j hj), hw1⟩
        | ct ρ3 =>
          rw [hm] at hw1
          exact fun σ3 H3 own3 e3 s3 b3 => ⟨ρ3, own3, e3, s12.trans s3, fun j hj => (b3 j hj).trans (b1 j hj), hw1⟩
        | bk ρ3 => rw [hm] at hw1; exact PoS.later (r := .nx ρ3) hw1 s12 b1
        | rt d ρ3 => rw [hm] at hw1; exact PoS.later (r := .rt d ρ3) hw1 s12 b1
        | ex e ρ3 => rw [hm] at hw1; exact PoS.later (r := .ex e ρ3) hw1 s12 b1
        | bad => rw [hm] at hw1; exact hw1

/-! ### what a for walks -/
/-- J tells the items ds, whatever happens to what is owned -/
def ItOk (C : RC) (J : It) (ds : List D) (H : Hp) (own : List Addr) : Prop := ∀ H1 own1, Stp H H1 own own1 → ∀ i, (ds.length ≤ i → J.stop i H1) ∧ ∀ d, ds[i]? = some d → J.go i H1 ∧ ∀ x H2, J.yld i H1 x H2 → Ext H1 H2 ∧ Rep C H2 d x []
structure SI (X : Cx) (W : WX) (C : RC) (tg e : Expr) (m : M (List D)) : Prop where
  ex : ∃ wi, PI X tg e wi ∧ ∀ ρ σ H own R, ER C H ρ σ own → (match m ρ with
    | .ok ds ρ' => ∀ J H' own', ER C H' ρ' σ own' → Stp H H' own own' → ItOk C J ds H' own' → R J H'
    | .ex e ρ' => ∀ cls d H' own', XR C H' e cls d → ER C H' ρ' σ own' → Stp H H' own own' → W cls d σ H'
    | .bad => False) → wi σ H R
/-- a target -/
structure SG (X : Cx) (C : RC) (B : List Nat) (tg : Expr) (f : D → Env → Option Env) : Prop where
  ex : ∃ g, PG X tg g ∧ ∀ d v o ρ ρ' σ H own Q, Rep C H d v o → ER C H ρ σ own → (∀ a ∈ o, a ∉ own) → f d ρ = some ρ' →
    (∀ σ' own', ER C H ρ' σ' own' → (∀ a ∈ own', a ∈ o ∨ a ∈ own) → (∀ j ∈ B, σ'[j]? = σ[j]?) → σ'.length = σ.length → Q σ' H) → g v σ H Q
structure SGs (X : Cx) (C : RC) (B : List Nat) (tgs : List Expr) (f : List D → Env → Option Env) : Prop where
  ex : ∃ g, PGs X tgs g ∧ ∀ ds vs o ρ ρ' σ H own Q, RepL C H ds vs o → ER C H ρ σ own → (∀ a ∈ o, a ∉ own) → f ds ρ = some ρ' →
    (∀ σ' own', ER C H ρ' σ' own' → (∀ a ∈ own', a ∈ o ∨ a ∈ own) → (∀ j ∈ B, σ'[j]? = σ[j]?) → σ'.length = σ.length → Q σ' H) → g vs σ H Q
def fName (i : Nat) : D → Env → Option Env := fun d ρ => if i < ρ.length then some (ρ.set i (some d)) else none
def fTup (f : List D → Env → Option Env) : D → Env → Option Env := fun d ρ => match d with
  | .tup ds => f ds ρ
  | _ => none
def fNil : List D → Env → Option Env := fun ds ρ => match ds with
  | [] => some ρ
  | _ => none
def fCons (f : D → Env → Option Env) (fs : List D → Env → Option Env) : List D → Env → Option Env := fun ds ρ => match ds with
  | d :: ds => (f d ρ).bind (fs ds)
  | [] => none
theorem sg_name {i : Nat} {x : Str} {p : Pos} (pg : PG X (.Name x p) (gName i)) (hi : i ∉ B := by decide) : SG X C B (.Name x p) (fName i) := by
  refine ⟨_, pg, fun d v o ρ ρ' σ H own Q r er dj hf hw => ?_⟩
  unfold fName at hf
  split at hf
  · rename_i hl
    cases hf
    obtain ⟨own2, e2, m2⟩ := er.set hl r dj
    exact hw _ own2 e2 m2 (fun j hj => by rw [List.getElem?_set_ne (fun z => hi (by rw [z]; exact hj))]) (List.length_set ..)
  · cases hf
theorem sgs_nil : SGs X C B [] fNil := by
  refine ⟨_, pgs_nil, fun ds vs o ρ ρ' σ H own Q r er dj hf hw => ?_⟩
  unfold fNil at hf
  split at hf
  · cases hf
    obtain ⟨rfl, rfl⟩ := r
    exact ⟨rfl, hw σ own er (fun a z => .inr z) (fun _ _ => rfl) rfl⟩
  · cases hf
theorem sgs_cons {tg : Expr} {tgs : List Expr} {f : D → Env → Option Env} {fs : List D → Env → Option Env} (h1 : SG X C B tg f) (h2 : SGs X C B tgs fs) (hs : (assignEach (tg :: tgs) X.env).map (·.2) = assign tg X.env :: (assignEach tgs X.env).map (·.2) := by rfl) : SGs X C B (tg :: tgs) (fCons f fs) := by
  obtain ⟨g, p, s⟩ := h1.ex
  obtain ⟨u, q, s2⟩ := h2.ex
  refine ⟨_, pgs_cons p q hs, fun ds vs o ρ ρ' σ H own Q r er dj hf hw => ?_⟩
  unfold fCons at hf
  split at hf
  · rename_i d ds
    simp only [Option.bind_eq_some_iff] at hf
    obtain ⟨ρ1, h1, h2⟩ := hf
    obtain ⟨v, vs', o1, o2, rfl, r1, r2, n, rfl⟩ := r
    refine ⟨v, vs', rfl, s d v o1 ρ ρ1 σ H own _ r1 er (fun a ha => dj a (List.mem_append_left _ ha)) h1 fun σ1 own1 e1 m1 b1 l1 => ?_⟩
    refine s2 ds vs' o2 ρ1 ρ' σ1 H own1 _ r2 e1 (fun a ha z => ?_) h2 fun σ2 own2 e2 m2 b2 l2 => hw σ2 own2 e2 (fun a ha => ?_) (fun j hj => (b2 j hj).trans (b1 j hj)) (l2.trans l1)
    · rcases m1 a z with q | q
      · exact n a q ha
      · exact dj a (List.mem_append_right _ ha) q
    · rcases m2 a ha with q | q
      · exact .inl (List.mem_append_right _ q)
      · rcases m1 a q with q | q
        · exact .inl (List.mem_append_left _ q)
        · exact .inr q
  · cases hf
theorem sg_tup {es : List Expr} {k k' : Nat} {p : Pos} {fs : List D → Env → Option Env} (hK : C.K = X.K) (hc : X.calm = true) (h : SGs X C B es fs) (hl : ∀ ds ρ ρ', fs ds ρ = some ρ' → ds.length = k') (hn : (assignEach es X.env).length = k' := by rfl) (hst : (assignEach es X.env).findIdx? (·.1) = none := by rfl) : SG X C B (.Tuple es k p) (fTup fs) := by
  obtain ⟨g, pg, s⟩ := h.ex
  refine ⟨_, pg_tup hc pg hn hst, fun d v o ρ ρ' σ H own Q r er dj hf hw => ?_⟩
  unfold fTup at hf
  split at hf
  · rename_i ds
    obtain ⟨a, vs, rfl, hs, rl⟩ := r
    exact ⟨a, vs, rfl, by rw [← hK]; exact hs, by rw [rl.len]; exact hl _ _ _ hf, s ds vs o ρ ρ' σ H own Q rl er dj hf hw⟩
  · cases hf
theorem fNil_len : ∀ ds ρ ρ', fNil ds ρ = some ρ' → ds.length = 0 := fun ds ρ ρ' h => by
  unfold fNil at h
  split at h
  · rfl
  · cases h
theorem fCons_len {f : D → Env → Option Env} {fs : List D → Env → Option Env} {k : Nat} (hl : ∀ ds ρ ρ', fs ds ρ = some ρ' → ds.length = k) : ∀ ds ρ ρ', fCons f fs ds ρ = some ρ' → ds.length = k + 1 := fun ds ρ ρ' h => by
  unfold fCons at h
  split at h
  · simp only [Option.bind_eq_some_iff] at h
    obtain ⟨ρ1, _, h2⟩ := h
    rw [List.length_cons, hl _ _ _ h2]
  · cases h
/-- target = value, any target -/
def sAsgG (f : D → Env → Option Env) (me : M D) : MS := fun ρ => match me ρ with
  | .ok d ρ1 => match f d ρ1 with
    | some ρ2 => .nx ρ2
    | none => .bad
  | .ex e ρ1 => .ex e ρ1
  | .bad => .bad
theorem ss_asgG {tg : Expr} {f : D → Env → Option Env} (he : SE X W C e me) (hg : SG X C B tg f) (hs : swapsWithSole [tg] e pos.line X.env = pure false := by rfl) (hw' : swappedStores [tg] e X.env = pure none := by rfl)
    (h1 : (assignEach [tg] X.env).map (·.2) = [assign tg X.env] := by rfl) : SS X W C B (.Assign [tg] e pos) (sAsgG f me) := by
  obtain ⟨t, p, s⟩ := he.ex
  obtain ⟨g, pg, sg⟩ := hg.ex
  refine ⟨_, ps_asg p pg hs hw' h1, fun ρ σ H own Dn er hw => ?_⟩
  refine s ρ σ H own _ er (poS_e (k := fun d ρ1 => match f d ρ1 with
    | some ρ2 => .nx ρ2
    | none => .bad) hw fun d ρ1 v H1 o own1 r e1 j st hw1 => ?_)
  split at hw1
  · rename_i ρ2 hf
    exact sg d v o ρ1 ρ2 σ H1 own1 _ r e1 j hf fun σ' own' e2 m2 b2 _ => hw1 σ' H1 own' e2 (st.less fun a ha => List.mem_append.mpr (m2 a ha)) b2
  · exact hw1.elim
theorem ss_for {tg iter : Expr} {body : List Stmt} {mi : M (List D)} {f : D → Env → Option Env} (hp : PassesOwn (model X.prog X.w) X.A X.env X.xe) (hc : X.calm = true) (hi : SI X W C tg iter mi) (hg : SG X C B tg f) (hb : SSs X W C B body m)
    (hs : ∀ x, foldedSetIterable iter X.env x = pure x := by intro _; rfl) : SS X W C B (.For tg iter body [] pos) (sFor mi f m) := by
  obtain ⟨wi, pi, si⟩ := hi.ex
  obtain ⟨g, pg, sg⟩ := hg.ex
  obtain ⟨tb, pb, sb⟩ := hb.ex
  refine ⟨_, ps_for hp hc pi pg pb hs, fun ρ σ H own Dn er hw => ?_⟩
  refine si ρ σ H own _ er ?_
  unfold sFor at hw
  cases hmi : mi ρ with
  | bad => rw [hmi] at hw; exact hw
  | ex e ρ1 => rw [hmi] at hw; exact fun cls d H' own' x e2 s2 => hw cls d σ H' own' x e2 s2 fun _ _ => rfl
  | ok ds ρ1 =>
    rw [hmi] at hw
    intro J H1 own1 e1 s1 hJ
    refine ⟨fun i k σ2 H2 => k + i = ds.length ∧ ∃ ρ2 own2, ER C H2 ρ2 σ2 own2 ∧ Stp H1 H2 own1 own2 ∧ (∀ j ∈ B, σ2[j]? = σ[j]?) ∧ PoS C W B (forF f m (ds.drop i) ρ2) σ H own Dn, ⟨ds.length, by simp, ρ1, own1, e1, Stp.refl fun _ z => z, fun _ _ => rfl, hw⟩, ?_⟩
    rintro i k σ2 H2 ⟨hk, ρ2, own2, e2, s2, b2, hw2⟩
    have hJi := hJ H2 own2 s2 i
    have s02 := s1.trans s2
    by_cases hi : i < ds.length
    · right
      have hd : ds[i]? = some ds[i] := List.getElem?_eq_getElem hi
      obtain ⟨go, hy⟩ := hJi.2 _ hd
      rw [List.drop_eq_getElem_cons hi] at hw2
      unfold forF at hw2
      split at hw2
      · rename_i ρ3 hf
        refine ⟨go, fun σ4 H4 => ∃ ρ4 own4, ER C H4 ρ4 σ4 own4 ∧ Stp H1 H4 own1 own4 ∧ (∀ j ∈ B, σ4[j]? = σ[j]?) ∧ PoS C W B (forF f m (ds.drop (i + 1)) ρ4) σ H own Dn, fun σ4 H4 h4 => ⟨k - 1, by omega, by omega, h4⟩, fun x H3 yy => ?_⟩
        obtain ⟨k3, r3⟩ := hy x H3 yy
        refine sg _ x [] ρ2 ρ3 σ2 H3 own2 _ r3 (e2.ext k3) (by simp) hf fun σ3 own3 e3 m3 b3 _ => ?_
        have s13 : Stp H1 H3 own1 own3 := ⟨fun a ob q na => k3 a ob (s2.keep a ob q na), fun a ha => by
          rcases m3 a ha with q | q
          · cases q
          · exact s2.sub a q⟩
        have s03 := s1.trans s13
        have b03 : ∀ j ∈ B, σ3[j]? = σ[j]? := fun j hj => (b3 j hj).trans (b2 j hj)
        refine sb ρ3 σ3 H3 own3 _ e3 ?_
        cases hm : m ρ3 with
        | nx ρ4 => rw [hm] at hw2; exact fun σ4 H4 own4 e4 s4 b4 => ⟨ρ4, own4, e4, s13.trans s4, fun j hj => (b4 j hj).trans (b03 j hj), hw2⟩
        | ct ρ4 => rw [hm] at hw2; exact fun σ4 H4 own4 e4 s4 b4 => ⟨ρ4, own4, e4, s13.trans s4, fun j hj => (b4 j hj).trans (b03 j hj), hw2⟩
        | bk ρ4 => rw [hm] at hw2; exact PoS.later (r := .nx ρ4) hw2 s03 b03
        | rt d ρ4 => rw [hm] at hw2; exact PoS.later (r := .rt d ρ4) hw2 s03 b03
        | ex e ρ4 => rw [hm] at hw2; exact PoS.later (r := .ex e ρ4) hw2 s03 b03
        | bad => rw [hm] at hw2; exact hw2
      · exact hw2.elim
    · left
      rw [List.drop_eq_nil_of_le (by omega)] at hw2
      exact ⟨hJi.1 (by omega), hw2 σ2 H2 own2 e2 s02 b2⟩
end
end Se

namespace Se
open PySem L2

/-! ### frozen behind it -/
def eFz (me : M D) : M D := fun ρ => (me ρ).bind fun d ρ1 => .ok (frz d) ρ1
mutual
theorem frz_fz : ∀ d : D, fz (frz d) = true
  | .tup ds => by show fzL (frzL ds) = true; exact frzL_fz ds
  | .lst _ ds => rfl
  | .dct _ ks ds => rfl
  | .non => rfl
  | .bl _ => rfl
  | .int _ => rfl
  | .str _ => rfl
  | .ty _ => rfl
  | .obj _ => rfl
  | .exc _ _ _ => rfl
theorem frzL_fz : ∀ ds : List D, fzL (frzL ds) = true
  | [] => rfl
  | d :: ds => by show (fz (frz d) && fzL (frzL ds)) = true; rw [frz_fz d, frzL_fz ds]; rfl
end
section
variable {X : Cx} {W : WX} {C : RC} {B : List Nat} {e a b tg : Expr} {me ma mb : M D} {pos p : Pos}
theorem se_fz (h : SE X W C e me) : SE X W C e (eFz me) := by
  obtain ⟨t, pe, s⟩ := h.ex
  refine ⟨_, pe_fz pe, fun ρ σ H own Q er hw => ?_⟩
  have hw : PoE C W ((me ρ).bind fun d ρ1 => .ok (frz d) ρ1) σ H own Q := hw
  refine s ρ σ H own _ er (poE_bind (P := fun r => PoE C W r σ H own Q) hw (fun z => z) exE fun d ρ1 v H1 o own1 r e1 j st hw1 => ?_)
  refine ⟨o, r.mut, fun H2 f => ?_⟩
  refine hw1 v H2 [] own1 (r.frz f r.mut fun _ z => z) (e1.keep f.keeps r.mut fun a ha z => j a z ha) (by simp) ⟨fun a ob q na => ?_, fun a ha => st.sub a (List.mem_append_right _ ha)⟩
  have q1 := st.keep a ob q na
  refine f.keeps a ob q1 fun z => ?_
  rcases st.sub a (List.mem_append_left _ z) with w | w
  · exact na w
  · rw [q] at w; cases w

/-! ### what is walked -/
def iSeq (K : PySem.W.Frag) (tl : TE) : TI := fun σ H R => tl σ H fun x H1 => (∃ a xs, x = .ref a ∧ SqL K H1 a xs ∧ R (Itl K a) H1) ∨ (∃ a xs, x = .ref a ∧ SqT K H1 a xs ∧ R (Itt K a) H1) ∨ ∃ z, x = .str z ∧ R (Its z) H1
theorem pi_seq {tl : TE} (hl : PE X e tl) : PI X tg e (iSeq X.K tl) := by
  refine ⟨fun pins s σ H R I h => ?_⟩
  refine thn (hl.run pins s σ H _ I h) fun v s1 ⟨x, H1, I1, r1, q1⟩ => ?_
  rcases q1 with ⟨a, xs, rfl, hq, q⟩ | ⟨a, xs, rfl, hq, q⟩ | ⟨z, rfl, q⟩
  · cases r1
    obtain ⟨_, _, pl, _⟩ := I1.list hq
    exact wpAny_pyIter_list pl.isList (pi_one (tk := s1.toks) I1 _ (turn_list a _) ⟨_, Heap.get?_push_size _ rfl, rfl, rfl⟩ q)
  · cases r1
    obtain ⟨_, _, pl, _⟩ := I1.tuple hq
    exact wpAny_pyIter_tuple pl (pi_one (tk := s1.toks) I1 _ (turn_tuple a _) ⟨_, Heap.get?_push_size _ rfl, rfl, rfl⟩ q)
  · obtain ⟨t, rfl⟩ := r1
    cases ha : z.cps.all (· < 128)
    · exact wpAny_pyIter_wide ha (pi_one (tk := s1.toks) I1 _ (turn_str _ z t "str_iterator" (.inr rfl)) ⟨_, Heap.get?_push_size _ rfl, rfl, rfl⟩ q)
    · exact wpAny_pyIter_ascii ha (pi_one (tk := s1.toks) I1 _ (turn_str _ z t "str_ascii_iterator" (.inl rfl)) ⟨_, Heap.get?_push_size _ rfl, rfl, rfl⟩ q)
def itemsD : D → Option (List D)
  | .lst false ds => some ds
  | .tup ds => some ds
  | .str z => some (z.map fun c => .str [c])
  | _ => none
/-- a frozen list, walked -/
theorem itOk_list {H : Hp} {own : List Addr} {a : Addr} {ds : List D} {vs : List V} (m : Muts H own) (h : FzL C.K H a vs) (r : RepL C H ds vs []) : ItOk C (Itl C.K a) ds H own := fun H1 own1 st i => by
  have k : Keeps H H1 own := st.keep
  have h1 := k.fzL m h
  have r1 := RepL.keep k m (by simp) r
  refine ⟨fun hi => ⟨vs, h1.sq, by rw [r.len]; exact hi⟩, fun d hd => ?_⟩
  obtain ⟨v, o, hv, rv, ho⟩ := r1.at hd
  refine ⟨⟨vs, v, h1.sq, hv⟩, fun x H2 y => ?_⟩
  obtain ⟨rfl, y⟩ := y
  have := y vs h1.sq
  rw [hv] at this; cases this
  have eo : o = [] := List.eq_nil_iff_forall_not_mem.mpr fun a ha => by simpa using ho a ha
  subst eo
  exact ⟨Ext.refl, rv⟩
theorem itOk_tup {H : Hp} {own : List Addr} {a : Addr} {ds : List D} {vs : List V} (m : Muts H own) (h : SqT C.K H a vs) (r : RepL C H ds vs []) : ItOk C (Itt C.K a) ds H own := fun H1 own1 st i => by
  have k : Keeps H H1 own := st.keep
  have h1 := k.sqT m h
  have r1 := RepL.keep k m (by simp) r
  refine ⟨fun hi => ⟨vs, h1, by rw [r.len]; exact hi⟩, fun d hd => ?_⟩
  obtain ⟨v, o, hv, rv, ho⟩ := r1.at hd
  refine ⟨⟨vs, v, h1, hv⟩, fun x H2 y => ?_⟩
  obtain ⟨rfl, y⟩ := y
  have := y vs h1
  rw [hv] at this; cases this
  have eo : o = [] := List.eq_nil_iff_forall_not_mem.mpr fun a ha => by simpa using ho a ha
  subst eo
  exact ⟨Ext.refl, rv⟩
theorem itOk_str {H : Hp} {own : List Addr} (z : List Nat) : ItOk C (Its (sx z)) (z.map fun c => .str [c]) H own := fun H1 own1 st i => by
  have hz : (sx z).cps.size = z.length := by simp [sx]
  refine ⟨fun hi => by show (sx z).cps.size ≤ i; rw [hz]; simpa using hi, fun d hd => ?_⟩
  simp only [List.getElem?_map, Option.map_eq_some_iff] at hd
  obtain ⟨c, hc, rfl⟩ := hd
  have hi := (List.getElem?_eq_some_iff.mp hc).1
  refine ⟨by show i < (sx z).cps.size; rw [hz]; exact hi, fun x H2 y => ?_⟩
  obtain ⟨rfl, c', hc', rfl⟩ := y
  have : c' = c := by
    have e : (sx z).cps[i]? = z[i]? := by simp [sx]
    rw [e, hc] at hc'; exact (Option.some.inj hc').symm
  subst this
  exact ⟨Ext.refl, rfl, rfl⟩
def iSq (me : M D) : M (List D) := fun ρ => (eFz me ρ).bind fun d ρ1 => ofO (itemsD d) ρ1
theorem si_seq (hK : C.K = X.K) (h : SE X W C e me) : SI X W C tg e (iSq me) := by
  obtain ⟨t, pe, s⟩ := (se_fz h).ex
  refine ⟨_, pi_seq pe, fun ρ σ H own R er hw => ?_⟩
  refine s ρ σ H own _ er ?_
  unfold iSq at hw
  cases hm : eFz me ρ with
  | bad => rw [hm] at hw; exact hw
  | ex e ρ1 => rw [hm] at hw; exact hw
  | ok d ρ1 =>
    rw [hm] at hw
    intro v H1 o own1 r e1 j st
    have hz : fz d = true := by
      unfold eFz at hm
      cases hm2 : me ρ with
      | bad => rw [hm2] at hm; cases hm
      | ex e ρ1 => rw [hm2] at hm; cases hm
      | ok d2 ρ2 => rw [hm2] at hm; cases hm; exact frz_fz _
    have st1 := st.less (o' := own1) fun a ha => List.mem_append_right _ ha
    simp only [RE.bind, ofO] at hw
    rw [← hK]
    cases d with
    | lst f ds =>
      cases f with
      | true => simp [fz] at hz
      | false =>
        obtain ⟨a, vs, rfl, hs, rl, _⟩ := r
        exact .inl ⟨a, vs, rfl, hs.sq, hw _ H1 own1 e1 st1 (itOk_list e1.mut hs rl)⟩
    | tup ds =>
      have eo := Rep.fz_nil hz r
      subst eo
      obtain ⟨a, vs, rfl, hs, rl⟩ := r
      exact .inr (.inl ⟨a, vs, rfl, hs, hw _ H1 own1 e1 st1 (itOk_tup e1.mut hs rl)⟩)
    | str z => exact .inr (.inr ⟨sx z, r.1, hw _ H1 own1 e1 st1 (itOk_str z)⟩)
    | _ => exact hw.elim
/-! ### range -/
def rgD (lo : Int) (n : Nat) : List D := (List.range n).map fun (i : Nat) => .int (lo + (i : Int))
theorem rgD_len (lo : Int) (n : Nat) : (rgD lo n).length = n := by simp [rgD]
theorem rgD_get {lo : Int} {n i : Nat} {d : D} (h : (rgD lo n)[i]? = some d) : i < n ∧ d = .int (lo + (i : Int)) := by
  unfold rgD at h
  simp only [List.getElem?_map, Option.map_eq_some_iff] at h
  obtain ⟨j, hj, rfl⟩ := h
  by_cases hi : i < n
  · rw [List.getElem?_range hi] at hj
    cases hj; exact ⟨hi, rfl⟩
  · rw [List.getElem?_eq_none (by simpa using hi)] at hj; cases hj
theorem itOk_range {H : Hp} {own : List Addr} (lo : Int) (n : Nat) : ItOk C (Itr lo n) (rgD lo n) H own := fun H1 own1 st i => by
  refine ⟨fun hi => by show n ≤ i; rw [rgD_len] at hi; exact hi, fun d hd => ?_⟩
  obtain ⟨hi, rfl⟩ := rgD_get hd
  refine ⟨hi, fun x H2 y => ?_⟩
  obtain ⟨rfl, rfl⟩ := y
  exact ⟨Ext.refl, rfl, rfl⟩
/-- between the bounds: said so that the kernel reckons it shallowly -/
def w62 (j : Int) : Bool := Nat.ble j.natAbs 4611686018427387903
theorem w62_ok {j : Int} (h : w62 j = true) : -(2 ^ 62) ≤ j ∧ j < 2 ^ 62 := by
  have := Nat.le_of_ble_eq_true h
  omega
theorem w62_of {j : Int} (h0 : -4611686018427387904 < j) (h1 : j < 4611686018427387904) : w62 j = true := Nat.ble_eq_true_of_le (by omega)
def rg1 : List D → Option (List D)
  | [.int j] => if w62 j = true then some (rgD 0 j.toNat) else none
  | _ => none
def rg2 : List D → Option (List D)
  | [.int i, .int j] => if w62 i = true ∧ w62 j = true then some (rgD i (j - i).toNat) else none
  | _ => none
def iArgs (g : List D → Option (List D)) (ms : M (List D)) : M (List D) := fun ρ => (ms ρ).bind fun ds ρ1 => ofO (g ds) ρ1
/-- from arguments to what is walked -/
theorem si_args {es : List Expr} {ms : M (List D)} {g : List D → Option (List D)} {r : List V → Hp → (It → Hp → Prop) → Prop} (pi : ∀ t, PA X es t → PI X tg e (fun σ H R => t σ H fun vs H1 => r vs H1 R))
    (vo : ∀ ds xs vs o H own R, RepL C H ds vs o → Muts H own → g ds = some xs → (∀ J, ItOk C J xs H own → R J H) → r vs H R) (ha : SA X W C es ms) : SI X W C tg e (iArgs g ms) := by
  obtain ⟨t, pa, s⟩ := ha.ex
  refine ⟨_, pi t pa, fun ρ σ H own R er hw => s ρ σ H own _ er ?_⟩
  unfold iArgs at hw
  cases hm : ms ρ with
  | bad => rw [hm] at hw; exact hw
  | ex e ρ1 => rw [hm] at hw; exact hw
  | ok ds ρ1 =>
    rw [hm] at hw
    intro vs H1 o own1 rr e1 j st
    simp only [RE.bind, ofO] at hw
    cases hq : g ds with
    | none => rw [hq] at hw; exact hw.elim
    | some xs =>
      rw [hq] at hw
      exact vo ds xs vs o H1 own1 R rr e1.mut hq fun J hJ => hw J H1 own1 e1 (st.less fun a ha => List.mem_append_right _ ha) hJ
theorem RepL.two' {H : Hp} {x y : D} {ws : List V} {o : List Addr} (h : RepL C H [x, y] ws o) : ∃ v w o1 o2, ws = [v, w] ∧ Rep C H x v o1 ∧ Rep C H y w o2 ∧ (∀ a ∈ o1, a ∉ o2) := by
  obtain ⟨v, vs', o1, o2, rfl, h1, h2, n, rfl⟩ := h
  obtain ⟨w, rfl, r2⟩ := h2.sing
  exact ⟨v, w, o1, o2, rfl, h1, r2, n⟩
theorem si_range1 {ms : M (List D)} (hg : Gl X "range") (hm : X.mg "range" = none) (ha : SA X W C [a] ms) (hs : starEach [a] X.env = [(false, eval a X.env)] := by rfl) : SI X W C tg (.Call (.Name "range" p) [a] [] pos) (iArgs rg1 ms) :=
  si_args (fun t pa => pi_range1 hg hm pa hs) (fun ds xs vs o H own R r mo hq hR => by
    unfold rg1 at hq
    split at hq
    · split at hq
      · rename_i jj hb
        cases hq
        obtain ⟨w, rfl, rw'⟩ := r.sing
        obtain ⟨rfl, _⟩ := rw'
        exact ⟨_, rfl, (w62_ok hb).1, (w62_ok hb).2, hR _ (itOk_range 0 _)⟩
      · cases hq
    · cases hq) ha
theorem si_range2 {ms : M (List D)} (hg : Gl X "range") (hm : X.mg "range" = none) (ha : SA X W C [a, b] ms) (hs : starEach [a, b] X.env = [(false, eval a X.env), (false, eval b X.env)] := by rfl) (hs2 : starEach [b] X.env = [(false, eval b X.env)] := by rfl) : SI X W C tg (.Call (.Name "range" p) [a, b] [] pos) (iArgs rg2 ms) :=
  si_args (fun t pa => pi_range2 hg hm pa hs hs2) (fun ds xs vs o H own R r mo hq hR => by
    unfold rg2 at hq
    split at hq
    · split at hq
      · rename_i ii jj hb
        cases hq
        obtain ⟨v, w, o1, o2, rfl, r1, r2, _⟩ := r.two'
        obtain ⟨rfl, _⟩ := r1
        obtain ⟨rfl, _⟩ := r2
        exact ⟨_, _, rfl, ⟨(w62_ok hb.1).1, (w62_ok hb.1).2, (w62_ok hb.2).1, (w62_ok hb.2).2⟩, hR _ (itOk_range _ _)⟩
      · cases hq
    · cases hq) ha
/-! ### enumerate, zip -/
def enD : Nat → List D → List D
  | _, [] => []
  | k, d :: ds => .tup [.int (k : Nat), d] :: enD (k + 1) ds
theorem enD_len : ∀ (k : Nat) (ds : List D), (enD k ds).length = ds.length
  | _, [] => rfl
  | k, d :: ds => by simp [enD, enD_len (k + 1) ds]
theorem enD_get : ∀ {k : Nat} {ds : List D} {i : Nat} {d : D}, (enD k ds)[i]? = some d → ∃ x, ds[i]? = some x ∧ d = .tup [.int ((k + i : Nat) : Int), x]
  | _, [], i, _, h => by simp [enD] at h
  | k, x :: ds, 0, d, h => by simp [enD] at h; exact ⟨x, rfl, by simp [h]⟩
  | k, x :: ds, i + 1, d, h => by
    obtain ⟨y, hy, e⟩ := enD_get (k := k + 1) (ds := ds) (i := i) (by simpa [enD] using h)
    refine ⟨y, by simpa using hy, ?_⟩
    rw [e]
    congr 4; omega
theorem RepL.at0 {H : Hp} {ds : List D} {vs : List V} {i : Nat} {d : D} (r : RepL C H ds vs []) (h : ds[i]? = some d) : ∃ v, vs[i]? = some v ∧ Rep C H d v [] := by
  obtain ⟨v, o, hv, rv, ho⟩ := r.at h
  have eo : o = [] := List.eq_nil_iff_forall_not_mem.mpr fun a ha => by simpa using ho a ha
  subst eo
  exact ⟨v, hv, rv⟩
theorem rep_pair {H : Hp} {T : Addr} {x y : D} {v w : V} (hT : H T = none) (r1 : Rep C H x v []) (r2 : Rep C H y w []) : Rep C (upd H T (.tup [v, w])) (.tup [x, y]) (.ref T) [] :=
  rep_new_tup (⟨v, [w], [], [], rfl, r1, ⟨w, [], [], [], rfl, r2, (show ([] : List V) = [] ∧ ([] : List Addr) = [] from ⟨rfl, rfl⟩), (by simp), rfl⟩, (by simp), rfl⟩) hT
theorem itOk_enum {H : Hp} {own : List Addr} {a : Addr} {ds : List D} {vs : List V} (m : Muts H own) (h : FzL C.K H a vs) (r : RepL C H ds vs []) : ItOk C (Ite C.K a) (enD 0 ds) H own := fun H1 own1 st i => by
  have k : Keeps H H1 own := st.keep
  have h1 := k.fzL m h
  have r1 := RepL.keep k m (by simp) r
  refine ⟨fun hi => ⟨vs, h1.sq, by rw [r.len]; rw [enD_len] at hi; exact hi⟩, fun d hd => ?_⟩
  obtain ⟨x, hx, rfl⟩ := enD_get hd
  obtain ⟨v, hv, rv⟩ := r1.at0 hx
  refine ⟨⟨vs, v, h1.sq, hv⟩, fun y H2 yy => ?_⟩
  obtain ⟨T, z, rfl, hT, rfl, yy⟩ := yy
  have := yy vs h1.sq
  rw [hv] at this; cases this
  refine ⟨Ext.new hT, ?_⟩
  rw [Nat.zero_add]
  exact rep_pair hT ⟨rfl, rfl⟩ rv
def enA : List D → Option (List D)
  | [.lst false ds] => some (enD 0 ds)
  | _ => none
theorem si_enum {elts : List Expr} {kk : Nat} {tpos : Pos} {ms : M (List D)} (hK : C.K = X.K) (hg : Gl X "enumerate") (hm : X.mg "enumerate" = none) (ha : SA X W C [a] ms) (hs : starEach [a] X.env = [(false, eval a X.env)] := by rfl) : SI X W C (.Tuple elts kk tpos) (.Call (.Name "enumerate" p) [a] [] pos) (iArgs enA ms) :=
  si_args (fun t pa => pi_enum hg hm pa hs) (fun ds xs vs o H own R r mo hq hR => by
    unfold enA at hq
    split at hq
    · cases hq
      obtain ⟨w, rfl, rw'⟩ := r.sing
      obtain ⟨l, us, rfl, hl, rl, _⟩ := rw'
      exact ⟨l, us, rfl, by rw [← hK]; exact hl.sq, by rw [← hK]; exact hR _ (itOk_enum mo hl rl)⟩
    · cases hq) ha
def zpD : List D → List D → List D
  | x :: xs, y :: ys => .tup [x, y] :: zpD xs ys
  | _, _ => []
theorem zpD_get : ∀ {xs ys : List D} {i : Nat} {d : D}, (zpD xs ys)[i]? = some d → ∃ x y, xs[i]? = some x ∧ ys[i]? = some y ∧ d = .tup [x, y]
  | [], _, i, d, h => by simp [zpD] at h
  | _ :: _, [], i, d, h => by simp [zpD] at h
  | x :: xs, y :: ys, 0, d, h => by simp [zpD] at h; exact ⟨x, y, rfl, rfl, h.symm⟩
  | x :: xs, y :: ys, i + 1, d, h => by
    obtain ⟨a, b, h1, h2, e⟩ := zpD_get (xs := xs) (ys := ys) (i := i) (by simpa [zpD] using h)
    exact ⟨a, b, by simpa using h1, by simpa using h2, e⟩
theorem zpD_len : ∀ (xs ys : List D), (zpD xs ys).length = min xs.length ys.length
  | [], _ => by simp [zpD]
  | _ :: _, [] => by simp [zpD]
  | x :: xs, y :: ys => by simp [zpD, zpD_len xs ys, Nat.add_min_add_right]
def zpA : List D → Option (List D)
  | [.lst false xs, .lst false ys] => some (zpD xs ys)
  | [.tup xs, .tup ys] => if fzL xs = true ∧ fzL ys = true then some (zpD xs ys) else none
  | _ => none
theorem itOk_zip {H : Hp} {own : List Addr} {a b : Addr} {xs ys : List D} {vs ws : List V} (m : Muts H own) (h : FzL C.K H a vs) (h' : FzL C.K H b ws) (r : RepL C H xs vs []) (r' : RepL C H ys ws []) : ItOk C (Itz C.K a b) (zpD xs ys) H own := fun H1 own1 st i => by
  have k : Keeps H H1 own := st.keep
  have h1 := k.fzL m h
  have h2 := k.fzL m h'
  have r1 := RepL.keep k m (by simp) r
  have r2 := RepL.keep k m (by simp) r'
  refine ⟨fun hi => ⟨vs, ws, h1.sq, h2.sq, by rw [r.len, r'.len]; rw [zpD_len] at hi; omega⟩, fun d hd => ?_⟩
  obtain ⟨x, y, hx, hy, rfl⟩ := zpD_get hd
  obtain ⟨v, hv, rv⟩ := r1.at0 hx
  obtain ⟨w, hw, rw'⟩ := r2.at0 hy
  refine ⟨⟨vs, ws, v, w, h1.sq, h2.sq, hv, hw⟩, fun z H2 yy => ?_⟩
  obtain ⟨T, p, q, rfl, hT, rfl, y1, y2⟩ := yy
  have e1 := y1 vs h1.sq
  have e2 := y2 ws h2.sq
  rw [hv] at e1; cases e1
  rw [hw] at e2; cases e2
  exact ⟨Ext.new hT, rep_pair hT rv rw'⟩
theorem itOk_zipT {H : Hp} {own : List Addr} {a b : Addr} {xs ys : List D} {vs ws : List V} (m : Muts H own) (h : SqT C.K H a vs) (h' : SqT C.K H b ws) (r : RepL C H xs vs []) (r' : RepL C H ys ws []) : ItOk C (RZ.ItzT C.K a b) (zpD xs ys) H own := fun H1 own1 st i => by
  have k : Keeps H H1 own := st.keep
  have h1 := k.sqT m h
  have h2 := k.sqT m h'
  have r1 := RepL.keep k m (by simp) r
  have r2 := RepL.keep k m (by simp) r'
  refine ⟨fun hi => ⟨vs, ws, h1, h2, by rw [r.len, r'.len]; rw [zpD_len] at hi; omega⟩, fun d hd => ?_⟩
  obtain ⟨x, y, hx, hy, rfl⟩ := zpD_get hd
  obtain ⟨v, hv, rv⟩ := r1.at0 hx
  obtain ⟨w, hw, rw'⟩ := r2.at0 hy
  refine ⟨⟨vs, ws, v, w, h1, h2, hv, hw⟩, fun z H2 yy => ?_⟩
  obtain ⟨T, p, q, rfl, hT, rfl, y1, y2⟩ := yy
  have e1 := y1 vs h1
  have e2 := y2 ws h2
  rw [hv] at e1; cases e1
  rw [hw] at e2; cases e2
  exact ⟨Ext.new hT, rep_pair hT rv rw'⟩
theorem si_zip {elts : List Expr} {kk : Nat} {tpos : Pos} {ms : M (List D)} (hK : C.K = X.K) (hg : Gl X "zip") (hm : X.mg "zip" = none) (ha : SA X W C [a, b] ms) (hs : starEach [a, b] X.env = (false, eval a X.env) :: starEach [b] X.env := by rfl) (hpl : (backTo pos (starEach [b] X.env)).any (·.1) = false := by rfl) :
    SI X W C (.Tuple elts kk tpos) (.Call (.Name "zip" p) [a, b] [] pos) (iArgs zpA ms) :=
  si_args (fun t pa => RZ.pi_zipA hg hm pa hs hpl) (fun ds xs vs o H own R r mo hq hR => by
    unfold zpA at hq
    split at hq
    · cases hq
      obtain ⟨v, w, o1, o2, rfl, r1, r2, _⟩ := r.two'
      obtain ⟨l, us, rfl, hl, rl, _⟩ := r1
      obtain ⟨l', us', rfl, hl', rl', _⟩ := r2
      exact ⟨l, l', us, us', rfl, .inl ⟨by rw [← hK]; exact hl.sq, by rw [← hK]; exact hl'.sq, by rw [← hK]; exact hR _ (itOk_zip mo hl hl' rl rl')⟩⟩
    · split at hq
      · rename_i hf
        cases hq
        obtain ⟨v, w, o1, o2, rfl, r1, r2, _⟩ := r.two'
        have e1 := Rep.fz_nil (d := .tup _) hf.1 r1
        have e2 := Rep.fz_nil (d := .tup _) hf.2 r2
        subst e1 e2
        obtain ⟨l, us, rfl, hl, rl⟩ := r1
        obtain ⟨l', us', rfl, hl', rl'⟩ := r2
        exact ⟨l, l', us, us', rfl, .inr ⟨by rw [← hK]; exact hl, by rw [← hK]; exact hl', by rw [← hK]; exact hR _ (itOk_zipT mo hl hl' rl rl')⟩⟩
      · cases hq
    · cases hq) ha
end
end Se

namespace Se
open PySem L2

/-! ### comprehensions -/
def wipeE (ρ : Env) : List Nat → Env
  | [] => ρ
  | v :: vs => (wipeE ρ vs).set v none
def compF (vs : List Nat) (f : D → Env → Option Env) (mt : M Bool) (me : M D) : List D → List D → Env → Option (List D × Env)
  | [], acc, ρ => some (acc, ρ)
  | d :: ds, acc, ρ => match f d (wipeE ρ vs) with
    | some ρ1 => match mt ρ1 with
      | .ok b ρ2 => if b = true then (match me ρ2 with
          | .ok y ρ3 => if acc.length < sizeLine then compF vs f mt me ds (acc ++ [y]) ρ3 else none
          | _ => none) else compF vs f mt me ds acc ρ2
      | _ => none
    | none => none
def eLc (vs : List Nat) (mi : M (List D)) (f : D → Env → Option Env) (mt : M Bool) (me : M D) : M D := fun ρ => match mi ρ with
  | .ok ds ρ1 => match compF vs f mt me ds [] ρ1 with
    | some (acc, ρ2) => .ok (.lst true acc) (wipeE ρ2 vs)
    | none => .bad
  | .ex e ρ1 => .ex e ρ1
  | .bad => .bad
def tTrue : M Bool := fun ρ => .ok true ρ
def W0 : WX := fun _ _ _ _ => False
section
variable {C : RC} {H : Hp}
theorem ER.wipe : ∀ {vs : List Nat} {ρ : Env} {σ : St} {own : List Addr}, ER C H ρ σ own → ∃ own1, ER C H (wipeE ρ vs) (L2.wipe σ vs) own1 ∧ ∀ a ∈ own1, a ∈ own
  | [], ρ, σ, own, h => ⟨own, h, fun _ z => z⟩
  | v :: vs, ρ, σ, own, h => by
    obtain ⟨own1, h1, m1⟩ := ER.wipe (vs := vs) h
    obtain ⟨own2, h2, m2⟩ := ER.drop (i := v) none h1
    exact ⟨own2, h2, fun a ha => m1 a (m2 a ha)⟩
theorem ER.anyAt : ∀ {ρ : Env} {σ : St} {own : List Addr} {i : Nat} {x : Option V}, ER C H (ρ.set i none) (σ.set i x) own → ER C H (ρ.set i none) σ own
  | [], σ, own, i, x, h => by
    obtain ⟨h1, h2⟩ := h
    cases σ with
    | nil => exact ⟨rfl, h2⟩
    | cons a b => cases i <;> simp at h1
  | d :: ρ, σ, own, 0, x, h => by
    cases σ with
    | nil => obtain ⟨_, _, e, _⟩ := h; simp at e
    | cons a b =>
      obtain ⟨y, σ', e, h⟩ := h
      simp at e
      obtain ⟨rfl, rfl⟩ := e
      exact ⟨a, b, rfl, h⟩
  | none :: ρ, σ, own, i + 1, x, h => by
    cases σ with
    | nil => obtain ⟨_, _, e, _⟩ := h; simp at e
    | cons a b =>
      obtain ⟨y, σ', e, h⟩ := h
      simp at e
      obtain ⟨rfl, rfl⟩ := e
      exact ⟨a, b, rfl, ER.anyAt h⟩
  | some d :: ρ, σ, own, i + 1, x, h => by
    cases σ with
    | nil => obtain ⟨_, _, _, _, e, _⟩ := h; simp at e
    | cons a b =>
      obtain ⟨v, σ', o1, o2, e, h1, h2, n, rfl⟩ := h
      simp at e
      obtain ⟨rfl, rfl⟩ := e
      exact ⟨v, b, o1, o2, rfl, h1, ER.anyAt h2, n, rfl⟩
theorem wipeE_set (ρ : Env) (i : Nat) : ∀ vs : List Nat, (wipeE ρ vs).set i none = wipeE (ρ.set i none) vs
  | [] => rfl
  | v :: vs => by
    show ((wipeE ρ vs).set v none).set i none = (wipeE (ρ.set i none) vs).set v none
    rw [← wipeE_set ρ i vs]
    by_cases e : v = i
    · subst e; rfl
    · rw [List.set_comm _ _ e]
theorem ER.unwipe : ∀ {vs : List Nat} {ρ : Env} {σ : St} {own : List Addr}, ER C H (wipeE ρ vs) (L2.wipe σ vs) own → ER C H (wipeE ρ vs) σ own
  | [], _, _, _, h => h
  | v :: vs, ρ, σ, own, h => by
    have h1 : ER C H ((wipeE ρ vs).set v none) (L2.wipe σ vs) own := ER.anyAt h
    rw [wipeE_set] at h1
    have h2 := ER.unwipe h1
    rw [← wipeE_set] at h2
    exact h2
theorem wipe_get {σ : St} {i : Nat} : ∀ {vs : List Nat}, i ∈ vs → i < σ.length → (L2.wipe σ vs)[i]? = some none
  | [], h, _ => by cases h
  | v :: vs, h, hl => by
    unfold L2.wipe
    by_cases e : v = i
    · subst e; rw [List.getElem?_set_self (by rw [wipe_length]; exact hl)]
    · rw [List.getElem?_set_ne e]
      exact wipe_get ((List.mem_cons.mp h).resolve_left fun z => e z.symm) hl
theorem wipe_eq {σ σ2 : St} {vs B : List Nat} (hl : σ2.length = (L2.wipe σ vs).length) (b : ∀ j ∈ B, σ2[j]? = (L2.wipe σ vs)[j]?) (hB : ∀ j, j < σ.length → j ∉ vs → j ∈ B) : L2.wipe σ2 vs = L2.wipe σ vs := by
  have hl' : σ2.length = σ.length := by rw [hl, wipe_length]
  apply List.ext_getElem?
  intro i
  by_cases hi : i < σ.length
  · by_cases hv : i ∈ vs
    · rw [wipe_get hv hi, wipe_get hv (by omega)]
    · rw [wipe_out hv, b i (hB i hi hv)]
  · rw [List.getElem?_eq_none (by rw [wipe_length]; omega), List.getElem?_eq_none (by rw [wipe_length]; omega)]
end
section
variable {X : Cx} {W : WX} {C : RC} {B : List Nat}
/-- the reading of a comprehension by its parts' -/
theorem snd_lc {vs : List Nat} {wi : TI} {g : TG} {tt : TT} {te : TE} {mi : M (List D)} {f : D → Env → Option Env} {mt : M Bool} {me : M D}
    (si : ∀ ρ σ H own R, ER C H ρ σ own → (match mi ρ with
      | .ok ds ρ' => ∀ J H' own', ER C H' ρ' σ own' → Stp H H' own own' → ItOk C J ds H' own' → R J H'
      | .ex e ρ' => ∀ cls d H' own', XR C H' e cls d → ER C H' ρ' σ own' → Stp H H' own own' → W cls d σ H'
      | .bad => False) → wi σ H R)
    (sg : ∀ d v o ρ ρ' σ H own Q, Rep C H d v o → ER C H ρ σ own → (∀ a ∈ o, a ∉ own) → f d ρ = some ρ' →
      (∀ σ' own', ER C H ρ' σ' own' → (∀ a ∈ own', a ∈ o ∨ a ∈ own) → (∀ j ∈ B, σ'[j]? = σ[j]?) → σ'.length = σ.length → Q σ' H) → g v σ H Q)
    (stt : ∀ ρ σ H own Q, ER C H ρ σ own → PoT C W0 (mt ρ) σ H own Q → tt σ H Q) (ste : Snd W0 C te me) (n : Nat) (hB : ∀ j, j < n → j ∉ vs → j ∈ B) :
    ∀ ρ σ H own Q, σ.length = n → ER C H ρ σ own → PoE C W (eLc vs mi f mt me ρ) σ H own Q → tLc wi g tt te vs σ H Q := by
  intro ρ σ H own Q hn er hw
  refine si ρ σ H own _ er ?_
  unfold eLc at hw
  cases hmi : mi ρ with
  | bad => rw [hmi] at hw; exact hw
  | ex e ρ1 => rw [hmi] at hw; exact hw
  | ok ds ρ1 =>
    rw [hmi] at hw
    intro J H1 own1 e1 s1 hJ p hp
    dsimp only at hw
    split at hw
    · rename_i accF ρF hc
      obtain ⟨ownW, eW, mW⟩ := ER.wipe (vs := vs) e1
      refine ⟨fun i m H2 => m + i = ds.length ∧ ∃ ρ2 own2 acc av oa, compF vs f mt me (ds.drop i) acc ρ2 = some (accF, ρF) ∧ ER C H2 (wipeE ρ2 vs) (L2.wipe σ vs) own2 ∧ H2 p = some (.lst av) ∧ RepL C H2 acc av oa ∧ p ∉ oa ∧ p ∉ own2 ∧ (∀ a ∈ oa, a ∉ own2) ∧ Stp H1 H2 own1 (oa ++ own2),
        ⟨ds.length, by simp, ρ1, ownW, [], [], [], hc, eW.ext (Ext.new hp), upd_same, ⟨rfl, rfl⟩, (by simp), fun z => ?_, (by simp), ⟨fun a ob q _ => Ext.new hp a ob q, fun a ha => .inl (mW a (by simpa using ha))⟩⟩, ?_⟩
      · obtain ⟨u, q, _⟩ := eW.mut p z
        rw [hp] at q; cases q
      · rintro i m H2 ⟨hm, ρ2, own2, acc, av, oa, hc2, e2, hD, ra, np, np2, dj, st2⟩
        have hJi := hJ H2 own2 (st2.less fun a ha => List.mem_append_right _ ha) i
        by_cases hi : i < ds.length
        · right
          obtain ⟨go, hy⟩ := hJi.2 _ (List.getElem?_eq_getElem hi)
          rw [List.drop_eq_getElem_cons hi] at hc2
          unfold compF at hc2
          split at hc2
          · rename_i ρ3 hf
            refine ⟨go, fun H4 => ∃ ρ2 own2 acc av oa, compF vs f mt me (ds.drop (i + 1)) acc ρ2 = some (accF, ρF) ∧ ER C H4 (wipeE ρ2 vs) (L2.wipe σ vs) own2 ∧ H4 p = some (.lst av) ∧ RepL C H4 acc av oa ∧ p ∉ oa ∧ p ∉ own2 ∧ (∀ a ∈ oa, a ∉ own2) ∧ Stp H1 H4 own1 (oa ++ own2),
              fun H4 h4 => ⟨m - 1, by omega, by omega, h4⟩, fun x H3 yy => ?_⟩
            obtain ⟨k3, r3⟩ := hy x H3 yy
            refine sg _ x [] (wipeE ρ2 vs) ρ3 (L2.wipe σ vs) H3 own2 _ r3 (e2.ext k3) (by simp) hf fun σ3 own3 e3 m3 b3 l3 => ⟨wipe_eq l3 b3 (by rw [hn]; exact hB), ?_⟩
            have sub3 : ∀ a ∈ own3, a ∈ own2 := fun a ha => (m3 a ha).resolve_left (by simp)
            have ew : L2.wipe σ3 vs = L2.wipe σ vs := wipe_eq l3 b3 (by rw [hn]; exact hB)
            refine stt ρ3 σ3 H3 own3 _ e3 ?_
            cases hmt : mt ρ3 with
            | bad => rw [hmt] at hc2; cases hc2
            | ex e ρ4 => rw [hmt] at hc2; cases hc2
            | ok b ρ4 =>
              rw [hmt] at hc2
              dsimp only at hc2
              intro H4 own4 e4 st4
              -- what is held through the test
              have keepA : ∀ {H5 : Hp} {own5 : List Addr}, Stp H3 H5 own3 own5 → H5 p = some (.lst av) ∧ RepL C H5 acc av oa ∧ p ∉ own5 ∧ (∀ a ∈ oa, a ∉ own5) := fun {H5 own5} st5 => by
                have hD3 := k3 _ _ hD
                have ra3 := ra.ext k3
                have d3 : ∀ a ∈ oa, a ∉ own3 := fun a ha z => dj a ha (sub3 a z)
                refine ⟨st5.keep p _ hD3 fun z => np2 (sub3 p z), ra3.keep st5.keep e3.mut d3, fun z => ?_, st5.apart ra3.mut d3⟩
                rcases st5.sub p z with q | q
                · exact np2 (sub3 p q)
                · rw [hD3] at q; cases q
              have st13 : Stp H1 H3 own1 (oa ++ own3) := ⟨fun a ob q na => k3 a ob (st2.keep a ob q na), fun a ha => by
                rcases List.mem_append.mp ha with q | q
                · exact st2.sub a (List.mem_append_left _ q)
                · exact st2.sub a (List.mem_append_right _ (sub3 a q))⟩
              cases b with
              | false =>
                rw [if_neg Bool.false_ne_true] at hc2 ⊢
                obtain ⟨q1, q2, q3, q4⟩ := keepA st4
                obtain ⟨own5, e5, m5⟩ := ER.wipe (vs := vs) e4
                rw [ew] at e5
                exact ⟨ρ4, own5, acc, av, oa, hc2, e5, q1, q2, np, fun z => q3 (m5 p z), fun a ha z => q4 a ha (m5 a z), (st13.held st4).less fun a ha => (List.mem_append.mp ha).elim (List.mem_append_left _) fun z => List.mem_append_right _ (m5 a z)⟩
              | true =>
                rw [if_pos rfl] at hc2 ⊢
                refine ste ρ4 σ3 H4 own4 _ e4 ?_
                cases hme : me ρ4 with
                | bad => rw [hme] at hc2; cases hc2
                | ex e ρ5 => rw [hme] at hc2; cases hc2
                | ok y ρ5 =>
                  rw [hme] at hc2
                  dsimp only at hc2
                  split at hc2
                  · rename_i hz
                    intro w H5 oy own5 ry e5 dy st5
                    have st35 : Stp H3 H5 own3 (oy ++ own5) := st4.trans st5
                    obtain ⟨q1, q2, q3, q4⟩ := keepA st35
                    have npy : p ∉ oy := fun z => q3 (List.mem_append_left _ z)
                    have np5 : p ∉ own5 := fun z => q3 (List.mem_append_right _ z)
                    have kk : Keeps H5 (upd H5 p (.lst (av ++ [w]))) [p] := fun b ob q nb => by
                      rw [upd_ne (fun z => nb (by simp [z]))]; exact q
                    have mm : Muts H5 [p] := fun b hb => by
                      cases List.mem_singleton.mp hb
                      exact ⟨_, q1, trivial⟩
                    have ny : ∀ {o : List Addr}, p ∉ o → ∀ a ∈ o, a ∉ [p] := fun h a ha z => h (by cases List.mem_singleton.mp z; exact ha)
                    obtain ⟨own6, e6, m6⟩ := ER.wipe (vs := vs) (e5.keep kk mm (ny np5))
                    rw [ew] at e6
                    refine ⟨av, q1, by rw [ra.len]; exact hz, ρ5, own6, acc ++ [y], av ++ [w], oa ++ oy, hc2, e6, upd_same, (q2.keep kk mm (ny np)).append ⟨w, [], oy, [], rfl, ry.keep kk mm (ny npy), (show ([] : List V) = [] ∧ ([] : List Addr) = [] from ⟨rfl, rfl⟩), (by simp), (by simp)⟩ (fun a ha z => q4 a ha (List.mem_append_left _ z)), fun z => (List.mem_append.mp z).elim np npy, fun z => np5 (m6 p z), fun a ha z => ?_, ?_⟩
                    · rcases List.mem_append.mp ha with q | q
                      · exact q4 a q (List.mem_append_right _ (m6 a z))
                      · exact dy a q (m6 a z)
                    · have st15 : Stp H1 H5 own1 (oa ++ (oy ++ own5)) := st13.held st35
                      refine ⟨fun a ob q na => ?_, fun a ha => ?_⟩
                      · have q5 := st15.keep a ob q na
                        by_cases hap : a = p
                        · subst hap; rw [hp] at q; cases q
                        · rw [upd_ne hap]; exact q5
                      · rcases List.mem_append.mp ha with q | q
                        · rcases List.mem_append.mp q with q | q
                          · exact st15.sub a (List.mem_append_left _ q)
                          · exact st15.sub a (List.mem_append_right _ (List.mem_append_left _ q))
                        · exact st15.sub a (List.mem_append_right _ (List.mem_append_right _ (m6 a q)))
                  · cases hc2
          · cases hc2
        · left
          rw [List.drop_eq_nil_of_le (by omega)] at hc2
          cases hc2
          refine ⟨hJi.1 (by omega), hw (.ref p) H2 (p :: oa) own2 ⟨p, av, oa, rfl, hD, ra, np, rfl⟩ (ER.unwipe e2) (fun a ha => ?_) ?_⟩
          · rcases List.mem_cons.mp ha with rfl | q
            · exact np2
            · exact dj a q
          · have st02 := s1.trans st2
            refine ⟨st02.keep, fun a ha => ?_⟩
            rcases List.mem_append.mp ha with q | q
            · rcases List.mem_cons.mp q with rfl | q
              · by_cases y : a ∈ own
                · exact .inl y
                · right
                  cases e : H a with
                  | none => rfl
                  | some ob => rw [s1.keep a ob e y] at hp; cases hp
              · exact st02.sub a (List.mem_append_left _ q)
            · exact st02.sub a (List.mem_append_right _ q)
    · exact hw.elim
end
end Se

namespace Se
open PySem L2

section
variable {X : Cx} {W : WX} {C : RC} {B vs : List Nat}
theorem pe_weak {e : Expr} {t t' : TE} (h : PE X e t) (k : ∀ σ H Q, t' σ H Q → t σ H Q) : PE X e t' := ⟨fun pins s σ H Q I hw => h.run pins s σ H Q I (k σ H Q hw)⟩
theorem pg_weak {e : Expr} {t t' : TG} (h : PG X e t) (k : ∀ v σ H Q, t' v σ H Q → t v σ H Q) : PG X e t' := ⟨fun pins s σ H v u Q I r hw => h.run pins s σ H v u Q I r (k v σ H Q hw)⟩
theorem pt_weak {e : Expr} {t t' : TT} (h : PT X e t) (k : ∀ σ H Q, t' σ H Q → t σ H Q) : PT X e t' := ⟨fun pins s σ H Q I hw => h.run pins s σ H Q I (k σ H Q hw)⟩
/-- the contexts of a comprehension's block -/
structure Kx where
  s : Shared
  H : Hp
  c : Addr
  cl : List (Str × Addr)
  fp : List Addr
abbrev Cx.at (X : Cx) (scope : Scope) (k : Kx) : Cx := X.blk k.s k.H scope (compEnvC scope k.cl k.c X.env) k.fp
variable {scope : Scope} {elt tg iter test : Expr} {mi : M (List D)} {f : D → Env → Option Env} {mt : M Bool} {me : M D} {pos : Pos} {own : List (Str × Nat)}
structure LcP (X : Cx) (C : RC) (B : List Nat) (scope : Scope) (tg elt : Expr) (ifs : List Expr) (f : D → Env → Option Env) (mt : M Bool) (me : M D) (g : TG) (tt : TT) (te : TE) : Prop where
  hg : ∀ k : Kx, PG (Cx.at X scope k) tg g
  ht : ∀ k : Kx, PTs (Cx.at X scope k) ifs tt
  he : ∀ k : Kx, PE (Cx.at X scope k) elt te
  sg : ∀ d v o ρ ρ' σ H own Q, Rep C H d v o → ER C H ρ σ own → (∀ a ∈ o, a ∉ own) → f d ρ = some ρ' →
      (∀ σ' own', ER C H ρ' σ' own' → (∀ a ∈ own', a ∈ o ∨ a ∈ own) → (∀ j ∈ B, σ'[j]? = σ[j]?) → σ'.length = σ.length → Q σ' H) → g v σ H Q
  stt : ∀ ρ σ H own Q, ER C H ρ σ own → PoT C W0 (mt ρ) σ H own Q → tt σ H Q
  ste : Snd W0 C te me
theorem lcp_none (hg : ∀ k : Kx, SG (Cx.at X scope k) C B tg f) (he : ∀ k : Kx, SE (Cx.at X scope k) W0 C elt me) : ∃ g tt te, LcP X C B scope tg elt [] f tTrue me g tt te := by
  refine ⟨fun v σ H Q => ∀ k : Kx, (Classical.choose (hg k).ex) v σ H Q, tYes, fun σ H Q => ∀ k : Kx, (Classical.choose (he k).ex) σ H Q, ⟨fun k => pg_weak (Classical.choose_spec (hg k).ex).1 fun v σ H Q h => h k, fun k => pts_nil, fun k => pe_weak (Classical.choose_spec (he k).ex).1 fun σ H Q h => h k, ?_, ?_, ?_⟩⟩
  · exact fun d v o ρ ρ' σ H own Q r er dj hf hw k => (Classical.choose_spec (hg k).ex).2 d v o ρ ρ' σ H own Q r er dj hf hw
  · exact fun ρ σ H own Q er hw => hw H own er (Stp.refl fun _ z => z)
  · exact fun ρ σ H own Q er hw k => (Classical.choose_spec (he k).ex).2 ρ σ H own Q er hw
theorem lcp_if (hg : ∀ k : Kx, SG (Cx.at X scope k) C B tg f) (ht : ∀ k : Kx, ST (Cx.at X scope k) W0 C test mt) (he : ∀ k : Kx, SE (Cx.at X scope k) W0 C elt me) : ∃ g tt te, LcP X C B scope tg elt [test] f mt me g tt te := by
  refine ⟨fun v σ H Q => ∀ k : Kx, (Classical.choose (hg k).ex) v σ H Q, fun σ H Q => ∀ k : Kx, (Classical.choose (ht k).ex) σ H Q, fun σ H Q => ∀ k : Kx, (Classical.choose (he k).ex) σ H Q, ⟨fun k => pg_weak (Classical.choose_spec (hg k).ex).1 fun v σ H Q h => h k, fun k => pts_one (pt_weak (Classical.choose_spec (ht k).ex).1 fun σ H Q h => h k), fun k => pe_weak (Classical.choose_spec (he k).ex).1 fun σ H Q h => h k, ?_, ?_, ?_⟩⟩
  · exact fun d v o ρ ρ' σ H own Q r er dj hf hw k => (Classical.choose_spec (hg k).ex).2 d v o ρ ρ' σ H own Q r er dj hf hw
  · exact fun ρ σ H own Q er hw k => (Classical.choose_spec (ht k).ex).2 ρ σ H own Q er hw
  · exact fun ρ σ H own Q er hw k => (Classical.choose_spec (he k).ex).2 ρ σ H own Q er hw
/-- the frame's slots are as many as its names -/
theorem pe_len {e : Expr} {t : TE} (h : PE X e t) : PE X e (fun σ H Q => σ.length = X.N.length → t σ H Q) := ⟨fun pins s σ H Q I hw => h.run pins s σ H Q I (hw I.len)⟩
theorem ps_len {st : Stmt} {t : TS} (h : PS X st t) : PS X st (fun D σ H => σ.length = X.N.length → t D σ H) := ⟨fun pins s σ H D I hw => h.run pins s σ H D I (hw I.len)⟩
theorem se_lc {ifs : List Expr} (hc : X.calm = true) (hN : X.N.Nodup) (hi : SI X W C tg iter mi) (ok : BlkOk X.N X.env.scope scope own) (hp : ∃ g tt te, LcP X C B scope tg elt ifs f mt me g tt te) (hB : ∀ j, j < X.N.length → j ∉ own.map (·.2) → j ∈ B)
    (hs : ∀ x, foldedSetIterable iter X.env x = pure x := by intro _; rfl) : SE X W C (.ListComp elt [⟨tg, iter, ifs, 0⟩] scope pos) (eLc (own.map (·.2)) mi f mt me) := by
  obtain ⟨wi, pi, si⟩ := hi.ex
  obtain ⟨g, tt, te, p⟩ := hp
  refine ⟨_, pe_len (pe_lc hc hN pi ok (fun s H c cl fp => p.hg ⟨s, H, c, cl, fp⟩) (fun s H c cl fp => p.ht ⟨s, H, c, cl, fp⟩) (fun s H c cl fp => p.he ⟨s, H, c, cl, fp⟩) hs), fun ρ σ H own Q er hw hl => ?_⟩
  exact snd_lc si p.sg p.stt p.ste X.N.length hB ρ σ H own Q hl er hw
theorem ss_lc {ifs : List Expr} {i : Nat} {y : Str} {py spos : Pos} {Bf : List Nat} (hc : X.calm = true) (hN : X.N.Nodup) (hy : X.N[i]? = some y) (hyl : X.env.scope.names.lookup y = some .local)
    (hsw : swapsWith (.ListComp elt [⟨tg, iter, ifs, 0⟩] scope pos) (some (.Name y py)) spos.line X.env = pure true) (hi : SI X W C tg iter mi) (ok : BlkOk X.N X.env.scope scope own) (hp : ∃ g tt te, LcP X C B scope tg elt ifs f mt me g tt te) (hB : ∀ j, j < X.N.length → j ∉ own.map (·.2) → j ∈ B) (hiB : i ∉ Bf)
    (hs : ∀ x, foldedSetIterable iter X.env x = pure x := by intro _; rfl) : SS X W C Bf (.Assign [.Name y py] (.ListComp elt [⟨tg, iter, ifs, 0⟩] scope pos) spos) (sAsg i (eLc (own.map (·.2)) mi f mt me)) := by
  obtain ⟨wi, pi, si⟩ := hi.ex
  obtain ⟨g, tt, te, p⟩ := hp
  refine ⟨_, ps_len (ps_setLc hc hN hy hyl hsw pi ok (fun s H c cl fp => p.hg ⟨s, H, c, cl, fp⟩) (fun s H c cl fp => p.ht ⟨s, H, c, cl, fp⟩) (fun s H c cl fp => p.he ⟨s, H, c, cl, fp⟩) hs), fun ρ σ H own Dn er hw hl => ?_⟩
  have sw := snd_lc (W := W) si p.sg p.stt p.ste X.N.length hB
  refine sw ρ σ H own _ hl er (poS_e (k := fun d ρ1 => if i < ρ1.length then .nx (ρ1.set i (some d)) else .bad) hw fun d ρ1 v H1 o own1 r e1 j st hw1 => ?_)
  split at hw1
  · rename_i hl
    obtain ⟨own2, e2, m2⟩ := e1.set hl r j
    refine hw1 _ H1 own2 e2 (st.less fun a ha => List.mem_append.mpr (m2 a ha)) fun k hk => ?_
    rw [List.getElem?_set_ne (fun z => hiB (by rw [z]; exact hk))]
  · exact hw1.elim
end

/-! ### what a def promises -/
inductive FR where
  | rt (d : D) (ds : List D) | ex (e : EX) (ds : List D) | bad
def PoF (C : RC) (r : FR) (vs : List V) (H : Hp) (own : List Addr) (Q : VK) (E : XK) : Prop := match r with
  | .rt d ds' => ∀ v H' o own', Rep C H' d v o → RepL C H' ds' vs own' → (∀ a ∈ o, a ∉ own') → Stp H H' own (o ++ own') → Q v H'
  | .ex e ds' => ∀ cls dd H' own', XR C H' e cls dd → RepL C H' ds' vs own' → Stp H H' own own' → E cls dd H'
  | .bad => False
/-- called with data ds a def does what F says -/
def spF (C : RC) (n : Nat) (F : List D → FR) : Sp := fun vs H Q E => vs.length = n ∧ ∃ ds own, RepL C H ds vs own ∧ PoF C (F ds) vs H own Q E
/-- the slots at the entry -/
def startE (n : Nat) (ds : List D) : Env := ds.map some ++ List.replicate (n - ds.length) none
/-- B: the parameters that are not rebound; the others must be frozen -/
def back (B : List Nat) (ρ : Env) : Nat → List D → Option (List D)
  | _, [] => some []
  | k, d :: ds => (if k ∈ B then (ρ[k]?).join else if fz d = true then some d else none).bind fun d' => (back B ρ (k + 1) ds).map fun r => d' :: r
def fnOf (n : Nat) (B : List Nat) (m : MS) : List D → FR := fun ds => match m (startE n ds) with
  | .nx ρ => match back B ρ 0 ds with
    | some ds' => .rt .non ds'
    | none => .bad
  | .rt d ρ => match back B ρ 0 ds with
    | some ds' => .rt d ds'
    | none => .bad
  | .ex e ρ => match back B ρ 0 ds with
    | some ds' => .ex e ds'
    | none => .bad
  | _ => .bad
section
variable {C : RC} {H : Hp}
theorem ER.nones : ∀ (k : Nat), ER C H (List.replicate k none) (List.replicate k none) []
  | 0 => ⟨rfl, rfl⟩
  | k + 1 => by
    rw [List.replicate_succ]
    exact ⟨none, _, rfl, ER.nones k⟩
theorem ER.start : ∀ {ds : List D} {vs : List V} {own : List Addr} (k : Nat), RepL C H ds vs own → ER C H (ds.map some ++ List.replicate k none) (vs.map some ++ List.replicate k none) own
  | [], _, _, k, h => by obtain ⟨rfl, rfl⟩ := h; exact ER.nones k
  | d :: ds, _, _, k, h => by
    obtain ⟨v, vs', o1, o2, rfl, h1, h2, n, rfl⟩ := h
    exact ⟨v, _, o1, o2, rfl, h1, ER.start k h2, n, rfl⟩
theorem back_set {B : List Nat} {i : Nat} : ∀ {ds : List D} {ρ : Env} {k : Nat}, i < k → Se.back B (ρ.set i none) k ds = Se.back B ρ k ds
  | [], _, _, _ => rfl
  | d :: ds, ρ, k, h => by
    simp only [Se.back]
    rw [List.getElem?_set_ne (by omega), back_set (k := k + 1) (by omega)]
/-- the parameters' data at the end -/
theorem ER.back {B : List Nat} {H0 : Hp} : ∀ {ds ds' : List D} {vs : List V} {ρ : Env} {σ : St} {o0 own : List Addr} {k : Nat}, RepL C H0 ds vs o0 → (∀ d v, fz d = true → Rep C H0 d v [] → Rep C H d v []) → ER C H ρ σ own → Se.back B ρ k ds = some ds' →
    (∀ j v, vs[j]? = some v → k + j ∈ B → σ[k + j]? = some (some v)) → ∃ own', RepL C H ds' vs own' ∧ (∀ a ∈ own', a ∈ own)
  | [], _, _, ρ, σ, _, own, k, h, _, er, hb, _ => by
    obtain ⟨rfl, _⟩ := h
    cases hb
    exact ⟨[], ⟨rfl, rfl⟩, by simp⟩
  | d :: ds, _, _, ρ, σ, _, own, k, h, hf, er, hb, hs => by
    obtain ⟨v, vs', o1, o2, rfl, h1, h2, n, rfl⟩ := h
    simp only [Se.back, Option.bind_eq_some_iff, Option.map_eq_some_iff] at hb
    obtain ⟨d', hd', ds2, hds2, rfl⟩ := hb
    have hs' : ∀ j w, vs'[j]? = some w → (k + 1) + j ∈ B → σ[(k + 1) + j]? = some (some w) := fun j w hj hB => by
      have := hs (j + 1) w (by simpa using hj) (by rw [show k + (j + 1) = (k + 1) + j by omega]; exact hB)
      rw [show k + (j + 1) = (k + 1) + j by omega] at this
      exact this
    by_cases hk : k ∈ B
    · rw [if_pos hk] at hd'
      obtain ⟨w, o, own1, e1, r, er1, dj, mo⟩ := er.take (join_some hd')
      have e2 : some (some v) = some (some w) := (hs 0 v rfl (by simpa using hk)).symm.trans (by simpa using e1)
      cases e2
      rw [← back_set (i := k) (by omega)] at hds2
      obtain ⟨own', r', m'⟩ := ER.back (k := k + 1) h2 hf er1 hds2 hs'
      refine ⟨o ++ own', ⟨v, vs', o, own', rfl, r, r', fun a ha z => dj a ha (m' a z), rfl⟩, fun a ha => (mo a).mpr ?_⟩
      exact (List.mem_append.mp ha).imp id (m' a)
    · rw [if_neg hk] at hd'
      split at hd'
      · rename_i hz
        cases hd'
        have eo := Rep.fz_nil hz h1
        subst eo
        obtain ⟨own', r', m'⟩ := ER.back (k := k + 1) h2 hf er hds2 hs'
        exact ⟨own', ⟨v, vs', [], own', rfl, hf d v hz h1, r', (by simp), rfl⟩, m'⟩
      · cases hd'
theorem Stp.keepF {H0 H1 : Hp} {own own1 : List Addr} (s : Stp H0 H1 own own1) (m : Muts H0 own) : ∀ d v, fz d = true → Rep C H0 d v [] → Rep C H1 d v [] := fun d v _ h => h.keep s.keep m (by simp)
end
section
variable {P : Program} {w : World} {K : PySem.W.Frag} {mg : Str → Option Value} {base : Heap} {C : RC}
/-- the wish of a def's body: what it lets out leaves the frame as E says -/
def WE' (E : XK) : WX := fun cls d _ H => E cls d H
/-- a def by its body -/
theorem fn_ok {x qual : Str} {st : Stmt} {f : Addr} {fd : FuncData} {N ps : List Str} {k : Nat} {B : List Nat} {m : MS} (F : Fun K x qual st f fd) (S : FnScope N ps (defScope st)) (hB : ∀ j ∈ B, j < ps.length)
    (hb : ∀ (cdv : Value) (A : Around) (outer : List PySem.Env) (s : Shared) (H : Hp) (E : XK), Room k (A.deeper (PyProof.Rows.envOfC qual (defScope st) s.heap.objs.size f cdv)) →
      ∀ W : WX, Takes (cxOf (L2.CX P w) P w K mg base N qual (defScope st) f cdv A outer s H E) W → SSs (cxOf (L2.CX P w) P w K mg base N qual (defScope st) f cdv A outer s H E) W C B (defBody st) m) :
    FnOk P w K mg base (L2.CX P w) (k + 1) f fd ps (spF C ps.length (Se.fnOf N.length B m)) := by
  refine F.okX S (fun vs H Q E h => h.1) fun cdv A outer s H vs Q E hr h => ?_
  obtain ⟨hvs, ds, own, r, hp⟩ := h
  have tk : Takes (cxOf (L2.CX P w) P w K mg base N qual (defScope st) f cdv A outer s H E) (WE' E) := takes_of rfl rfl rfl rfl
  have hl : ds.length = vs.length := r.len.symm
  have hN : N.length - vs.length = N.length - ds.length := by rw [hl]
  obtain ⟨t, pt, sn⟩ := (hb cdv A outer s H E hr (WE' E) tk).ex
  refine ⟨t, pt, ?_⟩
  have er : ER C H (startE N.length ds) (L2.start N vs) own := by
    unfold startE L2.start
    rw [hN]
    exact ER.start _ r
  refine sn _ _ H own _ er ?_
  have hst : ∀ j v, vs[j]? = some v → (L2.start N vs)[j]? = some (some v) := fun j v hj => by
    unfold L2.start
    have hjl := (List.getElem?_eq_some_iff.mp hj).1
    rw [List.getElem?_append_left (by simpa using hjl), List.getElem?_map, hj]
    rfl
  have bk : ∀ {ρ : Env} {σ' : St} {H' : Hp} {own' : List Addr} {ds' : List D}, ER C H' ρ σ' own' → Stp H H' own own' → (∀ j ∈ B, σ'[j]? = (L2.start N vs)[j]?) → back B ρ 0 ds = some ds' → ∃ o', RepL C H' ds' vs o' ∧ ∀ a ∈ o', a ∈ own' :=
    fun {ρ σ' H' own' ds'} er' st' b' hb' => ER.back r (st'.keepF r.mut) er' hb' fun j v hj hjB => by
      rw [Nat.zero_add] at hjB ⊢
      rw [b' j hjB]
      exact hst j v hj
  unfold Se.fnOf at hp
  cases hm : m (startE N.length ds) with
  | nx ρ =>
    rw [hm] at hp
    dsimp only at hp
    split at hp
    · rename_i ds' hbk
      intro σ' H' own' er' st' b'
      obtain ⟨o', r', m'⟩ := bk er' st' b' hbk
      exact hp .non H' [] o' ⟨rfl, rfl⟩ r' (by simp) (st'.less fun a ha => m' a (by simpa using ha))
    · exact (show False from hp).elim
  | rt d ρ =>
    rw [hm] at hp
    dsimp only at hp
    split at hp
    · rename_i ds' hbk
      intro v σ' H' o own' rd er' dj st' b'
      obtain ⟨o', r', m'⟩ := bk er' (st'.less fun a ha => List.mem_append_right _ ha) b' hbk
      exact hp v H' o o' rd r' (fun a ha z => dj a ha (m' a z)) (st'.less fun a ha => (List.mem_append.mp ha).elim (List.mem_append_left _) fun z => List.mem_append_right _ (m' a z))
    · exact (show False from hp).elim
  | ex e ρ =>
    rw [hm] at hp
    dsimp only at hp
    split at hp
    · rename_i ds' hbk
      intro cls dd σ' H' own' x er' st' b'
      obtain ⟨o', r', m'⟩ := bk er' st' b' hbk
      exact hp cls dd H' o' x r' (st'.less m')
    · exact (show False from hp).elim
  | bk ρ => rw [hm] at hp; exact (show False from hp).elim
  | ct ρ => rw [hm] at hp; exact (show False from hp).elim
  | bad => rw [hm] at hp; exact (show False from hp).elim
end

/-! ### calls -/
abbrev AD := D ⊕ Nat
def RepA (C : RC) (H : Hp) (σ : St) : List AD → List V → List Addr → Prop
  | [], vs, o => vs = [] ∧ o = []
  | .inl d :: as, vs, o => ∃ v vs' o1 o2, vs = v :: vs' ∧ Rep C H d v o1 ∧ RepA C H σ as vs' o2 ∧ (∀ a ∈ o1, a ∉ o2) ∧ o = o1 ++ o2
  | .inr i :: as, vs, o => ∃ v vs', vs = v :: vs' ∧ σ[i]? = some (some v) ∧ RepA C H σ as vs' o
def takeAll : List AD → Env → Option (List D × Env)
  | [], ρ => some ([], ρ)
  | .inl d :: as, ρ => (takeAll as ρ).map fun p => (d :: p.1, p.2)
  | .inr i :: as, ρ => ((ρ[i]?).join).bind fun d => (takeAll as (ρ.set i none)).map fun p => (d :: p.1, p.2)
def isHole (ρ : Env) (i : Nat) : Bool := match ρ[i]? with
  | some none => true
  | _ => false
theorem isHole_eq {ρ : Env} {i : Nat} (h : isHole ρ i = true) : ρ[i]? = some none := by
  unfold isHole at h
  split at h
  · assumption
  · cases h
def putAll : List AD → List D → Env → Option Env
  | [], [], ρ => some ρ
  | .inl _ :: as, _ :: ds, ρ => putAll as ds ρ
  | .inr i :: as, d :: ds, ρ => if isHole ρ i = true then putAll as ds (ρ.set i (some d)) else none
  | _, _, _ => none
section
variable {C : RC} {H : Hp} {σ : St}
theorem RepA.mut : ∀ {as : List AD} {vs : List V} {o : List Addr}, RepA C H σ as vs o → Muts H o
  | [], _, _, h => by obtain ⟨_, rfl⟩ := h; exact muts_nil
  | .inl d :: as, _, _, h => by
    obtain ⟨v, vs', o1, o2, _, h1, h2, _, rfl⟩ := h
    intro a ha
    exact (List.mem_append.mp ha).elim (h1.mut a) (RepA.mut h2 a)
  | .inr i :: as, _, _, h => by obtain ⟨v, vs', _, _, h⟩ := h; exact RepA.mut h
theorem RepA.keep {H' : Hp} {own : List Addr} (k : Keeps H H' own) (m : Muts H own) : ∀ {as : List AD} {vs : List V} {o : List Addr}, (∀ a ∈ o, a ∉ own) → RepA C H σ as vs o → RepA C H' σ as vs o
  | [], _, _, _, h => h
  | .inl d :: as, _, _, hd, h => by
    obtain ⟨v, vs', o1, o2, e, h1, h2, n, rfl⟩ := h
    exact ⟨v, vs', o1, o2, e, h1.keep k m fun a ha => hd a (List.mem_append_left _ ha), RepA.keep k m (fun a ha => hd a (List.mem_append_right _ ha)) h2, n, rfl⟩
  | .inr i :: as, _, _, hd, h => by
    obtain ⟨v, vs', e, s, h⟩ := h
    exact ⟨v, vs', e, s, RepA.keep k m hd h⟩
theorem takeAll_ok : ∀ {as : List AD} {vs : List V} {o own : List Addr} {ρ ρ1 : Env} {ds : List D}, RepA C H σ as vs o → ER C H ρ σ own → (∀ a ∈ o, a ∉ own) → takeAll as ρ = some (ds, ρ1) →
    ∃ oa own1, RepL C H ds vs oa ∧ ER C H ρ1 σ own1 ∧ (∀ a ∈ oa, a ∉ own1) ∧ (∀ a, a ∈ oa ∨ a ∈ own1 → a ∈ o ∨ a ∈ own)
  | [], _, _, own, ρ, ρ1, ds, h, er, dj, ht => by
    obtain ⟨rfl, rfl⟩ := h
    cases ht
    exact ⟨[], own, ⟨rfl, rfl⟩, er, by simp, fun a ha => .inr (ha.resolve_left (by simp))⟩
  | .inl d :: as, _, _, own, ρ, ρ1, ds, h, er, dj, ht => by
    obtain ⟨v, vs', o1, o2, rfl, h1, h2, n, rfl⟩ := h
    simp only [takeAll, Option.map_eq_some_iff] at ht
    obtain ⟨⟨ds', ρ'⟩, ht, e⟩ := ht
    cases e
    obtain ⟨oa, own1, r, e1, d1, m1⟩ := takeAll_ok h2 er (fun a ha => dj a (List.mem_append_right _ ha)) ht
    refine ⟨o1 ++ oa, own1, ⟨v, vs', o1, oa, rfl, h1, r, fun a ha z => ?_, rfl⟩, e1, fun a ha z => ?_, fun a ha => ?_⟩
    · rcases m1 a (.inl z) with q | q
      · exact n a ha q
      · exact dj a (List.mem_append_left _ ha) q
    · rcases List.mem_append.mp ha with q | q
      · rcases m1 a (.inr z) with w | w
        · exact n a q w
        · exact dj a (List.mem_append_left _ q) w
      · exact d1 a q z
    · rcases ha with q | q
      · rcases List.mem_append.mp q with q | q
        · exact .inl (List.mem_append_left _ q)
        · exact (m1 a (.inl q)).imp (List.mem_append_right _) id
      · exact (m1 a (.inr q)).imp (List.mem_append_right _) id
  | .inr i :: as, _, o, own, ρ, ρ1, ds, h, er, dj, ht => by
    obtain ⟨v, vs', rfl, hs, h⟩ := h
    simp only [takeAll, Option.bind_eq_some_iff, Option.map_eq_some_iff] at ht
    obtain ⟨d, hd, ⟨ds', ρ'⟩, ht, e⟩ := ht
    cases e
    obtain ⟨v', od, own0, e1, rd, er1, dj1, mo⟩ := er.take (join_some hd)
    rw [hs] at e1; cases e1
    obtain ⟨oa, own1, r, e2, d2, m2⟩ := takeAll_ok h er1 (fun a ha z => dj a ha ((mo a).mpr (.inr z))) ht
    refine ⟨od ++ oa, own1, ⟨v, vs', od, oa, rfl, rd, r, fun a ha z => ?_, rfl⟩, e2, fun a ha z => ?_, fun a ha => ?_⟩
    · rcases m2 a (.inl z) with q | q
      · exact dj a q ((mo a).mpr (.inl ha))
      · exact dj1 a ha q
    · rcases List.mem_append.mp ha with q | q
      · rcases m2 a (.inr z) with w | w
        · exact dj a w ((mo a).mpr (.inl q))
        · exact dj1 a q w
      · exact d2 a q z
    · have up : ∀ x, x ∈ o ∨ x ∈ own0 → x ∈ o ∨ x ∈ own := fun x hx => hx.imp id fun z => (mo x).mpr (.inr z)
      rcases ha with q | q
      · rcases List.mem_append.mp q with q | q
        · exact .inr ((mo a).mpr (.inl q))
        · exact up a (m2 a (.inl q))
      · exact up a (m2 a (.inr q))
theorem putAll_ok : ∀ {as : List AD} {vs : List V} {o oa own : List Addr} {ρ ρ1 : Env} {ds : List D} {H0 : Hp}, RepA C H0 σ as vs o → RepL C H ds vs oa → ER C H ρ σ own → (∀ a ∈ oa, a ∉ own) → putAll as ds ρ = some ρ1 →
    ∃ own1, ER C H ρ1 σ own1 ∧ ∀ a ∈ own1, a ∈ oa ∨ a ∈ own
  | [], _, _, _, own, ρ, ρ1, [], H0, h, r, er, dj, hp => by cases hp; exact ⟨own, er, fun a z => .inr z⟩
  | [], _, _, _, own, ρ, ρ1, _ :: _, H0, h, r, er, dj, hp => by cases hp
  | .inl _ :: _, _, _, _, own, ρ, ρ1, [], H0, h, r, er, dj, hp => by cases hp
  | .inr _ :: _, _, _, _, own, ρ, ρ1, [], H0, h, r, er, dj, hp => by cases hp
  | .inl d :: as, _, _, _, own, ρ, ρ1, d' :: ds, H0, h, r, er, dj, hp => by
    obtain ⟨v, vs', o1, o2, rfl, _, h2, n, rfl⟩ := h
    obtain ⟨v', vs2, p1, p2, e, r1, r2, n2, rfl⟩ := r
    cases e
    obtain ⟨own1, e1, m1⟩ := putAll_ok h2 r2 er (fun a ha => dj a (List.mem_append_right _ ha)) (show putAll as ds ρ = some ρ1 from hp)
    exact ⟨own1, e1, fun a ha => (m1 a ha).imp (List.mem_append_right _) id⟩
  | .inr i :: as, _, _, _, own, ρ, ρ1, d' :: ds, H0, h, r, er, dj, hp => by
    obtain ⟨v, vs', rfl, hs, h2⟩ := h
    obtain ⟨v', vs2, p1, p2, e, r1, r2, n2, rfl⟩ := r
    cases e
    simp only [putAll] at hp
    split at hp
    · rename_i hi
      obtain ⟨own0, e0, m0⟩ := ER.put er (isHole_eq hi) hs r1 fun a ha => dj a (List.mem_append_left _ ha)
      obtain ⟨own1, e1, m1⟩ := putAll_ok h2 r2 e0 (fun a ha z => by
        rcases (m0 a).mp z with q | q
        · exact n2 a q ha
        · exact dj a (List.mem_append_right _ ha) q) hp
      refine ⟨own1, e1, fun a ha => ?_⟩
      rcases m1 a ha with q | q
      · exact .inl (List.mem_append_right _ q)
      · exact ((m0 a).mp q).imp (List.mem_append_left _) id
    · cases hp
end
end Se

namespace Se
open PySem L2

/-! ### data without a handled exception -/
mutual
def ne : D → Bool
  | .exc _ _ _ => false
  | .tup ds => neL ds
  | .lst _ ds => neL ds
  | .dct _ _ ds => neL ds
  | .non => true
  | .bl _ => true
  | .int _ => true
  | .str _ => true
  | .ty _ => true
  | .obj _ => true
def neL : List D → Bool
  | [] => true
  | d :: ds => ne d && neL ds
end
section
variable {C C' : RC} {H : Hp}
mutual
theorem Rep.cx (hK : C'.K = C.K) : ∀ {d : D} {v : V} {o : List Addr}, ne d = true → Rep C H d v o → Rep C' H d v o
  | .non, _, _, _, h => h
  | .bl _, _, _, _, h => h
  | .int _, _, _, _, h => h
  | .str _, _, _, _, h => h
  | .ty _, _, _, _, h => h
  | .obj _, _, _, _, h => h
  | .exc _ _ _, _, _, n, h => by cases n
  | .tup ds, _, _, n, h => by
    obtain ⟨a, vs, e, q, h⟩ := h
    exact ⟨a, vs, e, hK ▸ q, RepL.cx hK n h⟩
  | .lst false ds, _, _, n, h => by
    obtain ⟨a, vs, e, q, h, rfl⟩ := h
    exact ⟨a, vs, e, hK ▸ q, RepL.cx hK n h, rfl⟩
  | .lst true ds, _, _, n, h => by
    obtain ⟨a, vs, o', e, q, h, z, rfl⟩ := h
    exact ⟨a, vs, o', e, q, RepL.cx hK n h, z, rfl⟩
  | .dct false ks ds, _, _, n, h => by
    obtain ⟨a, vs, ob, e, q, l, h, rfl⟩ := h
    exact ⟨a, vs, ob, e, q, l, RepL.cx hK n h, rfl⟩
  | .dct true ks ds, _, _, n, h => by
    obtain ⟨a, vs, o', e, q, l, h, z, rfl⟩ := h
    exact ⟨a, vs, o', e, q, l, RepL.cx hK n h, z, rfl⟩
theorem RepL.cx (hK : C'.K = C.K) : ∀ {ds : List D} {vs : List V} {o : List Addr}, neL ds = true → RepL C H ds vs o → RepL C' H ds vs o
  | [], _, _, _, h => h
  | d :: ds, _, _, n, h => by
    obtain ⟨v, vs', o1, o2, e, h1, h2, z, rfl⟩ := h
    have n' : (ne d && neL ds) = true := n
    rw [Bool.and_eq_true] at n'
    exact ⟨v, vs', o1, o2, e, Rep.cx hK n'.1 h1, RepL.cx hK n'.2 h2, z, rfl⟩
end
mutual
theorem Rep.ne0 (hC : C.hx = none) : ∀ {d : D} {v : V} {o : List Addr}, Rep C H d v o → ne d = true
  | .non, _, _, _ => rfl
  | .bl _, _, _, _ => rfl
  | .int _, _, _, _ => rfl
  | .str _, _, _, _ => rfl
  | .ty _, _, _, _ => rfl
  | .obj _, _, _, _ => rfl
  | .exc _ _ _, _, _, h => by
    obtain ⟨a, d, vs, _, e, _⟩ := h
    rw [hC] at e; cases e
  | .tup ds, _, _, h => by obtain ⟨a, vs, e, q, h⟩ := h; exact RepL.ne0 hC h
  | .lst false ds, _, _, h => by obtain ⟨a, vs, e, q, h, _⟩ := h; exact RepL.ne0 hC h
  | .lst true ds, _, _, h => by obtain ⟨a, vs, o', e, q, h, _⟩ := h; exact RepL.ne0 hC h
  | .dct false ks ds, _, _, h => by obtain ⟨a, vs, ob, e, q, l, h, _⟩ := h; exact RepL.ne0 hC h
  | .dct true ks ds, _, _, h => by obtain ⟨a, vs, o', e, q, l, h, _⟩ := h; exact RepL.ne0 hC h
theorem RepL.ne0 (hC : C.hx = none) : ∀ {ds : List D} {vs : List V} {o : List Addr}, RepL C H ds vs o → neL ds = true
  | [], _, _, _ => rfl
  | d :: ds, _, _, h => by
    obtain ⟨v, vs', o1, o2, e, h1, h2, z, rfl⟩ := h
    show (ne d && neL ds) = true
    rw [Rep.ne0 hC h1, RepL.ne0 hC h2]
    rfl
end
theorem XR.cx (hK : C'.K = C.K) {e : EX} {cls : Value} {d : Option Addr} (n : neL e.ds = true) (h : XR C H e cls d) : XR C' H e cls d := by
  obtain ⟨h1, dd, vs, h2, h3, h4, h5⟩ := h
  exact ⟨h1, dd, vs, h2, h3, h4, RepL.cx hK n h5⟩
theorem XR.ne0 (hC : C.hx = none) {e : EX} {cls : Value} {d : Option Addr} (h : XR C H e cls d) : neL e.ds = true := by
  obtain ⟨h1, dd, vs, h2, h3, h4, h5⟩ := h
  exact RepL.ne0 hC h5
end
abbrev C0 (K : PySem.W.Frag) : RC := ⟨K, none⟩

/-! ### a def by its body: calm, and within an except suite -/
abbrev XC (P : Program) (w : World) (K : PySem.W.Frag) (mg : Str → Option Value) (base : Heap) (N : List Str) (qual : Str) (sc : Scope) (f : Addr) (cdv : Value) (A : Around) (outer : List PySem.Env) (s : Shared) (H : Hp) (E : XK) : Cx := cxOf (L2N.CX P w) P w K mg base N qual sc f cdv A outer s H E
section
variable {P : Program} {w : World} {K : PySem.W.Frag} {mg : Str → Option Value} {base : Heap} {C : RC}
theorem body_ok {X : Cx} {body : List Stmt} {N ps : List Str} {B : List Nat} {m : MS} {vs : List V} {H : Hp} {Q : VK} {E : XK} (hb : SSs X (WE' E) C B body m) (h : spF C ps.length (Se.fnOf N.length B m) vs H Q E) :
    ∃ t, PSs X body t ∧ t { nx := fun _ H' => Q .non H', rt := Q } (L2.start N vs) H := by
  obtain ⟨hvs, ds, own, r, hp⟩ := h
  have hl : ds.length = vs.length := r.len.symm
  have hN : N.length - vs.length = N.length - ds.length := by rw [hl]
  obtain ⟨t, pt, sn⟩ := hb.ex
  refine ⟨t, pt, ?_⟩
  have er : ER C H (startE N.length ds) (L2.start N vs) own := by
    unfold startE L2.start
    rw [hN]
    exact ER.start _ r
  refine sn _ _ H own _ er ?_
  have hst : ∀ j v, vs[j]? = some v → (L2.start N vs)[j]? = some (some v) := fun j v hj => by
    unfold L2.start
    have hjl := (List.getElem?_eq_some_iff.mp hj).1
    rw [List.getElem?_append_left (by simpa using hjl), List.getElem?_map, hj]
    rfl
  have bk : ∀ {ρ : Env} {σ' : St} {H' : Hp} {own' : List Addr} {ds' : List D}, ER C H' ρ σ' own' → Stp H H' own own' → (∀ j ∈ B, σ'[j]? = (L2.start N vs)[j]?) → back B ρ 0 ds = some ds' → ∃ o', RepL C H' ds' vs o' ∧ ∀ a ∈ o', a ∈ own' :=
    fun {ρ σ' H' own' ds'} er' st' b' hb' => ER.back r (st'.keepF r.mut) er' hb' fun j v hj hjB => by
      rw [Nat.zero_add] at hjB ⊢
      rw [b' j hjB]
      exact hst j v hj
  unfold Se.fnOf at hp
  cases hm : m (startE N.length ds) with
  | nx ρ =>
    rw [hm] at hp
    dsimp only at hp
    split at hp
    · rename_i ds' hbk
      intro σ' H' own' er' st' b'
      obtain ⟨o', r', m'⟩ := bk er' st' b' hbk
      exact hp .non H' [] o' ⟨rfl, rfl⟩ r' (by simp) (st'.less fun a ha => m' a (by simpa using ha))
    · exact (show False from hp).elim
  | rt d ρ =>
    rw [hm] at hp
    dsimp only at hp
    split at hp
    · rename_i ds' hbk
      intro v σ' H' o own' rd er' dj st' b'
      obtain ⟨o', r', m'⟩ := bk er' (st'.less fun a ha => List.mem_append_right _ ha) b' hbk
      exact hp v H' o o' rd r' (fun a ha z => dj a ha (m' a z)) (st'.less fun a ha => (List.mem_append.mp ha).elim (List.mem_append_left _) fun z => List.mem_append_right _ (m' a z))
    · exact (show False from hp).elim
  | ex e ρ =>
    rw [hm] at hp
    dsimp only at hp
    split at hp
    · rename_i ds' hbk
      intro cls dd σ' H' own' x er' st' b'
      obtain ⟨o', r', m'⟩ := bk er' st' b' hbk
      exact hp cls dd H' o' x r' (st'.less m')
    · exact (show False from hp).elim
  | bk ρ => rw [hm] at hp; exact (show False from hp).elim
  | ct ρ => rw [hm] at hp; exact (show False from hp).elim
  | bad => rw [hm] at hp; exact (show False from hp).elim
variable {x qual : Str} {params : Arguments} {body : List Stmt} {sc : Scope} {f : Addr} {fd : FuncData} {N ps : List Str} {k : Nat} {B : List Nat} {m : MS}
theorem fnN (F : FunD K x qual params body sc [] [] f fd) (S : FnScope N ps sc)
    (hb : ∀ (cdv : Value) (A : Around) (outer : List PySem.Env) (s : Shared) (H : Hp) (E : XK), Room k (A.deeper (PyProof.Rows.envOfC qual sc s.heap.objs.size f cdv)) →
      ∀ W : WX, L2N.Takes (XC P w K mg base N qual sc f cdv A outer s H E) W → SSs (XC P w K mg base N qual sc f cdv A outer s H E) W C B body m) :
    FnOk P w K mg base (L2N.CX P w) (k + 1) f fd ps (spF C ps.length (Se.fnOf N.length B m)) := by
  refine F.ok S (fun vs H Q E h => h.1) fun cdv A outer s H vs Q E hr h => ?_
  exact body_ok (hb cdv A outer s H E hr (WE' E) (L2N.takes_of rfl rfl rfl rfl)) h
abbrev XH (P : Program) (w : World) (K : PySem.W.Frag) (mg : Str → Option Value) (base : Heap) (N : List Str) (qual : Str) (sc : Scope) (f : Addr) (cdv : Value) (A : Around) (outer : List PySem.Env) (s : Shared) (H : Hp) (E : XK) (p : Addr × Obj) : Cx := L2H.cxH (L2N.CX P w) P w K mg base N qual sc f cdv A outer s H E p
theorem fnH (F : FunD K x qual params body sc [] [] f fd) (S : FnScope N ps sc)
    (hb : ∀ (cdv : Value) (A : Around) (outer : List PySem.Env) (s : Shared) (H : Hp) (E : XK) (p : Addr × Obj), L2H.RoomH k (A.deeper (PyProof.Rows.envOfC qual sc s.heap.objs.size f cdv)) → L2H.HotC (XH P w K mg base N qual sc f cdv A outer s H E p) →
      ∀ W : WX, L2N.Takes (XH P w K mg base N qual sc f cdv A outer s H E p) W → SSs (XH P w K mg base N qual sc f cdv A outer s H E p) W C B body m) :
    L2H.FnH P w K mg base (L2N.CX P w) (k + 1) f fd ps (spF C ps.length (Se.fnOf N.length B m)) := by
  obtain ⟨oc, od, dV, kV, doc, pm, an, cdv, ct, osl, rfl, lk, hcd, _, _⟩ := F.ex
  refine L2H.fn_ofH lk hcd S (fun vs H Q E h => h.1) fun A outer s H vs Q E p hot hr h => ?_
  refine body_ok (hb cdv A outer s H E p hr ⟨p, hot, ?_⟩ (WE' E) (L2N.takes_of rfl rfl rfl rfl)) h
  exact List.mem_singleton.mpr rfl
end

/-! ### a callee, as it is called from X -/
structure Cal (X : Cx) (f : Addr) (fd : FuncData) (ps : List Str) (sp : Sp) : Prop where
  len : ∀ vs H Q E, sp vs H Q E → vs.length = ps.length
  run : ∀ (E : XK) (pins : List (Addr × Obj)) (σ : St) (H : Hp) (s : Shared) (Q : VK) (us : List Value) (kvs : List (Str × Value)) (ws : List Value) (vs : List V), Inv X pins σ H s → L2.PassesAt (L2N.CX X.prog X.w) X σ E → BindsTo s fd ⟨us, kvs⟩ (ps.zip ws) → Vals vs ws → sp vs H Q E →
    wpAny (model X.prog X.w) X.A (call (.ref f) us kvs) (EP X pins σ Q) X.xe s
section
variable {X : Cx} {k : Nat} {f : Addr} {fd : FuncData} {ps : List Str} {sp : Sp}
theorem EP.of {pins : List (Addr × Obj)} {σ : St} {H : Hp} {s s' : Shared} {Q : VK} {E : XK} {r : Except Value Flow} (I : Inv X pins σ H s) (hx : L2.PassesAt (L2N.CX X.prog X.w) X σ E) (hq : L2.CR (L2N.CX X.prog X.w) X.stack X.prog X.w H s Q E r s') :
    (match (generalizing := false) r with
      | .error e => X.xe e s'
      | .ok (.ret u) => EP X pins σ Q u s'
      | .ok _ => False) := by
  cases r with
  | error e => exact hx pins H s e s' I hq
  | ok fl => cases fl with
    | ret u => exact I.after hq
    | _ => exact hq
theorem cal_calm (F : FnOk X.prog X.w X.K X.mg X.base (L2N.CX X.prog X.w) k f fd ps sp) (hr : Room k X.A) : Cal X f fd ps sp := ⟨F.len, fun E pins σ H s Q us kvs ws vs I hx hb r h => by
  refine wpAny_call (codeAny_mono (F.run X.A X.stack s H ⟨us, kvs⟩ ws vs Q E hr I.env0 hb r h) fun r' s' hq => ?_)
  have z := EP.of I hx hq
  cases r' with
  | error e => exact z
  | ok fl => cases fl <;> exact z⟩
theorem cal_hot (F : L2H.FnH X.prog X.w X.K X.mg X.base (L2N.CX X.prog X.w) k f fd ps sp) (hr : L2H.RoomH k X.A) (hc : L2H.HotC X) : Cal X f fd ps sp := ⟨F.len, fun E pins σ H s Q us kvs ws vs I hx hb r h => by
  obtain ⟨p, hot, hp⟩ := hc
  have P1 := I.pin p (List.mem_append_left _ hp)
  have hpin : L2H.PinOk X.stack H s p := ⟨P1.1, P1.2.1, fun hm => (List.mem_cons.mp (I.stkSub p.1 hm)).elim P1.2.2.1 P1.2.2.2.1, P1.2.2.2.2⟩
  refine wpAny_call (codeAny_mono (F.run X.A X.stack s H ⟨us, kvs⟩ ws vs Q E p hr hot hpin I.env0 hb r h) fun r' s' hq => ?_)
  have z := EP.of I hx hq
  cases r' with
  | error e => exact z
  | ok fl => cases fl <;> exact z⟩
end

/-! ### arguments: values, or slots that are lent -/
def PoB (C : RC) (W : WX) (r : RE (List AD)) (σ : St) (H : Hp) (own : List Addr) (Q : List V → Hp → Prop) : Prop := match r with
  | .ok as ρ' => ∀ vs H' o own', RepA C H' σ as vs o → ER C H' ρ' σ own' → (∀ a ∈ o, a ∉ own') → Stp H H' own (o ++ own') → Q vs H'
  | .ex e ρ' => ∀ cls d H' own', XR C H' e cls d → ER C H' ρ' σ own' → Stp H H' own own' → W cls d σ H'
  | .bad => False
structure SAB (X : Cx) (W : WX) (C : RC) (es : List Expr) (m : M (List AD)) : Prop where
  ex : ∃ t, PA X es t ∧ ∀ ρ σ H own Q, ER C H ρ σ own → PoB C W (m ρ) σ H own Q → t σ H Q
def bNil : M (List AD) := fun ρ => .ok [] ρ
def bVal (ma : M D) (ms : M (List AD)) : M (List AD) := fun ρ => (ma ρ).bind fun d ρ1 => (ms ρ1).bind fun as ρ2 => .ok (.inl d :: as) ρ2
def bBor (i : Nat) (ms : M (List AD)) : M (List AD) := fun ρ => match (ρ[i]?).join with
  | some _ => (ms ρ).bind fun as ρ2 => .ok (.inr i :: as) ρ2
  | none => .bad
section
variable {X : Cx} {W : WX} {C : RC} {e : Expr} {es : List Expr} {ma : M D} {ms : M (List AD)}
theorem poB_bind {σ : St} {H : Hp} {own : List Addr} {β : Type} {r : RE (List AD)} {k : List AD → Env → RE β} {P : RE β → Prop} {Q1 : List V → Hp → Prop} (hw : P (r.bind k)) (hb : ¬ P .bad) (hex : ExOk C W σ H own fun e ρ' => P (.ex e ρ'))
    (hok : ∀ as ρ' vs H' o own', RepA C H' σ as vs o → ER C H' ρ' σ own' → (∀ a ∈ o, a ∉ own') → Stp H H' own (o ++ own') → P (k as ρ') → Q1 vs H') : PoB C W r σ H own Q1 := by
  cases r with
  | ok as ρ' => exact fun vs H' o own' r1 r2 r3 r4 => hok as ρ' vs H' o own' r1 r2 r3 r4 hw
  | ex e ρ' => exact hex e ρ' hw
  | bad => exact (hb hw).elim
theorem exB {σ : St} {H : Hp} {own : List Addr} {Q : List V → Hp → Prop} : ExOk C W σ H own fun e ρ' => PoB C W (.ex e ρ') σ H own Q := fun _ _ h => h
theorem sab_nil : SAB X W C [] bNil := ⟨_, pa_nil, fun ρ σ H own Q er hw => hw [] H [] own ⟨rfl, rfl⟩ er (by simp) (Stp.refl (by simp))⟩
theorem sab_val (ha : SE X W C e ma) (hr : SAB X W C es ms) (hs : starEach (e :: es) X.env = (false, eval e X.env) :: starEach es X.env := by rfl) : SAB X W C (e :: es) (bVal ma ms) := by
  obtain ⟨ta, pa, sa⟩ := ha.ex
  obtain ⟨tr, pr, sr⟩ := hr.ex
  refine ⟨_, pa_cons pa pr hs, fun ρ σ H own Q er hw => ?_⟩
  have hw : PoB C W ((ma ρ).bind fun d ρ1 => (ms ρ1).bind fun as ρ2 => .ok (.inl d :: as) ρ2) σ H own Q := hw
  refine sa ρ σ H own _ er (poE_bind (P := fun r => PoB C W r σ H own Q) hw (fun z => z) exB fun d1 ρ1 v1 H1 o1 own1 r1 e1 j1 s1 hw1 => ?_)
  refine sr ρ1 σ H1 own1 _ e1 (poB_bind (P := fun r => PoB C W r σ H own Q) hw1 (fun z => z) (exB.at s1) fun as ρ2 vs H2 o2 own2 r2 e2 j2 s2 hw2 => ?_)
  have j12 : ∀ a ∈ o1, a ∉ o2 ++ own2 := s2.apart r1.mut j1
  refine hw2 (v1 :: vs) H2 (o1 ++ o2) own2 ⟨v1, vs, o1, o2, rfl, r1.keep s2.keep e1.mut j1, r2, fun a ha z => j12 a ha (List.mem_append_left _ z), rfl⟩ e2 (fun a ha z => ?_) ?_
  · rcases List.mem_append.mp ha with q | q
    · exact j12 a q (List.mem_append_right _ z)
    · exact j2 a q z
  · exact (s1.held s2).less fun a ha => by simpa [List.append_assoc] using ha
theorem sab_bor {i : Nat} {x : Str} {pos : Pos} (h : PE X (.Name x pos) (tVar i)) (hr : SAB X W C es ms) (hs : starEach (.Name x pos :: es) X.env = (false, eval (.Name x pos) X.env) :: starEach es X.env := by rfl) : SAB X W C (.Name x pos :: es) (bBor i ms) := by
  obtain ⟨tr, pr, sr⟩ := hr.ex
  refine ⟨_, pa_cons h pr hs, fun ρ σ H own Q er hw => ?_⟩
  unfold bBor at hw
  split at hw
  · rename_i d hd
    obtain ⟨v, o, own1, e1, r, er1, n, m⟩ := er.take (join_some hd)
    refine ⟨v, e1, sr ρ σ H own _ er (poB_bind (P := fun r => PoB C W r σ H own Q) hw (fun z => z) exB fun as ρ2 vs H2 o2 own2 r2 e2 j2 s2 hw2 => ?_)⟩
    exact hw2 (v :: vs) H2 o2 own2 ⟨v, vs, rfl, e1, r2⟩ e2 j2 s2
  · exact hw.elim
end

/-! ### a call of a def -/
def fin (as : List AD) (ρ : Env) (r : FR) : RE D := match r with
  | .rt d ds' => match putAll as ds' ρ with
    | some ρ' => .ok d ρ'
    | none => .bad
  | .ex e ds' => match putAll as ds' ρ with
    | some ρ' => .ex e ρ'
    | none => .bad
  | .bad => .bad
def eCall (n : Nat) (F : List D → FR) (ma : M (List AD)) : M D := fun ρ => (ma ρ).bind fun as ρ1 => match takeAll as ρ1 with
  | some (ds, ρ2) => if ds.length = n ∧ neL ds = true then fin as ρ2 (F ds) else .bad
  | none => .bad
def tCal (sp : Sp) (W : WX) (t : TA) : TE := fun σ H Q => t σ H fun vs H1 => sp vs H1 Q (WE W σ)
section
variable {X : Cx} {W : WX} {C : RC} {e : Expr} {es : List Expr} {x : Str} {f : Addr} {fd : FuncData} {ps : List Str} {sp : Sp} {t : TA} {p pos : Pos} {ma : M (List AD)} {F : List D → FR} {n : Nat}
theorem passN (tk : L2N.Takes X W) (σ : St) : L2.PassesAt (L2N.CX X.prog X.w) X σ (WE W σ) := L2N.passAt tk σ
theorem pe_cal (c : Cal X f fd ps sp) (tk : L2N.Takes X W) (hg : Gl X x) (hm : X.mg x = some (.ref f)) (hk : PySem.W.keepIn X.K (.ref f) = true) (hb : Binds X.K fd ps []) (ha : PA X (e :: es) t) (hd : (x == ("__debug__" : Str)) = false := by decide)
    (he : starEach (e :: es) X.env = (false, eval e X.env) :: starEach es X.env := by rfl) (hp : (backTo pos (starEach es X.env)).any (·.1) = false := by rfl) : PE X (.Call (.Name x p) (e :: es) [] pos) (tCal sp W t) :=
  ⟨fun pins s σ H Q I h => wpAny_Call_Name_kw (ld_glob I hg hm (PySem.W.callWith_K (h₀ := X.base) I.ok.mod.kin hk (thn (ha.run pos pins s σ H _ I h) fun us s1 ⟨vs, H1, I1, r, q⟩ => ⟨I1.kIn, by
    have b := hb s1 us I1.kIn (by rw [List.append_nil, ← r.length]; exact c.len _ _ _ _ q)
    rw [List.append_nil] at b
    exact c.run (WE W σ) pins σ H1 s1 Q us [] us vs I1 (passN tk σ) b r q⟩) he hp) hd)⟩
theorem pe_cal0 (c : Cal X f fd ps sp) (tk : L2N.Takes X W) (hg : Gl X x) (hm : X.mg x = some (.ref f)) (hk : PySem.W.keepIn X.K (.ref f) = true) (hb : Binds X.K fd ps []) (hd : (x == ("__debug__" : Str)) = false := by decide) : PE X (.Call (.Name x p) [] [] pos) (tCal sp W tNil) :=
  ⟨fun pins s σ H Q I h => wpAny_Call_Name_kw (ld_glob I hg hm (PySem.W.callWith_K0 I.kIn hk (by
    have b := hb s [] I.kIn (by rw [List.append_nil]; exact c.len _ _ _ _ h)
    rw [List.append_nil] at b
    exact c.run (WE W σ) pins σ H s Q [] [] [] [] I (passN tk σ) b .nil h)) hd)⟩
/-- f(k = v, ..): g puts the values in the parameters' order -/
structure Bk (K : PySem.W.Frag) (fd : FuncData) (ps ks : List Str) (pm : List Nat) : Prop where
  to : ∀ (s : Shared) (ws : List Value), K.In s.heap → ws.length = ks.length → BindsTo s fd ⟨[], ks.zip ws⟩ (ps.zip (pm.map fun j => ws.getD j .none))
  ok : ∀ j ∈ pm, j < ks.length
  nd : pm.Nodup
  all : pm.length = ks.length
  len : ps.length = ks.length
theorem sound_call (hK : C.K = X.K) {σ : St} {H : Hp} {own : List Addr} {Q : VK} {as : List AD} {ρ1 : Env} {vs : List V} {H1 : Hp} {o1 own1 : List Addr} (hn : n = ps.length)
    (r1 : RepA C H1 σ as vs o1) (e1 : ER C H1 ρ1 σ own1) (j1 : ∀ a ∈ o1, a ∉ own1) (s1 : Stp H H1 own (o1 ++ own1))
    (hw : PoE C W (match takeAll as ρ1 with
      | some (ds, ρ2) => if ds.length = n ∧ neL ds = true then fin as ρ2 (F ds) else .bad
      | none => .bad) σ H own Q) : spF (C0 X.K) ps.length F vs H1 Q (WE W σ) := by
  split at hw
  · rename_i ds ρ2 ht
    split at hw
    · rename_i hc
      obtain ⟨oa, own2, r2, e2, j2, m2⟩ := takeAll_ok r1 e1 j1 ht
      have m12 : ∀ a ∈ oa ++ own2, a ∈ o1 ++ own1 := fun a ha => List.mem_append.mpr (m2 a (List.mem_append.mp ha))
      refine ⟨by rw [r2.len, hc.1, hn], ds, oa, RepL.cx hK.symm hc.2 r2, ?_⟩
      have back2 : ∀ {H' : Hp} {ds' : List D} {o' own' : List Addr} {ρ3 : Env}, RepL (C0 X.K) H' ds' vs own' → Stp H1 H' oa (o' ++ own') → putAll as ds' ρ2 = some ρ3 → ∃ own3, ER C H' ρ3 σ own3 ∧ (∀ a ∈ own3, a ∈ own' ∨ a ∈ own2) ∧ (∀ a ∈ o', a ∉ own2) := fun {H' ds' o' own' ρ3} r' st' hp => by
        have ap : ∀ a ∈ o' ++ own', a ∉ own2 := fun a ha z => by
          rcases st'.sub a ha with q | q
          · exact j2 a q z
          · obtain ⟨u, e, _⟩ := e2.mut a z
            rw [e] at q; cases q
        obtain ⟨own3, e3, m3⟩ := putAll_ok r1 (RepL.cx hK (RepL.ne0 rfl r') r') (e2.keep st'.keep r2.mut fun a ha z => j2 a z ha) (fun a ha => ap a (List.mem_append_right _ ha)) hp
        exact ⟨own3, e3, m3, fun a ha => ap a (List.mem_append_left _ ha)⟩
      have stt : ∀ {H' : Hp} {o' own' own3 : List Addr}, Stp H1 H' oa (o' ++ own') → (∀ a ∈ own3, a ∈ own' ∨ a ∈ own2) → Stp H H' own (o' ++ own3) := fun {H' o' own' own3} st' m3 => by
        refine (s1.less m12).trans ⟨fun x ob e n => st'.keep x ob e fun z => n (List.mem_append_left _ z), fun x hx => ?_⟩
        rcases List.mem_append.mp hx with q | q
        · exact (st'.sub x (List.mem_append_left _ q)).imp (List.mem_append_left _) id
        · rcases m3 x q with q | q
          · exact (st'.sub x (List.mem_append_right _ q)).imp (List.mem_append_left _) id
          · exact .inl (List.mem_append_right _ q)
      unfold fin at hw
      cases hF : F ds with
      | rt d ds' =>
        rw [hF] at hw
        dsimp only at hw
        split at hw
        · rename_i ρ3 hp
          intro v H' o own' rv r' dj st'
          obtain ⟨own3, e3, m3, a2⟩ := back2 r' st' hp
          exact hw v H' o own3 (Rep.cx hK (Rep.ne0 rfl rv) rv) e3 (fun a ha z => (m3 a z).elim (dj a ha) (a2 a ha)) (stt st' m3)
        · exact hw.elim
      | ex e ds' =>
        rw [hF] at hw
        dsimp only at hw
        split at hw
        · rename_i ρ3 hp
          intro cls dd H' own' x r' st'
          obtain ⟨own3, e3, m3, _⟩ := back2 (o' := []) r' (by simpa using st') hp
          exact hw cls dd H' own3 (XR.cx hK (XR.ne0 rfl x) x) e3 (by simpa using stt (o' := []) (by simpa using st') m3)
        · exact hw.elim
      | bad => rw [hF] at hw; exact hw.elim
    · exact hw.elim
  · exact hw.elim
theorem snd_call (hK : C.K = X.K) (hn : n = ps.length) (sa : ∀ ρ σ H own Q, ER C H ρ σ own → PoB C W (ma ρ) σ H own Q → t σ H Q) : Snd W C (tCal (spF (C0 X.K) ps.length F) W t) (eCall n F ma) := fun ρ σ H own Q er hw =>
  sa ρ σ H own _ er (poB_bind (P := fun r => PoE C W r σ H own Q) hw (fun z => z) (fun _ _ h => h) fun as ρ1 vs H1 o1 own1 r1 e1 j1 s1 hw1 => sound_call hK hn r1 e1 j1 s1 hw1)
theorem se_call (hK : C.K = X.K) (c : Cal X f fd ps (spF (C0 X.K) ps.length F)) (tk : L2N.Takes X W) (hg : Gl X x) (hm : X.mg x = some (.ref f)) (hk : PySem.W.keepIn X.K (.ref f) = true) (hb : Binds X.K fd ps []) (hn : n = ps.length) (ha : SAB X W C (e :: es) ma) (hd : (x == ("__debug__" : Str)) = false := by decide)
    (he : starEach (e :: es) X.env = (false, eval e X.env) :: starEach es X.env := by rfl) (hp : (backTo pos (starEach es X.env)).any (·.1) = false := by rfl) : SE X W C (.Call (.Name x p) (e :: es) [] pos) (eCall n F ma) := by
  obtain ⟨t, pt, st⟩ := ha.ex
  exact ⟨_, pe_cal c tk hg hm hk hb pt hd he hp, snd_call hK hn st⟩
theorem se_call0 (hK : C.K = X.K) (c : Cal X f fd ps (spF (C0 X.K) ps.length F)) (tk : L2N.Takes X W) (hg : Gl X x) (hm : X.mg x = some (.ref f)) (hk : PySem.W.keepIn X.K (.ref f) = true) (hb : Binds X.K fd ps []) (hn : n = ps.length) (hd : (x == ("__debug__" : Str)) = false := by decide) :
    SE X W C (.Call (.Name x p) [] [] pos) (eCall n F bNil) :=
  ⟨_, pe_cal0 c tk hg hm hk hb hd, snd_call hK hn fun ρ σ H own Q er hw => hw [] H [] own ⟨rfl, rfl⟩ er (by simp) (Stp.refl (by simp))⟩
end
end Se

namespace Se
open PySem L2

/-! ### an own exception's __init__: self.f = f, field by field -/
def spI (C : Addr) (ns : List Str) : Sp := fun vs H Q _ => ∃ (a : Addr) (ws : List V), vs = .ref a :: ws ∧ ws.length = ns.length ∧ H a = some (exo a C none) ∧
  ∀ dx H', H dx = none → dx ≠ a → H' a = some (exo a C (some dx)) → H' dx = some (exd dx (ns.zip ws).reverse) → (∀ b, b ≠ a → b ≠ dx → H' b = H b) → Q .non H'
def tIni (K : PySem.W.Frag) : List Str → Nat → TS
  | [], _ => tNext
  | n :: ns, k => tSeq (tOst K n (tVar 0) (tVar k)) (tIni K ns (k + 1))
theorem ini_go {K : PySem.W.Frag} {C a dx : Addr} (T : OexC K C) : ∀ (ns : List Str) (ws : List V) (k : Nat) (fs : List (Str × V)) (σ : St) (H : Hp) (Dn : Ends), σ[0]? = some (some (.ref a)) → (∀ j v, ws[j]? = some v → σ[k + j]? = some (some v)) →
    ws.length = ns.length → fs.length + ns.length ≤ 900 → (∀ n ∈ ns, PySem.W.findIn K (.ref C) n = some none) → H a = some (exo a C (some dx)) → H dx = some (exd dx fs) → dx ≠ a →
    (∀ H', H' a = some (exo a C (some dx)) → H' dx = some (exd dx ((ns.zip ws).reverse ++ fs)) → (∀ b, b ≠ a → b ≠ dx → H' b = H b) → Dn.nx σ H') → tIni K ns k Dn σ H
  | [], ws, k, fs, σ, H, Dn, _, _, hl, _, _, ea, ed, _, q => q H ea (by simpa using ed) fun _ _ _ => rfl
  | n :: ns, [], _, _, _, _, _, _, _, hl, _, _, _, _, _, _ => by cases hl
  | n :: ns, y :: ws, k, fs, σ, H, Dn, h0, hs, hl, hb, hf, ea, ed, na, q => by
    have hb' : fs.length + (ns.length + 1) ≤ 900 := hb
    refine ⟨y, hs 0 y rfl, .ref a, h0, a, C, rfl, T, hf n List.mem_cons_self, .inr ⟨dx, fs, ea, ed, by omega, ?_⟩⟩
    refine ini_go T ns ws (k + 1) ((n, y) :: fs) σ _ Dn h0 (fun j v hj => ?_) (Nat.succ.inj hl) (by rw [List.length_cons]; omega) (fun m hm => hf m (List.mem_cons_of_mem _ hm)) ((upd_ne (Ne.symm na)).trans ea) upd_same na fun H' e1 e2 e3 => ?_
    · have := hs (j + 1) v hj
      rwa [show k + (j + 1) = k + 1 + j by omega] at this
    · refine q H' e1 ?_ fun b hb1 hb2 => (e3 b hb1 hb2).trans (upd_ne hb2)
      rw [e2, List.zip_cons_cons, List.reverse_cons, List.append_assoc]
      rfl
theorem ini_ok {K : PySem.W.Frag} {C : Addr} (T : OexC K C) {n : Str} {ns : List Str} {N : List Str} {vs : List V} {H : Hp} {Q : VK} {E : XK} (hf : ∀ m ∈ n :: ns, PySem.W.findIn K (.ref C) m = some none) (hl : (n :: ns).length ≤ 900) (h : spI C (n :: ns) vs H Q E) :
    tIni K (n :: ns) 1 { nx := fun _ H' => Q .non H', rt := Q } (L2.start N vs) H := by
  obtain ⟨a, ws, rfl, hw, ea, q⟩ := h
  have hst : ∀ j v, (V.ref a :: ws)[j]? = some v → (L2.start N (V.ref a :: ws))[j]? = some (some v) := fun j v hj => by
    unfold L2.start
    have hjl := (List.getElem?_eq_some_iff.mp hj).1
    rw [List.getElem?_append_left (by simpa using hjl), List.getElem?_map, hj]
    rfl
  match ws, hw with
  | y :: ws, hw =>
    refine ⟨y, hst 1 y rfl, .ref a, hst 0 _ rfl, a, C, rfl, T, hf n List.mem_cons_self, .inl ⟨ea, fun dx nd na => ?_⟩⟩
    have hl' : ns.length + 1 ≤ 900 := hl
    refine ini_go T ns ws 2 [(n, y)] _ _ _ (hst 0 _ rfl) (fun j v hj => ?_) (Nat.succ.inj hw) (by rw [List.length_singleton]; omega) (fun m hm => hf m (List.mem_cons_of_mem _ hm)) upd_same ((upd_ne na).trans upd_same) na fun H' e1 e2 e3 => ?_
    · rw [show 2 + j = (j + 1) + 1 by omega]
      exact hst (j + 1 + 1) v hj
    · refine q dx H' nd na e1 ?_ fun b hb1 hb2 => (e3 b hb1 hb2).trans ((upd_ne hb1).trans (upd_ne hb2))
      rw [e2, List.zip_cons_cons, List.reverse_cons]
/-- the body, statement by statement -/
def Inis (X : Cx) : List Stmt → List Str → Nat → Prop
  | [], [], _ => True
  | st :: r, n :: ns, k => PS X st (tOst X.K n (tVar 0) (tVar k)) ∧ Inis X r ns (k + 1)
  | _, _, _ => False
theorem inis_ps {X : Cx} : ∀ {b : List Stmt} {ns : List Str} {k : Nat}, Inis X b ns k → PSs X b (tIni X.K ns k)
  | [], [], _, _ => pss_nil
  | st :: r, n :: ns, k, h => pss_cons h.1 (inis_ps h.2)
  | [], _ :: _, _, h => h.elim
  | _ :: _, [], _, h => h.elim
section
variable {P : Program} {w : World} {K : PySem.W.Frag} {mg : Str → Option Value} {base : Heap} {x qual n : Str} {params : Arguments} {body : List Stmt} {sc : Scope} {f C : Addr} {fd : FuncData} {N ps ns : List Str} {k : Nat}
theorem iniN (F : FunD K x qual params body sc [] [] f fd) (S : FnScope N ps sc) (T : OexC K C) (hf : ∀ m ∈ n :: ns, PySem.W.findIn K (.ref C) m = some none) (hl : (n :: ns).length ≤ 900) (hp : ps.length = ns.length + 2)
    (hb : ∀ (cdv : Value) (A : Around) (outer : List PySem.Env) (s : Shared) (H : Hp) (E : XK), Inis (XC P w K mg base N qual sc f cdv A outer s H E) body (n :: ns) 1) : FnOk P w K mg base (L2N.CX P w) (k + 1) f fd ps (spI C (n :: ns)) := by
  refine F.ok S (fun vs H Q E h => ?_) fun cdv A outer s H vs Q E hr h => ⟨_, inis_ps (hb cdv A outer s H E), ini_ok T hf hl h⟩
  obtain ⟨a, ws, rfl, hw, _⟩ := h
  rw [hp, List.length_cons, hw]
  rfl
theorem iniH (F : FunD K x qual params body sc [] [] f fd) (S : FnScope N ps sc) (T : OexC K C) (hf : ∀ m ∈ n :: ns, PySem.W.findIn K (.ref C) m = some none) (hl : (n :: ns).length ≤ 900) (hp : ps.length = ns.length + 2)
    (hb : ∀ (cdv : Value) (A : Around) (outer : List PySem.Env) (s : Shared) (H : Hp) (E : XK) (p : Addr × Obj), Inis (XH P w K mg base N qual sc f cdv A outer s H E p) body (n :: ns) 1) : L2H.FnH P w K mg base (L2N.CX P w) (k + 1) f fd ps (spI C (n :: ns)) := by
  obtain ⟨oc, od, dV, kV, doc, pm, an, cdv, ct, osl, rfl, lk, hcd, _, _⟩ := F.ex
  refine L2H.fn_ofH lk hcd S (fun vs H Q E h => ?_) fun A outer s H vs Q E p hot hr h => ⟨_, inis_ps (hb cdv A outer s H E p), ini_ok T hf hl h⟩
  obtain ⟨a, ws, rfl, hw, _⟩ := h
  rw [hp, List.length_cons, hw]
  rfl
end

/-! ### C(e, ..): the exception, made while none is handled -/
theorem no_CX {X : Cx} : Passes (L2N.CX X.prog X.w) X (fun _ _ _ => False) := fun pins σ H s e s' I c => by
  obtain ⟨_, _, _, _, _, _, _, _, _, _, _, _, z⟩ := c
  exact z.elim
theorem pmkN {X : Cx} {x : Str} {e : Expr} {es : List Expr} {ta : TA} {p pos : Pos} {C fI : Addr} {k : Nat} {fd : FuncData} {ps : List Str} {sp : Sp} (T : OexC X.K C) (iC : PySem.W.findIn X.K (.ref C) "__init__" = some (some (.ref fI)))
    (tI : PySem.W.typeIn X.K (.ref fI) = some (.type "function")) (F1 : FnOk X.prog X.w X.K X.mg X.base (L2N.CX X.prog X.w) k fI fd ps sp) (hr : Room (k + 1) X.A) (hb : Binds X.K fd ps []) (hg : Gl X x) (hm : X.mg x = some (.ref C)) (ha : PA X (e :: es) ta)
    (hd : (x == ("__debug__" : Str)) = false := by decide) (he : starEach (e :: es) X.env = (false, eval e X.env) :: starEach es X.env := by rfl) (hp : (backTo pos (starEach es X.env)).any (·.1) = false := by rfl) :
    L2N.PMk X (.Call (.Name x p) (e :: es) [] pos) (tMkO C sp [] ta) := by
  intro pins s0 σ H Q I h
  obtain ⟨c0, c1, c2, c3, bm, c4, c5, c6, c7, c8, k0, k1, k2, k3, k5, hC, hbm⟩ := T.cls
  refine wpAny_Call_Name_kw (ld_glob I hg hm (PySem.W.callWith_K (h₀ := X.base) I.ok.mod.kin T.kC (thn (ha.run pos pins s0 σ H _ I h) fun uv s1 z => ?_) he hp) hd)
  obtain ⟨ys, H1, I1, r1, hz, q1⟩ := z
  refine ⟨I1.kIn, ?_⟩
  show wpAny _ _ (call (.ref C) uv) _ _ _
  obtain ⟨hh, gg, dd, tt, oo⟩ := s1
  have z1 : hh.objs.size ≤ hh.objs.size + 1 := Nat.le_succ _
  have q2 := q1 (hh.objs.size + 1) (I1.hok.fresh z1)
  rw [List.append_nil] at q2
  have grow : ∀ b o, hh.get? b = some o → ((hh.push (PySem.W.kdv_tup uv)).push (PySem.HandSPX.excO C hh.objs.size)).get? b = some o := fun b o z => Heap.get?_push_of_some _ (Heap.get?_push_of_some _ z)
  have here : ((hh.push (PySem.W.kdv_tup uv)).push (PySem.HandSPX.excO C hh.objs.size)).get? (hh.objs.size + 1) = some (PySem.HandSPX.excO C hh.objs.size) := by heap_get
  have I2 : Inv X pins σ (upd H1 (hh.objs.size + 1) (exo (hh.objs.size + 1) C none)) ⟨(hh.push (PySem.W.kdv_tup uv)).push (PySem.HandSPX.excO C hh.objs.size), gg, dd, tt, oo⟩ := I1.laid (t' := tt) (a := hh.objs.size + 1) (o := exo (hh.objs.size + 1) C none) grow z1 (exo_ok here)
  have r2 : Vals (V.ref (hh.objs.size + 1) :: ys) (Value.ref (hh.objs.size + 1) :: uv) := .cons rfl r1
  have b2 := hb _ (Value.ref (hh.objs.size + 1) :: uv) I2.kIn (by rw [List.append_nil, ← r2.length]; exact F1.len _ _ _ _ q2)
  rw [List.append_nil] at b2
  have small : uv.length ≤ sizeLine := by
    have z := Paired.length r1
    rw [sizeLine_eq]
    omega
  refine wpAny_call (PySem.HandSPX.call_own F.excBase_ValueError (fun Y => PySem.HandSPX.refsVE_contains Y bm hbm) (I1.kIn _ _ hC) (PySem.W.looks_findIn I1.kIn iC) (fun self => PySem.W.bind_fn I1.kIn self tI) small
    (codeAny_mono (F1.run _ X.stack _ _ ⟨Value.ref (hh.objs.size + 1) :: uv, []⟩ (Value.ref (hh.objs.size + 1) :: uv) _ _ (fun _ _ _ => False) (hr.make C uv []) (I2.env0.make C uv []) b2 r2 q2) fun r s2 hq => ?_))
  cases r with
  | error er => exact no_CX pins σ _ _ er s2 I2 hq
  | ok fl =>
    cases fl with
    | ret u =>
      obtain ⟨v, H2, os2, bare2, un2, hok2, rv, ev, d, fs, ea, ed, hd1, q3⟩ := hq
      subst ev
      obtain ⟨h2, g2, d2, t2, o2⟩ := s2
      obtain ⟨t0, G, J, kG, ge, hoe, na⟩ := mk_end0 (d2 := d2) (t2 := t2) I1 z1 grow un2 hok2 os2 bare2 ea ed hd1
      exact ⟨rv, hh.objs.size + 1, _, _, ⟨G, g2, d2, t2, o2⟩, _, .ref C, some d, rfl, J, kG, ge, hoe, ⟨rfl, rfl, fun vs hv => by cases hv; rfl⟩, rfl, rfl, na, rfl, bare2, raises_own T.exC T.tyC, q3⟩
    | _ => exact False.elim hq

/-! ### raise C(e, ..) -/
def sRaise (C : Addr) (ns : List Str) (ma : M (List D)) : MS := fun ρ => match ma ρ with
  | .ok ds ρ1 => if fzL ds = true ∧ ds.length = ns.length then .ex ⟨C, ns.reverse, ds.reverse⟩ ρ1 else .bad
  | .ex e ρ1 => .ex e ρ1
  | .bad => .bad
section
variable {X : Cx} {W : WX} {C : RC} {B : List Nat} {e : Expr} {es : List Expr} {ma : M (List D)}
theorem RepL.rev {H : Hp} : ∀ {ds : List D} {vs : List V}, RepL C H ds vs [] → RepL C H ds.reverse vs.reverse []
  | [], _, h => by obtain ⟨rfl, _⟩ := h; exact ⟨rfl, rfl⟩
  | d :: ds, _, h => by
    obtain ⟨v, vs', o1, o2, rfl, h1, h2, _, e⟩ := h
    have e' := List.append_eq_nil_iff.mp e.symm
    rw [e'.1] at h1
    rw [e'.2] at h2
    rw [List.reverse_cons, List.reverse_cons]
    exact RepL.app (RepL.rev h2) ⟨v, [], [], [], rfl, h1, ⟨rfl, rfl⟩, by simp, rfl⟩
theorem ss_raise {Ca : Addr} {ns : List Str} {x : Str} {p pos pos' : Pos} {sp : Sp} (ha : SA X W C (e :: es) ma) (tk : L2N.Takes X W) (hl : ns.length ≤ 900)
    (hp : ∀ ta, PA X (e :: es) ta → L2N.PMk X (.Call (.Name x p) (e :: es) [] pos) (tMkO Ca (spI Ca ns) [] ta)) (hr : ∀ {t : St → Hp → XK → Prop}, L2N.PMk X (.Call (.Name x p) (e :: es) [] pos) t → PS X (.Raise (some (.Call (.Name x p) (e :: es) [] pos)) none pos') (fun _ σ H => t σ H fun cls d H' => W cls d σ H')) :
    SS X W C B (.Raise (some (.Call (.Name x p) (e :: es) [] pos)) none pos') (sRaise Ca ns ma) := by
  obtain ⟨t, pt, st⟩ := ha.ex
  refine ⟨_, hr (hp t pt), fun ρ σ H own Dn er hw => ?_⟩
  refine st ρ σ H own _ er ?_
  unfold sRaise at hw
  cases hm : ma ρ with
  | bad => rw [hm] at hw; exact hw.elim
  | ex e ρ1 =>
    rw [hm] at hw
    intro cls d H' own' x er' st'
    exact hw cls d σ H' own' x er' st' fun _ _ => rfl
  | ok ds ρ1 =>
    rw [hm] at hw
    dsimp only at hw
    split at hw
    · rename_i hc
      intro vs H1 o own1 r e1 dj st1
      have eo := RepL.fz_nil hc.1 r
      subst eo
      refine ⟨by rw [r.len]; omega, fun a na => ⟨a, vs, by rw [List.append_nil], by rw [r.len]; exact hc.2, upd_same, fun dx H2 nd nda e2 e3 e4 => ⟨rfl, dx, _, e2, e3, ?_, ?_⟩⟩⟩
      · rwa [upd_ne nda] at nd
      · have nd1 : H1 dx = none := by rwa [upd_ne nda] at nd
        have hH : ∀ b, b ≠ dx → (upd (del H2 a) dx (.xd (ns.zip vs).reverse)) b = H1 b := fun b hb => by
          rw [upd_ne hb]
          by_cases hba : b = a
          · rw [hba, del_same, na]
          · rw [del_ne hba, e4 b hba hb, upd_ne hba]
        have kp : ∀ b ob, H1 b = some ob → (upd (del H2 a) dx (.xd (ns.zip vs).reverse)) b = some ob := fun b ob hb => (hH b fun z => by rw [z, nd1] at hb; cases hb).trans hb
        have k1 : Keeps H1 (upd (del H2 a) dx (.xd (ns.zip vs).reverse)) [] := fun b ob hb _ => kp b ob hb
        refine hw _ _ σ _ own1 ⟨rfl, dx, vs.reverse, rfl, ?_, ?_, RepL.rev (r.keep k1 muts_nil (by simp))⟩ (e1.keep k1 muts_nil (by simp)) ⟨fun b ob hb hn => kp b ob (st1.keep b ob hb hn), fun b hb => st1.sub b (by simpa using hb)⟩ fun _ _ => rfl
        · rw [upd_same]
          have e5 : (ns.zip vs).reverse = ns.reverse.zip vs.reverse := by
            rw [List.zip_eq_zipWith, List.zip_eq_zipWith, List.reverse_zipWith (by rw [r.len]; exact hc.2.symm)]
          rw [e5]
        · show ns.reverse.length = ds.reverse.length
          rw [List.length_reverse, List.length_reverse]
          exact hc.2.symm
    · exact hw.elim
/-- while none is handled -/
theorem ss_raiseN {Ca fI : Addr} {k : Nat} {fd : FuncData} {ps ns : List Str} {x : Str} {p pos pos' : Pos} (hc : X.calm = true) (ha : SA X W C (e :: es) ma) (tk : L2N.Takes X W) (hl : ns.length ≤ 900) (T : OexC X.K Ca) (iC : PySem.W.findIn X.K (.ref Ca) "__init__" = some (some (.ref fI)))
    (tI : PySem.W.typeIn X.K (.ref fI) = some (.type "function")) (F1 : FnOk X.prog X.w X.K X.mg X.base (L2N.CX X.prog X.w) k fI fd ps (spI Ca ns)) (hr : Room (k + 1) X.A) (hb : Binds X.K fd ps []) (hg : Gl X x) (hm : X.mg x = some (.ref Ca))
    (hd : (x == ("__debug__" : Str)) = false := by decide) (he : starEach (e :: es) X.env = (false, eval e X.env) :: starEach es X.env := by rfl) (hp : (backTo pos (starEach es X.env)).any (·.1) = false := by rfl) :
    SS X W C B (.Raise (some (.Call (.Name x p) (e :: es) [] pos)) none pos') (sRaise Ca ns ma) :=
  ss_raise (sp := spI Ca ns) ha tk hl (fun ta pa => pmkN T iC tI F1 hr hb hg hm pa hd he hp) fun h => L2N.ps_raise hc tk h
end
end Se

namespace Se
open PySem L2

/-! ### try: body, except c as n: suite -/
def neE (ρ : Env) : Bool := ρ.all fun x => match x with
  | some d => ne d
  | none => true
def noW : WX := fun _ _ _ _ => False
def outS (i : Nat) : SR → SR
  | .nx ρ => if neE (ρ.set i none) = true then .nx (ρ.set i none) else .bad
  | .rt d ρ => if neE (ρ.set i none) = true ∧ ne d = true then .rt d (ρ.set i none) else .bad
  | .bk ρ => if neE (ρ.set i none) = true then .bk (ρ.set i none) else .bad
  | .ct ρ => if neE (ρ.set i none) = true then .ct (ρ.set i none) else .bad
  | .ex _ _ => .bad
  | .bad => .bad
def sTry (i : Nat) (mt : Addr → Option Bool) (mb ms : MS) : MS := fun ρ => match mb ρ with
  | .ex e ρ1 => match mt e.cls with
    | some true => if i < ρ1.length then outS i (ms (ρ1.set i (some (.exc e.cls e.ns e.ds)))) else .bad
    | some false => .ex e ρ1
    | none => .bad
  | r => r
section
variable {C C' : RC} {H : Hp}
theorem ER.cx (hK : C'.K = C.K) : ∀ {ρ : Env} {σ : St} {o : List Addr}, neE ρ = true → ER C H ρ σ o → ER C' H ρ σ o
  | [], _, _, _, h => h
  | none :: ρ, _, _, n, h => by
    obtain ⟨x, σ', e, h⟩ := h
    exact ⟨x, σ', e, ER.cx hK (by simpa [neE] using n) h⟩
  | some d :: ρ, _, _, n, h => by
    obtain ⟨v, σ', o1, o2, e, h1, h2, z, rfl⟩ := h
    have n' : ne d = true ∧ neE ρ = true := by simpa [neE] using n
    exact ⟨v, σ', o1, o2, e, Rep.cx hK n'.1 h1, ER.cx hK n'.2 h2, z, rfl⟩
theorem ER.ne0 (hC : C.hx = none) : ∀ {ρ : Env} {σ : St} {o : List Addr}, ER C H ρ σ o → neE ρ = true
  | [], _, _, _ => rfl
  | none :: ρ, _, _, h => by
    obtain ⟨x, σ', e, h⟩ := h
    simpa [neE] using ER.ne0 hC h
  | some d :: ρ, _, _, h => by
    obtain ⟨v, σ', o1, o2, e, h1, h2, z, rfl⟩ := h
    have h3 := ER.ne0 hC h2
    have h4 := Rep.ne0 hC h1
    simp only [neE, List.all_cons, Bool.and_eq_true] at h3 ⊢
    exact ⟨h4, h3⟩
theorem ER.wipe1 : ∀ {ρ : Env} {σ : St} {o : List Addr} {i : Nat}, ER C H ρ σ o → ∃ o', ER C H (ρ.set i none) (σ.set i none) o' ∧ ∀ a ∈ o', a ∈ o
  | [], _, _, _, h => by obtain ⟨rfl, rfl⟩ := h; exact ⟨[], ⟨rfl, rfl⟩, fun _ z => z⟩
  | none :: ρ, _, _, 0, h => by obtain ⟨x, σ', rfl, h⟩ := h; exact ⟨_, ⟨none, σ', rfl, h⟩, fun _ z => z⟩
  | some d :: ρ, _, _, 0, h => by
    obtain ⟨v, σ', o1, o2, rfl, h1, h2, z, rfl⟩ := h
    exact ⟨o2, ⟨none, σ', rfl, h2⟩, fun a z => List.mem_append_right _ z⟩
  | none :: ρ, _, _, i + 1, h => by
    obtain ⟨x, σ', rfl, h⟩ := h
    obtain ⟨o', h', m⟩ := ER.wipe1 (i := i) h
    exact ⟨o', ⟨x, _, rfl, h'⟩, m⟩
  | some d :: ρ, _, _, i + 1, h => by
    obtain ⟨v, σ', o1, o2, rfl, h1, h2, z, rfl⟩ := h
    obtain ⟨o', h', m⟩ := ER.wipe1 (i := i) h2
    exact ⟨o1 ++ o', ⟨v, _, o1, o', rfl, h1, h', fun a ha q => z a ha (m a q), rfl⟩, fun a ha => List.mem_append.mpr ((List.mem_append.mp ha).imp id (m a))⟩
end
/-- the suite's data: the exception at a -/
abbrev Cs (K : PySem.W.Frag) (a c d : Addr) : RC := ⟨K, some (a, c, d)⟩
structure TP (X : Cx) (B : List Nat) (body : List Stmt) (mb : MS) (tb : WX → TS) : Prop where
  p : ∀ (W : WX) (pn : List (Addr × Obj)) (xe : Value → Shared → Prop), L2N.Takes (X.tr pn xe) W → PassesOwn (model X.prog X.w) X.A X.env xe → PSs (X.tr pn xe) body (tb W)
  s : ∀ (W : WX) (ρ : Env) (σ : St) (H : Hp) (own : List Addr) (Dn : Ends), ER (C0 X.K) H ρ σ own → PoS (C0 X.K) W B (mb ρ) σ H own Dn → tb W Dn σ H
theorem tp_of {X : Cx} {B : List Nat} {body : List Stmt} {mb : MS} (h : ∀ (W : WX) (pn : List (Addr × Obj)) (xe : Value → Shared → Prop), L2N.Takes (X.tr pn xe) W → PassesOwn (model X.prog X.w) X.A X.env xe → SSs (X.tr pn xe) W (C0 X.K) B body mb) : ∃ tb, TP X B body mb tb := by
  refine ⟨fun W Dn σ H => ∀ (pn : List (Addr × Obj)) (xe : Value → Shared → Prop) (t1 : L2N.Takes (X.tr pn xe) W) (t2 : PassesOwn (model X.prog X.w) X.A X.env xe), Classical.choose (h W pn xe t1 t2).ex Dn σ H, ⟨fun W pn xe t1 t2 => ⟨fun pins s σ H Dn I hw => ?_⟩, fun W ρ σ H own Dn er hw pn xe t1 t2 => ?_⟩⟩
  · exact (Classical.choose_spec (h W pn xe t1 t2).ex).1.run pins s σ H Dn I (hw pn xe t1 t2)
  · exact (Classical.choose_spec (h W pn xe t1 t2).ex).2 ρ σ H own Dn er hw
structure UP (X : Cx) (B : List Nat) (body : List Stmt) (ms : MS) (ts : Addr → Value → Option Addr → TS) : Prop where
  p : ∀ (a : Addr) (oe : Obj) (cls : Value) (d : Option Addr) (pn : List (Addr × Obj)), L2N.Zn cls d oe → (∃ vs, oe.data = .fields vs) → PSs (X.suite a ((a, oe) :: pn)) body (ts a cls d)
  s : ∀ (a c dd : Addr) (ρ : Env) (σ : St) (H : Hp) (own : List Addr) (Dn : Ends), ER (Cs X.K a c dd) H ρ σ own → PoS (Cs X.K a c dd) noW B (ms ρ) σ H own Dn → ts a (.ref c) (some dd) Dn σ H
/-- the facts that hold in the suite -/
structure Sut (X : Cx) (a c dd : Addr) (Y : Cx) : Prop where
  eq : ∃ (oe : Obj) (pn : List (Addr × Obj)), Y = X.suite a ((a, oe) :: pn) ∧ L2N.Zn (.ref c) (some dd) oe ∧ ∃ vs, oe.data = .fields vs
theorem up_of {X : Cx} {B : List Nat} {body : List Stmt} {ms : MS} (h : ∀ (a c dd : Addr) (oe : Obj) (pn : List (Addr × Obj)), Sut X a c dd (X.suite a ((a, oe) :: pn)) → SSs (X.suite a ((a, oe) :: pn)) noW (Cs X.K a c dd) B body ms) : ∃ ts, UP X B body ms ts := by
  refine ⟨fun a cls d Dn σ H => ∃ c dd, cls = .ref c ∧ d = some dd ∧ ∀ (oe : Obj) (pn : List (Addr × Obj)) (z : Sut X a c dd (X.suite a ((a, oe) :: pn))), Classical.choose (h a c dd oe pn z).ex Dn σ H, ⟨fun a oe cls d pn hz hf => ⟨fun pins s σ H Dn I hw => ?_⟩, fun a c dd ρ σ H own Dn er hw => ⟨c, dd, rfl, rfl, fun oe pn z => ?_⟩⟩⟩
  · obtain ⟨c, dd, rfl, rfl, hw⟩ := hw
    have z : Sut X a c dd (X.suite a ((a, oe) :: pn)) := ⟨oe, pn, rfl, hz, hf⟩
    exact (Classical.choose_spec (h a c dd oe pn z).ex).1.run pins s σ H Dn I (hw oe pn z)
  · exact (Classical.choose_spec (h a c dd oe pn z).ex).2 ρ σ H own Dn er hw
theorem ss_try {X : Cx} {W : WX} {B : List Nat} {x n : Str} {c : Value} {i : Nat} {body suite : List Stmt} {b₀ : Stmt} {np pos pos' : Pos} {mb ms : MS} {mt : Addr → Option Bool} (hs : X.stack = X.env :: X.outer) (hf : X.env.frame = some X.env.locals) (hN : X.N.Nodup) (hi : X.N[i]? = some n)
    (hln : X.env.kindOf n = some .local) (hc : Names X x c) (tk : L2N.Takes X W) (hiB : i ∉ B) (hmt : ∀ k b, mt k = some b → PySem.W.exmOne X.K (.ref k) c = some b) (hb : ∃ tb, TP X B body mb tb) (hu : ∃ ts, UP X B (b₀ :: suite) ms ts) :
    SS X W (C0 X.K) B (.Try body [.ExceptHandler (some (.Name x np)) (some n) (b₀ :: suite) pos'] [] [] pos) (sTry i mt mb ms) := by
  obtain ⟨tb, tp⟩ := hb
  obtain ⟨ts, up⟩ := hu
  refine ⟨_, L2N.ps_try_as hs hf hN hi hln hc tk tp.p up.p, fun ρ σ H own Dn er hw => ?_⟩
  refine tp.s _ ρ σ H own Dn er ?_
  have hw : PoS (C0 X.K) W B (match mb ρ with
    | .ex e ρ1 => match mt e.cls with
      | some true => if i < ρ1.length then outS i (ms (ρ1.set i (some (.exc e.cls e.ns e.ds)))) else .bad
      | some false => .ex e ρ1
      | none => .bad
    | r => r) σ H own Dn := hw
  cases hm : mb ρ with
  | nx _ => rw [hm] at hw; exact hw
  | rt _ _ => rw [hm] at hw; exact hw
  | bk _ => rw [hm] at hw; exact hw
  | ct _ => rw [hm] at hw; exact hw
  | bad => rw [hm] at hw; exact hw
  | ex e ρ1 =>
    rw [hm] at hw
    dsimp only at hw
    intro cls d σ1 H1 own1 xr er1 st1 hB1
    obtain ⟨rfl, dd, vs, rfl, hd, hl, rl⟩ := id xr
    cases ht : mt e.cls with
    | none => rw [ht] at hw; exact hw.elim
    | some b =>
      rw [ht] at hw
      refine ⟨b, hmt _ _ ht, fun eb a na => ?_, fun eb => ?_⟩
      · subst eb
        dsimp only at hw
        split at hw
        · rename_i hil
          have er2 : ER (Cs X.K a e.cls dd) H1 ρ1 σ1 own1 := ER.cx (C := C0 X.K) (C' := Cs X.K a e.cls dd) rfl (ER.ne0 rfl er1) er1
          have re : Rep (Cs X.K a e.cls dd) H1 (.exc e.cls e.ns e.ds) (.ref a) [] := ⟨a, dd, vs, rfl, rfl, hd, hl, RepL.cx (C := C0 X.K) (C' := Cs X.K a e.cls dd) rfl (RepL.ne0 rfl rl) rl, rfl⟩
          obtain ⟨own2, er3, m3⟩ := er2.set hil re (by simp)
          refine up.s a e.cls dd _ _ H1 own2 _ er3 ?_
          have st2 : Stp H H1 own own2 := st1.less fun a ha => (m3 a ha).resolve_left (by simp)
          have hset : ∀ {σ' : St}, (∀ j ∈ B, σ'[j]? = (σ1.set i (some (.ref a)))[j]?) → ∀ j ∈ B, (σ'.set i none)[j]? = σ[j]? := fun {σ'} h j hj => by
            have nij : i ≠ j := fun z => hiB (z ▸ hj)
            rw [List.getElem?_set_ne nij, h j hj, List.getElem?_set_ne nij, hB1 j hj]
          have hsetR : ∀ {σ' : St}, (∀ j ∈ B, σ'[j]? = (σ1.set i (some (.ref a)))[j]?) → ∀ j ∈ B, σ'[j]? = σ[j]? := fun {σ'} h j hj => by
            have nij : i ≠ j := fun z => hiB (z ▸ hj)
            rw [h j hj, List.getElem?_set_ne nij, hB1 j hj]
          cases hms : ms (ρ1.set i (some (.exc e.cls e.ns e.ds))) with
          | bad => rw [hms] at hw; exact hw.elim
          | ex _ _ => rw [hms] at hw; exact hw.elim
          | nx ρ2 =>
            rw [hms] at hw
            dsimp only [outS] at hw
            split at hw
            · rename_i hne
              intro σ' H' own' e' s' b'
              obtain ⟨o4, e4, m4⟩ := ER.wipe1 (i := i) e'
              exact hw _ H' o4 (ER.cx (C := Cs X.K a e.cls dd) (C' := C0 X.K) rfl hne e4) ((st2.trans s').less m4) (hset b')
            · exact hw.elim
          | bk ρ2 =>
            rw [hms] at hw
            dsimp only [outS] at hw
            split at hw
            · rename_i hne
              intro σ' H' own' e' s' b'
              obtain ⟨o4, e4, m4⟩ := ER.wipe1 (i := i) e'
              exact hw _ H' o4 (ER.cx (C := Cs X.K a e.cls dd) (C' := C0 X.K) rfl hne e4) ((st2.trans s').less m4) (hset b')
            · exact hw.elim
          | ct ρ2 =>
            rw [hms] at hw
            dsimp only [outS] at hw
            split at hw
            · rename_i hne
              intro σ' H' own' e' s' b'
              obtain ⟨o4, e4, m4⟩ := ER.wipe1 (i := i) e'
              exact hw _ H' o4 (ER.cx (C := Cs X.K a e.cls dd) (C' := C0 X.K) rfl hne e4) ((st2.trans s').less m4) (hset b')
            · exact hw.elim
          | rt d ρ2 =>
            rw [hms] at hw
            dsimp only [outS] at hw
            split at hw
            · rename_i hne
              intro v σ' H' o own' rv e' dj s' b'
              obtain ⟨o4, e4, m4⟩ := ER.wipe1 (i := i) e'
              refine hw v _ H' o o4 (Rep.cx (C := Cs X.K a e.cls dd) (C' := C0 X.K) rfl hne.2 rv) (ER.cx (C := Cs X.K a e.cls dd) (C' := C0 X.K) rfl hne.1 e4) (fun a ha z => dj a ha (m4 a z)) ((st2.trans s').less fun a ha => ?_) (hset b')
              exact (List.mem_append.mp ha).elim (List.mem_append_left _) fun z => List.mem_append_right _ (m4 a z)
            · exact hw.elim
        · exact hw.elim
      · subst eb
        exact hw _ _ σ1 H1 own1 xr er1 st1 hB1

/-! ### the handled exception: e.f, isinstance(e, c) -/
theorem Sut.takes {X Y : Cx} {a c dd : Addr} (_h : Sut X a c dd Y) : L2N.Takes Y noW := fun u s' x => by
  obtain ⟨_, _, _, _, _, _, _, _, _, _, _, _, _, _, _, _, z⟩ := x
  exact z.elim
theorem Sut.hot {X : Cx} {a c dd : Addr} {oe : Obj} {pn : List (Addr × Obj)} (h : Sut X a c dd (X.suite a ((a, oe) :: pn))) : L2H.HotC (X.suite a ((a, oe) :: pn)) := by
  obtain ⟨oe', pn', e, hz, vs, hf⟩ := h
  have e1 : (X.suite a ((a, oe) :: pn)).pn = (X.suite a ((a, oe') :: pn')).pn := congrArg Cx.pn e
  have e2 : (a, oe) = (a, oe') := (List.cons.inj e1).1
  have e3 : oe = oe' := (Prod.mk.inj e2).2
  subst e3
  exact ⟨(a, oe), ⟨rfl, vs, hf, hz.2.2 vs hf⟩, List.mem_cons_self⟩
theorem Sut.zn {X : Cx} {a c dd : Addr} {oe : Obj} {pn : List (Addr × Obj)} (h : Sut X a c dd (X.suite a ((a, oe) :: pn))) : Zc (.ref c) (some dd) oe ∧ ∃ vs, oe.data = .fields vs := by
  obtain ⟨oe', pn', e, hz, hf⟩ := h
  have e1 : (X.suite a ((a, oe) :: pn)).pn = (X.suite a ((a, oe') :: pn')).pn := congrArg Cx.pn e
  have e3 : oe = oe' := (Prod.mk.inj (List.cons.inj e1).1).2
  subst e3
  exact ⟨hz.zc, hf⟩
/-- the class's instances let their field be read -/
def xfD (K : PySem.W.Frag) (c : Addr) (n : Str) : Bool := xfB K c && decide (PySem.W.findIn K (.ref c) n = some none)
def xfG (K : PySem.W.Frag) (n : Str) : D → Option D
  | .exc c ns ds => if xfD K c n = true ∧ fzL ds = true then (ns.zip ds).lookup n else none
  | _ => none
def vXf (K : PySem.W.Frag) (n : Str) (i : Nat) : Env → Option D := fun ρ => ((ρ[i]?).join).bind (xfG K n)
theorem lookC {β : Type} (m g : Str) (z : β) (l : List (Str × β)) : ((m, z) :: l).lookup g = if g = m then some z else l.lookup g := by
  by_cases q : g = m
  · rw [if_pos q, q]
    simp [List.lookup]
  · have q2 : (g == m) = false := by simpa using q
    rw [if_neg q]
    simp [List.lookup, q2]
theorem lookup_zip {C : RC} {H : Hp} {n : Str} : ∀ {ns : List Str} {ds : List D} {vs : List V} {d : D}, RepL C H ds vs [] → (ns.zip ds).lookup n = some d → ∃ v, (ns.zip vs).lookup n = some v ∧ Rep C H d v []
  | [], _, _, _, _, h => by cases h
  | _ :: _, [], _, _, _, h => by cases h
  | m :: ns, d0 :: ds, _, d, r, h => by
    obtain ⟨v, vs', o1, o2, rfl, r1, r2, _, e⟩ := r
    have e' := List.append_eq_nil_iff.mp e.symm
    rw [e'.1] at r1
    rw [e'.2] at r2
    rw [List.zip_cons_cons, lookC] at h ⊢
    split at h
    · rename_i hb
      cases h
      rw [if_pos hb]
      exact ⟨v, rfl, r1⟩
    · rename_i hb
      rw [if_neg hb]
      exact lookup_zip r2 h
theorem xfG_some {K : PySem.W.Frag} {a c dd : Addr} {n : Str} {d1 d : D} {H : Hp} {v : V} {o : List Addr} (r : Rep (Cs K a c dd) H d1 v o) (h : xfG K n d1 = some d) : xfD K c n = true ∧ v = .ref a ∧ ∃ fs v2, H dd = some (.xd fs) ∧ fs.lookup n = some v2 ∧ Rep (Cs K a c dd) H d v2 [] := by
  unfold xfG at h
  split at h
  · obtain ⟨a1, d2, vs, e1, e2, e3, e4, rl, _⟩ := r
    cases e2
    split at h
    · rename_i hh
      obtain ⟨v2, hv, rv⟩ := lookup_zip rl h
      exact ⟨hh.1, e1, _, v2, e3, hv, rv⟩
    · cases h
  · cases h
theorem sv_xf {X : Cx} {a c dd : Addr} {oe : Obj} {pn : List (Addr × Obj)} {x n : Str} {i : Nat} {p pos : Pos} (h : Sut X a c dd (X.suite a ((a, oe) :: pn))) (he : PE (X.suite a ((a, oe) :: pn)) (.Name x p) (tVar i))
    (hb : attributeBase (.Name x p) n X.env (eval (.Name x p) X.env) = eval (.Name x p) X.env := by rfl) : SV (X.suite a ((a, oe) :: pn)) (Cs X.K a c dd) (.Attribute (.Name x p) n pos) (vXf X.K n i) := by
  obtain ⟨hz, hf⟩ := h.zn
  by_cases hx : xfD X.K c n = true
  · have hx' := Bool.and_eq_true_iff.mp hx
    refine ⟨_, pe_xf (xfB_ok hx'.1) (of_decide_eq_true hx'.2) hz hf he hb, fun ρ σ H own Q er d hd hw => ?_⟩
    simp only [vXf, Option.bind_eq_some_iff] at hd
    obtain ⟨d1, h1, h2⟩ := hd
    obtain ⟨v, o, own1, e1, r, _⟩ := er.take (join_some h1)
    obtain ⟨_, ev, fs, v2, e3, hv, rv⟩ := xfG_some r h2
    exact ⟨v, e1, ev, rfl, dd, fs, v2, rfl, e3, hv, hw v2 H [] rv Ext.refl⟩
  · refine ⟨fun _ _ _ => False, ⟨fun pins s σ H Q I z => z.elim⟩, fun ρ σ H own Q er d hd hw => ?_⟩
    simp only [vXf, Option.bind_eq_some_iff] at hd
    obtain ⟨d1, h1, h2⟩ := hd
    obtain ⟨v, o, own1, e1, r, _⟩ := er.take (join_some h1)
    exact hx (xfG_some r h2).1
end Se

namespace Se
open PySem L2

/-! ### built-in functions over data -/
def gLen : List D → Option D
  | [.str x] => if x.length ≤ sizeLine then some (.int x.length) else none
  | [.tup ds] => some (.int ds.length)
  | [.lst _ ds] => some (.int ds.length)
  | _ => none
def gInt : List D → Option D
  | [.int i] => some (.int i)
  | [.bl b] => some (.int (if b then 1 else 0))
  | _ => none
def gAbs : List D → Option D
  | [.int i] => some (.int (if i < 0 then -i else i))
  | _ => none
def gTup : List D → Option D
  | [.tup ds] => if fzL ds = true then some (.tup ds) else none
  | [.lst _ ds] => if fzL ds = true then some (.tup ds) else none
  | _ => none
def gLst : List D → Option D
  | [.tup ds] => if fzL ds = true then some (.lst true ds) else none
  | [.lst _ ds] => if fzL ds = true then some (.lst true ds) else none
  | _ => none
def gStr : List D → Option D
  | [.int i] => if i.natAbs.log2 < 1920 then some (.str (toString i : Str).cps.toList) else none
  | [.str x] => some (.str x)
  | _ => none
theorem sx_cps (x : Str) : sx x.cps.toList = x := SX.S_tl x
section
variable {X : Cx} {C : RC}
theorem repw1 {H : Hp} {d : D} {vs : List V} (h : RepW C H [d] vs) : ∃ v o, vs = [v] ∧ Rep C H d v o := by
  have hl := h.len
  obtain ⟨v, o, h1, h2⟩ := h.at (i := 0) (d := d) rfl
  match vs, hl, h1 with
  | [w], _, h1 => cases h1; exact ⟨_, o, rfl, h2⟩
theorem repw2 {H : Hp} {d e : D} {vs : List V} (h : RepW C H [d, e] vs) : ∃ v w o p, vs = [v, w] ∧ Rep C H d v o ∧ Rep C H e w p := by
  have hl := h.len
  obtain ⟨v, o, h1, h2⟩ := h.at (i := 0) (d := d) rfl
  obtain ⟨w, p, h3, h4⟩ := h.at (i := 1) (d := e) rfl
  match vs, hl, h1, h3 with
  | [a, b], _, h1, h3 => cases h1; cases h3; exact ⟨_, _, o, p, rfl, h2, h4⟩
theorem vo_len : VOn C (fun xs H Q => ∃ x n, xs = [x] ∧ LenV C.K x H n ∧ Q (.int n) H) gLen := by
  intro ds d vs H Q r hg q
  unfold gLen at hg
  split at hg
  · obtain ⟨v, o, rfl, rv⟩ := repw1 r
    split at hg
    · rename_i hz
      cases hg
      rw [rv.1]
      exact ⟨_, _, rfl, ⟨by rw [sx_len]; exact hz, rfl⟩, q _ _ [] (by rw [sx_len]; exact ⟨rfl, rfl⟩) Ext.refl (by simp)⟩
    · cases hg
  · obtain ⟨v, o, rfl, rv⟩ := repw1 r
    cases hg
    obtain ⟨a, ws, rfl, hr, w⟩ := rv.tupS
    exact ⟨_, _, rfl, .inr ⟨ws, hr, rfl⟩, q _ _ [] (by rw [w.len]; exact ⟨rfl, rfl⟩) Ext.refl (by simp)⟩
  · obtain ⟨v, o, rfl, rv⟩ := repw1 r
    cases hg
    obtain ⟨a, ws, rfl, hr, w⟩ := rv.lstS
    exact ⟨_, _, rfl, .inl ⟨ws, .inl hr, rfl⟩, q _ _ [] (by rw [w.len]; exact ⟨rfl, rfl⟩) Ext.refl (by simp)⟩
  · cases hg
theorem vo_int1 : VOn C (fun xs H Q => (∃ i, xs = [.int i] ∧ Q (.int i) H) ∨ ∃ k, xs = [.bl k] ∧ Q (.int (if k then 1 else 0)) H) gInt := by
  intro ds d vs H Q r hg q
  unfold gInt at hg
  split at hg
  · obtain ⟨v, o, rfl, rv⟩ := repw1 r
    cases hg
    rw [rv.1]
    exact .inl ⟨_, rfl, q _ _ [] ⟨rfl, rfl⟩ Ext.refl (by simp)⟩
  · obtain ⟨v, o, rfl, rv⟩ := repw1 r
    cases hg
    rw [rv.1]
    exact .inr ⟨_, rfl, q _ _ [] ⟨rfl, rfl⟩ Ext.refl (by simp)⟩
  · cases hg
theorem vo_abs : VOn C (fun xs H Q => ∃ i, xs = [.int i] ∧ Q (.int (if i < 0 then -i else i)) H) gAbs := by
  intro ds d vs H Q r hg q
  unfold gAbs at hg
  split at hg
  · obtain ⟨v, o, rfl, rv⟩ := repw1 r
    cases hg
    rw [rv.1]
    exact ⟨_, rfl, q _ _ [] ⟨rfl, rfl⟩ Ext.refl (by simp)⟩
  · cases hg
theorem vo_tup : VOn C (fun xs H Q => ∃ p ys, xs = [.ref p] ∧ ((SqL C.K H p ys ∧ ∀ l, H l = none → Q (.ref l) (upd H l (.tup ys))) ∨ (SqT C.K H p ys ∧ Q (.ref p) H))) gTup := by
  intro ds d vs H Q r hg q
  unfold gTup at hg
  split at hg
  · obtain ⟨v, o, rfl, rv⟩ := repw1 r
    split at hg
    · rename_i hf
      cases hg
      obtain ⟨a, ws, rfl, hr, w⟩ := rv.tupS
      exact ⟨a, ws, rfl, .inr ⟨hr, q _ _ [] ⟨a, ws, rfl, hr, w.fz hf⟩ Ext.refl (by simp)⟩⟩
    · cases hg
  · obtain ⟨v, o, rfl, rv⟩ := repw1 r
    split at hg
    · rename_i hf
      cases hg
      obtain ⟨a, ws, rfl, hr, w⟩ := rv.lstS
      exact ⟨a, ws, rfl, .inl ⟨.inl hr, fun l hl => q _ _ [] (rep_new_tup (w.fz hf) hl) (Ext.new hl) (by simp)⟩⟩
    · cases hg
  · cases hg
theorem vo_lst : VOn C (fun xs H Q => ∃ p ys, xs = [.ref p] ∧ (SqL C.K H p ys ∨ SqT C.K H p ys) ∧ ∀ l, H l = none → Q (.ref l) (upd H l (.lst ys))) gLst := by
  intro ds d vs H Q r hg q
  unfold gLst at hg
  split at hg
  · obtain ⟨v, o, rfl, rv⟩ := repw1 r
    split at hg
    · rename_i hf
      cases hg
      obtain ⟨a, ws, rfl, hr, w⟩ := rv.tupS
      exact ⟨a, ws, rfl, .inr hr, fun l hl => q _ _ [l] (rep_new_lst (w.fz hf) hl) (Ext.new hl) (one_none hl)⟩
    · cases hg
  · obtain ⟨v, o, rfl, rv⟩ := repw1 r
    split at hg
    · rename_i hf
      cases hg
      obtain ⟨a, ws, rfl, hr, w⟩ := rv.lstS
      exact ⟨a, ws, rfl, .inl (.inl hr), fun l hl => q _ _ [l] (rep_new_lst (w.fz hf) hl) (Ext.new hl) (one_none hl)⟩
    · cases hg
  · cases hg
abbrev rStrA : List V → Hp → VK → Prop := fun xs H Q => (∃ i, xs = [.int i] ∧ i.natAbs.log2 < 1920 ∧ Q (.str (toString i)) H) ∨ ∃ a, xs = [.str a] ∧ Q (.str a) H
theorem call_strA : CallR X (.type "str") rStrA := fun pins s σ H xs us Q I r h => h.elim (call_str_int pins s σ H xs us Q I r) (SkE.call_str_str pins s σ H xs us Q I r)
theorem vo_str : VOn C rStrA gStr := by
  intro ds d vs H Q r hg q
  unfold gStr at hg
  split at hg
  · obtain ⟨v, o, rfl, rv⟩ := repw1 r
    split at hg
    · rename_i hz
      cases hg
      rw [rv.1]
      exact .inl ⟨_, rfl, hz, q _ _ [] ⟨by rw [sx_cps], rfl⟩ Ext.refl (by simp)⟩
    · cases hg
  · obtain ⟨v, o, rfl, rv⟩ := repw1 r
    cases hg
    rw [rv.1]
    exact .inr ⟨_, rfl, q _ _ [] ⟨rfl, rfl⟩ Ext.refl (by simp)⟩
  · cases hg
/-! ### isinstance -/
def tyD : D → Option String
  | .non => some "NoneType"
  | .bl _ => some "bool"
  | .int _ => some "int"
  | .str _ => some "str"
  | .tup _ => some "tuple"
  | .lst _ _ => some "list"
  | .dct _ _ _ => some "dict"
  | _ => none
def clD : D → Option Value
  | .ty n => some (.type n)
  | .obj a => some (.ref a)
  | _ => none
def clsD : List D → Option (List Value)
  | [] => some []
  | d :: ds => (clD d).bind fun c => (clsD ds).map fun cs => c :: cs
def isK (K : PySem.W.Frag) (t : Value) : D → Option Bool
  | .tup cs => (clsD cs).bind fun us => PySem.W.kitAny K t us
  | c => (clD c).bind fun u => PySem.W.kitOne K t u
def gIsi (K : PySem.W.Frag) : List D → Option D
  | [x, c] => (tyD x).bind fun t => (isK K (.type t) c).map D.bl
  | _ => none
theorem tyX_of {H : Hp} {d : D} {v : V} {o : List Addr} {t : String} (r : Rep C H d v o) (h : tyD d = some t) : TyX C.K H v (.type t) := by
  match d, h with
  | .non, h => cases h; rw [r.1]; exact .base .non
  | .bl b, h => cases h; rw [r.1]; exact .base (.bl b)
  | .int i, h => cases h; rw [r.1]; exact .base (.int i)
  | .str x, h => cases h; rw [r.1]; exact .base (.str _)
  | .tup ds, h =>
    cases h
    obtain ⟨a, vs, rfl, (e | ⟨ob, e⟩) | ⟨ob, its, n, e, e2, _⟩, _⟩ := r
    · exact .base (.tup e)
    · exact .fTuple e
    · exact .kTuple e e2
  | .lst f ds, h =>
    cases h
    obtain ⟨a, vs, rfl, e | ⟨ob, e⟩, _⟩ := r.lstS
    · exact .base (.lst e)
    · exact .base (.frz e)
  | .dct false ks ds, h => cases h; obtain ⟨a, vs, ob, rfl, e, _⟩ := r; exact .fDict e
  | .dct true ks ds, h => cases h; obtain ⟨a, vs, o', rfl, e, _⟩ := r; exact .base (.dK e)
theorem cl_of {H : Hp} {d : D} {v : V} {o : List Addr} {u : Value} (r : Rep C H d v o) (h : clD d = some u) : ClsV v u := by
  match d, h with
  | .ty n, h => cases h; rw [r.1]; exact .ty n
  | .obj a, h => cases h; rw [r.1]; exact .own a
theorem cls_of {H : Hp} : ∀ {ds : List D} {vs : List V} {us : List Value}, RepW C H ds vs → clsD ds = some us → Paired ClsV vs us
  | [], vs, us, r, h => by
    cases h
    have := r.len
    match vs, this with
    | [], _ => exact .nil
  | d :: ds, vs, us, r, h => by
    simp only [clsD, Option.bind_eq_some_iff, Option.map_eq_some_iff] at h
    obtain ⟨c, h1, cs, h2, rfl⟩ := h
    obtain ⟨v, vs', o, rfl, r1, r2⟩ := r
    exact .cons (cl_of r1 h1) (cls_of r2 h2)
/-- isinstance(x, c) or isinstance(x, (c1, ..)) -/
def rIsQ (K : PySem.W.Frag) : List V → Hp → VK → Prop := fun xs H Q => ∃ (x : V) (tp : Addr) (cs : List V) (t : Value) (us : List Value) (b : Bool), xs = [x, .ref tp] ∧ SqT K H tp cs ∧ Paired ClsV cs us ∧ TyX K H x t ∧ PySem.W.kitAny K t us = some b ∧ Q (.bl b) H
theorem call_isQ : CallR X (.builtin "isinstance") (rIsQ X.K) := by
  intro pins s σ H xs us Q I r h
  obtain ⟨x, tp, cs, t, ws, b, rfl, hT, k, ty, e, q⟩ := h
  obtain ⟨u1, u2, rfl, r1, r2⟩ := vals2 r
  cases (show u2 = Value.ref tp from r2)
  obtain ⟨P, Z, p, hx⟩ := kit_of I r1 ty
  obtain ⟨its, rv, ⟨⟨oc, od, dt, sl⟩, ho, h2, n, h3⟩, _⟩ := I.tuple hT
  have e3 := ClsV.all k rv
  simp only at h2 h3
  subst e3 h2 h3
  exact PySem.W.kia_tup Z I.kIn p ho e hx fun tk => ⟨.bl b, H, I.tok tk, rfl, q⟩
abbrev rIsiA (K : PySem.W.Frag) : List V → Hp → VK → Prop := fun xs H Q => rIsi K xs H Q ∨ rIsQ K xs H Q
theorem call_isiA : CallR X (.builtin "isinstance") (rIsiA X.K) := fun pins s σ H xs us Q I r h => h.elim (call_isi pins s σ H xs us Q I r) (call_isQ pins s σ H xs us Q I r)
theorem vo_isi : VOn C (rIsiA C.K) (gIsi C.K) := by
  intro ds d vs H Q r hg q
  unfold gIsi at hg
  split at hg
  · rename_i x c
    simp only [Option.bind_eq_some_iff, Option.map_eq_some_iff] at hg
    obtain ⟨t, ht, b, hb, rfl⟩ := hg
    obtain ⟨v, w, o, p, rfl, rv, rw'⟩ := repw2 r
    have ty := tyX_of rv ht
    have fin := q (.bl b) H [] ⟨rfl, rfl⟩ Ext.refl (by simp)
    unfold isK at hb
    split at hb
    · simp only [Option.bind_eq_some_iff] at hb
      obtain ⟨us, h1, h2⟩ := hb
      obtain ⟨a, ws, rfl, hr, w⟩ := rw'.tupS
      exact .inr ⟨v, a, ws, _, us, b, rfl, hr, cls_of w h1, ty, h2, fin⟩
    · simp only [Option.bind_eq_some_iff] at hb
      obtain ⟨u, h1, h2⟩ := hb
      exact .inl ⟨v, w, _, u, b, rfl, cl_of rw' h1, ty, h2, fin⟩
  · cases hg
end
/-! ### slices, texts' methods -/
def cutL {α : Type} (xs : List α) (lo hi : Option Int) : List α := (xs.drop (HT.sIx xs.length 0 lo)).take (HT.sIx xs.length xs.length hi - HT.sIx xs.length 0 lo)
def gSl (d : D) (lo hi : Option Int) : Option D := match d with
  | .str x => if x.length ≤ sizeLine then some (.str (cutL x lo hi)) else none
  | .lst _ ds => if fzL ds = true then some (.lst true (cutL ds lo hi)) else none
  | .tup ds => if fzL ds = true then some (.tup (cutL ds lo hi)) else none
  | _ => none
structure SO (X : Cx) (C : RC) (e : Option Expr) (f : Env → Option (Option Int)) : Prop where
  ex : ∃ t, PO X e t ∧ ∀ ρ σ H own Q, ER C H ρ σ own → ∀ z, f ρ = some z → (∀ H', Ext H H' → Q z H') → t σ H Q
def oNone : Env → Option (Option Int) := fun _ => some none
def oSome (f : Env → Option D) : Env → Option (Option Int) := fun ρ => match f ρ with
  | some (.int i) => some (some i)
  | _ => none
def vSl (f : Env → Option D) (l h : Env → Option (Option Int)) : Env → Option D := fun ρ => (f ρ).bind fun d => (l ρ).bind fun lo => (h ρ).bind fun hi => gSl d lo hi
abbrev rSl (K : PySem.W.Frag) : V → Option Int → Option Int → Hp → VK → Prop := fun x lo hi H Q => rSlS x lo hi H Q ∨ rSlL K x lo hi H Q ∨ rSlA K x lo hi H Q
theorem sl_all {X : Cx} : SlR X (rSl X.K) := SlR.or sl_str (SlR.or sl_list sl_tupA)
section
variable {X : Cx} {W : WX} {C : RC} {e : Expr} {lo hi : Option Expr} {f : Env → Option D} {fl fh : Env → Option (Option Int)} {p2 pos : Pos}
theorem so_none : SO X C none oNone := ⟨_, po_none, fun ρ σ H own Q er z hz q => by
  cases hz
  exact q H Ext.refl⟩
theorem so_some (h : SV X C e f) : SO X C (some e) (oSome f) := by
  obtain ⟨t, p, s⟩ := h.ex
  refine ⟨_, po_some p, fun ρ σ H own Q er z hz q => ?_⟩
  unfold oSome at hz
  split at hz
  · rename_i i hi
    cases hz
    refine s ρ σ H own _ er _ hi fun v H' o r k => ?_
    exact ⟨i, r.1, q H' k⟩
  · cases hz
theorem RepL.cut {H : Hp} {ds : List D} {vs : List V} (lo hi : Option Int) (r : RepL C H ds vs []) : RepL C H (cutL ds lo hi) (cutV vs lo hi) [] := by
  unfold cutL cutV
  rw [r.len]
  exact RepL.take0 _ (RepL.drop0 _ r)
theorem cutL_whole {α : Type} {xs : List α} {lo hi : Option Int} (h : HT.sIx xs.length 0 lo = 0 ∧ HT.sIx xs.length xs.length hi = xs.length) : cutL xs lo hi = xs := by
  unfold cutL
  rw [h.1, h.2]
  simp
theorem snd_sl {H : Hp} {d d' : D} {v : V} {o : List Addr} {lo hi : Option Int} {Q : VK} (r : Rep C H d v o) (hg : gSl d lo hi = some d') (q : ∀ v' H' o', Rep C H' d' v' o' → Ext H H' → (∀ a ∈ o', H a = none) → Q v' H') : rSl C.K v lo hi H Q := by
  unfold gSl at hg
  split at hg
  · split at hg
    · rename_i hz
      cases hg
      rw [r.1]
      refine .inl ⟨_, rfl, by rw [sx_len]; exact hz, q _ _ [] ⟨?_, rfl⟩ Ext.refl (by simp)⟩
      unfold cutS cutL
      rw [sx_list, sx_len]
      rfl
    · cases hg
  · split at hg
    · rename_i hf
      cases hg
      obtain ⟨a, ws, rfl, hr, w⟩ := r.lstS
      exact .inr (.inl ⟨a, ws, rfl, .inl hr, fun p hp => q _ _ [p] (rep_new_lst ((w.fz hf).cut lo hi) hp) (Ext.new hp) (one_none hp)⟩)
    · cases hg
  · split at hg
    · rename_i hf
      cases hg
      obtain ⟨a, ws, rfl, hr, w⟩ := r.tupS
      have wl := w.len
      refine .inr (.inr ⟨a, ws, rfl, hr, fun hc => ?_, fun _ p hp => q _ _ [] (rep_new_tup ((w.fz hf).cut lo hi) hp) (Ext.new hp) (by simp)⟩)
      refine q _ _ [] ?_ Ext.refl (by simp)
      rw [cutL_whole (by rw [← wl]; exact hc)]
      exact ⟨a, ws, rfl, hr, w.fz hf⟩
    · cases hg
  · cases hg
theorem ext_trans {H1 H2 H3 : Hp} (a : Ext H1 H2) (b : Ext H2 H3) : Ext H1 H3 := fun x u z => b x u (a x u z)
theorem sl_core (hK : C.K = X.K) (he : SV X C e f) (hl : SO X C lo fl) (hh : SO X C hi fh) : ∃ t, PE X (.Subscript e (.Slice lo hi none p2) pos) t ∧ ∀ ρ σ H own Q, ER C H ρ σ own → ∀ d, vSl f fl fh ρ = some d → (∀ v H' o, Rep C H' d v o → Ext H H' → (∀ a ∈ o, H a = none) → Q v H') → t σ H Q := by
  obtain ⟨t, p, s⟩ := he.ex
  obtain ⟨tl, pl, sl⟩ := hl.ex
  obtain ⟨th, ph, sh⟩ := hh.ex
  refine ⟨_, pe_slice sl_all p pl ph, fun ρ σ H own Q er d hd q => ?_⟩
  simp only [vSl, Option.bind_eq_some_iff] at hd
  obtain ⟨d0, h1, zl, h2, zh, h3, h4⟩ := hd
  refine s ρ σ H own _ er d0 h1 fun v H1 o1 r1 k1 => ?_
  refine sl ρ σ H1 own _ (er.ext k1) zl h2 fun H2 k2 => ?_
  refine sh ρ σ H2 own _ ((er.ext k1).ext k2) zh h3 fun H3 k3 => ?_
  rw [← hK]
  refine snd_sl ((r1.ext k2).ext k3) h4 fun v' H' o' r' k' n' => q v' H' o' r' (ext_trans (ext_trans (ext_trans k1 k2) k3) k') fun a ha => ?_
  cases z : H a with
  | none => rfl
  | some u =>
    have n2 := n' a ha
    rw [k3 a u (k2 a u (k1 a u z))] at n2
    cases n2
theorem sv_sl (hK : C.K = X.K) (he : SV X C e f) (hl : SO X C lo fl) (hh : SO X C hi fh) : SV X C (.Subscript e (.Slice lo hi none p2) pos) (vSl f fl fh) := by
  obtain ⟨t, p, s⟩ := sl_core (p2 := p2) (pos := pos) hK he hl hh
  exact ⟨t, p, fun ρ σ H own Q er d hd q => s ρ σ H own Q er d hd fun v H' o r k _ => q v H' o r k⟩
theorem sev_sl (hK : C.K = X.K) (he : SV X C e f) (hl : SO X C lo fl) (hh : SO X C hi fh) : SE X W C (.Subscript e (.Slice lo hi none p2) pos) (eV (vSl f fl fh)) := by
  obtain ⟨t, p, s⟩ := sl_core (p2 := p2) (pos := pos) hK he hl hh
  refine ⟨t, p, fun ρ σ H own Q er hw => ?_⟩
  unfold eV ofO at hw
  split at hw
  · rename_i d hd
    exact s ρ σ H own Q er d hd fun v H' o r k n => fin_v hw er Ext.refl r k n
  · exact hw.elim
end
end Se

namespace Se
open PySem L2

/-! ### a text's method of one argument, of none -/
def eBm (g : List Nat → D → Option D) (f : Env → Option D) (mb : M D) : M D := fun ρ => match f ρ with
  | some (.str x) => (mb ρ).bind fun d ρ1 => ofO (g x d) ρ1
  | _ => .bad
def eBm0 (g : List Nat → Option D) (f : Env → Option D) : M D := fun ρ => match f ρ with
  | some (.str x) => ofO (g x) ρ
  | _ => .bad
abbrev VM1 (C : RC) (r : V → List V → Hp → VK → Prop) (g : List Nat → D → Option D) : Prop := ∀ (x : List Nat) (d2 d : D) (v2 : V) (H : Hp) (o2 : List Addr) (Q : VK), Rep C H d2 v2 o2 → g x d2 = some d →
  (∀ v H' o, Rep C H' d v o → Ext H H' → (∀ a ∈ o, H a = none) → Q v H') → r (.str (sx x)) [v2] H Q
abbrev VM0 (C : RC) (r : V → List V → Hp → VK → Prop) (g : List Nat → Option D) : Prop := ∀ (x : List Nat) (d : D) (H : Hp) (Q : VK), g x = some d →
  (∀ v H' o, Rep C H' d v o → Ext H H' → (∀ a ∈ o, H a = none) → Q v H') → r (.str (sx x)) [] H Q
section
variable {X : Cx} {W : WX} {C : RC} {e o a : Expr} {f : Env → Option D} {mb : M D} {r : V → List V → Hp → VK → Prop}
theorem se_bm {g : List Nat → D → Option D} (pe : ∀ to ta, PE X o to → PE X a ta → PE X e (tM1 r to ta)) (vm : VM1 C r g) (ho : SV X C o f) (ha : SE X W C a mb) : SE X W C e (eBm g f mb) := by
  obtain ⟨to, po, so⟩ := ho.ex
  obtain ⟨ta, pa, sa⟩ := ha.ex
  refine ⟨_, pe to ta po pa, fun ρ σ H own Q er hw => ?_⟩
  unfold eBm at hw
  split at hw
  · rename_i x hx
    refine so ρ σ H own _ er _ hx fun v H1 o1 r1 k1 => ⟨⟨_, r1.1⟩, ?_⟩
    have s0 : Stp H H1 own ([] ++ own) := ⟨fun b ob q _ => k1 b ob q, fun b z => .inl (by simpa using z)⟩
    refine sa ρ σ H1 own _ (er.ext k1) (poE_bind (P := fun r => PoE C W r σ H own Q) hw (fun z => z) (exE.at s0) fun d ρ1 v2 H2 o2 own2 r2 e2 j2 s2 hw2 => ?_)
    unfold ofO at hw2
    split at hw2
    · rename_i d' hd'
      rw [r1.1]
      refine vm x d d' v2 H2 o2 Q r2 hd' fun v' H' o' r' k' n' => hw2.fin (s0.trans s2 |> fun z => ?_) e2 j2 k' r' fun b hb => .inr (n' b hb)
      exact z
    · exact hw2.elim
  · exact hw.elim
theorem se_bm0 {g : List Nat → Option D} (pe : ∀ to, PE X o to → PE X e (tM0 r to)) (vm : VM0 C r g) (ho : SV X C o f) : SE X W C e (eBm0 g f) := by
  obtain ⟨to, po, so⟩ := ho.ex
  refine ⟨_, pe to po, fun ρ σ H own Q er hw => ?_⟩
  unfold eBm0 at hw
  split at hw
  · rename_i x hx
    refine so ρ σ H own _ er _ hx fun v H1 o1 r1 k1 => ⟨⟨_, r1.1⟩, ?_⟩
    unfold ofO at hw
    split at hw
    · rename_i d' hd'
      rw [r1.1]
      exact vm x d' H1 Q hd' fun v' H' o' r' k' n' => fin_v hw er k1 r' k' n'
    · exact hw.elim
  · exact hw.elim
end
def gSplit (x : List Nat) : D → Option D
  | .str b => if b ≠ [] ∧ b.all (· < 256) = true ∧ x.length + 2 ≤ sizeLine then some (.lst true ((TL.spl b 0 [] x).map D.str)) else none
  | _ => none
def strsD : List D → Option (List (List Nat))
  | [] => some []
  | .str x :: ds => (strsD ds).map fun r => x :: r
  | _ => none
def joinD (a : List Nat) (ds : List D) : Option D := (strsD ds).bind fun ys => if (ys.map (·.length)).sum + ys.length * a.length ≤ 16777216 then some (.str (TL.joinL a ys)) else none
def gJoin (a : List Nat) : D → Option D
  | .lst _ ds => joinD a ds
  | .tup ds => joinD a ds
  | _ => none
section
variable {X : Cx} {C : RC}
theorem strs_rep {H : Hp} : ∀ (ys : List (List Nat)), RepL C H (ys.map D.str) (ys.map fun y => V.str (sx y)) []
  | [] => ⟨rfl, rfl⟩
  | y :: ys => ⟨_, _, [], [], rfl, ⟨rfl, rfl⟩, strs_rep ys, by simp, rfl⟩
theorem strs_of {H : Hp} : ∀ {ds : List D} {vs : List V} {ys : List (List Nat)}, RepW C H ds vs → strsD ds = some ys → vs = (ys.map sx).map V.str
  | [], vs, ys, r, h => by cases h; cases r; rfl
  | d :: ds, vs, ys, r, h => by
    obtain ⟨v, vs', o, rfl, r1, r2⟩ := r
    match d, h with
    | .str x, h =>
      simp only [strsD, Option.map_eq_some_iff] at h
      obtain ⟨zs, h1, rfl⟩ := h
      rw [r1.1, strs_of r2 h1]
      rfl
abbrev rSplit : V → List V → Hp → VK → Prop := fun x xs H Q => ∃ a b, x = .str a ∧ xs = [.str b] ∧ (b.length == 0) = false ∧ a.length + 2 ≤ sizeLine ∧ rNewStrs (Txt.split a b) H Q
theorem vm_split : VM1 C rSplit gSplit := by
  intro x d2 d v2 H o2 Q r hg q
  unfold gSplit at hg
  split at hg
  · split at hg
    · rename_i hc
      cases hg
      rw [r.1]
      refine ⟨_, _, rfl, rfl, ?_, by rw [sx_len]; exact hc.2.2, fun p hp => ?_⟩
      · rename_i b
        rw [sx_len]
        cases b with
        | nil => exact absurd rfl hc.1
        | cons c b => rfl
      · rw [show Txt.split (sx x) (sx _) = _ from SX.split_S hc.1 hc.2.1, List.map_map]
        exact q _ _ [p] (rep_new_lst (strs_rep _) hp) (Ext.new hp) (one_none hp)
    · cases hg
  · cases hg
abbrev rJoinA (K : PySem.W.Frag) : V → List V → Hp → VK → Prop := fun x xs H Q => ∃ a p, ∃ ys : List Str, x = .str a ∧ xs = [.ref p] ∧ (SqL K H p (ys.map V.str) ∨ SqT K H p (ys.map V.str)) ∧
      (ys.map (·.length)).sum + ys.length * a.length ≤ 16777216 ∧ Q (.str (Txt.join a ys)) H
theorem vm_join : VM1 C (rJoinA C.K) gJoin := by
  intro x d2 d v2 H o2 Q r hg q
  have core : ∀ {ds : List D} {ws : List V} {p : Addr}, RepW C H ds ws → joinD x ds = some d → v2 = .ref p → (SqL C.K H p ws ∨ SqT C.K H p ws) → rJoinA C.K (.str (sx x)) [v2] H Q := fun {ds ws p} w h ev hs => by
    simp only [joinD, Option.bind_eq_some_iff] at h
    obtain ⟨ys, h1, h2⟩ := h
    split at h2
    · rename_i hz
      cases h2
      have e := strs_of w h1
      subst e
      refine ⟨_, p, ys.map sx, rfl, by rw [ev], hs, ?_, q _ _ [] ⟨?_, rfl⟩ Ext.refl (by simp)⟩
      · rw [List.map_map, List.length_map, sx_len, show (ys.map ((fun z : Str => z.length) ∘ sx)) = ys.map (·.length) from List.map_congr_left fun y _ => sx_len y]
        exact hz
      · rw [show Txt.join (sx x) (ys.map sx) = _ from SX.join_S x ys]
        rfl
    · cases h2
  unfold gJoin at hg
  split at hg
  · obtain ⟨a, ws, e, hr, w⟩ := r.lstS
    exact core w hg e (.inl (.inl hr))
  · obtain ⟨a, ws, e, hr, w⟩ := r.tupS
    exact core w hg e (.inr hr)
  · cases hg
/-! ### * -/
def repD {α : Type} (k : Nat) (xs : List α) : List α := (List.replicate k xs).flatten
def gMulA : D → D → Option D
  | .int i, .int j => if CMulA i j then some (.int (i * j)) else none
  | .str x, .int k => if -(2 ^ 63) ≤ k ∧ k < 2 ^ 63 ∧ x.length * k.toNat ≤ sizeLine then some (.str (repD k.toNat x)) else none
  | .lst true ds, .int k => if fzL ds = true ∧ -(2 ^ 63) ≤ k ∧ k < 2 ^ 63 ∧ ds.length * k.toNat ≤ sizeLine then some (.lst true (repD k.toNat ds)) else none
  | .tup ds, .int k => if fzL ds = true ∧ ds ≠ [] ∧ 2 ≤ k ∧ k ≤ 1000 ∧ ds.length ≤ 1000 then some (.tup (repD k.toNat ds)) else none
  | _, _ => none
abbrev rMulA (K : PySem.W.Frag) : R2 := fun x y H Q => rI CMul (fun i j => .int (i * j)) x y H Q ∨ rI CMulW (fun i j => .int (i * j)) x y H Q ∨ rMulS x y H Q ∨ rRep x y H Q ∨ rRepT K x y H Q
theorem op_mulA : OpR X (binaryOp .Mult) (rMulA X.K) := OpR.or op_mul (OpR.or op_mulW (OpR.or op_mulS (OpR.or op_rep op_repT)))
theorem vo_mul : VO2 C (rMulA C.K) gMulA := by
  intro d1 d2 d v1 v2 H o1 o2 Q r1 r2 hg q
  unfold gMulA at hg
  split at hg
  · split at hg
    · rename_i hc
      cases hg
      rw [r1.1, r2.1]
      have z := q _ H [] ⟨rfl, rfl⟩ Ext.refl (by simp)
      rcases hc with hc | hc
      · exact .inl ⟨_, _, rfl, rfl, hc, z⟩
      · exact .inr (.inl ⟨_, _, rfl, rfl, hc, z⟩)
    · cases hg
  · split at hg
    · rename_i hc
      cases hg
      rw [r1.1, r2.1]
      refine .inr (.inr (.inl ⟨_, _, rfl, rfl, hc.1, hc.2.1, by rw [sx_len]; exact hc.2.2, q _ H [] ⟨?_, rfl⟩ Ext.refl (by simp)⟩))
      unfold strRep repD
      rw [sx_list]
      rfl
    · cases hg
  · split at hg
    · rename_i hc
      cases hg
      rw [r2.1]
      obtain ⟨a, vs, o', rfl, hr, rl, _⟩ := r1
      refine .inr (.inr (.inr (.inl ⟨a, _, vs, rfl, rfl, hr, hc.2.1, hc.2.2.1, by rw [rl.len]; exact hc.2.2.2, fun p hp => ?_⟩)))
      exact q _ _ [p] (rep_new_lst (RepL.rep _ (rl.w.fz hc.1)) hp) (Ext.new hp) (one_none hp)
    · cases hg
  · split at hg
    · rename_i hc
      cases hg
      rw [r2.1]
      obtain ⟨a, ws, rfl, hr, w⟩ := r1.tupS
      refine .inr (.inr (.inr (.inr ⟨a, _, ws, rfl, rfl, hr, fun z => ?_, hc.2.2.1, hc.2.2.2.1, by rw [w.len]; exact hc.2.2.2.2, fun p hp => ?_⟩)))
      · have := w.len
        rw [z] at this
        rename_i ds k
        cases ds with
        | nil => exact hc.2.1 rfl
        | cons _ _ => cases this
      · exact q _ _ [] (rep_new_tup (RepL.rep _ (w.fz hc.1)) hp) (Ext.new hp) (by simp)
    · cases hg
  · cases hg
end
/-! ### x op= e, over integers -/
def sAug (i : Nat) (g : Int → Int → Int) (me : M D) : MS := fun ρ => match (ρ[i]?).join with
  | some (.int a) => match me ρ with
    | .ok (.int b) ρ1 => if i < ρ1.length then .nx (ρ1.set i (some (.int (g a b)))) else .bad
    | .ex e ρ1 => .ex e ρ1
    | _ => .bad
  | _ => .bad
section
variable {X : Cx} {W : WX} {C : RC} {B : List Nat}
theorem ss_aug {i : Nat} {x : Str} {e : Expr} {op : Operator} {g : Int → Int → Int} {p pos : Pos} {me : M D} (pe : ∀ te, PE X e te → PS X (.AugAssign (.Name x p) op e pos) (tAug i te (ipI g))) (he : SE X W C e me) (hB : i ∉ B) : SS X W C B (.AugAssign (.Name x p) op e pos) (sAug i g me) := by
  obtain ⟨t, pt, st⟩ := he.ex
  refine ⟨_, pe t pt, fun ρ σ H own Dn er hw => ?_⟩
  unfold sAug at hw
  split at hw
  · rename_i a ha
    obtain ⟨v, o, own1, e1, r, _⟩ := er.take (join_some ha)
    refine ⟨v, e1, st ρ σ H own _ er ?_⟩
    rw [r.1]
    cases hm : me ρ with
    | bad => rw [hm] at hw; exact hw.elim
    | ex e ρ1 =>
      rw [hm] at hw
      intro cls d H' own' x er' st'
      exact hw cls d σ H' own' x er' st' fun _ _ => rfl
    | ok d ρ1 =>
      rw [hm] at hw
      intro v2 H1 o2 own2 r2 e2 j2 s2
      cases d with
      | int b =>
        dsimp only at hw
        split at hw
        · rename_i hl
          refine ⟨a, b, rfl, r2.1, ?_⟩
          obtain ⟨own3, e3, m3⟩ := e2.set (d := .int (g a b)) (v := .int (g a b)) (o := []) hl ⟨rfl, rfl⟩ (by simp)
          refine hw _ H1 own3 e3 (s2.less fun b hb => List.mem_append_right _ ((m3 b hb).resolve_left (by simp))) fun k hk => ?_
          rw [List.getElem?_set_ne (fun z => hB (by rw [z]; exact hk))]
        · exact hw.elim
      | _ => exact hw.elim
  · exact hw.elim
end
end Se

namespace Se
open PySem L2
/-! short names for the rules; printed by genQ.py -/
abbrev KX (X : Cx) (z : Option (Addr × Addr × Addr)) : RC := ⟨X.K, z⟩
section
variable {X : Cx} {W : WX} {z : Option (Addr × Addr × Addr)} {a b : Expr} {pos : Pos} {fa fb : Env → Option D} {ma mb : M D}
theorem vv_of {C : RC} {r : R2} {g : D → D → Option D} (vo : VO2 C r g) : VV2 C r g := fun d1 d2 d v1 v2 H o1 o2 Q r1 r2 hg q => vo d1 d2 d v1 v2 H o1 o2 Q r1 r2 hg fun v H' o r k _ => q v H' o r k

theorem sv_add (ha : SV X (KX X z) a fa) (hb : SV X (KX X z) b fb) : SV X (KX X z) (.BinOp a .Add b pos) (vOp2 gAdd fa fb) := sv_op2 (fun _ _ p q => pe_op op_addA p q) (vv_of vo_add) ha hb
theorem sev_add (ha : SV X (KX X z) a fa) (hb : SV X (KX X z) b fb) : SE X W (KX X z) (.BinOp a .Add b pos) (eV (vOp2 gAdd fa fb)) := sev_op2 (fun _ _ p q => pe_op op_addA p q) vo_add ha hb
theorem se_add (ha : SE X W (KX X z) a ma) (hb : SE X W (KX X z) b mb) : SE X W (KX X z) (.BinOp a .Add b pos) (eOp2 gAdd ma mb) := se_op2 (fun _ _ p q => pe_op op_addA p q) vo_add ha hb
theorem sv_sub (ha : SV X (KX X z) a fa) (hb : SV X (KX X z) b fb) : SV X (KX X z) (.BinOp a .Sub b pos) (vOp2 gSub fa fb) := sv_op2 (fun _ _ p q => pe_op op_sub p q) (vv_of vo_sub) ha hb
theorem sev_sub (ha : SV X (KX X z) a fa) (hb : SV X (KX X z) b fb) : SE X W (KX X z) (.BinOp a .Sub b pos) (eV (vOp2 gSub fa fb)) := sev_op2 (fun _ _ p q => pe_op op_sub p q) vo_sub ha hb
theorem se_sub (ha : SE X W (KX X z) a ma) (hb : SE X W (KX X z) b mb) : SE X W (KX X z) (.BinOp a .Sub b pos) (eOp2 gSub ma mb) := se_op2 (fun _ _ p q => pe_op op_sub p q) vo_sub ha hb
theorem sv_mul (ha : SV X (KX X z) a fa) (hb : SV X (KX X z) b fb) : SV X (KX X z) (.BinOp a .Mult b pos) (vOp2 gMulA fa fb) := sv_op2 (fun _ _ p q => pe_op op_mulA p q) (vv_of vo_mul) ha hb
theorem sev_mul (ha : SV X (KX X z) a fa) (hb : SV X (KX X z) b fb) : SE X W (KX X z) (.BinOp a .Mult b pos) (eV (vOp2 gMulA fa fb)) := sev_op2 (fun _ _ p q => pe_op op_mulA p q) vo_mul ha hb
theorem se_mul (ha : SE X W (KX X z) a ma) (hb : SE X W (KX X z) b mb) : SE X W (KX X z) (.BinOp a .Mult b pos) (eOp2 gMulA ma mb) := se_op2 (fun _ _ p q => pe_op op_mulA p q) vo_mul ha hb
theorem sv_div (ha : SV X (KX X z) a fa) (hb : SV X (KX X z) b fb) : SV X (KX X z) (.BinOp a .FloorDiv b pos) (vOp2 gDiv fa fb) := sv_op2 (fun _ _ p q => pe_op op_divA p q) (vv_of vo_div) ha hb
theorem sev_div (ha : SV X (KX X z) a fa) (hb : SV X (KX X z) b fb) : SE X W (KX X z) (.BinOp a .FloorDiv b pos) (eV (vOp2 gDiv fa fb)) := sev_op2 (fun _ _ p q => pe_op op_divA p q) vo_div ha hb
theorem se_div (ha : SE X W (KX X z) a ma) (hb : SE X W (KX X z) b mb) : SE X W (KX X z) (.BinOp a .FloorDiv b pos) (eOp2 gDiv ma mb) := se_op2 (fun _ _ p q => pe_op op_divA p q) vo_div ha hb
theorem sv_mod (ha : SV X (KX X z) a fa) (hb : SV X (KX X z) b fb) : SV X (KX X z) (.BinOp a .Mod b pos) (vOp2 gMod fa fb) := sv_op2 (fun _ _ p q => pe_op op_mod p q) (vv_of vo_mod) ha hb
theorem sev_mod (ha : SV X (KX X z) a fa) (hb : SV X (KX X z) b fb) : SE X W (KX X z) (.BinOp a .Mod b pos) (eV (vOp2 gMod fa fb)) := sev_op2 (fun _ _ p q => pe_op op_mod p q) vo_mod ha hb
theorem se_mod (ha : SE X W (KX X z) a ma) (hb : SE X W (KX X z) b mb) : SE X W (KX X z) (.BinOp a .Mod b pos) (eOp2 gMod ma mb) := se_op2 (fun _ _ p q => pe_op op_mod p q) vo_mod ha hb
theorem sv_pow (ha : SV X (KX X z) a fa) (hb : SV X (KX X z) b fb) : SV X (KX X z) (.BinOp a .Pow b pos) (vOp2 gPow fa fb) := sv_op2 (fun _ _ p q => pe_op op_pow p q) (vv_of vo_pow) ha hb
theorem sev_pow (ha : SV X (KX X z) a fa) (hb : SV X (KX X z) b fb) : SE X W (KX X z) (.BinOp a .Pow b pos) (eV (vOp2 gPow fa fb)) := sev_op2 (fun _ _ p q => pe_op op_pow p q) vo_pow ha hb
theorem se_pow (ha : SE X W (KX X z) a ma) (hb : SE X W (KX X z) b mb) : SE X W (KX X z) (.BinOp a .Pow b pos) (eOp2 gPow ma mb) := se_op2 (fun _ _ p q => pe_op op_pow p q) vo_pow ha hb
theorem sv_eq (hu : X.A.units + 64 < cLine) (ha : SV X (KX X z) a fa) (hb : SV X (KX X z) b fb) (hm : behindInMarks .Eq b = false := by first | exact nobehind _ (by decide) (by decide) | rfl) : SV X (KX X z) (.Compare a [.Eq] [b] pos) (vOp2 gEq fa fb) := sv_op2 (fun _ _ p q => pe_cmpR (op_eqA hu) p q hm) (vv_of vo_eq) ha hb
theorem sev_eq (hu : X.A.units + 64 < cLine) (ha : SV X (KX X z) a fa) (hb : SV X (KX X z) b fb) (hm : behindInMarks .Eq b = false := by first | exact nobehind _ (by decide) (by decide) | rfl) : SE X W (KX X z) (.Compare a [.Eq] [b] pos) (eV (vOp2 gEq fa fb)) := sev_op2 (fun _ _ p q => pe_cmpR (op_eqA hu) p q hm) vo_eq ha hb
theorem se_eq (hu : X.A.units + 64 < cLine) (ha : SE X W (KX X z) a ma) (hb : SE X W (KX X z) b mb) (hm : behindInMarks .Eq b = false := by first | exact nobehind _ (by decide) (by decide) | rfl) : SE X W (KX X z) (.Compare a [.Eq] [b] pos) (eOp2 gEq ma mb) := se_op2 (fun _ _ p q => pe_cmpR (op_eqA hu) p q hm) vo_eq ha hb
theorem stv_eq (hu : X.A.units + 64 < cLine) (ha : SV X (KX X z) a fa) (hb : SV X (KX X z) b fb) (hm : behindInMarks .Eq b = false := by first | exact nobehind _ (by decide) (by decide) | rfl) : ST X W (KX X z) (.Compare a [.Eq] [b] pos) (Se.tB (eV (vOp2 gEq fa fb))) := stv_op2 (fun _ _ p q => pt_cmpR (op_eqA hu) p q hm) vo_eq ha hb
theorem st_eq (hu : X.A.units + 64 < cLine) (ha : SE X W (KX X z) a ma) (hb : SE X W (KX X z) b mb) (hm : behindInMarks .Eq b = false := by first | exact nobehind _ (by decide) (by decide) | rfl) : ST X W (KX X z) (.Compare a [.Eq] [b] pos) (Se.tB (eOp2 gEq ma mb)) := st_op2 (fun _ _ p q => pt_cmpR (op_eqA hu) p q hm) vo_eq ha hb
theorem sv_ne (hu : X.A.units + 64 < cLine) (ha : SV X (KX X z) a fa) (hb : SV X (KX X z) b fb) (hm : behindInMarks .NotEq b = false := by first | exact nobehind _ (by decide) (by decide) | rfl) : SV X (KX X z) (.Compare a [.NotEq] [b] pos) (vOp2 gNe fa fb) := sv_op2 (fun _ _ p q => pe_cmpR (op_neA hu) p q hm) (vv_of vo_ne) ha hb
theorem sev_ne (hu : X.A.units + 64 < cLine) (ha : SV X (KX X z) a fa) (hb : SV X (KX X z) b fb) (hm : behindInMarks .NotEq b = false := by first | exact nobehind _ (by decide) (by decide) | rfl) : SE X W (KX X z) (.Compare a [.NotEq] [b] pos) (eV (vOp2 gNe fa fb)) := sev_op2 (fun _ _ p q => pe_cmpR (op_neA hu) p q hm) vo_ne ha hb
theorem se_ne (hu : X.A.units + 64 < cLine) (ha : SE X W (KX X z) a ma) (hb : SE X W (KX X z) b mb) (hm : behindInMarks .NotEq b = false := by first | exact nobehind _ (by decide) (by decide) | rfl) : SE X W (KX X z) (.Compare a [.NotEq] [b] pos) (eOp2 gNe ma mb) := se_op2 (fun _ _ p q => pe_cmpR (op_neA hu) p q hm) vo_ne ha hb
theorem stv_ne (hu : X.A.units + 64 < cLine) (ha : SV X (KX X z) a fa) (hb : SV X (KX X z) b fb) (hm : behindInMarks .NotEq b = false := by first | exact nobehind _ (by decide) (by decide) | rfl) : ST X W (KX X z) (.Compare a [.NotEq] [b] pos) (Se.tB (eV (vOp2 gNe fa fb))) := stv_op2 (fun _ _ p q => pt_cmpR (op_neA hu) p q hm) vo_ne ha hb
theorem st_ne (hu : X.A.units + 64 < cLine) (ha : SE X W (KX X z) a ma) (hb : SE X W (KX X z) b mb) (hm : behindInMarks .NotEq b = false := by first | exact nobehind _ (by decide) (by decide) | rfl) : ST X W (KX X z) (.Compare a [.NotEq] [b] pos) (Se.tB (eOp2 gNe ma mb)) := st_op2 (fun _ _ p q => pt_cmpR (op_neA hu) p q hm) vo_ne ha hb
theorem sv_lt (ha : SV X (KX X z) a fa) (hb : SV X (KX X z) b fb) (hm : behindInMarks .Lt b = false := by first | exact nobehind _ (by decide) (by decide) | rfl) : SV X (KX X z) (.Compare a [.Lt] [b] pos) (vOp2 (gCmp fun i j => decide (i < j)) fa fb) := sv_op2 (fun _ _ p q => pe_cmpR op_lt p q hm) (vv_of (vo_cmp _)) ha hb
theorem sev_lt (ha : SV X (KX X z) a fa) (hb : SV X (KX X z) b fb) (hm : behindInMarks .Lt b = false := by first | exact nobehind _ (by decide) (by decide) | rfl) : SE X W (KX X z) (.Compare a [.Lt] [b] pos) (eV (vOp2 (gCmp fun i j => decide (i < j)) fa fb)) := sev_op2 (fun _ _ p q => pe_cmpR op_lt p q hm) (vo_cmp _) ha hb
theorem se_lt (ha : SE X W (KX X z) a ma) (hb : SE X W (KX X z) b mb) (hm : behindInMarks .Lt b = false := by first | exact nobehind _ (by decide) (by decide) | rfl) : SE X W (KX X z) (.Compare a [.Lt] [b] pos) (eOp2 (gCmp fun i j => decide (i < j)) ma mb) := se_op2 (fun _ _ p q => pe_cmpR op_lt p q hm) (vo_cmp _) ha hb
theorem stv_lt (ha : SV X (KX X z) a fa) (hb : SV X (KX X z) b fb) (hm : behindInMarks .Lt b = false := by first | exact nobehind _ (by decide) (by decide) | rfl) : ST X W (KX X z) (.Compare a [.Lt] [b] pos) (Se.tB (eV (vOp2 (gCmp fun i j => decide (i < j)) fa fb))) := stv_op2 (fun _ _ p q => pt_cmpR op_lt p q hm) (vo_cmp _) ha hb
theorem st_lt (ha : SE X W (KX X z) a ma) (hb : SE X W (KX X z) b mb) (hm : behindInMarks .Lt b = false := by first | exact nobehind _ (by decide) (by decide) | rfl) : ST X W (KX X z) (.Compare a [.Lt] [b] pos) (Se.tB (eOp2 (gCmp fun i j => decide (i < j)) ma mb)) := st_op2 (fun _ _ p q => pt_cmpR op_lt p q hm) (vo_cmp _) ha hb
theorem sv_le (ha : SV X (KX X z) a fa) (hb : SV X (KX X z) b fb) (hm : behindInMarks .LtE b = false := by first | exact nobehind _ (by decide) (by decide) | rfl) : SV X (KX X z) (.Compare a [.LtE] [b] pos) (vOp2 (gCmp fun i j => decide (i ≤ j)) fa fb) := sv_op2 (fun _ _ p q => pe_cmpR op_le p q hm) (vv_of (vo_cmp _)) ha hb
theorem sev_le (ha : SV X (KX X z) a fa) (hb : SV X (KX X z) b fb) (hm : behindInMarks .LtE b = false := by first | exact nobehind _ (by decide) (by decide) | rfl) : SE X W (KX X z) (.Compare a [.LtE] [b] pos) (eV (vOp2 (gCmp fun i j => decide (i ≤ j)) fa fb)) := sev_op2 (fun _ _ p q => pe_cmpR op_le p q hm) (vo_cmp _) ha hb
theorem se_le (ha : SE X W (KX X z) a ma) (hb : SE X W (KX X z) b mb) (hm : behindInMarks .LtE b = false := by first | exact nobehind _ (by decide) (by decide) | rfl) : SE X W (KX X z) (.Compare a [.LtE] [b] pos) (eOp2 (gCmp fun i j => decide (i ≤ j)) ma mb) := se_op2 (fun _ _ p q => pe_cmpR op_le p q hm) (vo_cmp _) ha hb
theorem stv_le (ha : SV X (KX X z) a fa) (hb : SV X (KX X z) b fb) (hm : behindInMarks .LtE b = false := by first | exact nobehind _ (by decide) (by decide) | rfl) : ST X W (KX X z) (.Compare a [.LtE] [b] pos) (Se.tB (eV (vOp2 (gCmp fun i j => decide (i ≤ j)) fa fb))) := stv_op2 (fun _ _ p q => pt_cmpR op_le p q hm) (vo_cmp _) ha hb
theorem st_le (ha : SE X W (KX X z) a ma) (hb : SE X W (KX X z) b mb) (hm : behindInMarks .LtE b = false := by first | exact nobehind _ (by decide) (by decide) | rfl) : ST X W (KX X z) (.Compare a [.LtE] [b] pos) (Se.tB (eOp2 (gCmp fun i j => decide (i ≤ j)) ma mb)) := st_op2 (fun _ _ p q => pt_cmpR op_le p q hm) (vo_cmp _) ha hb
theorem sv_gt (ha : SV X (KX X z) a fa) (hb : SV X (KX X z) b fb) (hm : behindInMarks .Gt b = false := by first | exact nobehind _ (by decide) (by decide) | rfl) : SV X (KX X z) (.Compare a [.Gt] [b] pos) (vOp2 (gCmp fun i j => decide (i > j)) fa fb) := sv_op2 (fun _ _ p q => pe_cmpR op_gt p q hm) (vv_of (vo_cmp _)) ha hb
theorem sev_gt (ha : SV X (KX X z) a fa) (hb : SV X (KX X z) b fb) (hm : behindInMarks .Gt b = false := by first | exact nobehind _ (by decide) (by decide) | rfl) : SE X W (KX X z) (.Compare a [.Gt] [b] pos) (eV (vOp2 (gCmp fun i j => decide (i > j)) fa fb)) := sev_op2 (fun _ _ p q => pe_cmpR op_gt p q hm) (vo_cmp _) ha hb
theorem se_gt (ha : SE X W (KX X z) a ma) (hb : SE X W (KX X z) b mb) (hm : behindInMarks .Gt b = false := by first | exact nobehind _ (by decide) (by decide) | rfl) : SE X W (KX X z) (.Compare a [.Gt] [b] pos) (eOp2 (gCmp fun i j => decide (i > j)) ma mb) := se_op2 (fun _ _ p q => pe_cmpR op_gt p q hm) (vo_cmp _) ha hb
theorem stv_gt (ha : SV X (KX X z) a fa) (hb : SV X (KX X z) b fb) (hm : behindInMarks .Gt b = false := by first | exact nobehind _ (by decide) (by decide) | rfl) : ST X W (KX X z) (.Compare a [.Gt] [b] pos) (Se.tB (eV (vOp2 (gCmp fun i j => decide (i > j)) fa fb))) := stv_op2 (fun _ _ p q => pt_cmpR op_gt p q hm) (vo_cmp _) ha hb
theorem st_gt (ha : SE X W (KX X z) a ma) (hb : SE X W (KX X z) b mb) (hm : behindInMarks .Gt b = false := by first | exact nobehind _ (by decide) (by decide) | rfl) : ST X W (KX X z) (.Compare a [.Gt] [b] pos) (Se.tB (eOp2 (gCmp fun i j => decide (i > j)) ma mb)) := st_op2 (fun _ _ p q => pt_cmpR op_gt p q hm) (vo_cmp _) ha hb
theorem sv_ge (ha : SV X (KX X z) a fa) (hb : SV X (KX X z) b fb) (hm : behindInMarks .GtE b = false := by first | exact nobehind _ (by decide) (by decide) | rfl) : SV X (KX X z) (.Compare a [.GtE] [b] pos) (vOp2 (gCmp fun i j => decide (i ≥ j)) fa fb) := sv_op2 (fun _ _ p q => pe_cmpR op_ge p q hm) (vv_of (vo_cmp _)) ha hb
theorem sev_ge (ha : SV X (KX X z) a fa) (hb : SV X (KX X z) b fb) (hm : behindInMarks .GtE b = false := by first | exact nobehind _ (by decide) (by decide) | rfl) : SE X W (KX X z) (.Compare a [.GtE] [b] pos) (eV (vOp2 (gCmp fun i j => decide (i ≥ j)) fa fb)) := sev_op2 (fun _ _ p q => pe_cmpR op_ge p q hm) (vo_cmp _) ha hb
theorem se_ge (ha : SE X W (KX X z) a ma) (hb : SE X W (KX X z) b mb) (hm : behindInMarks .GtE b = false := by first | exact nobehind _ (by decide) (by decide) | rfl) : SE X W (KX X z) (.Compare a [.GtE] [b] pos) (eOp2 (gCmp fun i j => decide (i ≥ j)) ma mb) := se_op2 (fun _ _ p q => pe_cmpR op_ge p q hm) (vo_cmp _) ha hb
theorem stv_ge (ha : SV X (KX X z) a fa) (hb : SV X (KX X z) b fb) (hm : behindInMarks .GtE b = false := by first | exact nobehind _ (by decide) (by decide) | rfl) : ST X W (KX X z) (.Compare a [.GtE] [b] pos) (Se.tB (eV (vOp2 (gCmp fun i j => decide (i ≥ j)) fa fb))) := stv_op2 (fun _ _ p q => pt_cmpR op_ge p q hm) (vo_cmp _) ha hb
theorem st_ge (ha : SE X W (KX X z) a ma) (hb : SE X W (KX X z) b mb) (hm : behindInMarks .GtE b = false := by first | exact nobehind _ (by decide) (by decide) | rfl) : ST X W (KX X z) (.Compare a [.GtE] [b] pos) (Se.tB (eOp2 (gCmp fun i j => decide (i ≥ j)) ma mb)) := st_op2 (fun _ _ p q => pt_cmpR op_ge p q hm) (vo_cmp _) ha hb
theorem sv_in (ha : SV X (KX X z) a fa) (hb : SV X (KX X z) b fb) (hm : behindInMarks .In b = false := by first | exact nobehind _ (by decide) (by decide) | rfl) : SV X (KX X z) (.Compare a [.In] [b] pos) (vOp2 gIn fa fb) := sv_op2 (fun _ _ p q => pe_cmpR op_inA p q hm) (vv_of vo_in) ha hb
theorem sev_in (ha : SV X (KX X z) a fa) (hb : SV X (KX X z) b fb) (hm : behindInMarks .In b = false := by first | exact nobehind _ (by decide) (by decide) | rfl) : SE X W (KX X z) (.Compare a [.In] [b] pos) (eV (vOp2 gIn fa fb)) := sev_op2 (fun _ _ p q => pe_cmpR op_inA p q hm) vo_in ha hb
theorem se_in (ha : SE X W (KX X z) a ma) (hb : SE X W (KX X z) b mb) (hm : behindInMarks .In b = false := by first | exact nobehind _ (by decide) (by decide) | rfl) : SE X W (KX X z) (.Compare a [.In] [b] pos) (eOp2 gIn ma mb) := se_op2 (fun _ _ p q => pe_cmpR op_inA p q hm) vo_in ha hb
theorem stv_in (ha : SV X (KX X z) a fa) (hb : SV X (KX X z) b fb) (hm : behindInMarks .In b = false := by first | exact nobehind _ (by decide) (by decide) | rfl) : ST X W (KX X z) (.Compare a [.In] [b] pos) (Se.tB (eV (vOp2 gIn fa fb))) := stv_op2 (fun _ _ p q => pt_cmpR op_inA p q hm) vo_in ha hb
theorem st_in (ha : SE X W (KX X z) a ma) (hb : SE X W (KX X z) b mb) (hm : behindInMarks .In b = false := by first | exact nobehind _ (by decide) (by decide) | rfl) : ST X W (KX X z) (.Compare a [.In] [b] pos) (Se.tB (eOp2 gIn ma mb)) := st_op2 (fun _ _ p q => pt_cmpR op_inA p q hm) vo_in ha hb
theorem sv_nin (ha : SV X (KX X z) a fa) (hb : SV X (KX X z) b fb) (hm : behindInMarks .NotIn b = false := by first | exact nobehind _ (by decide) (by decide) | rfl) : SV X (KX X z) (.Compare a [.NotIn] [b] pos) (vOp2 gNin fa fb) := sv_op2 (fun _ _ p q => pe_cmpR op_ninA p q hm) (vv_of vo_nin) ha hb
theorem sev_nin (ha : SV X (KX X z) a fa) (hb : SV X (KX X z) b fb) (hm : behindInMarks .NotIn b = false := by first | exact nobehind _ (by decide) (by decide) | rfl) : SE X W (KX X z) (.Compare a [.NotIn] [b] pos) (eV (vOp2 gNin fa fb)) := sev_op2 (fun _ _ p q => pe_cmpR op_ninA p q hm) vo_nin ha hb
theorem se_nin (ha : SE X W (KX X z) a ma) (hb : SE X W (KX X z) b mb) (hm : behindInMarks .NotIn b = false := by first | exact nobehind _ (by decide) (by decide) | rfl) : SE X W (KX X z) (.Compare a [.NotIn] [b] pos) (eOp2 gNin ma mb) := se_op2 (fun _ _ p q => pe_cmpR op_ninA p q hm) vo_nin ha hb
theorem stv_nin (ha : SV X (KX X z) a fa) (hb : SV X (KX X z) b fb) (hm : behindInMarks .NotIn b = false := by first | exact nobehind _ (by decide) (by decide) | rfl) : ST X W (KX X z) (.Compare a [.NotIn] [b] pos) (Se.tB (eV (vOp2 gNin fa fb))) := stv_op2 (fun _ _ p q => pt_cmpR op_ninA p q hm) vo_nin ha hb
theorem st_nin (ha : SE X W (KX X z) a ma) (hb : SE X W (KX X z) b mb) (hm : behindInMarks .NotIn b = false := by first | exact nobehind _ (by decide) (by decide) | rfl) : ST X W (KX X z) (.Compare a [.NotIn] [b] pos) (Se.tB (eOp2 gNin ma mb)) := st_op2 (fun _ _ p q => pt_cmpR op_ninA p q hm) vo_nin ha hb
theorem sv_is (ha : SV X (KX X z) a fa) (hb : SV X (KX X z) b fb) (hm : behindInMarks .Is b = false := by first | exact nobehind _ (by decide) (by decide) | rfl) : SV X (KX X z) (.Compare a [.Is] [b] pos) (vOp2 gIs fa fb) := sv_op2 (fun _ _ p q => pe_cmpR op_isA p q hm) (vv_of vo_is) ha hb
theorem sev_is (ha : SV X (KX X z) a fa) (hb : SV X (KX X z) b fb) (hm : behindInMarks .Is b = false := by first | exact nobehind _ (by decide) (by decide) | rfl) : SE X W (KX X z) (.Compare a [.Is] [b] pos) (eV (vOp2 gIs fa fb)) := sev_op2 (fun _ _ p q => pe_cmpR op_isA p q hm) vo_is ha hb
theorem se_is (ha : SE X W (KX X z) a ma) (hb : SE X W (KX X z) b mb) (hm : behindInMarks .Is b = false := by first | exact nobehind _ (by decide) (by decide) | rfl) : SE X W (KX X z) (.Compare a [.Is] [b] pos) (eOp2 gIs ma mb) := se_op2 (fun _ _ p q => pe_cmpR op_isA p q hm) vo_is ha hb
theorem stv_is (ha : SV X (KX X z) a fa) (hb : SV X (KX X z) b fb) (hm : behindInMarks .Is b = false := by first | exact nobehind _ (by decide) (by decide) | rfl) : ST X W (KX X z) (.Compare a [.Is] [b] pos) (Se.tB (eV (vOp2 gIs fa fb))) := stv_op2 (fun _ _ p q => pt_cmpR op_isA p q hm) vo_is ha hb
theorem st_is (ha : SE X W (KX X z) a ma) (hb : SE X W (KX X z) b mb) (hm : behindInMarks .Is b = false := by first | exact nobehind _ (by decide) (by decide) | rfl) : ST X W (KX X z) (.Compare a [.Is] [b] pos) (Se.tB (eOp2 gIs ma mb)) := st_op2 (fun _ _ p q => pt_cmpR op_isA p q hm) vo_is ha hb
theorem sv_isn (ha : SV X (KX X z) a fa) (hb : SV X (KX X z) b fb) (hm : behindInMarks .IsNot b = false := by first | exact nobehind _ (by decide) (by decide) | rfl) : SV X (KX X z) (.Compare a [.IsNot] [b] pos) (vOp2 gIsn fa fb) := sv_op2 (fun _ _ p q => pe_cmpR op_isnA p q hm) (vv_of vo_isn) ha hb
theorem sev_isn (ha : SV X (KX X z) a fa) (hb : SV X (KX X z) b fb) (hm : behindInMarks .IsNot b = false := by first | exact nobehind _ (by decide) (by decide) | rfl) : SE X W (KX X z) (.Compare a [.IsNot] [b] pos) (eV (vOp2 gIsn fa fb)) := sev_op2 (fun _ _ p q => pe_cmpR op_isnA p q hm) vo_isn ha hb
theorem se_isn (ha : SE X W (KX X z) a ma) (hb : SE X W (KX X z) b mb) (hm : behindInMarks .IsNot b = false := by first | exact nobehind _ (by decide) (by decide) | rfl) : SE X W (KX X z) (.Compare a [.IsNot] [b] pos) (eOp2 gIsn ma mb) := se_op2 (fun _ _ p q => pe_cmpR op_isnA p q hm) vo_isn ha hb
theorem stv_isn (ha : SV X (KX X z) a fa) (hb : SV X (KX X z) b fb) (hm : behindInMarks .IsNot b = false := by first | exact nobehind _ (by decide) (by decide) | rfl) : ST X W (KX X z) (.Compare a [.IsNot] [b] pos) (Se.tB (eV (vOp2 gIsn fa fb))) := stv_op2 (fun _ _ p q => pt_cmpR op_isnA p q hm) vo_isn ha hb
theorem st_isn (ha : SE X W (KX X z) a ma) (hb : SE X W (KX X z) b mb) (hm : behindInMarks .IsNot b = false := by first | exact nobehind _ (by decide) (by decide) | rfl) : ST X W (KX X z) (.Compare a [.IsNot] [b] pos) (Se.tB (eOp2 gIsn ma mb)) := st_op2 (fun _ _ p q => pt_cmpR op_isnA p q hm) vo_isn ha hb

/-! subscripts -/
theorem sv_ix (ha : SV X (KX X z) a fa) (hb : SV X (KX X z) b fb) (hs : PlainIx b := by exact fun _ _ => rfl) : SV X (KX X z) (.Subscript a b pos) (vOp2 ixv fa fb) := sv_op2 (fun _ _ p q => pe_ix ix_seq p q hs) vv_ix ha hb
theorem sev_ix (ha : SV X (KX X z) a fa) (hb : SV X (KX X z) b fb) (hs : PlainIx b := by exact fun _ _ => rfl) : SE X W (KX X z) (.Subscript a b pos) (eV (vOp2 gIx fa fb)) := sev_op2 (fun _ _ p q => pe_ix ix_seq p q hs) vo_ix ha hb
theorem se_ix (ha : SE X W (KX X z) a ma) (hb : SE X W (KX X z) b mb) (hs : PlainIx b := by exact fun _ _ => rfl) : SE X W (KX X z) (.Subscript a b pos) (eOp2 gIx ma mb) := se_op2 (fun _ _ p q => pe_ix ix_seq p q hs) vo_ix ha hb
theorem se_ixn {i : Nat} {x : Str} {p : Pos} (hv : PE X (.Name x p) (tVar i)) (hb : SE X W (KX X z) b mb) (hs : PlainIx b := by exact fun _ _ => rfl) : SE X W (KX X z) (.Subscript (.Name x p) b pos) (eIxVar gIx i mb) := se_ixvar hv (fun _ _ p q => pe_ix ix_seq p q hs) vo_ix hb
/-! minus -/
theorem sv_neg (ha : SV X (KX X z) a fa) : SV X (KX X z) (.UnaryOp .USub a pos) (vOp1 gNeg fa) := sv_op1 (fun _ p => pe_un un_neg p) vo_neg ha
theorem sev_neg (ha : SV X (KX X z) a fa) : SE X W (KX X z) (.UnaryOp .USub a pos) (eV (vOp1 gNeg fa)) := sev_op1 (fun _ p => pe_un un_neg p) vo_neg ha
theorem se_neg (ha : SE X W (KX X z) a ma) : SE X W (KX X z) (.UnaryOp .USub a pos) (eOp1 gNeg ma) := se_op1 (fun _ p => pe_un un_neg p) vo_neg ha
/-! truth -/
theorem stv_t {e : Expr} {f : Env → Option D} (h : SV X (KX X z) e f) (he : ∀ whole, isTrue e X.env whole = (do let v ← whole; standAt e.pos; holding [v] (truthy v)) := by intro _; rfl) : ST X W (KX X z) e (tV f) := stv_tru he rfl h
theorem st_t {e : Expr} (h : SE X W (KX X z) e ma) (he : ∀ whole, isTrue e X.env whole = (do let v ← whole; standAt e.pos; holding [v] (truthy v)) := by intro _; rfl) : ST X W (KX X z) e (tE ma) := st_tru he rfl h
/-! a name's slot; a global text, integer, class -/
theorem nm {i : Nat} {x : Str} {p : Pos} (hN : X.N[i]? = some x := by rfl) (hv : Vis X.env.scope x := by first | exact .inl rfl | exact .inr (.inl rfl) | exact .inr (.inr rfl)) (hd : (x == ("__debug__" : Str)) = false := by decide) (hc : (x == ("__classdict__" : Str)) = false := by decide) : PE X (.Name x p) (tVar i) := pe_var hN hv hd hc
theorem sv_n {i : Nat} {x : Str} {p : Pos} (hN : X.N[i]? = some x := by rfl) (hv : Vis X.env.scope x := by first | exact .inl rfl | exact .inr (.inl rfl) | exact .inr (.inr rfl)) (hd : (x == ("__debug__" : Str)) = false := by decide) (hc : (x == ("__classdict__" : Str)) = false := by decide) : SV X (KX X z) (.Name x p) (vVar i) := sv_var (pe_var hN hv hd hc)
theorem se_n {i : Nat} {x : Str} {p : Pos} (hN : X.N[i]? = some x := by rfl) (hv : Vis X.env.scope x := by first | exact .inl rfl | exact .inr (.inl rfl) | exact .inr (.inr rfl)) (hd : (x == ("__debug__" : Str)) = false := by decide) (hc : (x == ("__classdict__" : Str)) = false := by decide) : SE X W (KX X z) (.Name x p) (eVar i) := se_var (pe_var hN hv hd hc)
theorem se_m {i : Nat} {x : Str} {p : Pos} (hN : X.N[i]? = some x := by rfl) (hv : Vis X.env.scope x := by first | exact .inl rfl | exact .inr (.inl rfl) | exact .inr (.inr rfl)) (hd : (x == ("__debug__" : Str)) = false := by decide) (hc : (x == ("__classdict__" : Str)) = false := by decide) : SE X W (KX X z) (.Name x p) (eMove i) := se_move (pe_var hN hv hd hc)
theorem sp_n {i : Nat} {x : Str} {p : Pos} (hN : X.N[i]? = some x := by rfl) (hv : Vis X.env.scope x := by first | exact .inl rfl | exact .inr (.inl rfl) | exact .inr (.inr rfl)) (hd : (x == ("__debug__" : Str)) = false := by decide) (hc : (x == ("__classdict__" : Str)) = false := by decide) : SP X (KX X z) (.Name x p) (pVar i) := sp_var (pe_var hN hv hd hc)
theorem gt_s {x : Str} {p : Pos} {l : List Nat} (h : ∃ t, X.mg x = some (.str (sx l) t)) (hg : Gl X x := by rfl) (hd : (x == ("__debug__" : Str)) = false := by decide) : PE X (.Name x p) (tC (.str (sx l))) := by
  obtain ⟨t, h⟩ := h
  exact pe_glob hg h ⟨t, rfl⟩ hd
theorem sv_gs {x : Str} {p : Pos} {l : List Nat} (h : ∃ t, X.mg x = some (.str (sx l) t)) (hg : Gl X x := by rfl) (hd : (x == ("__debug__" : Str)) = false := by decide) : SV X (KX X z) (.Name x p) (vLit (.str l)) := sv_c (gt_s h hg hd) fun _ => ⟨rfl, rfl⟩
theorem se_gs {x : Str} {p : Pos} {l : List Nat} (h : ∃ t, X.mg x = some (.str (sx l) t)) (hg : Gl X x := by rfl) (hd : (x == ("__debug__" : Str)) = false := by decide) : SE X W (KX X z) (.Name x p) (eLit (.str l)) := se_c (gt_s h hg hd) fun _ => ⟨rfl, rfl⟩
theorem gt_i {x : Str} {p : Pos} {i : Int} (h : ∃ t, X.mg x = some (.int i t)) (hg : Gl X x) (hd : (x == ("__debug__" : Str)) = false := by decide) : PE X (.Name x p) (tC (.int i)) := by
  obtain ⟨t, h⟩ := h
  exact pe_glob hg h ⟨t, rfl⟩ hd
theorem sv_gi {x : Str} {p : Pos} {i : Int} (h : ∃ t, X.mg x = some (.int i t)) (hg : Gl X x := by rfl) (hd : (x == ("__debug__" : Str)) = false := by decide) : SV X (KX X z) (.Name x p) (vLit (.int i)) := sv_c (gt_i h hg hd) fun _ => ⟨rfl, rfl⟩
theorem se_gi {x : Str} {p : Pos} {i : Int} (h : ∃ t, X.mg x = some (.int i t)) (hg : Gl X x := by rfl) (hd : (x == ("__debug__" : Str)) = false := by decide) : SE X W (KX X z) (.Name x p) (eLit (.int i)) := se_c (gt_i h hg hd) fun _ => ⟨rfl, rfl⟩
theorem sv_gc {x : Str} {p : Pos} {c : Addr} (h : X.mg x = some (.ref c)) (hg : Gl X x := by rfl) (hd : (x == ("__debug__" : Str)) = false := by decide) : SV X (KX X z) (.Name x p) (vLit (.obj c)) := sv_c (v := .ref c) (pe_glob hg h rfl hd) fun _ => ⟨rfl, rfl⟩
theorem sv_bt {x : Str} {n : String} {p : Pos} (hm : X.mg x = none) (hv : bootBuiltins x = some (.type n)) (hg : Gl X x := by rfl) (hn : x ≠ "__name__" := by decide) (hd : (x == ("__debug__" : Str)) = false := by decide) : SV X (KX X z) (.Name x p) (vLit (.ty n)) := sv_ty hg hm hv hn hd

theorem sv_clen {es : List Expr} {p : Pos} {fs : Env → Option (List D)} (hm : X.mg "len" = none) (ha : SW X (KX X z) (a :: es) fs) (hg : Gl X "len" := by rfl) (he : starEach (a :: es) X.env = (false, eval a X.env) :: starEach es X.env := by rfl) (hp : (backTo pos (starEach es X.env)).any (·.1) = false := by rfl) : SV X (KX X z) (.Call (.Name "len" p) (a :: es) [] pos) (vOpn gLen fs) := sv_opn (fun _ q => pe_callB call_len hg hm PyProof.Rows.Boot.«len» q (by decide) (by decide) he hp) vo_len ha
theorem sev_clen {es : List Expr} {p : Pos} {fs : Env → Option (List D)} (hm : X.mg "len" = none) (ha : SW X (KX X z) (a :: es) fs) (hg : Gl X "len" := by rfl) (he : starEach (a :: es) X.env = (false, eval a X.env) :: starEach es X.env := by rfl) (hp : (backTo pos (starEach es X.env)).any (·.1) = false := by rfl) : SE X W (KX X z) (.Call (.Name "len" p) (a :: es) [] pos) (eV (vOpn gLen fs)) := sev_opn (fun _ q => pe_callB call_len hg hm PyProof.Rows.Boot.«len» q (by decide) (by decide) he hp) vo_len ha
theorem se_clen {es : List Expr} {p : Pos} {ms : M (List D)} (hm : X.mg "len" = none) (ha : SA X W (KX X z) (a :: es) ms) (hg : Gl X "len" := by rfl) (he : starEach (a :: es) X.env = (false, eval a X.env) :: starEach es X.env := by rfl) (hp : (backTo pos (starEach es X.env)).any (·.1) = false := by rfl) : SE X W (KX X z) (.Call (.Name "len" p) (a :: es) [] pos) (eOpn gLen ms) := se_opn (fun _ q => pe_callB call_len hg hm PyProof.Rows.Boot.«len» q (by decide) (by decide) he hp) vo_len ha
theorem sv_cabs {es : List Expr} {p : Pos} {fs : Env → Option (List D)} (hm : X.mg "abs" = none) (ha : SW X (KX X z) (a :: es) fs) (hg : Gl X "abs" := by rfl) (he : starEach (a :: es) X.env = (false, eval a X.env) :: starEach es X.env := by rfl) (hp : (backTo pos (starEach es X.env)).any (·.1) = false := by rfl) : SV X (KX X z) (.Call (.Name "abs" p) (a :: es) [] pos) (vOpn gAbs fs) := sv_opn (fun _ q => pe_callB call_abs hg hm PyProof.Rows.Boot.«abs» q (by decide) (by decide) he hp) vo_abs ha
theorem sev_cabs {es : List Expr} {p : Pos} {fs : Env → Option (List D)} (hm : X.mg "abs" = none) (ha : SW X (KX X z) (a :: es) fs) (hg : Gl X "abs" := by rfl) (he : starEach (a :: es) X.env = (false, eval a X.env) :: starEach es X.env := by rfl) (hp : (backTo pos (starEach es X.env)).any (·.1) = false := by rfl) : SE X W (KX X z) (.Call (.Name "abs" p) (a :: es) [] pos) (eV (vOpn gAbs fs)) := sev_opn (fun _ q => pe_callB call_abs hg hm PyProof.Rows.Boot.«abs» q (by decide) (by decide) he hp) vo_abs ha
theorem se_cabs {es : List Expr} {p : Pos} {ms : M (List D)} (hm : X.mg "abs" = none) (ha : SA X W (KX X z) (a :: es) ms) (hg : Gl X "abs" := by rfl) (he : starEach (a :: es) X.env = (false, eval a X.env) :: starEach es X.env := by rfl) (hp : (backTo pos (starEach es X.env)).any (·.1) = false := by rfl) : SE X W (KX X z) (.Call (.Name "abs" p) (a :: es) [] pos) (eOpn gAbs ms) := se_opn (fun _ q => pe_callB call_abs hg hm PyProof.Rows.Boot.«abs» q (by decide) (by decide) he hp) vo_abs ha
theorem sv_cisi {es : List Expr} {p : Pos} {fs : Env → Option (List D)} (hm : X.mg "isinstance" = none) (ha : SW X (KX X z) (a :: es) fs) (hg : Gl X "isinstance" := by rfl) (he : starEach (a :: es) X.env = (false, eval a X.env) :: starEach es X.env := by rfl) (hp : (backTo pos (starEach es X.env)).any (·.1) = false := by rfl) : SV X (KX X z) (.Call (.Name "isinstance" p) (a :: es) [] pos) (vOpn (gIsi X.K) fs) := sv_opn (fun _ q => pe_callB call_isiA hg hm PyProof.Rows.Boot.«isinstance» q (by decide) (by decide) he hp) vo_isi ha
theorem sev_cisi {es : List Expr} {p : Pos} {fs : Env → Option (List D)} (hm : X.mg "isinstance" = none) (ha : SW X (KX X z) (a :: es) fs) (hg : Gl X "isinstance" := by rfl) (he : starEach (a :: es) X.env = (false, eval a X.env) :: starEach es X.env := by rfl) (hp : (backTo pos (starEach es X.env)).any (·.1) = false := by rfl) : SE X W (KX X z) (.Call (.Name "isinstance" p) (a :: es) [] pos) (eV (vOpn (gIsi X.K) fs)) := sev_opn (fun _ q => pe_callB call_isiA hg hm PyProof.Rows.Boot.«isinstance» q (by decide) (by decide) he hp) vo_isi ha
theorem se_cisi {es : List Expr} {p : Pos} {ms : M (List D)} (hm : X.mg "isinstance" = none) (ha : SA X W (KX X z) (a :: es) ms) (hg : Gl X "isinstance" := by rfl) (he : starEach (a :: es) X.env = (false, eval a X.env) :: starEach es X.env := by rfl) (hp : (backTo pos (starEach es X.env)).any (·.1) = false := by rfl) : SE X W (KX X z) (.Call (.Name "isinstance" p) (a :: es) [] pos) (eOpn (gIsi X.K) ms) := se_opn (fun _ q => pe_callB call_isiA hg hm PyProof.Rows.Boot.«isinstance» q (by decide) (by decide) he hp) vo_isi ha
theorem sv_cint {es : List Expr} {p : Pos} {fs : Env → Option (List D)} (hm : X.mg "int" = none) (ha : SW X (KX X z) (a :: es) fs) (hg : Gl X "int" := by rfl) (he : starEach (a :: es) X.env = (false, eval a X.env) :: starEach es X.env := by rfl) (hp : (backTo pos (starEach es X.env)).any (·.1) = false := by rfl) : SV X (KX X z) (.Call (.Name "int" p) (a :: es) [] pos) (vOpn gInt fs) := sv_opn (fun _ q => pe_callTy call_int1 hg hm PyProof.Rows.Boot.«int» q (by decide) (by decide) he hp) vo_int1 ha
theorem sev_cint {es : List Expr} {p : Pos} {fs : Env → Option (List D)} (hm : X.mg "int" = none) (ha : SW X (KX X z) (a :: es) fs) (hg : Gl X "int" := by rfl) (he : starEach (a :: es) X.env = (false, eval a X.env) :: starEach es X.env := by rfl) (hp : (backTo pos (starEach es X.env)).any (·.1) = false := by rfl) : SE X W (KX X z) (.Call (.Name "int" p) (a :: es) [] pos) (eV (vOpn gInt fs)) := sev_opn (fun _ q => pe_callTy call_int1 hg hm PyProof.Rows.Boot.«int» q (by decide) (by decide) he hp) vo_int1 ha
theorem se_cint {es : List Expr} {p : Pos} {ms : M (List D)} (hm : X.mg "int" = none) (ha : SA X W (KX X z) (a :: es) ms) (hg : Gl X "int" := by rfl) (he : starEach (a :: es) X.env = (false, eval a X.env) :: starEach es X.env := by rfl) (hp : (backTo pos (starEach es X.env)).any (·.1) = false := by rfl) : SE X W (KX X z) (.Call (.Name "int" p) (a :: es) [] pos) (eOpn gInt ms) := se_opn (fun _ q => pe_callTy call_int1 hg hm PyProof.Rows.Boot.«int» q (by decide) (by decide) he hp) vo_int1 ha
theorem sv_ctuple {es : List Expr} {p : Pos} {fs : Env → Option (List D)} (hm : X.mg "tuple" = none) (ha : SW X (KX X z) (a :: es) fs) (hg : Gl X "tuple" := by rfl) (he : starEach (a :: es) X.env = (false, eval a X.env) :: starEach es X.env := by rfl) (hp : (backTo pos (starEach es X.env)).any (·.1) = false := by rfl) : SV X (KX X z) (.Call (.Name "tuple" p) (a :: es) [] pos) (vOpn gTup fs) := sv_opn (fun _ q => pe_callTy call_tuple_of hg hm PyProof.Rows.Boot.«tuple» q (by decide) (by decide) he hp) vo_tup ha
theorem sev_ctuple {es : List Expr} {p : Pos} {fs : Env → Option (List D)} (hm : X.mg "tuple" = none) (ha : SW X (KX X z) (a :: es) fs) (hg : Gl X "tuple" := by rfl) (he : starEach (a :: es) X.env = (false, eval a X.env) :: starEach es X.env := by rfl) (hp : (backTo pos (starEach es X.env)).any (·.1) = false := by rfl) : SE X W (KX X z) (.Call (.Name "tuple" p) (a :: es) [] pos) (eV (vOpn gTup fs)) := sev_opn (fun _ q => pe_callTy call_tuple_of hg hm PyProof.Rows.Boot.«tuple» q (by decide) (by decide) he hp) vo_tup ha
theorem se_ctuple {es : List Expr} {p : Pos} {ms : M (List D)} (hm : X.mg "tuple" = none) (ha : SA X W (KX X z) (a :: es) ms) (hg : Gl X "tuple" := by rfl) (he : starEach (a :: es) X.env = (false, eval a X.env) :: starEach es X.env := by rfl) (hp : (backTo pos (starEach es X.env)).any (·.1) = false := by rfl) : SE X W (KX X z) (.Call (.Name "tuple" p) (a :: es) [] pos) (eOpn gTup ms) := se_opn (fun _ q => pe_callTy call_tuple_of hg hm PyProof.Rows.Boot.«tuple» q (by decide) (by decide) he hp) vo_tup ha
theorem sv_clist {es : List Expr} {p : Pos} {fs : Env → Option (List D)} (hm : X.mg "list" = none) (ha : SW X (KX X z) (a :: es) fs) (hg : Gl X "list" := by rfl) (he : starEach (a :: es) X.env = (false, eval a X.env) :: starEach es X.env := by rfl) (hp : (backTo pos (starEach es X.env)).any (·.1) = false := by rfl) : SV X (KX X z) (.Call (.Name "list" p) (a :: es) [] pos) (vOpn gLst fs) := sv_opn (fun _ q => pe_callTy call_list_of hg hm PyProof.Rows.Boot.«list» q (by decide) (by decide) he hp) vo_lst ha
theorem sev_clist {es : List Expr} {p : Pos} {fs : Env → Option (List D)} (hm : X.mg "list" = none) (ha : SW X (KX X z) (a :: es) fs) (hg : Gl X "list" := by rfl) (he : starEach (a :: es) X.env = (false, eval a X.env) :: starEach es X.env := by rfl) (hp : (backTo pos (starEach es X.env)).any (·.1) = false := by rfl) : SE X W (KX X z) (.Call (.Name "list" p) (a :: es) [] pos) (eV (vOpn gLst fs)) := sev_opn (fun _ q => pe_callTy call_list_of hg hm PyProof.Rows.Boot.«list» q (by decide) (by decide) he hp) vo_lst ha
theorem se_clist {es : List Expr} {p : Pos} {ms : M (List D)} (hm : X.mg "list" = none) (ha : SA X W (KX X z) (a :: es) ms) (hg : Gl X "list" := by rfl) (he : starEach (a :: es) X.env = (false, eval a X.env) :: starEach es X.env := by rfl) (hp : (backTo pos (starEach es X.env)).any (·.1) = false := by rfl) : SE X W (KX X z) (.Call (.Name "list" p) (a :: es) [] pos) (eOpn gLst ms) := se_opn (fun _ q => pe_callTy call_list_of hg hm PyProof.Rows.Boot.«list» q (by decide) (by decide) he hp) vo_lst ha
theorem sv_cstr {es : List Expr} {p : Pos} {fs : Env → Option (List D)} (hm : X.mg "str" = none) (ha : SW X (KX X z) (a :: es) fs) (hg : Gl X "str" := by rfl) (he : starEach (a :: es) X.env = (false, eval a X.env) :: starEach es X.env := by rfl) (hp : (backTo pos (starEach es X.env)).any (·.1) = false := by rfl) : SV X (KX X z) (.Call (.Name "str" p) (a :: es) [] pos) (vOpn gStr fs) := sv_opn (fun _ q => pe_callTy call_strA hg hm PyProof.Rows.Boot.«str» q (by decide) (by decide) he hp) vo_str ha
theorem sev_cstr {es : List Expr} {p : Pos} {fs : Env → Option (List D)} (hm : X.mg "str" = none) (ha : SW X (KX X z) (a :: es) fs) (hg : Gl X "str" := by rfl) (he : starEach (a :: es) X.env = (false, eval a X.env) :: starEach es X.env := by rfl) (hp : (backTo pos (starEach es X.env)).any (·.1) = false := by rfl) : SE X W (KX X z) (.Call (.Name "str" p) (a :: es) [] pos) (eV (vOpn gStr fs)) := sev_opn (fun _ q => pe_callTy call_strA hg hm PyProof.Rows.Boot.«str» q (by decide) (by decide) he hp) vo_str ha
theorem se_cstr {es : List Expr} {p : Pos} {ms : M (List D)} (hm : X.mg "str" = none) (ha : SA X W (KX X z) (a :: es) ms) (hg : Gl X "str" := by rfl) (he : starEach (a :: es) X.env = (false, eval a X.env) :: starEach es X.env := by rfl) (hp : (backTo pos (starEach es X.env)).any (·.1) = false := by rfl) : SE X W (KX X z) (.Call (.Name "str" p) (a :: es) [] pos) (eOpn gStr ms) := se_opn (fun _ q => pe_callTy call_strA hg hm PyProof.Rows.Boot.«str» q (by decide) (by decide) he hp) vo_str ha
end
end Se

namespace Se
open PySem L2

/-! ### isinstance of the handled exception -/
def excB (K : PySem.W.Frag) (c : Addr) : Bool := (PySem.W.clsIn K c).isSome && decide (PySem.W.findIn K (.ref c) "__getattribute__" = some (some (.builtin "BaseException.__getattribute__"))) && decide (PySem.W.findIn K (.ref c) "__getattr__" = some none) &&
  decide (PySem.W.subIn K (.ref c) (.type "BaseException") = some true) && decide (PySem.W.findIn K (.ref c) "__class__" = some (some (.builtin "object.__class__"))) && decide (PySem.W.specialIn K (.builtin "object.__class__") "__get__" = some (some (.builtin "getset_descriptor.__get__"))) &&
  decide (PySem.W.takesIn K (.builtin "object.__class__") = some true) && decide (PySem.W.mroIn K c (.type "object") = some true)
def gIsX (K : PySem.W.Frag) : List D → Option D
  | [.exc c _ _, y] => if excB K c = true then (isK K (.ref c) y).map D.bl else none
  | _ => none
def rIsX (K : PySem.W.Frag) (a c dd : Addr) : List V → Hp → VK → Prop := fun xs H Q => ∃ (y : V) (b : Bool) (fs : List (Str × V)), xs = [.ref a, y] ∧ H dd = some (.xd fs) ∧
  ((∃ u, ClsV y u ∧ PySem.W.kitOne K (.ref c) u = some b) ∨ ∃ (tp : Addr) (cs : List V) (us : List Value), y = .ref tp ∧ SqT K H tp cs ∧ Paired ClsV cs us ∧ PySem.W.kitAny K (.ref c) us = some b) ∧ Q (.bl b) H
section
variable {X : Cx} {a c dd : Addr} {oe : Obj} {pn : List (Addr × Obj)}
theorem call_isX (hb : excB X.K c = true) (h : Sut X a c dd (X.suite a ((a, oe) :: pn))) : CallR (X.suite a ((a, oe) :: pn)) (.builtin "isinstance") (rIsX X.K a c dd) := by
  intro pins s σ H xs us Q I r q
  obtain ⟨y, b, fs, rfl, hd, hy, q⟩ := q
  obtain ⟨u1, u2, rfl, r1, r2⟩ := vals2 r
  cases (show u1 = Value.ref a from r1)
  obtain ⟨hz, vs, hf⟩ := h.zn
  obtain ⟨ha, _⟩ := I.pin (a, oe) (List.mem_append_left _ List.mem_cons_self)
  have hx : ObjOk X.prog X.w H s.heap dd (.xd fs) := I.hok dd _ hd
  obtain ⟨mA, hns, _⟩ := hx
  obtain ⟨od, ho, _⟩ := lookIn_ns hns
  have J : PySem.W.InstAt s.heap a oe c (some od) := ⟨ha, hz.1, by unfold PySem.W.notCls; rw [hf] <;> rfl, by rw [hz.2]; exact ho⟩
  simp only [excB, Bool.and_eq_true, decide_eq_true_eq] at hb
  obtain ⟨⟨⟨⟨⟨⟨⟨b1, b2⟩, b3⟩, b4⟩, b5⟩, b6⟩, b7⟩, b8⟩ := hb
  have Z := PySem.W.kitx_exc (x := a) (ox := oe) (od := some od) b1 b2 b3 b4 b5 b6 b7 b8
  rcases hy with ⟨u, k, e⟩ | ⟨tp, cs, ws, rfl, hT, k, e⟩
  · have e2 := k.eq r2
    subst e2
    exact PySem.W.kia_one Z I.kIn J e (fun z => nomatch z) fun tk => ⟨.bl b, H, I.tok tk, rfl, q⟩
  · cases (show u2 = Value.ref tp from r2)
    obtain ⟨its, rv, ⟨⟨oc, od, dt, sl⟩, ho, h2, n, h3⟩, _⟩ := I.tuple hT
    have e3 := ClsV.all k rv
    simp only at h2 h3
    subst e3 h2 h3
    exact PySem.W.kia_tup Z I.kIn J ho e (fun z => nomatch z) fun tk => ⟨.bl b, H, I.tok tk, rfl, q⟩
theorem vo_isX : VOn (Cs X.K a c dd) (rIsX X.K a c dd) (gIsX X.K) := by
  intro ds d vs H Q r hg q
  unfold gIsX at hg
  split at hg
  · split at hg
    · simp only [Option.map_eq_some_iff] at hg
      obtain ⟨b, hb, rfl⟩ := hg
      obtain ⟨v, w, o, p, rfl, rv, rw'⟩ := repw2 r
      obtain ⟨a1, d2, ws, rfl, e2, e3, _⟩ := rv
      cases e2
      have fin := q (.bl b) H [] ⟨rfl, rfl⟩ Ext.refl (by simp)
      unfold isK at hb
      split at hb
      · simp only [Option.bind_eq_some_iff] at hb
        obtain ⟨us, h1, h2⟩ := hb
        obtain ⟨tp, zs, rfl, hr, w⟩ := rw'.tupS
        exact ⟨_, b, _, rfl, e3, .inr ⟨tp, zs, us, rfl, hr, cls_of w h1, h2⟩, fin⟩
      · simp only [Option.bind_eq_some_iff] at hb
        obtain ⟨u, h1, h2⟩ := hb
        exact ⟨_, b, _, rfl, e3, .inl ⟨u, cl_of rw' h1, h2⟩, fin⟩
    · cases hg
  · cases hg
theorem sv_isX {e : Expr} {es : List Expr} {p pos : Pos} {fs : Env → Option (List D)} (h : Sut X a c dd (X.suite a ((a, oe) :: pn))) (hm : X.mg "isinstance" = none) (ha : SW (X.suite a ((a, oe) :: pn)) (Cs X.K a c dd) (e :: es) fs) (hg : Gl X "isinstance" := by rfl)
    (he : starEach (e :: es) X.env = (false, eval e X.env) :: starEach es X.env := by rfl) (hp : (backTo pos (starEach es X.env)).any (·.1) = false := by rfl) : SV (X.suite a ((a, oe) :: pn)) (Cs X.K a c dd) (.Call (.Name "isinstance" p) (e :: es) [] pos) (vOpn (gIsX X.K) fs) := by
  by_cases hb : excB X.K c = true
  · exact sv_opn (fun _ q => pe_callB (call_isX hb h) hg hm PyProof.Rows.Boot.«isinstance» q (by decide) (by decide) he hp) vo_isX ha
  · obtain ⟨t, pt, st⟩ := ha.ex
    refine ⟨tCB (fun xs H Q => False) t, ⟨fun pins s σ H Q I z => ?_⟩, fun ρ σ H own Q er d hd hw => ?_⟩
    · exact (pe_callB (X := X.suite a ((a, oe) :: pn)) (r := fun _ _ _ => False) (fun _ _ _ _ _ _ _ _ _ z => z.elim) hg hm PyProof.Rows.Boot.«isinstance» pt (by decide) (by decide) he hp).run pins s σ H Q I z
    · simp only [vOpn, Option.bind_eq_some_iff] at hd
      obtain ⟨ds, h1, h2⟩ := hd
      refine st ρ σ H own _ er ds h1 fun vs H1 r1 k1 => ?_
      unfold gIsX at h2
      split at h2
      · split at h2
        · rename_i hh
          obtain ⟨v, w, o, p, rfl, rv, rw'⟩ := repw2 r1
          obtain ⟨a1, d2, ws, rfl, e2, _⟩ := rv
          cases e2
          exact hb hh
        · cases h2
      · cases h2
end

/-! ### methods of lists and texts -/
def vBm (g : List Nat → D → Option D) (f fa : Env → Option D) : Env → Option D := fun ρ => (f ρ).bind fun d => match d with
  | .str x => (fa ρ).bind (g x)
  | _ => none
def vBm0 (g : List Nat → Option D) (f : Env → Option D) : Env → Option D := fun ρ => (f ρ).bind fun d => match d with
  | .str x => g x
  | _ => none
section
variable {X : Cx} {W : WX} {C : RC} {e o a : Expr} {f fa : Env → Option D} {r : V → List V → Hp → VK → Prop}
theorem bm_core {g : List Nat → D → Option D} (pe : ∀ to ta, PE X o to → PE X a ta → PE X e (tM1 r to ta)) (vm : VM1 C r g) (ho : SV X C o f) (ha : SV X C a fa) : ∃ t, PE X e t ∧ ∀ ρ σ H own Q, ER C H ρ σ own → ∀ d, vBm g f fa ρ = some d →
    (∀ v H' o, Rep C H' d v o → Ext H H' → (∀ a ∈ o, H a = none) → Q v H') → t σ H Q := by
  obtain ⟨to, po, so⟩ := ho.ex
  obtain ⟨ta, pa, sa⟩ := ha.ex
  refine ⟨_, pe to ta po pa, fun ρ σ H own Q er d hd q => ?_⟩
  simp only [vBm, Option.bind_eq_some_iff] at hd
  obtain ⟨d1, h1, h2⟩ := hd
  split at h2
  · simp only [Option.bind_eq_some_iff] at h2
    obtain ⟨d2, h3, h4⟩ := h2
    refine so ρ σ H own _ er _ h1 fun v H1 o1 r1 k1 => ⟨⟨_, r1.1⟩, ?_⟩
    refine sa ρ σ H1 own _ (er.ext k1) d2 h3 fun v2 H2 o2 r2 k2 => ?_
    rw [r1.1]
    refine vm _ d2 d v2 H2 o2 Q r2 h4 fun v' H' o' r' k' n' => q v' H' o' r' (ext_trans (ext_trans k1 k2) k') fun b hb => ?_
    cases z : H b with
    | none => rfl
    | some u =>
      have n2 := n' b hb
      rw [k2 b u (k1 b u z)] at n2
      cases n2
  · cases h2
theorem sv_bm {g : List Nat → D → Option D} (pe : ∀ to ta, PE X o to → PE X a ta → PE X e (tM1 r to ta)) (vm : VM1 C r g) (ho : SV X C o f) (ha : SV X C a fa) : SV X C e (vBm g f fa) := by
  obtain ⟨t, p, s⟩ := bm_core pe vm ho ha
  exact ⟨t, p, fun ρ σ H own Q er d hd q => s ρ σ H own Q er d hd fun v H' o r k _ => q v H' o r k⟩
theorem sev_bm {g : List Nat → D → Option D} (pe : ∀ to ta, PE X o to → PE X a ta → PE X e (tM1 r to ta)) (vm : VM1 C r g) (ho : SV X C o f) (ha : SV X C a fa) : SE X W C e (eV (vBm g f fa)) := by
  obtain ⟨t, p, s⟩ := bm_core pe vm ho ha
  refine ⟨t, p, fun ρ σ H own Q er hw => ?_⟩
  unfold eV ofO at hw
  split at hw
  · rename_i d hd
    exact s ρ σ H own Q er d hd fun v H' o r k n => fin_v hw er Ext.refl r k n
  · exact hw.elim
end
section
variable {X : Cx} {W : WX} {z : Option (Addr × Addr × Addr)} {o e : Expr} {p : Env → Option (Nat × List Sel)} {ap pos : Pos} {ms : M (List D)} {fs : Env → Option (List D)} {f fa : Env → Option D} {mb : M D}
abbrev Few (X : Cx) (pos : Pos) (es : List Expr) : Prop :=
  ((backTo pos (starEach es X.env)).all (fun x => !x.1) && (backToKw pos (keywordEach [] X.env)).all (fun x => x.1.isSome) && decide (es.length + ([] : List Keyword).length + (if ([] : List Keyword).isEmpty then 0 else 1) < 30)) = true
abbrev St1 (X : Cx) (e : Expr) (es : List Expr) : Prop := starEach (e :: es) X.env = (false, eval e X.env) :: starEach es X.env
abbrev Bs (X : Cx) (o : Expr) (n : Str) : Prop := attributeBase o n X.env (eval o X.env) = eval o X.env
theorem se_append (hp : SP X (KX X z) o p) (ha : SA X W (KX X z) [e] ms) (h1 : Bs X o "append" := by rfl) (h2 : Few X pos [e] := by rfl) (h3 : (ap.endLine == pos.line) = true := by rfl) (h4 : St1 X e [] := by rfl) : SE X W (KX X z) (.Call (.Attribute o "append" ap) [e] [] pos) (eMut gmAppend p ms) :=
  se_mut (fun _ _ q t => pe_bm F.plainAttrs_list F.slot_list_append F.type_list_append mt_append q t h1 h2 h3 h4 rfl) vm_append hp ha
theorem se_popAt (hp : SP X (KX X z) o p) (ha : SA X W (KX X z) [e] ms) (h1 : Bs X o "pop" := by rfl) (h2 : Few X pos [e] := by rfl) (h3 : (ap.endLine == pos.line) = true := by rfl) (h4 : St1 X e [] := by rfl) : SE X W (KX X z) (.Call (.Attribute o "pop" ap) [e] [] pos) (eMut gmPopAt p ms) :=
  se_mut (fun _ _ q t => pe_bm F.plainAttrs_list F.slot_list_pop F.type_list_pop mt_popAt q t h1 h2 h3 h4 rfl) vm_popAt hp ha
theorem se_appendQ (hp : SP X (KX X z) o p) (ha : SW X (KX X z) [e] fs) (h1 : Bs X o "append" := by rfl) (h2 : Few X pos [e] := by rfl) (h3 : (ap.endLine == pos.line) = true := by rfl) (h4 : St1 X e [] := by rfl) : SE X W (KX X z) (.Call (.Attribute o "append" ap) [e] [] pos) (eMutQ gmAppend p fs) :=
  se_mutQ (fun _ _ q t => pe_bm F.plainAttrs_list F.slot_list_append F.type_list_append mt_append q t h1 h2 h3 h4 rfl) vm_append hp ha
theorem se_popAtQ (hp : SP X (KX X z) o p) (ha : SW X (KX X z) [e] fs) (h1 : Bs X o "pop" := by rfl) (h2 : Few X pos [e] := by rfl) (h3 : (ap.endLine == pos.line) = true := by rfl) (h4 : St1 X e [] := by rfl) : SE X W (KX X z) (.Call (.Attribute o "pop" ap) [e] [] pos) (eMutQ gmPopAt p fs) :=
  se_mutQ (fun _ _ q t => pe_bm F.plainAttrs_list F.slot_list_pop F.type_list_pop mt_popAt q t h1 h2 h3 h4 rfl) vm_popAt hp ha
theorem se_pop (hp : SP X (KX X z) o p) (h1 : Bs X o "pop" := by rfl) (h3 : (ap.endLine == pos.line) = true := by rfl) : SE X W (KX X z) (.Call (.Attribute o "pop" ap) [] [] pos) (eMutQ gmPop p wNil) :=
  se_mut0 (fun _ q => pe_bm0 F.plainAttrs_list F.slot_list_pop F.type_list_pop mt_pop q h1 h3) vm_pop hp
theorem sv_join (ho : SV X (KX X z) o f) (ha : SV X (KX X z) e fa) (h1 : starEach [e] X.env = [(false, eval e X.env)] := by rfl) (h2 : Bs X o "join" := by rfl) (h3 : (ap.endLine == pos.line) = true := by rfl) : SV X (KX X z) (.Call (.Attribute o "join" ap) [e] [] pos) (vBm gJoin f fa) := sv_bm (fun _ _ p q => pe_join p q h1 h2 h3) vm_join ho ha
theorem sev_join (ho : SV X (KX X z) o f) (ha : SV X (KX X z) e fa) (h1 : starEach [e] X.env = [(false, eval e X.env)] := by rfl) (h2 : Bs X o "join" := by rfl) (h3 : (ap.endLine == pos.line) = true := by rfl) : SE X W (KX X z) (.Call (.Attribute o "join" ap) [e] [] pos) (eV (vBm gJoin f fa)) := sev_bm (fun _ _ p q => pe_join p q h1 h2 h3) vm_join ho ha
theorem se_join (ho : SV X (KX X z) o f) (ha : SE X W (KX X z) e mb) (h1 : starEach [e] X.env = [(false, eval e X.env)] := by rfl) (h2 : Bs X o "join" := by rfl) (h3 : (ap.endLine == pos.line) = true := by rfl) : SE X W (KX X z) (.Call (.Attribute o "join" ap) [e] [] pos) (eBm gJoin f mb) := se_bm (fun _ _ p q => pe_join p q h1 h2 h3) vm_join ho ha
theorem sv_split (ho : SV X (KX X z) o f) (ha : SV X (KX X z) e fa) (h1 : starEach [e] X.env = [(false, eval e X.env)] := by rfl) (h2 : Bs X o "split" := by rfl) (h3 : (ap.endLine == pos.line) = true := by rfl) : SV X (KX X z) (.Call (.Attribute o "split" ap) [e] [] pos) (vBm gSplit f fa) := sv_bm (fun _ _ p q => pe_split p q h1 h2 h3) vm_split ho ha
theorem sev_split (ho : SV X (KX X z) o f) (ha : SV X (KX X z) e fa) (h1 : starEach [e] X.env = [(false, eval e X.env)] := by rfl) (h2 : Bs X o "split" := by rfl) (h3 : (ap.endLine == pos.line) = true := by rfl) : SE X W (KX X z) (.Call (.Attribute o "split" ap) [e] [] pos) (eV (vBm gSplit f fa)) := sev_bm (fun _ _ p q => pe_split p q h1 h2 h3) vm_split ho ha
theorem se_split (ho : SV X (KX X z) o f) (ha : SE X W (KX X z) e mb) (h1 : starEach [e] X.env = [(false, eval e X.env)] := by rfl) (h2 : Bs X o "split" := by rfl) (h3 : (ap.endLine == pos.line) = true := by rfl) : SE X W (KX X z) (.Call (.Attribute o "split" ap) [e] [] pos) (eBm gSplit f mb) := se_bm (fun _ _ p q => pe_split p q h1 h2 h3) vm_split ho ha
/-! statements -/
theorem ss_setn {B : List Nat} {i : Nat} {x : Str} {py : Pos} {me : M D} (he : SE X W (KX X z) e me) (hN : X.N.Nodup) (hi : X.N[i]? = some x := by rfl) (hl : Loc X.env.scope x := by first | exact .inl rfl | exact .inr rfl) (hB : i ∉ B := by decide)
    (hf : X.fn x = true ∨ X.env.scope.names.lookup x = some .local := by first | exact .inl rfl | exact .inr rfl) (hs : swapsWith e (some (.Name x py)) pos.line X.env = pure false := by rfl) : SS X W (KX X z) B (.Assign [.Name x py] e pos) (sAsg i me) :=
  ss_asg (fun _ q => ps_set hN hi hl q hs hf) he hB
theorem ss_incn {B : List Nat} {i : Nat} {x : Str} {py : Pos} {me : M D} (he : SE X W (KX X z) e me) (hN : X.N.Nodup) (hi : X.N[i]? = some x := by rfl) (hl : Loc X.env.scope x := by first | exact .inl rfl | exact .inr rfl) (hB : i ∉ B := by decide)
    (hf : X.fn x = true ∨ X.env.scope.names.lookup x = some .local := by first | exact .inl rfl | exact .inr rfl) : SS X W (KX X z) B (.AugAssign (.Name x py) .Add e pos) (sAug i (fun i j => i + j) me) := ss_aug (fun _ q => ps_aug hN hi hl q ip_add hf) he hB
theorem ss_decn {B : List Nat} {i : Nat} {x : Str} {py : Pos} {me : M D} (he : SE X W (KX X z) e me) (hN : X.N.Nodup) (hi : X.N[i]? = some x := by rfl) (hl : Loc X.env.scope x := by first | exact .inl rfl | exact .inr rfl) (hB : i ∉ B := by decide)
    (hf : X.fn x = true ∨ X.env.scope.names.lookup x = some .local := by first | exact .inl rfl | exact .inr rfl) : SS X W (KX X z) B (.AugAssign (.Name x py) .Sub e pos) (sAug i (fun i j => i - j) me) := ss_aug (fun _ q => ps_aug hN hi hl q ip_sub hf) he hB
theorem sg_n {B : List Nat} {i : Nat} {x : Str} {py : Pos} (hN : X.N.Nodup) (hi : X.N[i]? = some x := by rfl) (hl : Loc X.env.scope x := by first | exact .inl rfl | exact .inr rfl) (hB : i ∉ B := by decide)
    (hf : X.fn x = true ∨ X.env.scope.names.lookup x = some .local := by first | exact .inl rfl | exact .inr rfl) : SG X (KX X z) B (.Name x py) (fName i) := sg_name (pg_name hN hi hl hf) hB
end
end Se

namespace Se
open PySem L2

/-! ### a tuple of constants, seen -/
def vTup (fs : Env → Option (List D)) : Env → Option D := fun ρ => (fs ρ).bind fun ds => if ds.length ≤ sizeLine ∧ fzL ds = true then some (.tup ds) else none
section
variable {X : Cx} {W : WX} {C : RC} {e : Expr} {es : List Expr} {fs : Env → Option (List D)} {pos : Pos}
theorem tup_core {x1} (h : SW X C es fs) : ∃ t, PE X (.Tuple es x1 pos) t ∧ ∀ ρ σ H own Q, ER C H ρ σ own → ∀ d, vTup fs ρ = some d → (∀ v H', Rep C H' d v [] → Ext H H' → Q v H') → t σ H Q := by
  obtain ⟨t, p, s⟩ := h.ex
  refine ⟨_, pe_tup p, fun ρ σ H own Q er d hd q => ?_⟩
  simp only [vTup, Option.bind_eq_some_iff] at hd
  obtain ⟨ds, h1, h2⟩ := hd
  split at h2
  · rename_i hz
    cases h2
    refine s ρ σ H own _ er ds h1 fun vs H1 r k => ⟨by rw [r.len]; exact hz.1, fun q' hp => ?_⟩
    exact q _ _ (rep_new_tup (r.fz hz.2) hp) (ext_trans k (Ext.new hp))
  · cases h2
theorem sv_tup {x1} (h : SW X C es fs) : SV X C (.Tuple es x1 pos) (vTup fs) := by
  obtain ⟨t, p, s⟩ := tup_core (x1 := x1) (pos := pos) h
  exact ⟨t, p, fun ρ σ H own Q er d hd q => s ρ σ H own Q er d hd fun v H' r k => q v H' [] r k⟩
theorem sev_tup {x1} (h : SW X C es fs) : SE X W C (.Tuple es x1 pos) (eV (vTup fs)) := by
  obtain ⟨t, p, s⟩ := tup_core (x1 := x1) (pos := pos) h
  refine ⟨t, p, fun ρ σ H own Q er hw => ?_⟩
  unfold eV ofO at hw
  split at hw
  · rename_i d hd
    exact s ρ σ H own Q er d hd fun v H' r k => fin_v hw er Ext.refl r k (by simp)
  · exact hw.elim
end
theorem takes0 {Y : Cx} : L2N.Takes Y W0 := fun u s' x => by
  obtain ⟨_, _, _, _, _, _, _, _, _, _, _, _, _, _, _, _, z⟩ := x
  exact z.elim

/-! ### calls with keywords -/
structure SKB (X : Cx) (W : WX) (C : RC) (kws : List Keyword) (m : M (List AD)) : Prop where
  ex : ∃ t, PK X kws t ∧ ∀ ρ σ H own Q, ER C H ρ σ own → PoB C W (m ρ) σ H own Q → t σ H Q
structure BkI (K : PySem.W.Frag) (fd : FuncData) (ps : List Str) : Prop where
  to : ∀ (s : Shared) (ws : List Value), K.In s.heap → ws.length = ps.length → BindsTo s fd ⟨[], ps.zip ws⟩ (ps.zip ws)
theorem bkI {K : PySem.W.Frag} {x qual : Str} {params : Arguments} {body : List Stmt} {sc : Scope} {f : Addr} {fd : FuncData} {ps : List Str} (F : FunD K x qual params body sc [] [] f fd)
    (h : ∀ (kV doc pm : Value) (an : Option Addr) (cdv ct : Value) (ws : List Value), ws.length = ps.length → bindArgs (PySem.W.fnOf x qual params body sc .none kV doc pm an cdv ct) ⟨[], ps.zip ws⟩ = pure (ps.zip ws)) : BkI K fd ps := by
  obtain ⟨oc, od, dV, kV, doc, pm, an, cdv, ct, osl, rfl, lk, hcd, hD, hK⟩ := F.ex
  rcases hD with ⟨_, rfl⟩ | ⟨e, _⟩
  · exact ⟨fun s ws _ hl => .of_eq (h kV doc pm an cdv ct ws hl)⟩
  · exact absurd rfl e
section
variable {X : Cx} {W : WX} {C : RC} {e : Expr} {kws : List Keyword} {ma : M D} {ms : M (List AD)} {nm : Option Str} {kp : Pos}
theorem skw_nil : SKB X W C [] bNil := ⟨_, pk_nil, fun ρ σ H own Q er hw => hw [] H [] own ⟨rfl, rfl⟩ er (by simp) (Stp.refl (by simp))⟩
theorem skw_val (ha : SE X W C e ma) (hr : SKB X W C kws ms) : SKB X W C (⟨nm, e, kp⟩ :: kws) (bVal ma ms) := by
  obtain ⟨ta, pa, sa⟩ := ha.ex
  obtain ⟨tr, pr, sr⟩ := hr.ex
  refine ⟨_, pk_cons pa pr, fun ρ σ H own Q er hw => ?_⟩
  have hw : PoB C W ((ma ρ).bind fun d ρ1 => (ms ρ1).bind fun as ρ2 => .ok (.inl d :: as) ρ2) σ H own Q := hw
  refine sa ρ σ H own _ er (poE_bind (P := fun r => PoB C W r σ H own Q) hw (fun z => z) exB fun d1 ρ1 v1 H1 o1 own1 r1 e1 j1 s1 hw1 => ?_)
  refine sr ρ1 σ H1 own1 _ e1 (poB_bind (P := fun r => PoB C W r σ H own Q) hw1 (fun z => z) (exB.at s1) fun as ρ2 vs H2 o2 own2 r2 e2 j2 s2 hw2 => ?_)
  have j12 : ∀ a ∈ o1, a ∉ o2 ++ own2 := s2.apart r1.mut j1
  refine hw2 (v1 :: vs) H2 (o1 ++ o2) own2 ⟨v1, vs, o1, o2, rfl, r1.keep s2.keep e1.mut j1, r2, fun a ha z => j12 a ha (List.mem_append_left _ z), rfl⟩ e2 (fun a ha z => ?_) ?_
  · rcases List.mem_append.mp ha with q | q
    · exact j12 a q (List.mem_append_right _ z)
    · exact j2 a q z
  · exact (s1.held s2).less fun a ha => by simpa [List.append_assoc] using ha
theorem skw_bor {i : Nat} {x : Str} {pos : Pos} (h : PE X (.Name x pos) (tVar i)) (hr : SKB X W C kws ms) : SKB X W C (⟨nm, .Name x pos, kp⟩ :: kws) (bBor i ms) := by
  obtain ⟨tr, pr, sr⟩ := hr.ex
  refine ⟨_, pk_cons h pr, fun ρ σ H own Q er hw => ?_⟩
  unfold bBor at hw
  split at hw
  · rename_i d hd
    obtain ⟨v, o, own1, e1, r, er1, n, m⟩ := er.take (join_some hd)
    refine ⟨v, e1, sr ρ σ H own _ er (poB_bind (P := fun r => PoB C W r σ H own Q) hw (fun z => z) exB fun as ρ2 vs H2 o2 own2 r2 e2 j2 s2 hw2 => ?_)⟩
    exact hw2 (v :: vs) H2 o2 own2 ⟨v, vs, rfl, e1, r2⟩ e2 j2 s2
  · exact hw.elim
/-- f(k = v, ..), the keywords in the parameters' order -/
theorem se_callK {f : Addr} {fd : FuncData} {ps : List Str} {F : List D → FR} {n : Nat} {x : Str} {p pos : Pos} {k : Keyword} (hK : C.K = X.K) (c : Cal X f fd ps (spF (C0 X.K) ps.length F)) (tk : L2N.Takes X W) (hg : Gl X x) (hm : X.mg x = some (.ref f)) (hk : PySem.W.keepIn X.K (.ref f) = true)
    (hb : BkI X.K fd ps) (hn : n = ps.length) (ha : SKB X W C (k :: kws) ms) (hall : (backToKw pos (keywordEach (k :: kws) X.env)).all (·.1.isSome) = true := by rfl) (hks : (backToKw pos (keywordEach (k :: kws) X.env)).filterMap (·.1) = ps := by rfl) (hd : (x == ("__debug__" : Str)) = false := by decide)
    (hp : ((backTo pos (starEach [] X.env)).any (·.1) || (backToKw pos (keywordEach (k :: kws) X.env)).any (·.1.isNone)) = false := by rfl) : SE X W C (.Call (.Name x p) [] (k :: kws) pos) (eCall n F ms) := by
  obtain ⟨t, pt, st⟩ := ha.ex
  refine ⟨tCal (spF (C0 X.K) ps.length F) W t, ⟨fun pins s σ H Q I h => wpAny_Call_Name_kw (ld_glob I hg hm (PySem.W.callWith_KW0 (h₀ := X.base) I.ok.mod.kin hk hall (thn (pt.run pos pins s σ H _ I h) fun us s1 ⟨vs, H1, I1, r, q⟩ => ⟨I1.kIn, by
    rw [hks]
    exact c.run (WE W σ) pins σ H1 s1 Q [] (ps.zip us) us vs I1 (passN tk σ) (hb.to s1 us I1.kIn (by rw [← r.length]; exact c.len _ _ _ _ q)) r q⟩) hp) hd)⟩, snd_call hK hn st⟩
end

/-! ### what is shown of a def, of an error's class -/
def FK (P : Program) (w : World) (K : PySem.W.Frag) (mg : Str → Option Value) (base : Heap) (x : Str) (ps : List Str) (st : Stmt) (k : Nat) (F : List D → FR) : Prop :=
  ∃ f fd, mg x = some (.ref f) ∧ FunD K x x (defArgs st) (defBody st) (defScope st) [] [] f fd ∧ Binds K fd ps [] ∧ FnOk P w K mg base (L2N.CX P w) k f fd ps (spF (C0 K) ps.length F)
def FKH (P : Program) (w : World) (K : PySem.W.Frag) (mg : Str → Option Value) (base : Heap) (x : Str) (ps : List Str) (st : Stmt) (k : Nat) (F : List D → FR) : Prop :=
  ∃ f fd, mg x = some (.ref f) ∧ FunD K x x (defArgs st) (defBody st) (defScope st) [] [] f fd ∧ Binds K fd ps [] ∧ L2H.FnH P w K mg base (L2N.CX P w) k f fd ps (spF (C0 K) ps.length F)
def FI (P : Program) (w : World) (K : PySem.W.Frag) (mg : Str → Option Value) (base : Heap) (c : Addr) (ps ns : List Str) : Prop :=
  OexC K c ∧ ∃ f fd, PySem.W.findIn K (.ref c) "__init__" = some (some (.ref f)) ∧ PySem.W.typeIn K (.ref f) = some (.type "function") ∧ Binds K fd ps [] ∧ FnOk P w K mg base (L2N.CX P w) 1 f fd ps (spI c ns)
def clsB (s : Stmt) : List Stmt := match s with
  | .ClassDef _ _ _ b _ _ _ _ _ _ _ => b
  | _ => []
end Se

namespace Se
open PySem L2

/-! ### the head: facts of the written part, as Bools -/
/-- the written part, its lists left out -/
def isLst (o : Obj) : Bool := decide (o.cls = .type "list")
def frL (g : Addr → Option Obj) (as : List Addr) : PySem.W.Frag := (He.frG g as).filter fun q => !isLst q.2
theorem frL_mem {g : Addr → Option Obj} {as : List Addr} {a : Addr} {o : Obj} (h : (frL g as).lookup a = some o) : g a = some o ∧ isLst o = false := by
  have m := List.mem_filter.mp (He.lookup_mem h)
  exact ⟨He.frG_mem m.1, by simpa using m.2⟩
def hookG (n : Nat) (fa : List He.Fa) (fn : List He.DefD) (ex : PySem.W.Frag → List Bool) : PySem.W.Hook where
  α := He.AlD × Bool
  obs := fun s => (He.obsD fa fn (frL s.heap.get? (He.asD s.heap.get? n)), (ex (frL s.heap.get? (He.asD s.heap.get? n))).all id)
  val := fun _ => (He.valD fn, true)
  says := fun _ h => ∃ K : PySem.W.Frag, K.In h ∧ He.SaysD fa fn K ∧ (ex K).all id = true ∧ ∀ a o, K.lookup a = some o → o.cls ≠ .type "list"
  of := fun _ _ e => ⟨_, fun a o h => (frL_mem h).1, congrArg (fun q : He.AlD × Bool => q.1) e, congrArg (fun q : He.AlD × Bool => q.2) e, fun a o h => of_decide_eq_false (frL_mem h).2⟩
  keeps := fun _ _ _ h k => by
    obtain ⟨K, hK, c⟩ := h
    exact ⟨K, PySem.W.Frag.In.keeps hK k, c⟩
def obG (n : Nat) (fa : List He.Fa) (fn : List He.DefD) (ex : PySem.W.Frag → List Bool) (g : Addr → Option Obj) : He.AlD × Bool := (He.obsD fa fn (frL g (He.asD g n)), (ex (frL g (He.asD g n))).all id)
theorem obG_eq {n : Nat} {fa : List He.Fa} {fn : List He.DefD} {ex : PySem.W.Frag → List Bool} {g : Addr → Option Obj} {s : Shared} (h : ∀ a, g a = s.heap.get? a) : obG n fa fn ex g = (hookG n fa fn ex).obs s := by
  have e : g = s.heap.get? := funext h
  subst e
  rfl
theorem exAt {l : List Bool} (h : l.all id = true) (i : Nat) {b : Bool} (e : l[i]? = some b) : b = true := List.all_eq_true.mp h b (List.mem_of_getElem? e)
/-- an error's class over ValueError, with an __init__ of its own -/
def oexB (K : PySem.W.Frag) (c : Addr) : Bool :=
  (match K.lookup c with
    | some ⟨.type ty, _, .cls cl, slt⟩ => (match cl.mro, slt.toList with
      | .ref c' :: up, [_, _, _, _, some (.builtin mk), _] => ty == "type" && c' == c && mk == "ValueError.__new__" && !cl.hasDel && cl.hasDict && PySem.HandSPX.refsVE up
      | _, _ => false)
    | _ => false) && decide (PySem.W.findIn K (.ref c) "__setattr__" = some (some (.builtin "object.__setattr__"))) && decide (PySem.W.subIn K (.ref c) (.type "BaseException") = some true) && decide (PySem.W.typeIn K (.ref c) = some (.type "type")) && PySem.W.keepIn K (.ref c)
theorem oexB_ok {K : PySem.W.Frag} {c : Addr} (h : oexB K c = true) : OexC K c := by
  unfold oexB at h
  simp only [Bool.and_eq_true, decide_eq_true_eq] at h
  obtain ⟨⟨⟨⟨h1, h2⟩, h3⟩, h4⟩, h5⟩ := h
  refine ⟨?_, h2, h3, h4, h5⟩
  split at h1
  · rename_i ty dd cl slt ho
    split at h1
    · rename_i c' up k0 k1 k2 k3 mk k5 hm hs
      simp only [Bool.and_eq_true, beq_iff_eq, Bool.not_eq_true'] at h1
      obtain ⟨⟨⟨⟨⟨rfl, rfl⟩, rfl⟩, hdel⟩, hdi⟩, ht⟩ := h1
      obtain ⟨nm, bs, mro, ns, qn, hd, sn, sub, ab, col, del⟩ := cl
      dsimp only at hm hdel hdi
      subst hm hdel hdi
      have e : slt = #[k0, k1, k2, k3, some (.builtin "ValueError.__new__"), k5] := by
        obtain ⟨l⟩ := slt
        simp only at hs
        rw [hs]
      subst e
      exact ⟨nm, qn, ns, bs, up, sn, sub, ab, col, dd, k0, k1, k2, k3, k5, ho, ht⟩
    · cases h1
  · cases h1
def noB (K : PySem.W.Frag) (c : Addr) (ns : List Str) : Bool := ns.all fun m => decide (PySem.W.findIn K (.ref c) m = some none)
theorem noB_ok {K : PySem.W.Frag} {c : Addr} {ns : List Str} (h : noB K c ns = true) : ∀ m ∈ ns, PySem.W.findIn K (.ref c) m = some none := fun m hm => of_decide_eq_true (List.all_eq_true.mp h m hm)
/-- a def of the top, a class's method -/
def dD (x : Str) (st : Stmt) : He.DefD := ⟨(x, none), x, x, defArgs st, defBody st, defScope st, [], []⟩
def dM (c m q : Str) (st : Stmt) : He.DefD := ⟨(c, some m), m, q, defArgs st, defBody st, defScope st, [], []⟩
theorem d_of {K : PySem.W.Frag} {mg : Str → Option Value} {fa : List He.Fa} {fn : List He.DefD} {h : Heap} {x : Str} {st : Stmt} {ps : List Str} (X : K.In h) (G : h.Ns mainGlobals mg) (c : He.SaysD fa fn K) (i j : Nat) (hi : fn[i]? = some (dD x st)) (hj : fa[j]? = some (.glo x))
    (hb : ∀ (kV doc pm : Value) (an : Option Addr) (cdv ct : Value) (us : List Value), us.length = ps.length → bindArgs (PySem.W.fnOf x x (defArgs st) (defBody st) (defScope st) .none kV doc pm an cdv ct) ⟨us, []⟩ = pure (ps.zip us)) :
    ∃ f fd, mg x = some (.ref f) ∧ FunD K x x (defArgs st) (defBody st) (defScope st) [] [] f fd ∧ Binds K fd ps [] := by
  obtain ⟨fd, F⟩ := c.def_ i hi
  have F' : FunD K x x (defArgs st) (defBody st) (defScope st) [] [] (He.ga K x) fd := F
  exact ⟨_, fd, He.glo_ok X G (c.fact j hj), F', F'.bindsN hb⟩
theorem i_of {K : PySem.W.Frag} {fa : List He.Fa} {fn : List He.DefD} {x q : Str} {st : Stmt} {ps : List Str} (c : He.SaysD fa fn K) (i : Nat) (hi : fn[i]? = some (dM x "__init__" q st)) (h1 : PySem.W.findIn K (.ref (He.ga K x)) "__init__" = some (some (.ref (He.ma K (He.ga K x) "__init__"))))
    (h2 : PySem.W.typeIn K (.ref (He.ma K (He.ga K x) "__init__")) = some (.type "function"))
    (hb : ∀ (kV doc pm : Value) (an : Option Addr) (cdv ct : Value) (us : List Value), us.length = ps.length → bindArgs (PySem.W.fnOf "__init__" q (defArgs st) (defBody st) (defScope st) .none kV doc pm an cdv ct) ⟨us, []⟩ = pure (ps.zip us)) :
    ∃ f fd, PySem.W.findIn K (.ref (He.ga K x)) "__init__" = some (some (.ref f)) ∧ PySem.W.typeIn K (.ref f) = some (.type "function") ∧ FunD K "__init__" q (defArgs st) (defBody st) (defScope st) [] [] f fd ∧ Binds K fd ps [] := by
  obtain ⟨fd, F⟩ := c.def_ i hi
  have F' : FunD K "__init__" q (defArgs st) (defBody st) (defScope st) [] [] (He.ma K (He.ga K x) "__init__") fd := F
  exact ⟨_, fd, h1, h2, F', F'.bindsN hb⟩
theorem s_of {K : PySem.W.Frag} {mg : Str → Option Value} {h : Heap} {x : Str} {l : List Nat} (X : K.In h) (G : h.Ns mainGlobals mg) (c : (He.Fa.str x (sx l)).ok K = true) : ∃ t, mg x = some (.str (sx l) t) := He.str_ok X G c
/-! ### the law's promise -/
theorem ints_rep {C : RC} {H : Hp} : ∀ ns : List Int, RepL C H (ns.map D.int) (ns.map V.int) []
  | [] => ⟨rfl, rfl⟩
  | _ :: ns => ⟨_, _, [], [], rfl, ⟨rfl, rfl⟩, ints_rep ns, by simp, rfl⟩
theorem law_sp {H : Hp} {a : Addr} {ns : List Int} {F : List D → FR} {K : PySem.W.Frag} {ps : List Str} (hp : ps.length = 1) (hO : Only H) (hS : SqL K H a (ns.map V.int)) (hK : ∀ a o, K.lookup a = some o → o.cls ≠ .type "list")
    (h : ∃ ds', F [.lst false (ns.map D.int)] = .rt (.bl true) ds') : spF (C0 K) ps.length F [.ref a] H (fun v _ => v = .bl true) fun _ _ _ => False := by
  obtain ⟨ds', h⟩ := h
  refine ⟨hp.symm, [.lst false (ns.map D.int)], [], ⟨.ref a, [], [], [], rfl, ?_, ⟨rfl, rfl⟩, by simp, rfl⟩, ?_⟩
  · rcases hS with (e | ⟨o, e⟩) | ⟨o, its, n, e, e2, _⟩
    · rcases hO a with z | ⟨o, xs, z⟩
      · rw [e] at z; cases z
      · rw [e] at z; cases z
    · exact ⟨a, _, rfl, ⟨o, e⟩, ints_rep ns, rfl⟩
    · exact absurd e2 (hK a o e)
  · rw [h]
    intro v H' o own' r _ _ _
    exact r.1
/-- whichever world -/
def CXa (P : Program) : CXT := fun outer H s E u s' => ∃ w, L2N.CX P w outer H s E u s'
theorem noCX {P : Program} : ∀ (H : Hp) (s : Shared) (e : Value) (s' : Shared), CXa P [] H s (fun _ _ _ => False) e s' → False := fun H s e s' c => by
  obtain ⟨_, _, _, _, _, _, _, _, _, _, _, _, _, z⟩ := c
  exact z
theorem okA {P : Program} {w : World} {K : PySem.W.Frag} {mg : Str → Option Value} {base : Heap} {k : Nat} {f : Addr} {fd : FuncData} {ps : List Str} {sp : Sp} (F : FnOk P w K mg base (L2N.CX P w) k f fd ps sp) : FnOk P w K mg base (CXa P) k f fd ps sp :=
  ⟨F.len, fun A outer s H args us vs Q E hr he hb hv hs => codeAny_mono (F.run A outer s H args us vs Q E hr he hb hv hs) fun r s' q => by
    cases r with
    | error e => exact ⟨w, q⟩
    | ok fl => cases fl <;> exact q⟩
theorem funD_one {K : PySem.W.Frag} {x q : Str} {a : Arguments} {b : List Stmt} {sc : Scope} {f : Addr} {fd fd' : FuncData} (F : FunD K x q a b sc [] [] f fd) (F' : FunD K x q a b sc [] [] f fd') : fd = fd' := by
  obtain ⟨_, _, _, _, _, _, _, _, _, _, _, l1, _⟩ := F.ex
  obtain ⟨_, _, _, _, _, _, _, _, _, _, _, l2, _⟩ := F'.ex
  rw [l1] at l2
  have e := congrArg Obj.data (Option.some.inj l2)
  injection e
/-- the law, by what is shown of its def -/
theorem law_F {P : Program} {w : World} {K : PySem.W.Frag} {mg : Str → Option Value} {x y : Str} {st : Stmt} {k : Nat} {F : List D → FR} {h : Heap} {fa : Addr} (KX : K.In h) (hmg : mg x = some (.ref fa)) (hK : ∀ a o, K.lookup a = some o → o.cls ≠ .type "list")
    (hd : ∃ f fd, mg x = some (.ref f) ∧ FunD K x x (defArgs st) (defBody st) (defScope st) [] [] f fd ∧ Binds K fd [y] []) (hf : ∀ base, FK P w K mg base x [y] st k F) (ht : ∀ ns : List Int, ns.length ≤ 63 → ∃ ds, F [.lst false (ns.map D.int)] = .rt (.bl true) ds)
    (hb : ∀ (kV doc pm : Value) (an : Option Addr) (cdv ct : Value) (us : List Value), us.length = [y].length → bindArgs (PySem.W.fnOf x x (defArgs st) (defBody st) (defScope st) .none kV doc pm an cdv ct) ⟨us, []⟩ = pure ([y].zip us)) :
    ∃ (K : PySem.W.Frag) (fd : FuncData) (sp : Sp), K.In h ∧ (∀ (s : Shared) (u : Value), BindsTo s fd ⟨[u], []⟩ [(y, u)]) ∧
        (∀ (H : Hp) (a : Addr) (ns : List Int), ns.length ≤ 63 → Only H → SqL K H a (ns.map V.int) → sp [.ref a] H (fun v _ => v = .bl true) fun _ _ _ => False) ∧
        ∀ base : Heap, K.In base → base.Ns mainGlobals mg → FnOk P w K mg base (CXa P) k fa fd [y] sp := by
  obtain ⟨f, fd, hm, F1, _⟩ := hd
  have e := hm.symm.trans hmg
  cases e
  refine ⟨K, fd, spF (C0 K) [y].length F, KX, fun s u => FunD.bindsA F1 hb s [u] rfl, fun H a ns hl hO hS => law_sp rfl hO hS hK (ht ns hl), fun base _ _ => ?_⟩
  obtain ⟨f2, fd2, hm2, F2, _, ok⟩ := hf base
  have e2 := hm2.symm.trans hmg
  cases e2
  rw [funD_one F1 F2]
  exact okA ok
end Se

/-! rules by which simp reckons a meaning: no function is entered before its argument is known -/
namespace Se
open PySem L2

def seqK (r : SR) (n : MS) : SR := match r with
  | .nx ρ => n ρ
  | r => r
def asgK (i : Nat) (r : RE D) : SR := match r with
  | .ok d ρ => if i < ρ.length then .nx (ρ.set i (some d)) else .bad
  | .ex e ρ => .ex e ρ
  | .bad => .bad
def exprK (r : RE D) : SR := match r with
  | .ok _ ρ => .nx ρ
  | .ex e ρ => .ex e ρ
  | .bad => .bad
def retK (r : RE D) : SR := match r with
  | .ok d ρ => .rt d ρ
  | .ex e ρ => .ex e ρ
  | .bad => .bad
def ifK (r : RE Bool) (m n : MS) : SR := match r with
  | .ok b ρ => if b = true then m ρ else n ρ
  | .ex e ρ => .ex e ρ
  | .bad => .bad
def raiseK (c : Addr) (ns : List Str) (r : RE (List D)) : SR := match r with
  | .ok ds ρ => if fzL ds = true ∧ ds.length = ns.length then .ex ⟨c, ns.reverse, ds.reverse⟩ ρ else .bad
  | .ex e ρ => .ex e ρ
  | .bad => .bad
def forK (r : RE (List D)) (f : D → Env → Option Env) (m : MS) : SR := match r with
  | .ok ds ρ => forF f m ds ρ
  | .ex e ρ => .ex e ρ
  | .bad => .bad
def varK (i : Nat) (x : Option (Option D)) (ρ : Env) : RE D := match x with
  | some (some d) => if fz d = true then .ok d ρ else .ok (frz d) (ρ.set i (some (frz d)))
  | _ => .bad
def movK (i : Nat) (x : Option (Option D)) (ρ : Env) : RE D := match x with
  | some (some d) => .ok d (ρ.set i none)
  | _ => .bad
def qK (x : Option D) (ρ : Env) : RE D := match x with
  | some d => if fz d = true then .ok d ρ else .bad
  | none => .bad
def b2 (g : D → D → Option D) (r : RE D) (mb : M D) : RE D := r.bind fun a ρ1 => (mb ρ1).bind fun b ρ2 => ofO (g a b) ρ2
def b1 (g : D → D → Option D) (a : D) (r : RE D) : RE D := r.bind fun b ρ => ofO (g a b) ρ
def o2 (g : D → D → Option D) (x y : Option D) : Option D := x.bind fun a => y.bind fun b => g a b
def c2 (r : RE D) (ms : M (List D)) : RE (List D) := r.bind fun d ρ1 => (ms ρ1).bind fun ds ρ2 => .ok (d :: ds) ρ2
def c1 (d : D) (r : RE (List D)) : RE (List D) := r.bind fun ds ρ => .ok (d :: ds) ρ
def w2 (x : Option D) (y : Option (List D)) : Option (List D) := x.bind fun d => y.bind fun ds => some (d :: ds)
def nK (g : List D → Option D) (r : RE (List D)) : RE D := r.bind fun ds ρ => ofO (g ds) ρ
def tB1 (r : RE D) : RE Bool := r.bind fun d ρ => match d with
  | .bl b => .ok b ρ
  | _ => .bad
def tE1 (r : RE D) : RE Bool := r.bind fun d ρ => ofO (truD d) ρ
def and1 (r : RE Bool) (n : M Bool) : RE Bool := r.bind fun b ρ => if b = true then n ρ else .ok false ρ
def or1 (r : RE Bool) (n : M Bool) : RE Bool := r.bind fun b ρ => if b = true then .ok true ρ else n ρ
def not1 (r : RE Bool) : RE Bool := r.bind fun b ρ => .ok (!b) ρ
def eIf1 (r : RE Bool) (ma mb : M D) : RE D := r.bind fun b ρ => if b = true then ma ρ else mb ρ
def eAnd1 (r : RE D) (mb : M D) : RE D := r.bind fun d ρ => match d with
  | .bl b => if b = true then mb ρ else .ok (.bl false) ρ
  | _ => .bad
def eOr1 (r : RE D) (mb : M D) : RE D := r.bind fun d ρ => match d with
  | .bl b => if b = true then .ok (.bl true) ρ else mb ρ
  | _ => .bad
def eNot1 (r : RE D) : RE D := r.bind fun d ρ => match d with
  | .bl b => .ok (.bl (!b)) ρ
  | _ => .bad
def tupK (r : RE (List D)) : RE D := r.bind fun ds ρ => if ds.length ≤ sizeLine then .ok (.tup ds) ρ else .bad
def lstK (r : RE (List D)) : RE D := r.bind fun ds ρ => if ds.length ≤ sizeLine then .ok (.lst true ds) ρ else .bad
def bmK (g : List Nat → D → Option D) (x : Option D) (mb : M D) (ρ : Env) : RE D := match x with
  | some (.str z) => (mb ρ).bind fun d ρ1 => ofO (g z d) ρ1
  | _ => .bad
def bm1 (g : List Nat → D → Option D) (z : List Nat) (r : RE D) : RE D := r.bind fun d ρ => ofO (g z d) ρ
def bvK (g : List Nat → D → Option D) (x y : Option D) : Option D := x.bind fun d => match d with
  | .str z => y.bind (g z)
  | _ => none
def ixK (g : D → D → Option D) (i : Nat) (x : Option (Option D)) (mb : M D) (ρ : Env) : RE D := match x with
  | some (some _) => (mb ρ).bind fun k ρ1 => ofO (((ρ1[i]?).join).bind fun d => g d k) ρ1
  | _ => .bad
def ix1 (g : D → D → Option D) (i : Nat) (r : RE D) : RE D := r.bind fun k ρ => ofO (((ρ[i]?).join).bind fun d => g d k) ρ
def ix2 (g : D → D → Option D) (x : Option (Option D)) (k : D) : Option D := (x.join).bind fun d => g d k
def slK (x : Option D) (l h : Option (Option Int)) : Option D := x.bind fun d => l.bind fun lo => h.bind fun hi => gSl d lo hi
def osK (x : Option D) : Option (Option Int) := match x with
  | some (.int i) => some (some i)
  | _ => none
def tvK (x : Option D) (ρ : Env) : RE Bool := ofO (x.bind truD) ρ
def fzK (r : RE D) : RE D := r.bind fun d ρ => .ok (frz d) ρ
def itK (r : RE D) : RE (List D) := r.bind fun d ρ => ofO (itemsD d) ρ
def iaK (g : List D → Option (List D)) (r : RE (List D)) : RE (List D) := r.bind fun ds ρ => ofO (g ds) ρ
def bv2 (r : RE D) (ms : M (List AD)) : RE (List AD) := r.bind fun d ρ1 => (ms ρ1).bind fun as ρ2 => .ok (.inl d :: as) ρ2
def bv1 (d : D) (r : RE (List AD)) : RE (List AD) := r.bind fun as ρ => .ok (.inl d :: as) ρ
def bb2 (i : Nat) (x : Option (Option D)) (r : RE (List AD)) : RE (List AD) := match x with
  | some (some _) => r.bind fun as ρ2 => .ok (.inr i :: as) ρ2
  | _ => .bad
def callK (n : Nat) (F : List D → FR) (r : RE (List AD)) : RE D := r.bind fun as ρ1 => match takeAll as ρ1 with
  | some (ds, ρ2) => if ds.length = n ∧ neL ds = true then fin as ρ2 (F ds) else .bad
  | none => .bad
def call1 (n : Nat) (F : List D → FR) (as : List AD) (x : Option (List D × Env)) : RE D := match x with
  | some (ds, ρ2) => if ds.length = n ∧ neL ds = true then fin as ρ2 (F ds) else .bad
  | none => .bad
def finK (x : Option Env) (d : D) : RE D := match x with
  | some ρ => .ok d ρ
  | none => .bad
def finX (x : Option Env) (e : EX) : RE D := match x with
  | some ρ => .ex e ρ
  | none => .bad
def tkD (d : D) (x : Option (List D × Env)) : Option (List D × Env) := x.map fun p => (d :: p.1, p.2)
def tkS (i : Nat) (x : Option (Option D)) (as : List AD) (ρ : Env) : Option (List D × Env) := (x.join).bind fun d => (takeAll as (ρ.set i none)).map fun p => (d :: p.1, p.2)
def ptS (i : Nat) (x : Option (Option D)) (d : D) (as : List AD) (ds : List D) (ρ : Env) : Option Env := match x with
  | some none => putAll as ds (ρ.set i (some d))
  | _ => none
def bkK (r : SR) (B : List Nat) (ds : List D) : FR := match r with
  | .nx ρ => match back B ρ 0 ds with
    | some ds' => .rt .non ds'
    | none => .bad
  | .rt d ρ => match back B ρ 0 ds with
    | some ds' => .rt d ds'
    | none => .bad
  | .ex e ρ => match back B ρ 0 ds with
    | some ds' => .ex e ds'
    | none => .bad
  | _ => .bad
def bkR (x : Option (List D)) (d : D) : FR := match x with
  | some ds' => .rt d ds'
  | none => .bad
def bkX (x : Option (List D)) (e : EX) : FR := match x with
  | some ds' => .ex e ds'
  | none => .bad
def mutK (g : GM) (ys : List D) (i : Nat) (π : List Sel) (ρ : Env) (x : Option (Option D)) : RE D := match x with
  | some (some d) => (match getP d π with
    | some l => if isOwnL l = true ∧ fzL ys = true then match updP d π (leafM g ys), valM g ys l with
        | some d', some v => .ok v (ρ.set i (some d'))
        | _, _ => .bad
      else .bad
    | none => .bad)
  | _ => .bad
def mutQ (g : GM) (p : Option (Nat × List Sel)) (y : Option (List D)) (ρ : Env) : RE D := match p, y with
  | some (i, π), some ys => mutK g ys i π ρ (ρ[i]?)
  | _, _ => .bad
def mutA (i : Nat) (ρ : Env) (x y : Option D) : RE D := match x, y with
  | some d', some v => .ok v (ρ.set i (some d'))
  | _, _ => .bad
def mutE (g : GM) (ms : M (List D)) (p : Option (Nat × List Sel)) (ρ : Env) : RE D := match p with
  | some (i, π) => match (ρ[i]?).join with
    | some d => match getP d π with
      | some l => if isOwnL l = true then (ms (ρ.set i none)).bind fun ys ρ1 => match ρ1[i]?, updP d π (leafM g ys), valM g ys l with
          | some none, some d', some v => .ok v (ρ1.set i (some d'))
          | _, _, _ => .bad
        else .bad
      | none => .bad
    | none => .bad
  | none => .bad
def mutF (g : GM) (i : Nat) (π : List Sel) (d l : D) (r : RE (List D)) : RE D := r.bind fun ys ρ1 => match ρ1[i]?, updP d π (leafM g ys), valM g ys l with
          | some none, some d', some v => .ok v (ρ1.set i (some d'))
          | _, _, _ => .bad
def mutG (i : Nat) (ρ : Env) (h : Option (Option D)) (x y : Option D) : RE D := match h, x, y with
  | some none, some d', some v => .ok v (ρ.set i (some d'))
  | _, _, _ => .bad
def setK (r : RE D) (p : Env → Option (Nat × List Sel)) (fk : Env → Option D) : SR := match r with
  | .ok y ρ1 => (match p ρ1, fk ρ1 with
    | some (i, π), some (.int k) => match (ρ1[i]?).join with
      | some d => match updP d π (leafSet k y) with
        | some d' => .nx (ρ1.set i (some d'))
        | none => .bad
      | none => .bad
    | _, _ => .bad)
  | .ex e ρ1 => .ex e ρ1
  | .bad => .bad
def setA (i : Nat) (ρ : Env) (x : Option D) : SR := match x with
  | some d' => .nx (ρ.set i (some d'))
  | none => .bad
def setB (y : D) (ρ : Env) (i : Nat) (π : List Sel) (k : Int) (x : Option (Option D)) : SR := match x with
  | some (some d) => setA i ρ (updP d π (leafSet k y))
  | _ => .bad
def setC (y : D) (ρ : Env) (p : Option (Nat × List Sel)) (k : Option D) : SR := match p, k with
  | some (i, π), some (.int k) => setB y ρ i π k (ρ[i]?)
  | _, _ => .bad
section
variable {m n : MS} {ρ : Env} {i : Nat} {me ma mb : M D} {d a b : D} {e : EX} {mc na nb : M Bool} {f fa fb : Env → Option D} {g : D → D → Option D} {ms : M (List D)} {fs : Env → Option (List D)} {ds : List D} {gn : List D → Option D} {F : List D → FR} {as : List AD} {B : List Nat} {mbs : M (List AD)} {k : Nat}
@[simp] theorem u1 : sNil ρ = .nx ρ := (rfl)
@[simp] theorem u2 : sSeq m n ρ = seqK (m ρ) n := (rfl)
@[simp] theorem u3 : seqK (.nx ρ) n = n ρ := (rfl)
@[simp] theorem u4 : seqK (.rt d ρ) n = .rt d ρ := (rfl)
@[simp] theorem u5 : seqK (.ex e ρ) n = .ex e ρ := (rfl)
@[simp] theorem u6 : seqK (.bk ρ) n = .bk ρ := (rfl)
@[simp] theorem u7 : seqK (.ct ρ) n = .ct ρ := (rfl)
@[simp] theorem u8 : sAsg i me ρ = asgK i (me ρ) := (rfl)
@[simp] theorem u9 : asgK i (.ok d ρ) = if i < ρ.length then .nx (ρ.set i (some d)) else .bad := (rfl)
@[simp] theorem u10 : asgK i (.ex e ρ) = .ex e ρ := (rfl)
@[simp] theorem u11 : sExpr me ρ = exprK (me ρ) := (rfl)
@[simp] theorem u12 : exprK (.ok d ρ) = .nx ρ := (rfl)
@[simp] theorem u13 : exprK (.ex e ρ) = .ex e ρ := (rfl)
@[simp] theorem u14 : sRet me ρ = retK (me ρ) := (rfl)
@[simp] theorem u15 : retK (.ok d ρ) = .rt d ρ := (rfl)
@[simp] theorem u16 : retK (.ex e ρ) = .ex e ρ := (rfl)
@[simp] theorem u17 : sIf mc m n ρ = ifK (mc ρ) m n := (rfl)
@[simp] theorem u18 : ifK (.ok true ρ) m n = m ρ := (rfl)
@[simp] theorem u19 : ifK (.ok false ρ) m n = n ρ := (rfl)
@[simp] theorem u20 : sBreak ρ = .bk ρ := (rfl)
@[simp] theorem u21 : sCont ρ = .ct ρ := (rfl)
@[simp] theorem u22 : eLit d ρ = .ok d ρ := (rfl)
@[simp] theorem u23 : vLit d ρ = some d := (rfl)
@[simp] theorem u24 : vVar i ρ = (ρ[i]?).join := (rfl)
@[simp] theorem u25 : eVar i ρ = varK i (ρ[i]?) ρ := by unfold eVar varK; rcases ρ[i]? with _ | _ | d <;> rfl
@[simp] theorem u26 : varK i (some (some d)) ρ = if fz d = true then .ok d ρ else .ok (frz d) (ρ.set i (some (frz d))) := (rfl)
@[simp] theorem u27 : eMove i ρ = movK i (ρ[i]?) ρ := by unfold eMove movK; rcases ρ[i]? with _ | _ | d <;> rfl
@[simp] theorem u28 : movK i (some (some d)) ρ = .ok d (ρ.set i none) := (rfl)
@[simp] theorem u29 : eQ f ρ = qK (f ρ) ρ := (rfl)
@[simp] theorem u30 : qK (some d) ρ = if fz d = true then .ok d ρ else .bad := (rfl)
@[simp] theorem u31 : eV f ρ = ofO (f ρ) ρ := (rfl)
@[simp] theorem u32 {α : Type} {x : α} : ofO (some x) ρ = .ok x ρ := (rfl)
@[simp] theorem u33 : eOp2 g ma mb ρ = b2 g (ma ρ) mb := (rfl)
@[simp] theorem u34 : b2 g (.ok a ρ) mb = b1 g a (mb ρ) := (rfl)
@[simp] theorem u35 : b2 g (.ex e ρ) mb = .ex e ρ := (rfl)
@[simp] theorem u36 : b1 g a (.ok b ρ) = ofO (g a b) ρ := (rfl)
@[simp] theorem u37 : b1 g a (.ex e ρ) = .ex e ρ := (rfl)
@[simp] theorem u38 : vOp2 g fa fb ρ = o2 g (fa ρ) (fb ρ) := (rfl)
@[simp] theorem u39 : o2 g (some a) (some b) = g a b := (rfl)
@[simp] theorem u40 : aNil ρ = .ok [] ρ := (rfl)
@[simp] theorem u41 : aCons ma ms ρ = c2 (ma ρ) ms := (rfl)
@[simp] theorem u42 : c2 (.ok d ρ) ms = c1 d (ms ρ) := (rfl)
@[simp] theorem u43 : c2 (.ex e ρ) ms = .ex e ρ := (rfl)
@[simp] theorem u44 : c1 d (.ok ds ρ) = .ok (d :: ds) ρ := (rfl)
@[simp] theorem u45 : c1 d (.ex e ρ) = .ex e ρ := (rfl)
@[simp] theorem u46 : wNil ρ = some [] := (rfl)
@[simp] theorem u47 : wCons f fs ρ = w2 (f ρ) (fs ρ) := (rfl)
@[simp] theorem u48 : w2 (some d) (some ds) = some (d :: ds) := (rfl)
@[simp] theorem u49 : vOpn gn fs ρ = (fs ρ).bind gn := (rfl)
@[simp] theorem u50 : eOpn gn ms ρ = nK gn (ms ρ) := (rfl)
@[simp] theorem u51 : nK gn (.ok ds ρ) = ofO (gn ds) ρ := (rfl)
@[simp] theorem u52 : nK gn (.ex e ρ) = .ex e ρ := (rfl)
@[simp] theorem u53 : Se.tB ma ρ = tB1 (ma ρ) := (rfl)
@[simp] theorem u54 {b : Bool} : tB1 (.ok (.bl b) ρ) = .ok b ρ := (rfl)
@[simp] theorem u55 : tB1 (.ex e ρ) = .ex e ρ := (rfl)
@[simp] theorem u56 : tV f ρ = tvK (f ρ) ρ := (rfl)
@[simp] theorem u57 : tvK (some d) ρ = ofO (truD d) ρ := (rfl)
@[simp] theorem u58 : tE ma ρ = tE1 (ma ρ) := (rfl)
@[simp] theorem u59 : tE1 (.ok d ρ) = ofO (truD d) ρ := (rfl)
@[simp] theorem u60 : tE1 (.ex e ρ) = .ex e ρ := (rfl)
@[simp] theorem u61 : tAndM na nb ρ = and1 (na ρ) nb := (rfl)
@[simp] theorem u62 : and1 (.ok true ρ) nb = nb ρ := (rfl)
@[simp] theorem u63 : and1 (.ok false ρ) nb = .ok false ρ := (rfl)
@[simp] theorem u64 : tOrM na nb ρ = or1 (na ρ) nb := (rfl)
@[simp] theorem u65 : or1 (.ok true ρ) nb = .ok true ρ := (rfl)
@[simp] theorem u66 : or1 (.ok false ρ) nb = nb ρ := (rfl)
@[simp] theorem u67 : tNotM na ρ = not1 (na ρ) := (rfl)
@[simp] theorem u68 {b : Bool} : not1 (.ok b ρ) = .ok (!b) ρ := (rfl)
@[simp] theorem u69 : eIf mc ma mb ρ = eIf1 (mc ρ) ma mb := (rfl)
@[simp] theorem u70 : eIf1 (.ok true ρ) ma mb = ma ρ := (rfl)
@[simp] theorem u71 : eIf1 (.ok false ρ) ma mb = mb ρ := (rfl)
@[simp] theorem u72 : eAnd ma mb ρ = eAnd1 (ma ρ) mb := (rfl)
@[simp] theorem u73 : eAnd1 (.ok (.bl true) ρ) mb = mb ρ := (rfl)
@[simp] theorem u74 : eAnd1 (.ok (.bl false) ρ) mb = .ok (.bl false) ρ := (rfl)
@[simp] theorem u75 : eOr ma mb ρ = eOr1 (ma ρ) mb := (rfl)
@[simp] theorem u76 : eOr1 (.ok (.bl true) ρ) mb = .ok (.bl true) ρ := (rfl)
@[simp] theorem u77 : eOr1 (.ok (.bl false) ρ) mb = mb ρ := (rfl)
@[simp] theorem u78 : eNot ma ρ = eNot1 (ma ρ) := (rfl)
@[simp] theorem u79 {b : Bool} : eNot1 (.ok (.bl b) ρ) = .ok (.bl (!b)) ρ := (rfl)
@[simp] theorem u80 : eTup ms ρ = tupK (ms ρ) := (rfl)
@[simp] theorem u81 : tupK (.ok ds ρ) = if ds.length ≤ sizeLine then .ok (.tup ds) ρ else .bad := (rfl)
@[simp] theorem u82 : eLst ms ρ = lstK (ms ρ) := (rfl)
@[simp] theorem u83 : lstK (.ok ds ρ) = if ds.length ≤ sizeLine then .ok (.lst true ds) ρ else .bad := (rfl)
@[simp] theorem u84 {gm : List Nat → D → Option D} : eBm gm f mb ρ = bmK gm (f ρ) mb ρ := (rfl)
@[simp] theorem u85 {gm : List Nat → D → Option D} {z : List Nat} : bmK gm (some (.str z)) mb ρ = bm1 gm z (mb ρ) := (rfl)
@[simp] theorem u86 {gm : List Nat → D → Option D} {z : List Nat} : bm1 gm z (.ok d ρ) = ofO (gm z d) ρ := (rfl)
@[simp] theorem u87 {gm : List Nat → D → Option D} : vBm gm f fa ρ = bvK gm (f ρ) (fa ρ) := (rfl)
@[simp] theorem u88 {gm : List Nat → D → Option D} {z : List Nat} : bvK gm (some (.str z)) (some d) = gm z d := (rfl)
@[simp] theorem u89 : eIxVar g i mb ρ = ixK g i (ρ[i]?) mb ρ := by unfold eIxVar ixK; rcases ρ[i]? with _ | _ | d <;> rfl
@[simp] theorem u90 : ixK g i (some (some d)) mb ρ = ix1 g i (mb ρ) := (rfl)
@[simp] theorem u91 : ix1 g i (.ok b ρ) = ofO (ix2 g (ρ[i]?) b) ρ := (rfl)
@[simp] theorem u92 : ix2 g (some (some d)) b = g d b := (rfl)
@[simp] theorem u93 {l h : Env → Option (Option Int)} : vSl f l h ρ = slK (f ρ) (l ρ) (h ρ) := (rfl)
@[simp] theorem u94 {lo hi : Option Int} : slK (some d) (some lo) (some hi) = gSl d lo hi := (rfl)
@[simp] theorem u95 : oNone ρ = some none := (rfl)
@[simp] theorem u96 : oSome f ρ = osK (f ρ) := (rfl)
@[simp] theorem u97 {j : Int} : osK (some (.int j)) = some (some j) := (rfl)
@[simp] theorem u98 : eFz me ρ = fzK (me ρ) := (rfl)
@[simp] theorem u99 : fzK (.ok d ρ) = .ok (frz d) ρ := (rfl)
@[simp] theorem u100 : iSq me ρ = itK (fzK (me ρ)) := (rfl)
@[simp] theorem u101 : itK (.ok d ρ) = ofO (itemsD d) ρ := (rfl)
@[simp] theorem u102 {gl : List D → Option (List D)} : iArgs gl ms ρ = iaK gl (ms ρ) := (rfl)
@[simp] theorem u103 {gl : List D → Option (List D)} : iaK gl (.ok ds ρ) = ofO (gl ds) ρ := (rfl)
@[simp] theorem u104 {mi : M (List D)} {ft : D → Env → Option Env} : sFor mi ft m ρ = forK (mi ρ) ft m := (rfl)
@[simp] theorem u105 {ft : D → Env → Option Env} : forK (.ok ds ρ) ft m = forF ft m ds ρ := (rfl)
@[simp] theorem u106 : bNil ρ = .ok [] ρ := (rfl)
@[simp] theorem u107 : bVal ma mbs ρ = bv2 (ma ρ) mbs := (rfl)
@[simp] theorem u108 : bv2 (.ok d ρ) mbs = bv1 d (mbs ρ) := (rfl)
@[simp] theorem u109 : bv2 (.ex e ρ) mbs = .ex e ρ := (rfl)
@[simp] theorem u110 : bv1 d (.ok as ρ) = .ok (.inl d :: as) ρ := (rfl)
@[simp] theorem u111 : bv1 d (.ex e ρ) = .ex e ρ := (rfl)
@[simp] theorem u112 : bBor i mbs ρ = bb2 i (ρ[i]?) (mbs ρ) := by unfold bBor bb2; rcases ρ[i]? with _ | _ | d <;> rfl
@[simp] theorem u113 : bb2 i (some (some d)) (.ok as ρ) = .ok (.inr i :: as) ρ := (rfl)
@[simp] theorem u114 : eCall k F mbs ρ = callK k F (mbs ρ) := (rfl)
@[simp] theorem u115 : callK k F (.ok as ρ) = call1 k F as (takeAll as ρ) := (rfl)
@[simp] theorem u116 : callK k F (.ex e ρ) = .ex e ρ := (rfl)
@[simp] theorem u117 : call1 k F as (some (ds, ρ)) = if ds.length = k ∧ neL ds = true then fin as ρ (F ds) else .bad := (rfl)
@[simp] theorem u118 : takeAll [] ρ = some ([], ρ) := (rfl)
@[simp] theorem u119 : takeAll (.inl d :: as) ρ = tkD d (takeAll as ρ) := (rfl)
@[simp] theorem u120 {ρ1 : Env} : tkD d (some (ds, ρ1)) = some (d :: ds, ρ1) := (rfl)
@[simp] theorem u121 : takeAll (.inr i :: as) ρ = tkS i (ρ[i]?) as ρ := (rfl)
@[simp] theorem u122 : tkS i (some (some d)) as ρ = tkD d (takeAll as (ρ.set i none)) := (rfl)
@[simp] theorem u123 : fin as ρ (.rt d ds) = finK (putAll as ds ρ) d := (rfl)
@[simp] theorem u124 : fin as ρ (.ex e ds) = finX (putAll as ds ρ) e := (rfl)
@[simp] theorem u125 : finK (some ρ) d = .ok d ρ := (rfl)
@[simp] theorem u126 : finX (some ρ) e = .ex e ρ := (rfl)
@[simp] theorem u127 : putAll [] [] ρ = some ρ := (rfl)
@[simp] theorem u128 : putAll (.inl a :: as) (d :: ds) ρ = putAll as ds ρ := (rfl)
@[simp] theorem u129 : putAll (.inr i :: as) (d :: ds) ρ = ptS i (ρ[i]?) d as ds ρ := by
  unfold ptS
  show (if isHole ρ i = true then _ else _) = _
  unfold isHole
  rcases ρ[i]? with _ | _ | d <;> rfl
@[simp] theorem u130 : ptS i (some none) d as ds ρ = putAll as ds (ρ.set i (some d)) := (rfl)
theorem u131 : Se.fnOf k B m ds = bkK (m (startE k ds)) B ds := rfl
@[simp] theorem u132 : bkK (.rt d ρ) B ds = bkR (back B ρ 0 ds) d := (rfl)
@[simp] theorem u133 : bkK (.nx ρ) B ds = bkR (back B ρ 0 ds) .non := (rfl)
@[simp] theorem u134 : bkK (.ex e ρ) B ds = bkX (back B ρ 0 ds) e := (rfl)
@[simp] theorem u135 : bkR (some ds) d = .rt d ds := (rfl)
@[simp] theorem u136 : bkX (some ds) e = .ex e ds := (rfl)
@[simp] theorem u137 {gm : GM} {p : Env → Option (Nat × List Sel)} : eMutQ gm p fs ρ = mutQ gm (p ρ) (fs ρ) ρ := by
  unfold eMutQ mutQ
  rcases p ρ with _ | ⟨i, π⟩
  · rfl
  · rcases fs ρ with _ | ys
    · dsimp only
      generalize ρ[i]? = x
      rcases x with _ | _ | d
      · rfl
      · rfl
      · cases hg : getP d π <;> simp [hg]
    · dsimp only
      unfold mutK
      generalize ρ[i]? = x
      rcases x with _ | _ | d
      · rfl
      · rfl
      · simp only [Option.join_some]
        cases hg : getP d π with
        | none => rfl
        | some l => (try dsimp only) <;> (split <;> rfl)
@[simp] theorem u138 {gm : GM} {π : List Sel} : mutQ gm (some (i, π)) (some ds) ρ = mutK gm ds i π ρ (ρ[i]?) := (rfl)
@[simp] theorem u139 : pVar i ρ = some (i, []) := (rfl)
@[simp] theorem u140 {me : M D} {p : Env → Option (Nat × List Sel)} {fk : Env → Option D} : sSet me p fk ρ = setK (me ρ) p fk := (rfl)
@[simp] theorem u141 {p : Env → Option (Nat × List Sel)} {fk : Env → Option D} : setK (.ok d ρ) p fk = setC d ρ (p ρ) (fk ρ) := by
  show (match p ρ, fk ρ with
    | some (i, π), some (.int k) => (match (ρ[i]?).join with
      | some d' => match updP d' π (leafSet k d) with
        | some d' => SR.nx (ρ.set i (some d'))
        | none => .bad
      | none => .bad)
    | _, _ => .bad) = setC d ρ (p ρ) (fk ρ)
  generalize p ρ = y
  generalize fk ρ = q
  unfold setC
  rcases y with _ | ⟨i, π⟩
  · rcases q with _ | q
    · rfl
    · cases q <;> rfl
  · rcases q with _ | q
    · rfl
    · cases q with
      | int k =>
        dsimp only
        unfold setB setA
        generalize ρ[i]? = x
        rcases x with _ | _ | x
        · rfl
        · rfl
        · rfl
      | _ => rfl
@[simp] theorem u142 {π : List Sel} {j : Int} : setC d ρ (some (i, π)) (some (.int j)) = setB d ρ i π j (ρ[i]?) := (rfl)
@[simp] theorem u143 {π : List Sel} {j : Int} : setB d ρ i π j (some (some a)) = setA i ρ (updP a π (leafSet j d)) := (rfl)
@[simp] theorem u144 : setA i ρ (some d) = .nx (ρ.set i (some d)) := (rfl)
@[simp] theorem u145 {c : Addr} {ns : List Str} : sRaise c ns ms ρ = raiseK c ns (ms ρ) := (rfl)
@[simp] theorem u146 {c : Addr} {ns : List Str} : raiseK c ns (.ok ds ρ) = if fzL ds = true ∧ ds.length = ns.length then .ex ⟨c, ns.reverse, ds.reverse⟩ ρ else .bad := (rfl)
end
/-! operations -/
section
variable {i j : Int} {x y : List Nat} {ds es : List D} {b c : Bool} {d : D}
@[simp] theorem g1 : gAdd (.int i) (.int j) = some (.int (i + j)) := (rfl)
@[simp] theorem g2 : gAdd (.str x) (.str y) = if x.length + y.length ≤ sizeLine then some (.str (x ++ y)) else none := (rfl)
@[simp] theorem g3 : gSub (.int i) (.int j) = some (.int (i - j)) := (rfl)
@[simp] theorem g4 : gMulA (.int i) (.int j) = if CMulA i j then some (.int (i * j)) else none := (rfl)
@[simp] theorem g5 : gDiv (.int i) (.int j) = if CDiv i j ∨ CDivW i j then some (.int (i / j)) else none := (rfl)
@[simp] theorem g6 : gMod (.int i) (.int j) = if 0 < j then some (.int (i % j)) else none := (rfl)
@[simp] theorem g7 {p : Int → Int → Bool} : gCmp p (.int i) (.int j) = some (.bl (p i j)) := (rfl)
@[simp] theorem g8 : gEq (.int i) (.int j) = some (.bl (decide (i = j))) := by simp [gEq, eqD, scD, scal]
@[simp] theorem g9 : gNe (.int i) (.int j) = some (.bl (!decide (i = j))) := by simp [gNe, eqD, scD, scal]
theorem sx_iff {x y : List Nat} : sx x = sx y ↔ x = y := ⟨sx_inj, fun h => by rw [h]⟩
@[simp] theorem g10 : gEq (.str x) (.str y) = some (.bl (decide (x = y))) := by simp [gEq, eqD, scD, scal, sx_iff]
@[simp] theorem g11 : gNe (.str x) (.str y) = some (.bl (!decide (x = y))) := by simp [gNe, eqD, scD, scal, sx_iff]
@[simp] theorem g12 {k : Nat} : gIn (.str [k]) (.str y) = some (.bl (decide (k ∈ y))) := (rfl)
@[simp] theorem g13 {k : Nat} : gNin (.str [k]) (.str y) = some (.bl (!decide (k ∈ y))) := (rfl)
@[simp] theorem g14 : gLen [.str x] = if x.length ≤ sizeLine then some (.int x.length) else none := (rfl)
@[simp] theorem g15 : gLen [.lst b ds] = some (.int ds.length) := (rfl)
@[simp] theorem g16 : gLen [.tup ds] = some (.int ds.length) := (rfl)
@[simp] theorem g17 : gInt [.int i] = some (.int i) := (rfl)
@[simp] theorem g18 : gInt [.bl b] = some (.int (if b then 1 else 0)) := (rfl)
@[simp] theorem g19 : gAbs [.int i] = some (.int (if i < 0 then -i else i)) := (rfl)
@[simp] theorem g20 : gTup [.lst b ds] = if fzL ds = true then some (.tup ds) else none := (rfl)
@[simp] theorem g21 : gTup [.tup ds] = if fzL ds = true then some (.tup ds) else none := (rfl)
@[simp] theorem g22 : ixv (.lst b ds) (.int i) = ixD ds i := (rfl)
@[simp] theorem g23 : ixv (.tup ds) (.int i) = ixD ds i := (rfl)
@[simp] theorem g24 : ixv (.str x) (.int i) = if x.length ≤ sizeLine then (ixD x i).map fun c => .str [c] else none := (rfl)
@[simp] theorem g25 : gAdd (.lst b ds) (.lst c es) = if fzL ds = true ∧ fzL es = true ∧ ds.length + es.length ≤ sizeLine then some (.lst true (ds ++ es)) else none := (rfl)
@[simp] theorem z1 : fz (.int i) = true := (rfl)
@[simp] theorem z2 : fz (.str x) = true := (rfl)
@[simp] theorem z3 : fz (.bl b) = true := (rfl)
@[simp] theorem z4 : fz .non = true := (rfl)
@[simp] theorem z5 : fz (.tup ds) = fzL ds := (rfl)
@[simp] theorem z6 : fz (.lst true ds) = false := (rfl)
@[simp] theorem z7 : fz (.lst false ds) = true := (rfl)
@[simp] theorem z8 : fzL [] = true := (rfl)
@[simp] theorem z9 : fzL (d :: ds) = (fz d && fzL ds) := (rfl)
@[simp] theorem z10 : frz (.int i) = .int i := (rfl)
@[simp] theorem z11 : frz (.str x) = .str x := (rfl)
@[simp] theorem z12 : frz (.lst b ds) = .lst false (frzL ds) := (rfl)
@[simp] theorem z13 : frz (.tup ds) = .tup (frzL ds) := (rfl)
@[simp] theorem z14 : frzL [] = [] := (rfl)
@[simp] theorem z15 : frzL (d :: ds) = frz d :: frzL ds := (rfl)
@[simp] theorem z16 : ne (.int i) = true := (rfl)
@[simp] theorem z17 : ne (.str x) = true := (rfl)
@[simp] theorem z18 : ne (.bl b) = true := (rfl)
@[simp] theorem z19 : ne (.lst b ds) = neL ds := (rfl)
@[simp] theorem z20 : ne (.tup ds) = neL ds := (rfl)
@[simp] theorem z21 : neL [] = true := (rfl)
@[simp] theorem z22 : neL (d :: ds) = (ne d && neL ds) := (rfl)
@[simp] theorem z23 : frz (.bl b) = .bl b := (rfl)
@[simp] theorem z24 : ne .non = true := (rfl)
@[simp] theorem t1 : truD (.bl b) = some b := (rfl)
@[simp] theorem t2 : truD (.int i) = some (i != 0) := (rfl)
@[simp] theorem t3 : truD (.lst b ds) = some (!ds.isEmpty) := (rfl)
end
/-! paths, changes, what is given back -/
def pxK (p : Option (Nat × List Sel)) (x : Option D) : Option (Nat × List Sel) := p.bind fun q => match x with
  | some (.int k) => some (q.1, q.2 ++ [.ix k])
  | _ => none
def bk1 (B : List Nat) (ρ : Env) (k : Nat) (ds : List D) (x : Option D) : Option (List D) := x.bind fun d => (back B ρ (k + 1) ds).map fun r => d :: r
def bk2 (d : D) (x : Option (List D)) : Option (List D) := x.map fun r => d :: r
section
variable {ρ : Env} {i k : Nat} {π : List Sel} {p : Env → Option (Nat × List Sel)} {f : Env → Option D} {j : Int} {d l : D} {ds ys : List D} {B : List Nat} {gm : GM} {b : Bool}
@[simp] theorem w1 : pIx p f ρ = pxK (p ρ) (f ρ) := (rfl)
@[simp] theorem w02 : pxK (some (i, π)) (some (.int j)) = some (i, π ++ [.ix j]) := (rfl)
@[simp] theorem w3 : back B ρ k [] = some [] := (rfl)
@[simp] theorem w4 : back B ρ k (d :: ds) = bk1 B ρ k ds (if k ∈ B then (ρ[k]?).join else if fz d = true then some d else none) := (rfl)
@[simp] theorem w5 : bk1 B ρ k ds (some d) = bk2 d (back B ρ (k + 1) ds) := (rfl)
@[simp] theorem w6 : bk2 d (some ds) = some (d :: ds) := (rfl)
@[simp] theorem w7 : isOwnL (.lst true ds) = true := (rfl)
@[simp] theorem w8 : getP d [] = some d := getP_nil d
@[simp] theorem w9 : getP (.lst true ds) (.ix j :: π) = (nrm ds.length j).bind fun j => (ds[j]?).bind fun x => getP x π := (rfl)
@[simp] theorem w10 {fn : D → Option D} : updP d [] fn = fn d := by cases d <;> rfl
@[simp] theorem w11 {fn : D → Option D} : updP (.lst true ds) (.ix j :: π) fn = (nrm ds.length j).bind fun j => (ds[j]?).bind fun x => (updP x π fn).map fun y => .lst true (ds.set j y) := (rfl)
@[simp] theorem w12 : leafM gm ys (.lst true ds) = (gm ds ys).map fun p => .lst true p.1 := (rfl)
@[simp] theorem w13 : valM gm ys (.lst true ds) = (gm ds ys).map fun p => p.2 := (rfl)
@[simp] theorem w14 : leafSet j d (.lst true ds) = (nrm ds.length j).map fun j => .lst true (ds.set j d) := (rfl)
@[simp] theorem w15 : gmAppend ds [d] = if ds.length < sizeLine then some (ds ++ [d], .non) else none := (rfl)
@[simp] theorem w16 : gmPopAt ds [.int j] = if -(2 ^ 63) ≤ j ∧ j < 2 ^ 63 then (nrm ds.length j).bind fun j => (ds[j]?).map fun x => (ds.eraseIdx j, x) else none := (rfl)
@[simp] theorem w17 : mutK gm ys i π ρ (some (some d)) = (match getP d π with
    | some l => if isOwnL l = true ∧ fzL ys = true then mutA i ρ (updP d π (leafM gm ys)) (valM gm ys l) else .bad
    | none => .bad) := by
  unfold mutK mutA
  dsimp only
@[simp] theorem w18 {v : D} : mutA i ρ (some d) (some v) = .ok v (ρ.set i (some d)) := (rfl)
end
theorem szl : sizeLine = 16777216 := sizeLine_eq
end Se

/-! loops by what stays true; small facts for plain laws -/
namespace Se
open PySem L2

theorem forF_inv {f : D → Env → Option Env} {m : MS} (I : Nat → Env → Prop) : ∀ (ds : List D) (k : Nat) (ρ : Env), I k ρ → (∀ i d ρ, ds[i]? = some d → I (k + i) ρ → ∃ ρ1 ρ2, f d ρ = some ρ1 ∧ (m ρ1 = .nx ρ2 ∨ m ρ1 = .ct ρ2) ∧ I (k + i + 1) ρ2) → ∃ ρ', forF f m ds ρ = .nx ρ' ∧ I (k + ds.length) ρ'
  | [], k, ρ, h, _ => ⟨ρ, rfl, h⟩
  | d :: ds, k, ρ, h, st => by
    obtain ⟨ρ1, ρ2, h1, h2, h3⟩ := st 0 d ρ rfl h
    obtain ⟨ρ', h4, h5⟩ := forF_inv I ds (k + 1) ρ2 h3 fun i d' ρ0 hd hi => by
      have e : k + 1 + i = k + (i + 1) := by omega
      rw [e] at hi ⊢
      exact st (i + 1) d' ρ0 hd hi
    refine ⟨ρ', ?_, by rw [List.length_cons]; rw [show k + (ds.length + 1) = k + 1 + ds.length by omega]; exact h5⟩
    unfold forF
    rw [h1]
    dsimp only
    rcases h2 with h2 | h2 <;> rw [h2] <;> exact h4
/-- over range(lo, lo + n) -/
theorem forF_range {f : D → Env → Option Env} {m : MS} (I : Nat → Env → Prop) {lo : Int} {n : Nat} {ρ : Env} (h0 : I 0 ρ) (st : ∀ i ρ, i < n → I i ρ → ∃ ρ1 ρ2, f (.int (lo + i)) ρ = some ρ1 ∧ (m ρ1 = .nx ρ2 ∨ m ρ1 = .ct ρ2) ∧ I (i + 1) ρ2) :
    ∃ ρ', forF f m (rgD lo n) ρ = .nx ρ' ∧ I n ρ' := by
  obtain ⟨ρ', h1, h2⟩ := forF_inv (f := f) (m := m) I (rgD lo n) 0 ρ h0 fun i d ρ hd hi => by
    obtain ⟨hlt, rfl⟩ := rgD_get hd
    rw [Nat.zero_add] at hi ⊢
    exact st i ρ hlt hi
  rw [Nat.zero_add, rgD_len] at h2
  exact ⟨ρ', h1, h2⟩
theorem whileF_inv {mc : M Bool} {m : MS} (I : Nat → Env → Prop) : ∀ (n k : Nat) (ρ : Env), n < k → I n ρ → (∀ n ρ, I n ρ → (∃ ρ1, mc ρ = .ok false ρ1 ∧ I 0 ρ1) ∨ ∃ ρ1 ρ2 n', mc ρ = .ok true ρ1 ∧ (m ρ1 = .nx ρ2 ∨ m ρ1 = .ct ρ2) ∧ n' < n ∧ I n' ρ2) → ∃ ρ', whileF mc m k ρ = .nx ρ' ∧ I 0 ρ'
  | n, 0, ρ, hk, _, _ => absurd hk (Nat.not_lt_zero _)
  | n, k + 1, ρ, hk, h, st => by
    rcases st n ρ h with ⟨ρ1, h1, h2⟩ | ⟨ρ1, ρ2, n', h1, h2, h3, h4⟩
    · exact ⟨ρ1, by unfold whileF; rw [h1]; rfl, h2⟩
    · obtain ⟨ρ', h5, h6⟩ := whileF_inv I n' k ρ2 (by omega) h4 st
      refine ⟨ρ', ?_, h6⟩
      unfold whileF
      rw [h1]
      dsimp only
      rw [if_pos rfl]
      rcases h2 with h2 | h2 <;> rw [h2] <;> exact h5
@[simp] theorem x1 {mc : M Bool} {m : MS} {ρ : Env} : sWhile mc m ρ = whileF mc m wF ρ := (rfl)
@[simp] theorem x2 {i : Nat} {d : D} {ρ : Env} : fName i d ρ = if i < ρ.length then some (ρ.set i (some d)) else none := (rfl)
theorem cm7 {i j : Int} (h1 : -(2 ^ 64) < j) (h2 : j < 2 ^ 64) : CMulA i j := .inl (.inr ⟨h1, h2⟩)
theorem cm8 {i j : Int} (h1 : -(2 ^ 64) < i) (h2 : i < 2 ^ 64) : CMulA i j := .inl (.inl ⟨h1, h2⟩)
theorem fzL_ints (l : List Int) : fzL (l.map D.int) = true := by induction l <;> simp_all
theorem neL_ints (l : List Int) : neL (l.map D.int) = true := by induction l <;> simp_all
theorem fzL_strs (l : List (List Nat)) : fzL (l.map D.str) = true := by induction l <;> simp_all
theorem neL_strs (l : List (List Nat)) : neL (l.map D.str) = true := by induction l <;> simp_all
theorem strsD_map (l : List (List Nat)) : strsD (l.map D.str) = some l := by
  induction l with
  | nil => rfl
  | cons a l ih => simp [strsD, ih]
theorem frzL_strs (l : List (List Nat)) : frzL (l.map D.str) = l.map D.str := by induction l <;> simp_all
theorem joinL_nil (l : List (List Nat)) : TL.joinL [] l = l.flatten := by
  match l with
  | [] => rfl
  | [p] => simp [TL.joinL]
  | p :: q :: r => simp [TL.joinL, joinL_nil (q :: r)]
/-! x.m(e) with effects, comprehensions -/
def mE2 (g : GM) (ms : M (List D)) (i : Nat) (π : List Sel) (ρ : Env) (x : Option (Option D)) : RE D := match x with
  | some (some d) => (match getP d π with
    | some l => if isOwnL l = true then mutF g i π d l (ms (ρ.set i none)) else .bad
    | none => .bad)
  | _ => .bad
def mE3 (g : GM) (ms : M (List D)) (i : Nat) (π : List Sel) (ρ : Env) (d : D) (y : Option D) : RE D := match y with
  | some l => if isOwnL l = true then mutF g i π d l (ms (ρ.set i none)) else .bad
  | none => .bad
section
variable {g : GM} {ms : M (List D)} {p : Env → Option (Nat × List Sel)} {ρ : Env} {i : Nat} {π : List Sel} {d l v : D} {ys ds : List D} {e : EX}
@[simp] theorem x3 : eMut g p ms ρ = mutE g ms (p ρ) ρ := (rfl)
@[simp] theorem x4 : mutE g ms (some (i, π)) ρ = mE2 g ms i π ρ (ρ[i]?) := by
  unfold mutE mE2
  dsimp only
  generalize ρ[i]? = x
  rcases x with _ | _ | d
  · rfl
  · rfl
  · simp only [Option.join_some]
    cases hg : getP d π <;> rfl
@[simp] theorem x5 : mE2 g ms i π ρ (some (some d)) = mE3 g ms i π ρ d (getP d π) := (rfl)
@[simp] theorem x6 : mE3 g ms i π ρ d (some l) = if isOwnL l = true then mutF g i π d l (ms (ρ.set i none)) else .bad := (rfl)
@[simp] theorem x7 : mutF g i π d l (.ok ys ρ) = mutG i ρ (ρ[i]?) (updP d π (leafM g ys)) (valM g ys l) := by
  unfold mutF mutG
  show (match ρ[i]?, updP d π (leafM g ys), valM g ys l with
    | some none, some d', some v => RE.ok v (ρ.set i (some d'))
    | _, _, _ => .bad) = _
  rcases ρ[i]? with _ | _ | x <;> rcases updP d π (leafM g ys) with _ | y <;> rcases valM g ys l with _ | z <;> rfl
@[simp] theorem x8 : mutG i ρ (some none) (some d) (some v) = .ok v (ρ.set i (some d)) := (rfl)
def lcE (vs : List Nat) (x : Option (List D × Env)) : RE D := match x with
  | some (acc, ρ) => .ok (.lst true acc) (wipeE ρ vs)
  | none => .bad
def lcK (vs : List Nat) (f : D → Env → Option Env) (mt : M Bool) (me : M D) (r : RE (List D)) : RE D := match r with
  | .ok ds ρ => lcE vs (compF vs f mt me ds [] ρ)
  | .ex e ρ => .ex e ρ
  | .bad => .bad
variable {vs : List Nat} {mi : M (List D)} {f : D → Env → Option Env} {mt : M Bool} {me : M D}
@[simp] theorem x9 : eLc vs mi f mt me ρ = lcK vs f mt me (mi ρ) := by
  unfold eLc lcK lcE
  cases mi ρ with
  | ok ds ρ1 =>
    (try dsimp only) <;> (rcases compF vs f mt me ds [] ρ1 with _ | ⟨a, b⟩ <;> rfl)
  | ex e ρ1 => rfl
  | bad => rfl
@[simp] theorem x10 : lcK vs f mt me (.ok ds ρ) = lcE vs (compF vs f mt me ds [] ρ) := (rfl)
@[simp] theorem x11 : lcE vs (some (ds, ρ)) = .ok (.lst true ds) (wipeE ρ vs) := (rfl)
@[simp] theorem x12 : wipeE ρ [] = ρ := (rfl)
@[simp] theorem x13 {j : Nat} {js : List Nat} : wipeE ρ (j :: js) = (wipeE ρ js).set j none := (rfl)
theorem compF_inv (I : Nat → List D → Env → Prop) : ∀ (ds : List D) (k : Nat) (acc : List D) (ρ : Env), I k acc ρ → acc.length + ds.length ≤ sizeLine →
    (∀ i d acc ρ, ds[i]? = some d → I (k + i) acc ρ → ∃ ρ1 ρ2 y, f d (wipeE ρ vs) = some ρ1 ∧ me ρ1 = .ok y ρ2 ∧ I (k + i + 1) (acc ++ [y]) ρ2) → ∃ acc' ρ', compF vs f tTrue me ds acc ρ = some (acc', ρ') ∧ I (k + ds.length) acc' ρ'
  | [], k, acc, ρ, h, _, _ => ⟨acc, ρ, rfl, h⟩
  | d :: ds, k, acc, ρ, h, hz, st => by
    obtain ⟨ρ1, ρ2, y, h1, h2, h3⟩ := st 0 d acc ρ rfl h
    rw [List.length_cons] at hz
    obtain ⟨acc', ρ', h4, h5⟩ := compF_inv I ds (k + 1) (acc ++ [y]) ρ2 h3 (by rw [List.length_append, List.length_singleton]; omega) fun i d' acc0 ρ0 hd hi => by
      have e : k + 1 + i = k + (i + 1) := by omega
      rw [e] at hi ⊢
      exact st (i + 1) d' acc0 ρ0 hd hi
    refine ⟨acc', ρ', ?_, by rw [List.length_cons]; rw [show k + (ds.length + 1) = k + 1 + ds.length by omega]; exact h5⟩
    unfold compF
    rw [h1]
    dsimp only [tTrue]
    rw [if_pos rfl, h2]
    dsimp only
    rw [if_pos (by omega)]
    exact h4
end
theorem strsD_chars (l : List Nat) : strsD (l.map fun c => D.str [c]) = some (l.map fun c => [c]) := by
  have := strsD_map (l.map fun c => [c])
  rwa [List.map_map] at this
theorem flat_chars (l : List Nat) : (l.map fun c => [c]).flatten = l := by induction l <;> simp_all
theorem gJoin_chars {b : Bool} {l : List Nat} (h : l.length ≤ 16777216) : gJoin [] (.lst b (l.map fun c => .str [c])) = some (.str l) := by
  have e : ((l.map fun c => [c]).map (·.length)).sum = l.length := by clear h; induction l <;> simp_all; omega
  show joinD [] _ = _
  unfold joinD
  rw [strsD_chars, Option.bind_some, e]
  simp [h, joinL_nil, flat_chars]
theorem gJoin_strs {b : Bool} {l : List (List Nat)} (h : l.flatten.length ≤ 16777216) : gJoin [] (.lst b (l.map .str)) = some (.str l.flatten) := by
  have e : (l.map (·.length)).sum = l.flatten.length := by rw [List.length_flatten]
  show joinD [] _ = _
  unfold joinD
  rw [strsD_map, Option.bind_some, if_pos (by rw [e]; simpa using h), joinL_nil]
end Se

/-! try, the handled exception, isinstance: rules by which simp reckons -/
namespace Se
open PySem L2
def tryX (i : Nat) (b : Option Bool) (e : EX) (ms : MS) (ρ : Env) : SR := match b with
  | some true => if i < ρ.length then outS i (ms (ρ.set i (some (.exc e.cls e.ns e.ds)))) else .bad
  | some false => .ex e ρ
  | none => .bad
def tryK (i : Nat) (mt : Addr → Option Bool) (r : SR) (ms : MS) : SR := match r with
  | .ex e ρ => tryX i (mt e.cls) e ms ρ
  | r => r
def tpK (x : Option (List D)) : Option D := x.bind fun ds => if ds.length ≤ sizeLine ∧ fzL ds = true then some (.tup ds) else none
def xfK (K : PySem.W.Frag) (n : Str) (x : Option D) : Option D := x.bind (xfG K n)
section
variable {i : Nat} {mt : Addr → Option Bool} {mb ms : MS} {ρ : Env} {d : D} {e : EX} {b : Bool} {K : PySem.W.Frag} {c : Addr} {ns : List Str} {ds : List D} {n : Str} {t : Value}
@[simp] theorem v1 : sTry i mt mb ms ρ = tryK i mt (mb ρ) ms := by
  unfold sTry tryK tryX
  cases mb ρ with
  | ex e ρ1 => (try dsimp only) <;> (rcases mt e.cls with _ | _ | _ <;> rfl)
  | _ => rfl
@[simp] theorem v2 : tryK i mt (.nx ρ) ms = .nx ρ := (rfl)
@[simp] theorem v3 : tryK i mt (.rt d ρ) ms = .rt d ρ := (rfl)
@[simp] theorem v4 : tryK i mt (.ex e ρ) ms = tryX i (mt e.cls) e ms ρ := (rfl)
@[simp] theorem v5 : tryX i (some true) e ms ρ = if i < ρ.length then outS i (ms (ρ.set i (some (.exc e.cls e.ns e.ds)))) else .bad := (rfl)
@[simp] theorem v6 : tryX i (some false) e ms ρ = .ex e ρ := (rfl)
@[simp] theorem v7 : outS i (.nx ρ) = if neE (ρ.set i none) = true then .nx (ρ.set i none) else .bad := (rfl)
@[simp] theorem v8 : outS i (.rt d ρ) = if neE (ρ.set i none) = true ∧ ne d = true then .rt d (ρ.set i none) else .bad := (rfl)
@[simp] theorem v9 : neE [] = true := (rfl)
@[simp] theorem v10 : neE (none :: ρ) = neE ρ := (rfl)
@[simp] theorem v11 : neE (some d :: ρ) = (ne d && neE ρ) := (rfl)
@[simp] theorem v12 : vXf K n i ρ = xfK K n (ρ[i]?).join := (rfl)
@[simp] theorem v13 : xfK K n (some (.exc c ns ds)) = if xfD K c n = true ∧ fzL ds = true then (ns.zip ds).lookup n else none := (rfl)
@[simp] theorem v14 {y : D} : gIsX K [.exc c ns ds, y] = if excB K c = true then (isK K (.ref c) y).map D.bl else none := (rfl)
@[simp] theorem v15 {a : Addr} : isK K t (.obj a) = PySem.W.kitOne K t (.ref a) := (rfl)
@[simp] theorem v16 {x : String} : isK K t (.ty x) = PySem.W.kitOne K t (.type x) := (rfl)
@[simp] theorem v17 : isK K t (.tup ds) = (clsD ds).bind fun us => PySem.W.kitAny K t us := (rfl)
@[simp] theorem v18 : clsD [] = some [] := (rfl)
@[simp] theorem v19 : clsD (d :: ds) = (clD d).bind fun c => (clsD ds).map fun cs => c :: cs := (rfl)
@[simp] theorem v20 {a : Addr} : clD (.obj a) = some (.ref a) := (rfl)
@[simp] theorem v21 {x : String} : clD (.ty x) = some (.type x) := (rfl)
@[simp] theorem v22 : PySem.W.kitAny K t [] = some false := (rfl)
theorem kia_f {c : Value} {r : List Value} (h : PySem.W.kitOne K t c = some false) : PySem.W.kitAny K t (c :: r) = PySem.W.kitAny K t r := by
  show (match PySem.W.kitOne K t c with
    | some true => some true
    | some false => PySem.W.kitAny K t r
    | none => none) = _
  rw [h]
theorem kia_t {c : Value} {r : List Value} (h : PySem.W.kitOne K t c = some true) : PySem.W.kitAny K t (c :: r) = some true := by
  show (match PySem.W.kitOne K t c with
    | some true => some true
    | some false => PySem.W.kitAny K t r
    | none => none) = _
  rw [h]
@[simp] theorem v23 : fz (.exc c ns ds) = true := (rfl)
@[simp] theorem v24 : fz (.obj c) = true := (rfl)
@[simp] theorem v26 {fs : Env → Option (List D)} : vTup fs ρ = tpK (fs ρ) := (rfl)
@[simp] theorem v27 : tpK (some ds) = if ds.length ≤ sizeLine ∧ fzL ds = true then some (.tup ds) else none := (rfl)
@[simp] theorem v25 {x : String} : fz (.ty x) = true := (rfl)
theorem rg1_of {j : Int} (h0 : -4611686018427387904 < j) (h1 : j < 4611686018427387904) : rg1 [.int j] = some (rgD 0 j.toNat) := if_pos (w62_of h0 h1)
theorem rg1_nat {n : Nat} (h : n ≤ 1000000000) : rg1 [.int n] = some (rgD 0 n) := by
  rw [rg1_of (by omega) (by omega)]
  simp
theorem rg2_of {i j : Int} (h0 : -4611686018427387904 < i) (h1 : i < 4611686018427387904) (h2 : -4611686018427387904 < j) (h3 : j < 4611686018427387904) : rg2 [.int i, .int j] = some (rgD i (j - i).toNat) := if_pos ⟨w62_of h0 h1, w62_of h2 h3⟩
theorem cutL_take {α : Type} {xs : List α} {k : Nat} : cutL xs none (some (k : Int)) = xs.take k := by
  unfold cutL
  rw [HT.sIx_none, HT.sIx_nat, List.drop_zero, Nat.sub_zero]
  by_cases h : k ≤ xs.length
  · rw [Nat.min_eq_left h]
  · rw [Nat.min_eq_right (by omega), List.take_length, List.take_of_length_le (by omega)]
theorem cutL_drop {α : Type} {xs : List α} {k : Nat} : cutL xs (some (k : Int)) none = xs.drop k := by
  unfold cutL
  rw [HT.sIx_none, HT.sIx_nat]
  by_cases h : k ≤ xs.length
  · rw [Nat.min_eq_left h, List.take_of_length_le (by rw [List.length_drop]; omega)]
  · rw [Nat.min_eq_right (by omega), List.drop_length, List.drop_of_length_le (by omega), List.take_nil]
theorem cutL_range {α : Type} {xs : List α} {i j : Nat} (h : i ≤ j) : cutL xs (some (i : Int)) (some (j : Int)) = (xs.drop i).take (j - i) := by
  unfold cutL
  rw [HT.sIx_nat, HT.sIx_nat]
  by_cases h1 : i ≤ xs.length
  · rw [Nat.min_eq_left h1]
    by_cases h2 : j ≤ xs.length
    · rw [Nat.min_eq_left h2]
    · rw [Nat.min_eq_right (by omega), List.take_of_length_le (by rw [List.length_drop]; omega), List.take_of_length_le (by rw [List.length_drop]; omega)]
  · rw [Nat.min_eq_right (show xs.length ≤ i by omega), Nat.min_eq_right (show xs.length ≤ j by omega), List.drop_length, List.drop_of_length_le (show xs.length ≤ i by omega), List.take_nil, List.take_nil]
theorem gMulA_str {x : List Nat} {k : Int} (h1 : -9223372036854775808 ≤ k) (h2 : k < 9223372036854775808) (h3 : x.length * k.toNat ≤ 16777216) : gMulA (.str x) (.int k) = some (.str (repD k.toNat x)) := by
  simp [gMulA, h1, h2, h3, szl]
end
end Se

namespace Se
open PySem L2
/-! ### sum, all, any, min and max of two -/
def intsD : List D → Option (List Int)
  | [] => some []
  | .int i :: ds => (intsD ds).map fun l => i :: l
  | _ => none
def blsD : List D → Option (List Bool)
  | [] => some []
  | .bl i :: ds => (blsD ds).map fun l => i :: l
  | _ => none
section
variable {C : RC} {H : Hp}
theorem RepW.intsX : ∀ {ds : List D} {vs : List V} {ns : List Int}, RepW C H ds vs → intsD ds = some ns → vs = ns.map V.int
  | [], vs, ns, r, h => by cases h; exact r
  | d :: ds, vs, ns, r, h => by
    obtain ⟨v, vs', o, rfl, r1, r2⟩ := r
    cases d with
    | int i =>
      simp only [intsD, Option.map_eq_some_iff] at h
      obtain ⟨l, h, rfl⟩ := h
      rw [r1.1, RepW.intsX r2 h]
      rfl
    | _ => cases h
theorem RepW.blsX : ∀ {ds : List D} {vs : List V} {ns : List Bool}, RepW C H ds vs → blsD ds = some ns → vs = ns.map V.bl
  | [], vs, ns, r, h => by cases h; exact r
  | d :: ds, vs, ns, r, h => by
    obtain ⟨v, vs', o, rfl, r1, r2⟩ := r
    cases d with
    | bl i =>
      simp only [blsD, Option.map_eq_some_iff] at h
      obtain ⟨l, h, rfl⟩ := h
      rw [r1.1, RepW.blsX r2 h]
      rfl
    | _ => cases h
end
def gSum : List D → Option D
  | [.lst _ ds] => (intsD ds).map fun ns => .int ns.sum
  | _ => none
def gAll : List D → Option D
  | [.lst _ ds] => (blsD ds).map fun ns => .bl (ns.all id)
  | _ => none
def gAny : List D → Option D
  | [.lst _ ds] => (blsD ds).map fun ns => .bl (ns.any id)
  | _ => none
def gMin : List D → Option D
  | [.int i, .int j] => some (.int (if j < i then j else i))
  | _ => none
def gMax : List D → Option D
  | [.int i, .int j] => some (.int (if j > i then j else i))
  | _ => none
section
variable {C : RC}
theorem vo_sum : VOn C (rSum C.K) gSum := by
  intro ds d vs H Q r hg q
  unfold gSum at hg
  split at hg
  · obtain ⟨v, o, rfl, rv⟩ := repw1 r
    simp only [Option.map_eq_some_iff] at hg
    obtain ⟨ns, hn, rfl⟩ := hg
    obtain ⟨a, ws, rfl, hr, w⟩ := rv.lstS
    rw [w.intsX hn] at hr
    exact ⟨a, ns, rfl, .inl hr, q _ _ [] ⟨rfl, rfl⟩ Ext.refl (by simp)⟩
  · cases hg
theorem vo_all : VOn C (rAll C.K) gAll := by
  intro ds d vs H Q r hg q
  unfold gAll at hg
  split at hg
  · obtain ⟨v, o, rfl, rv⟩ := repw1 r
    simp only [Option.map_eq_some_iff] at hg
    obtain ⟨ns, hn, rfl⟩ := hg
    obtain ⟨a, ws, rfl, hr, w⟩ := rv.lstS
    rw [w.blsX hn] at hr
    exact ⟨a, ns, rfl, .inl hr, q _ _ [] ⟨rfl, rfl⟩ Ext.refl (by simp)⟩
  · cases hg
theorem vo_any : VOn C (rAny C.K) gAny := by
  intro ds d vs H Q r hg q
  unfold gAny at hg
  split at hg
  · obtain ⟨v, o, rfl, rv⟩ := repw1 r
    simp only [Option.map_eq_some_iff] at hg
    obtain ⟨ns, hn, rfl⟩ := hg
    obtain ⟨a, ws, rfl, hr, w⟩ := rv.lstS
    rw [w.blsX hn] at hr
    exact ⟨a, ns, rfl, .inl hr, q _ _ [] ⟨rfl, rfl⟩ Ext.refl (by simp)⟩
  · cases hg
theorem vo_min : VOn C (fun xs H Q => ∃ i j, xs = [.int i, .int j] ∧ Q (.int (if j < i then j else i)) H) gMin := by
  intro ds d vs H Q r hg q
  unfold gMin at hg
  split at hg
  · obtain ⟨v, w, o, p, rfl, rv, rw'⟩ := repw2 r
    cases hg
    rw [rv.1, rw'.1]
    exact ⟨_, _, rfl, q _ _ [] ⟨rfl, rfl⟩ Ext.refl (by simp)⟩
  · cases hg
theorem vo_max : VOn C (fun xs H Q => ∃ i j, xs = [.int i, .int j] ∧ Q (.int (if j > i then j else i)) H) gMax := by
  intro ds d vs H Q r hg q
  unfold gMax at hg
  split at hg
  · obtain ⟨v, w, o, p, rfl, rv, rw'⟩ := repw2 r
    cases hg
    rw [rv.1, rw'.1]
    exact ⟨_, _, rfl, q _ _ [] ⟨rfl, rfl⟩ Ext.refl (by simp)⟩
  · cases hg
end
section
variable {X : Cx} {W : WX} {z : Option (Addr × Addr × Addr)} {a : Expr} {es : List Expr} {p pos : Pos} {fs : Env → Option (List D)} {ms : M (List D)}
theorem sv_csum (hc : X.calm = true) (hm : X.mg "sum" = none) (ha : SW X (KX X z) (a :: es) fs) (hg : Gl X "sum" := by rfl) (he : starEach (a :: es) X.env = (false, eval a X.env) :: starEach es X.env := by rfl) (hp : (backTo pos (starEach es X.env)).any (·.1) = false := by rfl) : SV X (KX X z) (.Call (.Name "sum" p) (a :: es) [] pos) (vOpn gSum fs) := sv_opn (fun _ q => pe_callB (cr_sum hc) hg hm PyProof.Rows.Boot.«sum» q (by decide) (by decide) he hp) vo_sum ha
theorem sev_csum (hc : X.calm = true) (hm : X.mg "sum" = none) (ha : SW X (KX X z) (a :: es) fs) (hg : Gl X "sum" := by rfl) (he : starEach (a :: es) X.env = (false, eval a X.env) :: starEach es X.env := by rfl) (hp : (backTo pos (starEach es X.env)).any (·.1) = false := by rfl) : SE X W (KX X z) (.Call (.Name "sum" p) (a :: es) [] pos) (eV (vOpn gSum fs)) := sev_opn (fun _ q => pe_callB (cr_sum hc) hg hm PyProof.Rows.Boot.«sum» q (by decide) (by decide) he hp) vo_sum ha
theorem se_csum (hc : X.calm = true) (hm : X.mg "sum" = none) (ha : SA X W (KX X z) (a :: es) ms) (hg : Gl X "sum" := by rfl) (he : starEach (a :: es) X.env = (false, eval a X.env) :: starEach es X.env := by rfl) (hp : (backTo pos (starEach es X.env)).any (·.1) = false := by rfl) : SE X W (KX X z) (.Call (.Name "sum" p) (a :: es) [] pos) (eOpn gSum ms) := se_opn (fun _ q => pe_callB (cr_sum hc) hg hm PyProof.Rows.Boot.«sum» q (by decide) (by decide) he hp) vo_sum ha
theorem sv_calls (hc : X.calm = true) (hm : X.mg "all" = none) (ha : SW X (KX X z) (a :: es) fs) (hg : Gl X "all" := by rfl) (he : starEach (a :: es) X.env = (false, eval a X.env) :: starEach es X.env := by rfl) (hp : (backTo pos (starEach es X.env)).any (·.1) = false := by rfl) : SV X (KX X z) (.Call (.Name "all" p) (a :: es) [] pos) (vOpn gAll fs) := sv_opn (fun _ q => pe_callB (cr_all hc) hg hm PyProof.Rows.Boot.«all» q (by decide) (by decide) he hp) vo_all ha
theorem sev_calls (hc : X.calm = true) (hm : X.mg "all" = none) (ha : SW X (KX X z) (a :: es) fs) (hg : Gl X "all" := by rfl) (he : starEach (a :: es) X.env = (false, eval a X.env) :: starEach es X.env := by rfl) (hp : (backTo pos (starEach es X.env)).any (·.1) = false := by rfl) : SE X W (KX X z) (.Call (.Name "all" p) (a :: es) [] pos) (eV (vOpn gAll fs)) := sev_opn (fun _ q => pe_callB (cr_all hc) hg hm PyProof.Rows.Boot.«all» q (by decide) (by decide) he hp) vo_all ha
theorem se_calls (hc : X.calm = true) (hm : X.mg "all" = none) (ha : SA X W (KX X z) (a :: es) ms) (hg : Gl X "all" := by rfl) (he : starEach (a :: es) X.env = (false, eval a X.env) :: starEach es X.env := by rfl) (hp : (backTo pos (starEach es X.env)).any (·.1) = false := by rfl) : SE X W (KX X z) (.Call (.Name "all" p) (a :: es) [] pos) (eOpn gAll ms) := se_opn (fun _ q => pe_callB (cr_all hc) hg hm PyProof.Rows.Boot.«all» q (by decide) (by decide) he hp) vo_all ha
theorem sv_cany (hc : X.calm = true) (hm : X.mg "any" = none) (ha : SW X (KX X z) (a :: es) fs) (hg : Gl X "any" := by rfl) (he : starEach (a :: es) X.env = (false, eval a X.env) :: starEach es X.env := by rfl) (hp : (backTo pos (starEach es X.env)).any (·.1) = false := by rfl) : SV X (KX X z) (.Call (.Name "any" p) (a :: es) [] pos) (vOpn gAny fs) := sv_opn (fun _ q => pe_callB (cr_any hc) hg hm PyProof.Rows.Boot.«any» q (by decide) (by decide) he hp) vo_any ha
theorem sev_cany (hc : X.calm = true) (hm : X.mg "any" = none) (ha : SW X (KX X z) (a :: es) fs) (hg : Gl X "any" := by rfl) (he : starEach (a :: es) X.env = (false, eval a X.env) :: starEach es X.env := by rfl) (hp : (backTo pos (starEach es X.env)).any (·.1) = false := by rfl) : SE X W (KX X z) (.Call (.Name "any" p) (a :: es) [] pos) (eV (vOpn gAny fs)) := sev_opn (fun _ q => pe_callB (cr_any hc) hg hm PyProof.Rows.Boot.«any» q (by decide) (by decide) he hp) vo_any ha
theorem se_cany (hc : X.calm = true) (hm : X.mg "any" = none) (ha : SA X W (KX X z) (a :: es) ms) (hg : Gl X "any" := by rfl) (he : starEach (a :: es) X.env = (false, eval a X.env) :: starEach es X.env := by rfl) (hp : (backTo pos (starEach es X.env)).any (·.1) = false := by rfl) : SE X W (KX X z) (.Call (.Name "any" p) (a :: es) [] pos) (eOpn gAny ms) := se_opn (fun _ q => pe_callB (cr_any hc) hg hm PyProof.Rows.Boot.«any» q (by decide) (by decide) he hp) vo_any ha
theorem sv_cmin (hc : X.calm = true) (hm : X.mg "min" = none) (ha : SW X (KX X z) (a :: es) fs) (hg : Gl X "min" := by rfl) (he : starEach (a :: es) X.env = (false, eval a X.env) :: starEach es X.env := by rfl) (hp : (backTo pos (starEach es X.env)).any (·.1) = false := by rfl) : SV X (KX X z) (.Call (.Name "min" p) (a :: es) [] pos) (vOpn gMin fs) := sv_opn (fun _ q => pe_callB (call_min2 hc) hg hm PyProof.Rows.Boot.«min» q (by decide) (by decide) he hp) vo_min ha
theorem sev_cmin (hc : X.calm = true) (hm : X.mg "min" = none) (ha : SW X (KX X z) (a :: es) fs) (hg : Gl X "min" := by rfl) (he : starEach (a :: es) X.env = (false, eval a X.env) :: starEach es X.env := by rfl) (hp : (backTo pos (starEach es X.env)).any (·.1) = false := by rfl) : SE X W (KX X z) (.Call (.Name "min" p) (a :: es) [] pos) (eV (vOpn gMin fs)) := sev_opn (fun _ q => pe_callB (call_min2 hc) hg hm PyProof.Rows.Boot.«min» q (by decide) (by decide) he hp) vo_min ha
theorem se_cmin (hc : X.calm = true) (hm : X.mg "min" = none) (ha : SA X W (KX X z) (a :: es) ms) (hg : Gl X "min" := by rfl) (he : starEach (a :: es) X.env = (false, eval a X.env) :: starEach es X.env := by rfl) (hp : (backTo pos (starEach es X.env)).any (·.1) = false := by rfl) : SE X W (KX X z) (.Call (.Name "min" p) (a :: es) [] pos) (eOpn gMin ms) := se_opn (fun _ q => pe_callB (call_min2 hc) hg hm PyProof.Rows.Boot.«min» q (by decide) (by decide) he hp) vo_min ha
theorem sv_cmax (hc : X.calm = true) (hm : X.mg "max" = none) (ha : SW X (KX X z) (a :: es) fs) (hg : Gl X "max" := by rfl) (he : starEach (a :: es) X.env = (false, eval a X.env) :: starEach es X.env := by rfl) (hp : (backTo pos (starEach es X.env)).any (·.1) = false := by rfl) : SV X (KX X z) (.Call (.Name "max" p) (a :: es) [] pos) (vOpn gMax fs) := sv_opn (fun _ q => pe_callB (call_max2 hc) hg hm PyProof.Rows.Boot.«max» q (by decide) (by decide) he hp) vo_max ha
theorem sev_cmax (hc : X.calm = true) (hm : X.mg "max" = none) (ha : SW X (KX X z) (a :: es) fs) (hg : Gl X "max" := by rfl) (he : starEach (a :: es) X.env = (false, eval a X.env) :: starEach es X.env := by rfl) (hp : (backTo pos (starEach es X.env)).any (·.1) = false := by rfl) : SE X W (KX X z) (.Call (.Name "max" p) (a :: es) [] pos) (eV (vOpn gMax fs)) := sev_opn (fun _ q => pe_callB (call_max2 hc) hg hm PyProof.Rows.Boot.«max» q (by decide) (by decide) he hp) vo_max ha
theorem se_cmax (hc : X.calm = true) (hm : X.mg "max" = none) (ha : SA X W (KX X z) (a :: es) ms) (hg : Gl X "max" := by rfl) (he : starEach (a :: es) X.env = (false, eval a X.env) :: starEach es X.env := by rfl) (hp : (backTo pos (starEach es X.env)).any (·.1) = false := by rfl) : SE X W (KX X z) (.Call (.Name "max" p) (a :: es) [] pos) (eOpn gMax ms) := se_opn (fun _ q => pe_callB (call_max2 hc) hg hm PyProof.Rows.Boot.«max» q (by decide) (by decide) he hp) vo_max ha
end
/-! ### an empty dict -/
def eDct0 : M D := fun ρ => .ok (.dct true [] []) ρ
theorem se_dct0 {X : Cx} {W : WX} {C : RC} {pos : Pos} : SE X W C (.Dict [] [] pos) eDct0 := by
  refine ⟨_, pe_dnewK, fun ρ σ H own Q er hw p hp => ?_⟩
  have hw : PoE C W (.ok (.dct true [] []) ρ) σ H own Q := hw
  exact fin_v hw er Ext.refl ⟨p, [], [], rfl, by simp [upd], rfl, ⟨rfl, rfl⟩, by simp, rfl⟩ (Ext.new hp) (one_none hp)
/-! ### f(k = v, ..), the keywords in any order: what is frozen alone -/
def frzA : List AD → Option (List D)
  | [] => some []
  | .inl d :: as => if fz d = true then (frzA as).map fun ds => d :: ds else none
  | .inr _ :: _ => none
def pickD (pm : List Nat) (ds : List D) : List D := pm.map fun j => ds.getD j .non
def eCallP (pm : List Nat) (n : Nat) (F : List D → FR) (ma : M (List AD)) : M D := fun ρ => (ma ρ).bind fun as ρ1 => match frzA as with
  | some ds => if ds.length = n then (match takeAll ((pickD pm ds).map .inl) ρ1 with
    | some (ds2, ρ2) => if ds2.length = n ∧ neL ds2 = true then fin ((pickD pm ds).map .inl) ρ2 (F ds2) else .bad
    | none => .bad) else .bad
  | none => .bad
section
variable {C : RC} {H : Hp} {σ : St}
theorem frzA_rep : ∀ {as : List AD} {vs : List V} {o : List Addr} {ds : List D}, RepA C H σ as vs o → frzA as = some ds → RepL C H ds vs [] ∧ o = []
  | [], vs, o, ds, h, e => by
    cases e
    obtain ⟨rfl, rfl⟩ := h
    exact ⟨⟨rfl, rfl⟩, rfl⟩
  | .inl d :: as, vs, o, ds, h, e => by
    obtain ⟨v, vs', o1, o2, rfl, h1, h2, n, rfl⟩ := h
    simp only [frzA] at e
    split at e
    · rename_i hz
      simp only [Option.map_eq_some_iff] at e
      obtain ⟨l, e, rfl⟩ := e
      obtain ⟨r, rfl⟩ := frzA_rep h2 e
      have := h1.fz_nil hz
      subst this
      exact ⟨⟨v, vs', [], [], rfl, h1, r, by simp, rfl⟩, rfl⟩
    · cases e
  | .inr i :: as, vs, o, ds, h, e => by cases e
theorem RepL.getD : ∀ {ds : List D} {vs : List V} {j : Nat}, RepL C H ds vs [] → j < ds.length → Rep C H (ds.getD j .non) (vs.getD j .non) []
  | [], _, _, _, h => by simp at h
  | d :: ds, _, 0, r, _ => by
    obtain ⟨v, vs', o1, o2, rfl, h1, h2, n, e⟩ := r
    have e' := List.append_eq_nil_iff.mp e.symm
    rw [e'.1] at h1
    exact h1
  | d :: ds, _, j + 1, r, h => by
    obtain ⟨v, vs', o1, o2, rfl, h1, h2, n, e⟩ := r
    have e' := List.append_eq_nil_iff.mp e.symm
    rw [e'.2] at h2
    exact RepL.getD (j := j) h2 (by simpa using h)
theorem pick_rep {ds : List D} {vs : List V} (r : RepL C H ds vs []) : ∀ {pm : List Nat}, (∀ j ∈ pm, j < ds.length) → RepA C H σ ((pickD pm ds).map .inl) (pm.map fun j => vs.getD j .non) []
  | [], _ => ⟨rfl, rfl⟩
  | j :: pm, h => ⟨_, _, [], [], rfl, r.getD (h j List.mem_cons_self), pick_rep r fun i hi => h i (List.mem_cons_of_mem _ hi), by simp, rfl⟩
end
theorem vals_get : ∀ {vs : List V} {us : List Value} {j : Nat}, Vals vs us → j < vs.length → RelV (vs.getD j .non) (us.getD j .none)
  | _, _, j, .nil, h => by simp at h
  | _, _, 0, .cons h _, _ => h
  | _, _, j + 1, .cons _ r, h => vals_get (j := j) r (by simpa using h)
theorem vals_pick {vs : List V} {us : List Value} (r : Vals vs us) : ∀ {pm : List Nat}, (∀ j ∈ pm, j < vs.length) → Vals (pm.map fun j => vs.getD j .non) (pm.map fun j => us.getD j .none)
  | [], _ => .nil
  | j :: pm, h => .cons (vals_get r (h j List.mem_cons_self)) (vals_pick r fun i hi => h i (List.mem_cons_of_mem _ hi))
theorem bkP {K : PySem.W.Frag} {x qual : Str} {params : Arguments} {body : List Stmt} {sc : Scope} {f : Addr} {fd : FuncData} {ps ks : List Str} {pm : List Nat} (F : FunD K x qual params body sc [] [] f fd) (h1 : ∀ j ∈ pm, j < ks.length) (h2 : pm.Nodup) (h3 : pm.length = ks.length) (h4 : ps.length = ks.length)
    (h : ∀ (kV doc pm' : Value) (an : Option Addr) (cdv ct : Value) (ws : List Value), ws.length = ks.length → bindArgs (PySem.W.fnOf x qual params body sc .none kV doc pm' an cdv ct) ⟨[], ks.zip ws⟩ = pure (ps.zip (pm.map fun j => ws.getD j .none))) : Bk K fd ps ks pm := by
  obtain ⟨oc, od, dV, kV, doc, pm', an, cdv, ct, osl, rfl, lk, hcd, hD, hK⟩ := F.ex
  rcases hD with ⟨_, rfl⟩ | ⟨e, _⟩
  · exact ⟨fun s ws _ hl => .of_eq (h kV doc pm' an cdv ct ws hl), h1, h2, h3, h4⟩
  · exact absurd rfl e
theorem se_callP {X : Cx} {W : WX} {C : RC} {ms : M (List AD)} {f : Addr} {fd : FuncData} {ps ks : List Str} {pm : List Nat} {F : List D → FR} {n : Nat} {x : Str} {p pos : Pos} {k : Keyword} {kws : List Keyword} (hK : C.K = X.K) (c : Cal X f fd ps (spF (C0 X.K) ps.length F)) (tk : L2N.Takes X W) (hg : Gl X x) (hm : X.mg x = some (.ref f)) (hk : PySem.W.keepIn X.K (.ref f) = true)
    (hb : Bk X.K fd ps ks pm) (hn : n = ps.length) (ha : SKB X W C (k :: kws) ms) (hall : (backToKw pos (keywordEach (k :: kws) X.env)).all (·.1.isSome) = true := by rfl) (hks : (backToKw pos (keywordEach (k :: kws) X.env)).filterMap (·.1) = ks := by rfl) (hd : (x == ("__debug__" : Str)) = false := by decide)
    (hp : ((backTo pos (starEach [] X.env)).any (·.1) || (backToKw pos (keywordEach (k :: kws) X.env)).any (·.1.isNone)) = false := by rfl) : SE X W C (.Call (.Name x p) [] (k :: kws) pos) (eCallP pm n F ms) := by
  obtain ⟨t, pt, st⟩ := ha.ex
  refine ⟨fun σ H Q => t σ H fun vs H1 => vs.length = ks.length ∧ spF (C0 X.K) ps.length F (pm.map fun j => vs.getD j .non) H1 Q (WE W σ), ⟨fun pins s σ H Q I h => wpAny_Call_Name_kw (ld_glob I hg hm (PySem.W.callWith_KW0 (h₀ := X.base) I.ok.mod.kin hk hall (thn (pt.run pos pins s σ H _ I h) fun us s1 ⟨vs, H1, I1, r, hl, q⟩ => ⟨I1.kIn, by
    rw [hks]
    exact c.run (WE W σ) pins σ H1 s1 Q [] (ks.zip us) (pm.map fun j => us.getD j .none) (pm.map fun j => vs.getD j .non) I1 (passN tk σ) (hb.to s1 us I1.kIn (by rw [← r.length]; exact hl)) (vals_pick r fun j hj => by rw [hl]; exact hb.ok j hj) q⟩) hp) hd)⟩, ?_⟩
  intro ρ σ H own Q er hw
  have hw : PoE C W ((ms ρ).bind fun as ρ1 => match frzA as with
    | some ds => if ds.length = n then (match takeAll ((pickD pm ds).map .inl) ρ1 with
      | some (ds2, ρ2) => if ds2.length = n ∧ neL ds2 = true then fin ((pickD pm ds).map .inl) ρ2 (F ds2) else .bad
      | none => .bad) else .bad
    | none => .bad) σ H own Q := hw
  refine st ρ σ H own _ er (poB_bind (P := fun r => PoE C W r σ H own Q) hw (fun z => z) (fun _ _ h => h) fun as ρ1 vs H1 o1 own1 r1 e1 j1 s1 hw1 => ?_)
  split at hw1
  · rename_i ds hds
    split at hw1
    · rename_i hl
      obtain ⟨rl, rfl⟩ := frzA_rep r1 hds
      have hlk : ds.length = ks.length := by rw [hl, hn, hb.len]
      exact ⟨by rw [rl.len, hlk], sound_call hK hn (pick_rep rl fun j hj => by rw [hlk]; exact hb.ok j hj) e1 (by simp) s1 hw1⟩
    · exact hw1.elim
  · exact hw1.elim
/-! ### a def that calls itself: with no fuel it promises nothing -/
theorem fk_bad {P : Program} {w : World} {K : PySem.W.Frag} {mg : Str → Option Value} {base : Heap} {x : Str} {ps : List Str} {st : Stmt} {k : Nat}
    (h : ∃ f fd, mg x = some (.ref f) ∧ FunD K x x (defArgs st) (defBody st) (defScope st) [] [] f fd ∧ Binds K fd ps []) : FK P w K mg base x ps st k (fun _ => .bad) := by
  obtain ⟨f, fd, hm, F, hb⟩ := h
  exact ⟨f, fd, hm, F, hb, fun vs H Q E q => q.1, fun A outer s H args us vs Q E hr he hb' hv q => by
    obtain ⟨_, ds, own, _, q⟩ := q
    exact q.elim⟩
end Se

namespace Se
open PySem L2
/-! ### constants of the top: tuples of texts, ints, tuples -/
mutual
def repB (K : PySem.W.Frag) : D → Value → Bool
  | .int i, .int j _ => decide (i = j)
  | .str x, .str y _ => decide (sx x = y)
  | .tup ds, .ref a => match K.lookup a with
    | some o => (match o.data with
      | .seq its _ => decide (o.cls = .type "tuple") && decide (its.size ≤ sizeLine) && repBL K ds its.toList
      | _ => false)
    | none => false
  | _, _ => false
def repBL (K : PySem.W.Frag) : List D → List Value → Bool
  | [], [] => true
  | d :: ds, v :: vs => repB K d v && repBL K ds vs
  | _, _ => false
end
mutual
theorem repB_ok {K : PySem.W.Frag} : ∀ {d : D} {v : Value}, repB K d v = true → ∃ w, RelV w v ∧ ∀ (C : RC) (H : Hp), C.K = K → Rep C H d w []
  | .int i, v, h => by
    cases v with
    | int j t =>
      have e : i = j := by simpa [repB] using h
      subst e
      exact ⟨.int i, ⟨t, rfl⟩, fun C H _ => ⟨rfl, rfl⟩⟩
    | _ => simp [repB] at h
  | .str x, v, h => by
    cases v with
    | str y t =>
      have e : sx x = y := by simpa [repB] using h
      subst e
      exact ⟨.str (sx x), ⟨t, rfl⟩, fun C H _ => ⟨rfl, rfl⟩⟩
    | _ => simp [repB] at h
  | .tup ds, v, h => by
    cases v with
    | ref a =>
      unfold repB at h
      split at h
      · rename_i o ho
        split at h
        · rename_i its n hd
          simp only [Bool.and_eq_true, decide_eq_true_eq] at h
          obtain ⟨⟨h1, h2⟩, h3⟩ := h
          obtain ⟨ws, hw, hr⟩ := repBL_ok h3
          exact ⟨.ref a, rfl, fun C H hK => ⟨a, ws, rfl, .inr ⟨o, its, n, by rw [hK]; exact ho, h1, hd, h2, hw⟩, hr C H hK⟩⟩
        · cases h
      · cases h
    | _ => simp [repB] at h
  | .non, v, h => by simp [repB] at h
  | .bl _, v, h => by simp [repB] at h
  | .ty _, v, h => by simp [repB] at h
  | .obj _, v, h => by simp [repB] at h
  | .exc _ _ _, v, h => by simp [repB] at h
  | .lst _ _, v, h => by simp [repB] at h
  | .dct _ _ _, v, h => by simp [repB] at h
theorem repBL_ok {K : PySem.W.Frag} : ∀ {ds : List D} {vs : List Value}, repBL K ds vs = true → ∃ ws, Vals ws vs ∧ ∀ (C : RC) (H : Hp), C.K = K → RepL C H ds ws []
  | [], [], _ => ⟨[], .nil, fun _ _ _ => ⟨rfl, rfl⟩⟩
  | [], _ :: _, h => by simp [repBL] at h
  | _ :: _, [], h => by simp [repBL] at h
  | d :: ds, v :: vs, h => by
    simp only [repBL, Bool.and_eq_true] at h
    obtain ⟨w, r, hr⟩ := repB_ok h.1
    obtain ⟨ws, rs, hrs⟩ := repBL_ok h.2
    exact ⟨w :: ws, .cons r rs, fun C H hK => ⟨w, ws, [], [], rfl, hr C H hK, hrs C H hK, by simp, rfl⟩⟩
end
def gcB (K : PySem.W.Frag) (x : Str) (d : D) : Bool := repB K d (.ref (He.ga K x))
section
variable {X : Cx} {W : WX} {z : Option (Addr × Addr × Addr)}
theorem sv_gk {x : Str} {p : Pos} {d : D} (h : ∃ v, X.mg x = some v ∧ repB X.K d v = true) (hg : Gl X x := by rfl) (hd : (x == ("__debug__" : Str)) = false := by decide) : SV X (KX X z) (.Name x p) (vLit d) := by
  obtain ⟨v, hm, hv⟩ := h
  obtain ⟨w, r, hr⟩ := repB_ok hv
  exact sv_c (pe_glob hg hm r hd) fun H => hr _ H rfl
theorem se_gk {x : Str} {p : Pos} {d : D} (h : ∃ v, X.mg x = some v ∧ repB X.K d v = true) (hg : Gl X x := by rfl) (hd : (x == ("__debug__" : Str)) = false := by decide) : SE X W (KX X z) (.Name x p) (eLit d) := by
  obtain ⟨v, hm, hv⟩ := h
  obtain ⟨w, r, hr⟩ := repB_ok hv
  exact se_c (pe_glob hg hm r hd) fun H => hr _ H rfl
end
/-! ### a <= b <= c -/
def vCh (g g' : D → D → Option D) (fa fb fc : Env → Option D) : Env → Option D := fun ρ => (fa ρ).bind fun a => (fb ρ).bind fun b => match g a b with
  | some (.bl true) => (fc ρ).bind fun c => g' b c
  | some (.bl false) => some (.bl false)
  | _ => none
section
variable {X : Cx} {W : WX} {C : RC} {a b c e : Expr} {fa fb fc : Env → Option D}
theorem snd_ch {r r' : R2} {g g' : D → D → Option D} {ta tb tc : TE} (vo : VO2 C r g) (vo' : VO2 C r' g') (sa : SndV C ta fa) (sb : SndV C tb fb) (sc : SndV C tc fc) {ρ : Env} {σ : St} {H : Hp} {own : List Addr} {Q : VK} {d : D} (er : ER C H ρ σ own) (hd : vCh g g' fa fb fc ρ = some d)
    (hw : ∀ v H' o, Rep C H' d v o → Ext H H' → (∀ x ∈ o, H x = none) → Q v H') : tChain r r' ta tb tc σ H Q := by
  simp only [vCh, Option.bind_eq_some_iff] at hd
  obtain ⟨d1, h1, d2, h2, h3⟩ := hd
  refine sa ρ σ H own _ er d1 h1 fun v1 H1 o1 r1 k1 => ?_
  refine sb ρ σ H1 own _ (er.ext k1) d2 h2 fun v2 H2 o2 r2 k2 => ?_
  have k12 : Ext H H2 := ext_trans k1 k2
  cases hg : g d1 d2 with
  | none => rw [hg] at h3; cases h3
  | some x =>
    refine vo d1 d2 x v1 v2 H2 o1 o2 _ (r1.ext k2) r2 hg fun v3 H3 o3 r3 k3 n3 => ?_
    rw [hg] at h3
    cases x with
    | bl q =>
      cases q with
      | true =>
        simp only [Option.bind_eq_some_iff] at h3
        obtain ⟨d4, h4, h5⟩ := h3
        refine ⟨true, r3.1, ?_⟩
        rw [if_pos rfl]
        have k13 : Ext H H3 := ext_trans k12 k3
        refine sc ρ σ H3 own _ (er.ext k13) d4 h4 fun v4 H4 o4 r4 k4 => ?_
        refine vo' d2 d4 d v2 v4 H4 o2 o4 _ (r2.ext (ext_trans k3 k4)) r4 h5 fun v5 H5 o5 r5 k5 n5 => ?_
        have k14 : Ext H H4 := ext_trans k13 k4
        refine hw v5 H5 o5 r5 (ext_trans k14 k5) fun x hx => ?_
        cases e : H x with
        | none => rfl
        | some u => have := n5 x hx; rw [k14 x u e] at this; cases this
      | false =>
        cases h3
        refine ⟨false, r3.1, ?_⟩
        rw [if_neg (by decide)]
        exact hw _ H3 [] ⟨rfl, rfl⟩ (ext_trans k12 k3) (by simp)
    | _ => cases h3
theorem sv_ch {r r' : R2} {g g' : D → D → Option D} (pe : ∀ ta tb tc, PE X a ta → PE X b tb → PE X c tc → PE X e (tChain r r' ta tb tc)) (vo : VO2 C r g) (vo' : VO2 C r' g') (ha : SV X C a fa) (hb : SV X C b fb) (hc : SV X C c fc) : SV X C e (vCh g g' fa fb fc) := by
  obtain ⟨ta, pa, sa⟩ := ha.ex
  obtain ⟨tb, pb, sb⟩ := hb.ex
  obtain ⟨tc, pc, sc⟩ := hc.ex
  exact ⟨_, pe ta tb tc pa pb pc, fun ρ σ H own Q er d hd hw => snd_ch vo vo' sa sb sc er hd fun v H' o r k _ => hw v H' o r k⟩
theorem sev_ch {r r' : R2} {g g' : D → D → Option D} (pe : ∀ ta tb tc, PE X a ta → PE X b tb → PE X c tc → PE X e (tChain r r' ta tb tc)) (vo : VO2 C r g) (vo' : VO2 C r' g') (ha : SV X C a fa) (hb : SV X C b fb) (hc : SV X C c fc) : SE X W C e (eV (vCh g g' fa fb fc)) := by
  obtain ⟨ta, pa, sa⟩ := ha.ex
  obtain ⟨tb, pb, sb⟩ := hb.ex
  obtain ⟨tc, pc, sc⟩ := hc.ex
  refine ⟨_, pe ta tb tc pa pb pc, fun ρ σ H own Q er hw => ?_⟩
  unfold eV ofO at hw
  split at hw
  · rename_i d hd
    exact snd_ch vo vo' sa sb sc er hd fun v H' o r k n => fin_v hw er Ext.refl r k n
  · exact hw.elim
theorem stv_ch {r r' : R2} {g g' : D → D → Option D} (pt : ∀ ta tb tc, PE X a ta → PE X b tb → PE X c tc → PT X e (tTest (tChain r r' ta tb tc))) (vo : VO2 C r g) (vo' : VO2 C r' g') (ha : SV X C a fa) (hb : SV X C b fb) (hc : SV X C c fc) : ST X W C e (Se.tB (eV (vCh g g' fa fb fc))) := by
  obtain ⟨ta, pa, sa⟩ := ha.ex
  obtain ⟨tb, pb, sb⟩ := hb.ex
  obtain ⟨tc, pc, sc⟩ := hc.ex
  refine ⟨_, pt ta tb tc pa pb pc, snd_tB fun ρ σ H own Q er hw => ?_⟩
  unfold eV ofO at hw
  split at hw
  · rename_i d hd
    exact snd_ch vo vo' sa sb sc er hd fun v H' o r k n => fin_v hw er Ext.refl r k n
  · exact hw.elim
end
/-! ### dicts: d[k], d.get(k), d.get(k, x) -/
def kD : D → Option Key
  | .int i => some (.inl i)
  | .str x => some (.inr (sx x))
  | _ => none
def dGet : List Key → List D → Key → Option D
  | k :: ks, d :: ds, y => if k = y then some d else dGet ks ds y
  | _, _, _ => none
def dPut : List Key → List D → Key → D → List Key × List D
  | k :: ks, d :: ds, y, x => if k = y then (k :: ks, x :: ds) else (k :: (dPut ks ds y x).1, d :: (dPut ks ds y x).2)
  | ks, ds, y, x => (ks ++ [y], ds ++ [x])
section
variable {C : RC} {H : Hp}
theorem kD_rep {d : D} {v : V} {o : List Addr} {k : Key} (r : Rep C H d v o) (h : kD d = some k) : v = kV k := by
  cases d with
  | int i => cases h; exact r.1
  | str x => cases h; exact r.1
  | _ => cases h
theorem dGet_rep : ∀ {ks : List Key} {ds : List D} {vs : List V} {k : Key} {d : D}, RepW C H ds vs → dGet ks ds k = some d → ∃ v o, valV (ks.zip vs) k = some v ∧ Rep C H d v o
  | [], _, _, _, _, _, h => by simp [dGet] at h
  | _ :: _, [], _, _, _, _, h => by simp [dGet] at h
  | k1 :: ks, d1 :: ds, _, k, d, r, h => by
    obtain ⟨v, vs', o, rfl, r1, r2⟩ := r
    simp only [dGet] at h
    rw [List.zip_cons_cons]
    split at h
    · rename_i e
      cases h
      exact ⟨v, o, valV_pos e, r1⟩
    · rename_i e
      rw [valV_neg e]
      exact dGet_rep r2 h
theorem dGet_no : ∀ {ks : List Key} {ds : List D} {vs : List V} {k : Key}, RepW C H ds vs → ks.length = ds.length → dGet ks ds k = none → valV (ks.zip vs) k = none
  | [], _, _, _, _, _, _ => rfl
  | _ :: _, [], _, _, _, l, _ => by simp at l
  | k1 :: ks, d1 :: ds, _, k, r, l, h => by
    obtain ⟨v, vs', o, rfl, r1, r2⟩ := r
    simp only [dGet] at h
    rw [List.zip_cons_cons]
    split at h
    · cases h
    · rename_i e
      rw [valV_neg e]
      exact dGet_no r2 (by simpa using l) h
theorem Rep.dctS {f : Bool} {ks : List Key} {ds : List D} {v : V} {o : List Addr} (h : Rep C H (.dct f ks ds) v o) : ∃ a vs, v = .ref a ∧ Rd H a (.dK (ks.zip vs)) ∧ ks.length = ds.length ∧ RepW C H ds vs := by
  cases f with
  | true => obtain ⟨a, vs, o', e, q, l, r, _, _⟩ := h; exact ⟨a, vs, e, .inl q, l, r.w⟩
  | false => obtain ⟨a, vs, ob, e, q, l, r, _⟩ := h; exact ⟨a, vs, e, .inr ⟨ob, q⟩, l, r.w⟩
end
def gDk (d k : D) : Option D := match d with
  | .dct _ ks ds => (kD k).bind fun y => dGet ks ds y
  | _ => none
def gDkF (d k : D) : Option D := (gDk d k).bind fun x => if fz x = true then some x else none
def rDk : R2 := fun x y H Q => ∃ a v, x = .ref a ∧ DGet H a y (some v) ∧ Q v H
section
variable {C : RC}
theorem vv_dk : VV2 C rDk gDk := by
  intro d1 d2 d v1 v2 H o1 o2 Q r1 r2 hg q
  unfold gDk at hg
  split at hg
  · rename_i f ks ds
    simp only [Option.bind_eq_some_iff] at hg
    obtain ⟨k, hk, hd⟩ := hg
    obtain ⟨a, vs, rfl, hr, l, w⟩ := r1.dctS
    obtain ⟨v, o, hv, rv⟩ := dGet_rep w hd
    exact ⟨a, v, rfl, .inl ⟨_, k, hr, kD_rep r2 hk, hv.symm⟩, q v H o rv Ext.refl⟩
  · cases hg
theorem vo_dk : VO2 C rDk gDkF := by
  intro d1 d2 d v1 v2 H o1 o2 Q r1 r2 hg q
  simp only [gDkF, Option.bind_eq_some_iff] at hg
  obtain ⟨x, hx, h2⟩ := hg
  split at h2
  · rename_i hz
    cases h2
    refine vv_dk d1 d2 d v1 v2 H o1 o2 Q r1 r2 hx fun v H' o r k => ?_
    have := r.fz_nil hz
    subst this
    exact q v H' [] r k (by simp)
  · cases h2
end
section
variable {X : Cx} {W : WX} {z : Option (Addr × Addr × Addr)} {a b : Expr} {pos : Pos} {fa fb : Env → Option D} {ma mb : M D}
theorem sv_dk (hu : X.A.units + 64 < cLine) (ha : SV X (KX X z) a fa) (hb : SV X (KX X z) b fb) (hs : NoSl b := by exact fun _ _ => rfl) : SV X (KX X z) (.Subscript a b pos) (vOp2 gDk fa fb) := sv_op2 (fun _ _ p q => pe_dget (by omega) p q hs) vv_dk ha hb
theorem sev_dk (hu : X.A.units + 64 < cLine) (ha : SV X (KX X z) a fa) (hb : SV X (KX X z) b fb) (hs : NoSl b := by exact fun _ _ => rfl) : SE X W (KX X z) (.Subscript a b pos) (eV (vOp2 gDkF fa fb)) := sev_op2 (fun _ _ p q => pe_dget (by omega) p q hs) vo_dk ha hb
theorem se_dk (hu : X.A.units + 64 < cLine) (ha : SE X W (KX X z) a ma) (hb : SE X W (KX X z) b mb) (hs : NoSl b := by exact fun _ _ => rfl) : SE X W (KX X z) (.Subscript a b pos) (eOp2 gDkF ma mb) := se_op2 (fun _ _ p q => pe_dget (by omega) p q hs) vo_dk ha hb
end
/-- d.get(k, x): all seen -/
def gDk2 (d k x : D) : Option D := match d with
  | .dct _ ks ds => (kD k).bind fun y => if fz x = true then (match dGet ks ds y with
    | some r => if fz r = true then some r else none
    | none => some x) else none
  | _ => none
def vOp3 (g : D → D → D → Option D) (fa fb fc : Env → Option D) : Env → Option D := fun ρ => (fa ρ).bind fun a => (fb ρ).bind fun b => (fc ρ).bind fun c => g a b c
section
variable {X : Cx} {W : WX} {C : RC} {a b c : Expr} {fa fb fc : Env → Option D} {apos pos : Pos}
theorem dget2_core (hu : X.A.units + 64 < cLine) (ha : SV X C a fa) (hb : SV X C b fb) (hc : SV X C c fc) (m : M2 X a "get" apos b c pos) : ∃ t, PE X (.Call (.Attribute a "get" apos) [b, c] [] pos) t ∧ ∀ ρ σ H own Q, ER C H ρ σ own → ∀ d, vOp3 gDk2 fa fb fc ρ = some d → (∀ v H', Rep C H' d v [] → Ext H H' → Q v H') → t σ H Q := by
  obtain ⟨ta, pa, sa⟩ := ha.ex
  obtain ⟨tb, pb, sb⟩ := hb.ex
  obtain ⟨tc, pc, sc⟩ := hc.ex
  refine ⟨_, pe_dget2 (by omega) pa pb pc m, fun ρ σ H own Q er d hd q => ?_⟩
  simp only [vOp3, Option.bind_eq_some_iff] at hd
  obtain ⟨d1, h1, d2, h2, d3, h3, hg⟩ := hd
  refine sa ρ σ H own _ er d1 h1 fun v1 H1 o1 r1 k1 => ?_
  unfold gDk2 at hg
  split at hg
  · rename_i f ks ds
    simp only [Option.bind_eq_some_iff] at hg
    obtain ⟨k, hk, hd⟩ := hg
    obtain ⟨p, vs, rfl, hr, l, w⟩ := r1.dctS
    refine ⟨p, rfl, .inl ⟨_, hr⟩, ?_⟩
    refine sb ρ σ H1 own _ (er.ext k1) d2 h2 fun v2 H2 o2 r2 k2 => ?_
    refine sc ρ σ H2 own _ (er.ext (ext_trans k1 k2)) d3 h3 fun v3 H3 o3 r3 k3 => ?_
    have k13 : Ext H1 H3 := ext_trans k2 k3
    have r1' := r1.ext k13
    obtain ⟨p', vs', e', hr', l', w'⟩ := r1'.dctS
    cases e'
    split at hd
    · rename_i hz
      split at hd
      · rename_i r hget
        split at hd
        · rename_i hzr
          cases hd
          obtain ⟨v, o, hv, rv⟩ := dGet_rep w' hget
          have := rv.fz_nil hzr
          subst this
          exact ⟨some v, .inl ⟨_, k, hr', kD_rep r2 hk, hv.symm⟩, q v H3 rv (ext_trans k1 k13)⟩
        · cases hd
      · rename_i hget
        cases hd
        have := r3.fz_nil hz
        subst this
        exact ⟨none, .inl ⟨_, k, hr', kD_rep r2 hk, (dGet_no w' l' hget).symm⟩, q v3 H3 r3 (ext_trans k1 k13)⟩
    · cases hd
  · cases hg
theorem sv_dget2 (hu : X.A.units + 64 < cLine) (ha : SV X C a fa) (hb : SV X C b fb) (hc : SV X C c fc) (m : M2 X a "get" apos b c pos := by exact ⟨rfl, rfl, rfl, rfl⟩) : SV X C (.Call (.Attribute a "get" apos) [b, c] [] pos) (vOp3 gDk2 fa fb fc) := by
  obtain ⟨t, p, s⟩ := dget2_core hu ha hb hc m
  exact ⟨t, p, fun ρ σ H own Q er d hd q => s ρ σ H own Q er d hd fun v H' r k => q v H' [] r k⟩
theorem sev_dget2 (hu : X.A.units + 64 < cLine) (ha : SV X C a fa) (hb : SV X C b fb) (hc : SV X C c fc) (m : M2 X a "get" apos b c pos := by exact ⟨rfl, rfl, rfl, rfl⟩) : SE X W C (.Call (.Attribute a "get" apos) [b, c] [] pos) (eV (vOp3 gDk2 fa fb fc)) := by
  obtain ⟨t, p, s⟩ := dget2_core hu ha hb hc m
  refine ⟨t, p, fun ρ σ H own Q er hw => ?_⟩
  unfold eV ofO at hw
  split at hw
  · rename_i d hd
    exact s ρ σ H own Q er d hd fun v H' r k => fin_v hw er Ext.refl r k (by simp)
  · exact hw.elim
end
/-! ### {k: x, ..} -/
structure SPP (X : Cx) (W : WX) (C : RC) (pos : Pos) (keys : List (Option Expr)) (values : List Expr) (ks : List Key) (ms : M (List D)) : Prop where
  ex : ∃ trs, PPs X pos keys values trs ∧ ∀ ρ σ H own Q, ER C H ρ σ own → PoA C W (ms ρ) σ H own (fun vs H' => Q ((ks.map kV).zip vs) H') → tPairs trs σ H Q
def eDct (ks : List Key) (ms : M (List D)) : M D := fun ρ => (ms ρ).bind fun ds ρ1 => if ks.length = ds.length then .ok (.dct true ks ds) ρ1 else .bad
theorem putK_cons {k1 k : Key} {v1 v : V} {r : List (Key × V)} (h : ¬ k1 = k) : putK ((k1, v1) :: r) k v = (k1, v1) :: putK r k v := by
  unfold putK
  simp only [List.any_cons, decide_eq_false h, Bool.false_or, List.map_cons, if_neg h]
  split <;> rfl
theorem putK_new {k : Key} {v : V} : ∀ {r : List (Key × V)}, k ∉ r.map (·.1) → putK r k v = r ++ [(k, v)]
  | [], _ => rfl
  | (k1, v1) :: r, h => by
    have h1 : ¬ k1 = k := fun e => h (by simp [e])
    have h2 : k ∉ r.map (·.1) := fun e => h (by simp at e; simp [e])
    rw [putK_cons h1, putK_new h2]
    rfl
theorem mergeK_new : ∀ {r acc : List (Key × V)}, ((acc ++ r).map (·.1)).Nodup → mergeK acc r = acc ++ r
  | [], acc, _ => by simp [mergeK]
  | (k, v) :: r, acc, h => by
    have e : acc ++ (k, v) :: r = (acc ++ [(k, v)]) ++ r := by simp
    have hk : k ∉ acc.map (·.1) := fun hm => by
      rw [List.map_append, List.nodup_append] at h
      exact h.2.2 k hm k (by simp) rfl
    show mergeK (putK acc k v) r = _
    rw [putK_new hk, mergeK_new (by rw [← e]; exact h), ← e]
section
variable {X : Cx} {W : WX} {C : RC} {pos : Pos}
theorem spp_nil : SPP X W C pos [] [] [] aNil := ⟨_, pps_nil, fun ρ σ H own Q er hw => hw [] H [] own ⟨rfl, rfl⟩ er (by simp) (Stp.refl (by simp))⟩
theorem spp_cons {k v : Expr} {key : Key} {ks : List (Option Expr)} {vs : List Expr} {kk : List Key} {ma : M D} {ms : M (List D)} (hk : PE X k (tC (kV key))) (hv : SE X W C v ma) (hr : SPP X W C pos ks vs kk ms) : SPP X W C pos (some k :: ks) (v :: vs) (key :: kk) (aCons ma ms) := by
  obtain ⟨ta, pa, sa⟩ := hv.ex
  obtain ⟨tr, pr, sr⟩ := hr.ex
  refine ⟨_, pps_cons hk pa pr, fun ρ σ H own Q er hw => ?_⟩
  have hw : PoA C W ((ma ρ).bind fun d ρ1 => (ms ρ1).bind fun ds ρ2 => .ok (d :: ds) ρ2) σ H own (fun vs H' => Q (((key :: kk).map kV).zip vs) H') := hw
  show ta σ H fun y H2 => tPairs tr σ H2 fun ps H3 => Q ((kV key, y) :: ps) H3
  refine sa ρ σ H own _ er (poE_bind (P := fun r => PoA C W r σ H own (fun vs H' => Q (((key :: kk).map kV).zip vs) H')) hw (fun z => z) exA fun d1 ρ1 v1 H1 o1 own1 r1 e1 j1 s1 hw1 => ?_)
  refine sr ρ1 σ H1 own1 _ e1 (poA_bind (P := fun r => PoA C W r σ H own (fun vs H' => Q (((key :: kk).map kV).zip vs) H')) hw1 (fun z => z) (exA.at s1) fun ds ρ2 vs H2 o2 own2 r2 e2 j2 s2 hw2 => ?_)
  have j12 : ∀ a ∈ o1, a ∉ o2 ++ own2 := s2.apart r1.mut j1
  refine hw2 (v1 :: vs) H2 (o1 ++ o2) own2 ⟨v1, vs, o1, o2, rfl, r1.keep s2.keep e1.mut j1, r2, fun a ha z => j12 a ha (List.mem_append_left _ z), rfl⟩ e2 (fun a ha z => ?_) ?_
  · rcases List.mem_append.mp ha with q | q
    · exact j12 a q (List.mem_append_right _ z)
    · exact j2 a q z
  · exact (s1.held s2).less fun a ha => by simpa [List.append_assoc] using ha
theorem se_dct {keys : List (Option Expr)} {values : List Expr} {ks : List Key} {ms : M (List D)} (h : SPP X W C pos keys values ks ms) (hn : ks.Nodup) (h15 : ks.length ≤ 15) (hall : keys.all (·.isSome) = true := by rfl) (hl : keys.length = values.length := by rfl) (h0 : keys ≠ [] := by exact nofun) (h16 : keys.length ≤ 15 := by decide) :
    SE X W C (.Dict keys values pos) (eDct ks ms) := by
  obtain ⟨t, pt, st⟩ := h.ex
  refine ⟨_, pe_disp pt hall hl h0 h16, fun ρ σ H own Q er hw p hp => ?_⟩
  have hw : PoE C W ((ms ρ).bind fun ds ρ1 => if ks.length = ds.length then .ok (.dct true ks ds) ρ1 else .bad) σ H own Q := hw
  have kp : Ext H (upd H p (.dK [])) := Ext.new hp
  have np : p ∉ own := fun z => by
    obtain ⟨u, e, _⟩ := er.mut p z
    rw [hp] at e; cases e
  refine st ρ σ _ own _ (er.ext kp) ?_
  cases hm : ms ρ with
  | bad => rw [hm] at hw; exact hw.elim
  | ex e ρ1 =>
    rw [hm] at hw
    exact fun cls d H' own' x er' st' => hw cls d H' own' x er' (Stp.pre kp st' fun _ z => z)
  | ok ds ρ1 =>
    rw [hm] at hw
    intro vs H2 o own1 r e1 dj s1
    have hw : PoE C W (if ks.length = ds.length then .ok (.dct true ks ds) ρ1 else .bad) σ H own Q := hw
    split at hw
    · rename_i hlen
      have hlv : ks.length = vs.length := by rw [hlen, r.len]
      have hp2 : H2 p = some (.dK []) := s1.keep p _ upd_same np
      have no : ∀ a ∈ o ++ own1, a ≠ p ∧ (a ∈ own ∨ H a = none) := fun a ha => by
        rcases s1.sub a ha with q | q
        · exact ⟨fun z => np (z ▸ q), .inl q⟩
        · refine ⟨fun z => ?_, .inr ?_⟩
          · rw [z, upd_same] at q; cases q
          · cases e : H a with
            | none => rfl
            | some u => rw [kp a u e] at q; cases q
      refine ⟨hp2, ks.zip vs, ?_, ?_, ?_⟩
      · rw [List.zip_map_left]
        rfl
      · rw [List.length_zip]; omega
      have em : mergeK [] (ks.zip vs) = ks.zip vs := by
        have := mergeK_new (acc := []) (r := ks.zip vs) (by
          rw [List.nil_append, List.map_fst_zip (by omega)]
          exact hn)
        simpa using this
      rw [em]
      have kk : Keeps H2 (upd H2 p (.dK (ks.zip vs))) [p] := fun b ob q nb => by rw [upd_ne (fun z => nb (by simp [z]))]; exact q
      have mm : Muts H2 [p] := fun b hb => by
        cases List.mem_singleton.mp hb
        exact ⟨_, hp2, trivial⟩
      have ap : ∀ b ∈ o, b ∉ [p] := fun b hb z => (no b (List.mem_append_left _ hb)).1 (List.mem_singleton.mp z)
      have ap1 : ∀ b ∈ own1, b ∉ [p] := fun b hb z => (no b (List.mem_append_right _ hb)).1 (List.mem_singleton.mp z)
      refine hw (.ref p) _ (p :: o) own1 ⟨p, vs, o, rfl, upd_same, hlen, r.keep kk mm ap, fun z => ap p z (List.mem_singleton.mpr rfl), rfl⟩ (e1.keep kk mm ap1) (fun b hb z => ?_) ⟨fun b ob q nb => ?_, fun b hb => ?_⟩
      · rcases List.mem_cons.mp hb with rfl | hb
        · exact ap1 _ z (List.mem_singleton.mpr rfl)
        · exact dj b hb z
      · have q2 := s1.keep b ob (kp b ob q) nb
        rw [upd_ne (fun z => by rw [z, hp] at q; cases q)]
        exact q2
      · rcases List.mem_append.mp hb with hb | hb
        · rcases List.mem_cons.mp hb with rfl | hb
          · exact .inr hp
          · exact (no b (List.mem_append_left _ hb)).2
        · exact (no b (List.mem_append_right _ hb)).2
    · exact hw.elim
end
/-! ### x[..][k] = y, a dict there -/
theorem dPut_len : ∀ (ks : List Key) (ds : List D) (k : Key) (y : D), ks.length = ds.length → (dPut ks ds k y).1.length = (dPut ks ds k y).2.length
  | [], [], _, _, _ => rfl
  | [], _ :: _, _, _, h => by simp at h
  | _ :: _, [], _, _, h => by simp at h
  | k1 :: ks, d1 :: ds, k, y, h => by
    simp only [dPut]
    split
    · simpa using h
    · simpa using dPut_len ks ds k y (by simpa using h)
section
variable {C : RC} {H : Hp}
theorem RepL.putV {y : D} {vy : V} {oy : List Addr} {k : Key} (ry : Rep C H y vy oy) : ∀ {ks : List Key} {ds : List D} {vs : List V} {o : List Addr}, RepL C H ds vs o → ks.length = ds.length → ks.Nodup → (∀ b ∈ oy, b ∉ o) →
    ∃ vs' o2, putK (ks.zip vs) k vy = (dPut ks ds k y).1.zip vs' ∧ RepL C H (dPut ks ds k y).2 vs' o2 ∧ ∀ b ∈ o2, b ∈ o ∨ b ∈ oy
  | [], [], _, _, r, _, _, _ => by
    obtain ⟨rfl, rfl⟩ := r
    exact ⟨[vy], oy, rfl, ⟨vy, [], oy, [], rfl, ry, ⟨rfl, rfl⟩, by simp, by simp⟩, fun b hb => .inr hb⟩
  | [], _ :: _, _, _, _, h, _, _ => by simp at h
  | _ :: _, [], _, _, _, h, _, _ => by simp at h
  | k1 :: ks, d1 :: ds, _, _, r, hl, hn, hd => by
    obtain ⟨v, vs', o1, o2, rfl, r1, r2, dj, rfl⟩ := r
    rw [List.nodup_cons] at hn
    simp only [dPut, List.zip_cons_cons]
    by_cases e : k1 = k
    · subst e
      rw [if_pos rfl]
      refine ⟨vy :: vs', oy ++ o2, ?_, ⟨vy, vs', oy, o2, rfl, ry, r2, fun a ha z => hd a ha (List.mem_append_right _ z), rfl⟩, fun b hb => ?_⟩
      · unfold putK
        rw [if_pos (by simp)]
        simp only [List.map_cons, if_true, List.zip_cons_cons, List.cons.injEq, true_and]
        have : ∀ l : List (Key × V), (∀ p ∈ l, p.1 ≠ k1) → l.map (fun kv => if kv.1 = k1 then (kv.1, vy) else kv) = l := fun l hl => by
          induction l with
          | nil => rfl
          | cons p l ih =>
            rw [List.map_cons, if_neg (hl p List.mem_cons_self), ih fun q hq => hl q (List.mem_cons_of_mem _ hq)]
        exact this _ fun p hp z => hn.1 (z ▸ (List.of_mem_zip hp).1)
      · rcases List.mem_append.mp hb with q | q
        · exact .inr q
        · exact .inl (List.mem_append_right _ q)
    · rw [if_neg e]
      obtain ⟨vs2, o3, h1, h2, h3⟩ := RepL.putV ry r2 (by simpa using hl) hn.2 fun b hb z => hd b hb (List.mem_append_right _ z)
      refine ⟨v :: vs2, o1 ++ o3, by rw [putK_cons e, h1]; rfl, ⟨v, vs2, o1, o3, rfl, r1, h2, fun a ha z => ?_, rfl⟩, fun b hb => ?_⟩
      · rcases h3 a z with q | q
        · exact dj a ha q
        · exact hd a q (List.mem_append_left _ ha)
      · rcases List.mem_append.mp hb with q | q
        · exact .inl (List.mem_append_left _ q)
        · exact (h3 b q).imp (List.mem_append_right _) id
end
def leafPut (k : Key) (y : D) : D → Option D := fun l => match l with
  | .dct true ks ds => if ks.Nodup ∧ ks.length = ds.length ∧ ks.length < sizeLine then some (.dct true (dPut ks ds k y).1 (dPut ks ds k y).2) else none
  | _ => none
def sPut (me : M D) (p : Env → Option (Nat × List Sel)) (fk : Env → Option D) : MS := fun ρ => match me ρ with
  | .ok y ρ1 => match p ρ1, (fk ρ1).bind kD with
    | some (i, π), some kk => match (ρ1[i]?).join with
      | some d => match updP d π (leafPut kk y) with
        | some d' => .nx (ρ1.set i (some d'))
        | none => .bad
      | none => .bad
    | _, _ => .bad
  | .ex e ρ1 => .ex e ρ1
  | .bad => .bad
section
variable {X : Cx} {W : WX} {C : RC} {B : List Nat} {o k e : Expr} {me : M D} {p : Env → Option (Nat × List Sel)} {fk : Env → Option D} {pos p' : Pos}
theorem ss_put (hu : X.A.units + 64 < cLine) (he : SE X W C e me) (hp : SP X C o p) (hk : SV X C k fk) (hs : swapsWith e (some (.Subscript o k p')) pos.line X.env = pure false := by rfl) : SS X W C B (.Assign [.Subscript o k p'] e pos) (sPut me p fk) := by
  obtain ⟨te, pe, se⟩ := he.ex
  obtain ⟨to, po, sp⟩ := hp.ex
  obtain ⟨tk, pk, sk⟩ := hk.ex
  refine ⟨_, ps_dput (by omega) po pk pe hs, fun ρ σ H own Dn er hw => ?_⟩
  refine se ρ σ H own _ er ?_
  unfold sPut at hw
  cases hme : me ρ with
  | bad => rw [hme] at hw; exact hw.elim
  | ex e' ρ1 =>
    rw [hme] at hw
    exact fun cls d H' own' x1 x2 st => hw cls d σ H' own' x1 x2 st fun _ _ => rfl
  | ok y ρ1 =>
    rw [hme] at hw
    intro vy H1 oy own1 ry er1 dj1 st1
    dsimp only at hw
    split at hw
    · rename_i i π kk hpp hkk
      obtain ⟨dk, hk1, hk2⟩ := Option.bind_eq_some_iff.mp hkk
      split at hw
      · rename_i d hd
        split at hw
        · rename_i d' hu2
          obtain ⟨l, hl, hf⟩ := upd_get hu2
          obtain ⟨v0, ow, ownr, e1, rd, err, dj, mo⟩ := er1.take (join_some hd)
          have hii : i < ρ1.length := (List.getElem?_eq_some_iff.mp (join_some hd)).1
          obtain ⟨w, ox0, pw, _, _⟩ := rd.getP hl
          refine sp ρ1 σ H1 own1 _ er1 i π d l hpp hd hl fun v0' v H2 es' hv k2 => ?_
          rw [e1] at es'; cases es'
          have ev := hv.det (pw H1 fun _ _ => rfl)
          subst ev
          refine sk ρ1 σ H2 own1 _ (er1.ext k2) _ hk1 fun vk H3 ok' rk k3 => ?_
          have evk := kD_rep rk hk2
          subst evk
          have k13 : Ext H1 H3 := fun a ob q => k3 a ob (k2 a ob q)
          obtain ⟨x, y', ox, e2, g1, rx, sx', fin⟩ := mut_core (err.ext k13) (by rw [List.getElem?_set_self hii]) e1 (rd.ext k13) dj hu2 (hv.ext k13)
          rw [hl] at g1; cases g1
          cases l with
          | dct fl ks ds =>
            cases fl with
            | false => simp [leafPut] at e2
            | true =>
              simp only [leafPut] at e2
              split at e2
              · rename_i hc
                cases e2
                obtain ⟨a, vs, o', rfl, hH, hlen, rl, na, rfl⟩ := rx
                have dyo : ∀ b ∈ oy, b ∉ ow ∧ b ∉ ownr := fun b hb => ⟨fun z => dj1 b hb ((mo b).mpr (.inl z)), fun z => dj1 b hb ((mo b).mpr (.inr z))⟩
                have ry3 := ry.ext k13
                obtain ⟨vs2, o2, hput, r2, m2⟩ := RepL.putV (k := kk) ry3 rl hlen hc.1 fun b hb z => (dyo b hb).1 (sx' b (List.mem_cons_of_mem _ z))
                refine ⟨a, upd H3 a (.dK (putK (ks.zip vs) kk vy)), rfl, .inl ⟨_, kk, hH, rfl, by rw [List.length_zip, rl.len, hlen, Nat.min_self, ← hlen]; exact hc.2.2, rfl⟩, ?_⟩
                have na2 : a ∉ o2 := fun z => by
                  rcases m2 a z with q | q
                  · exact na q
                  · exact (dyo a q).1 (sx' a List.mem_cons_self)
                have kk' : Keeps H3 (upd H3 a (.dK (putK (ks.zip vs) kk vy))) [a] := fun b ob q nb => by
                  rw [upd_ne (fun z => nb (by simp [z]))]; exact q
                have mm : Muts H3 [a] := fun b hb => by
                  cases List.mem_singleton.mp hb
                  exact ⟨_, hH, trivial⟩
                obtain ⟨own', erF, mF⟩ := fin (upd H3 a (.dK (putK (ks.zip vs) kk vy))) (a :: o2) (fun b ob nb q => kk' b ob q fun z => nb (by cases List.mem_singleton.mp z; exact List.mem_cons_self))
                  ⟨a, vs2, o2, rfl, by rw [upd_same, hput], dPut_len _ _ _ _ hlen, r2.keep kk' mm fun x hx z => na2 (by cases List.mem_singleton.mp z; exact hx), na2, rfl⟩ (fun b hb => by
                    rcases List.mem_cons.mp hb with rfl | hb
                    · exact .inl List.mem_cons_self
                    · rcases m2 b hb with q | q
                      · exact .inl (List.mem_cons_of_mem _ q)
                      · exact .inr (dyo b q))
                rw [List.set_set] at erF
                have inown : ∀ b, b ∈ ow ∨ b ∈ ownr ∨ b ∈ oy → b ∈ own ∨ H b = none := fun b hb => by
                  rcases hb with q | q | q
                  · exact st1.sub b (List.mem_append_right _ ((mo b).mpr (.inl q)))
                  · exact st1.sub b (List.mem_append_right _ ((mo b).mpr (.inr q)))
                  · exact st1.sub b (List.mem_append_left _ q)
                refine hw σ _ own' erF ⟨fun b ob q nb => kk' b ob (k13 b ob (st1.keep b ob q nb)) fun z => ?_, fun b hb => ?_⟩ fun _ _ => rfl
                · cases List.mem_singleton.mp z
                  rcases inown _ (.inl (sx' _ List.mem_cons_self)) with w | w
                  · exact nb w
                  · rw [q] at w; cases w
                · rcases mF b hb with q | ⟨q, _⟩ | q
                  · exact inown b (.inr (.inl q))
                  · exact inown b (.inl q)
                  · rcases List.mem_cons.mp q with rfl | q
                    · exact inown _ (.inl (sx' _ List.mem_cons_self))
                    · rcases m2 b q with q | q
                      · exact inown b (.inl (sx' b (List.mem_cons_of_mem _ q)))
                      · exact inown b (.inr (.inr q))
              · cases e2
          | _ => simp [leafPut] at e2
        · exact hw.elim
      · exact hw.elim
    · exact hw.elim
end
end Se

namespace Se
open PySem L2
/-! ### max, min of a list or tuple of ints -/
def maxL : List Int → Option Int
  | [] => none
  | a :: l => some (l.foldl max a)
def minL : List Int → Option Int
  | [] => none
  | a :: l => some (l.foldl min a)
theorem foldmax_le : ∀ (l : List Int) (a : Int), a ≤ l.foldl max a ∧ ∀ y ∈ l, y ≤ l.foldl max a
  | [], a => ⟨Int.le_refl _, by simp⟩
  | b :: l, a => by
    obtain ⟨h1, h2⟩ := foldmax_le l (max a b)
    refine ⟨Int.le_trans (by omega) h1, fun y hy => ?_⟩
    rcases List.mem_cons.mp hy with rfl | hy
    · exact Int.le_trans (by omega) h1
    · exact h2 y hy
theorem foldmin_le : ∀ (l : List Int) (a : Int), l.foldl min a ≤ a ∧ ∀ y ∈ l, l.foldl min a ≤ y
  | [], a => ⟨Int.le_refl _, by simp⟩
  | b :: l, a => by
    obtain ⟨h1, h2⟩ := foldmin_le l (min a b)
    refine ⟨Int.le_trans h1 (by omega), fun y hy => ?_⟩
    rcases List.mem_cons.mp hy with rfl | hy
    · exact Int.le_trans h1 (by omega)
    · exact h2 y hy
theorem foldmax_mem : ∀ (l : List Int) (a : Int), l.foldl max a ∈ a :: l
  | [], a => by simp
  | b :: l, a => by
    rcases List.mem_cons.mp (foldmax_mem l (max a b)) with h | h
    · rw [List.foldl_cons, h]
      rcases Int.le_total a b with q | q
      · rw [Int.max_eq_right q]; simp
      · rw [Int.max_eq_left q]; simp
    · exact List.mem_cons_of_mem _ (List.mem_cons_of_mem _ h)
theorem foldmin_mem : ∀ (l : List Int) (a : Int), l.foldl min a ∈ a :: l
  | [], a => by simp
  | b :: l, a => by
    rcases List.mem_cons.mp (foldmin_mem l (min a b)) with h | h
    · rw [List.foldl_cons, h]
      rcases Int.le_total a b with q | q
      · rw [Int.min_eq_left q]; simp
      · rw [Int.min_eq_right q]; simp
    · exact List.mem_cons_of_mem _ (List.mem_cons_of_mem _ h)
theorem maxL_one {ns : List Int} {m k : Int} (h : maxL ns = some k) (hm : m ∈ ns) (hu : ∀ y ∈ ns, y ≤ m) : m = k := by
  cases ns with
  | nil => cases h
  | cons a l =>
    cases h
    obtain ⟨h1, h2⟩ := foldmax_le l a
    have h3 := hu _ (foldmax_mem l a)
    have h4 : m ≤ l.foldl max a := by
      rcases List.mem_cons.mp hm with rfl | hm
      · exact h1
      · exact h2 m hm
    omega
theorem minL_one {ns : List Int} {m k : Int} (h : minL ns = some k) (hm : m ∈ ns) (hu : ∀ y ∈ ns, m ≤ y) : m = k := by
  cases ns with
  | nil => cases h
  | cons a l =>
    cases h
    obtain ⟨h1, h2⟩ := foldmin_le l a
    have h3 := hu _ (foldmin_mem l a)
    have h4 : l.foldl min a ≤ m := by
      rcases List.mem_cons.mp hm with rfl | hm
      · exact h1
      · exact h2 m hm
    omega
def gMaxS : List D → Option D
  | [.lst _ ds] => (intsD ds).bind fun ns => (maxL ns).map .int
  | [.tup ds] => (intsD ds).bind fun ns => (maxL ns).map .int
  | _ => none
def gMinS : List D → Option D
  | [.lst _ ds] => (intsD ds).bind fun ns => (minL ns).map .int
  | [.tup ds] => (intsD ds).bind fun ns => (minL ns).map .int
  | _ => none
def rMaxT (K : PySem.W.Frag) : List V → Hp → VK → Prop := fun vs H Q => ∃ (a : Addr) (ns : List Int) (m : Int), vs = [V.ref a] ∧ SqT K H a (ns.map V.int) ∧ maxL ns = some m ∧ Q (.int m) H
def rMinT (K : PySem.W.Frag) : List V → Hp → VK → Prop := fun vs H Q => ∃ (a : Addr) (ns : List Int) (m : Int), vs = [V.ref a] ∧ SqT K H a (ns.map V.int) ∧ minL ns = some m ∧ Q (.int m) H
theorem reads_ints {h : Heap} : ∀ {ns : List Int} {its : List Value}, Vals (ns.map V.int) its → ReadsAll h its (ns.map PyData.int) []
  | [], _, .nil => .nil
  | n :: ns, _, .cons r t => by
    obtain ⟨k, rfl⟩ := r
    exact .cons (as := []) (bs := []) (.int _ _) (reads_ints t)
theorem alike_ints (ns : List Int) : PySem.W.AlikeAll (ns.map PyData.int) := by
  refine ⟨fun x hx y hy => ?_, fun x hx => ?_⟩
  · obtain ⟨a, _, rfl⟩ := List.mem_map.mp hx
    obtain ⟨b, _, rfl⟩ := List.mem_map.mp hy
    rfl
  · obtain ⟨a, _, rfl⟩ := List.mem_map.mp hx
    exact nofun
theorem depth_ints : ∀ ns : List Int, PyData.depthAll (ns.map PyData.int) ≤ 1
  | [] => by simp [PyData.depthAll]
  | n :: ns => by
    have := depth_ints ns
    simp only [List.map_cons, PyData.depthAll, PyData.depth]
    omega
section
variable {X : Cx}
theorem cr_maxT (hc : X.calm = true) (hu : X.A.units + 64 < cLine) : CallR X (.builtin "max") (rMaxT X.K) := by
  intro pins s σ H vs us Q I r h
  obtain ⟨a, ns, m, rfl, hs, hm, q⟩ := h
  obtain ⟨its, rv, hl, _⟩ := I.tuple hs
  rw [Vals.ref1 r]
  cases ns with
  | nil => cases hm
  | cons n l =>
    cases hm
    refine PySem.W.max_tuple_data (I.ok.hd hc) hl (by simpa using reads_ints rv) (alike_ints (n :: l)) (by have := depth_ints (n :: l); simp only [List.map_cons] at this; omega) fun i v h' tk bs hi hr hk => ?_
    rw [PySem.W.maxD_ints] at hr
    cases hr
    exact ⟨.int _, H, I.kept hk, ⟨_, rfl⟩, q⟩
theorem cr_minT (hc : X.calm = true) (hu : X.A.units + 64 < cLine) : CallR X (.builtin "min") (rMinT X.K) := by
  intro pins s σ H vs us Q I r h
  obtain ⟨a, ns, m, rfl, hs, hm, q⟩ := h
  obtain ⟨its, rv, hl, _⟩ := I.tuple hs
  rw [Vals.ref1 r]
  cases ns with
  | nil => cases hm
  | cons n l =>
    cases hm
    refine PySem.W.min_tuple_data (I.ok.hd hc) hl (by simpa using reads_ints rv) (alike_ints (n :: l)) (by have := depth_ints (n :: l); simp only [List.map_cons] at this; omega) fun i v h' tk bs hi hr hk => ?_
    rw [PySem.W.minD_ints] at hr
    cases hr
    exact ⟨.int _, H, I.kept hk, ⟨_, rfl⟩, q⟩
theorem cr_or {f : Value} {r r' : List V → Hp → VK → Prop} (h : CallR X f r) (h' : CallR X f r') : CallR X f (fun xs H Q => r xs H Q ∨ r' xs H Q) := fun pins s σ H xs us Q I rr q => q.elim (h pins s σ H xs us Q I rr) (h' pins s σ H xs us Q I rr)
end
section
variable {C : RC}
theorem vo_maxs : VOn C (fun xs H Q => rMax C.K xs H Q ∨ rMaxT C.K xs H Q) gMaxS := by
  intro ds d vs H Q r hg q
  unfold gMaxS at hg
  split at hg
  · obtain ⟨v, o, rfl, rv⟩ := repw1 r
    simp only [Option.bind_eq_some_iff, Option.map_eq_some_iff] at hg
    obtain ⟨ns, hn, m, hm, rfl⟩ := hg
    obtain ⟨a, ws, rfl, hr, w⟩ := rv.lstS
    rw [w.intsX hn] at hr
    refine .inl ⟨a, ns, rfl, .inl hr, by cases ns with | nil => cases hm | cons _ _ => simp, fun k hk hu => ?_⟩
    rw [maxL_one hm hk hu]
    exact q _ _ [] ⟨rfl, rfl⟩ Ext.refl (by simp)
  · obtain ⟨v, o, rfl, rv⟩ := repw1 r
    simp only [Option.bind_eq_some_iff, Option.map_eq_some_iff] at hg
    obtain ⟨ns, hn, m, hm, rfl⟩ := hg
    obtain ⟨a, ws, rfl, hr, w⟩ := rv.tupS
    rw [w.intsX hn] at hr
    exact .inr ⟨a, ns, m, rfl, hr, hm, q _ _ [] ⟨rfl, rfl⟩ Ext.refl (by simp)⟩
  · cases hg
theorem vo_mins : VOn C (fun xs H Q => rMin C.K xs H Q ∨ rMinT C.K xs H Q) gMinS := by
  intro ds d vs H Q r hg q
  unfold gMinS at hg
  split at hg
  · obtain ⟨v, o, rfl, rv⟩ := repw1 r
    simp only [Option.bind_eq_some_iff, Option.map_eq_some_iff] at hg
    obtain ⟨ns, hn, m, hm, rfl⟩ := hg
    obtain ⟨a, ws, rfl, hr, w⟩ := rv.lstS
    rw [w.intsX hn] at hr
    refine .inl ⟨a, ns, rfl, .inl hr, by cases ns with | nil => cases hm | cons _ _ => simp, fun k hk hu => ?_⟩
    rw [minL_one hm hk hu]
    exact q _ _ [] ⟨rfl, rfl⟩ Ext.refl (by simp)
  · obtain ⟨v, o, rfl, rv⟩ := repw1 r
    simp only [Option.bind_eq_some_iff, Option.map_eq_some_iff] at hg
    obtain ⟨ns, hn, m, hm, rfl⟩ := hg
    obtain ⟨a, ws, rfl, hr, w⟩ := rv.tupS
    rw [w.intsX hn] at hr
    exact .inr ⟨a, ns, m, rfl, hr, hm, q _ _ [] ⟨rfl, rfl⟩ Ext.refl (by simp)⟩
  · cases hg
end
/-! ### sorted(xs), ints; list(d) -/
def insI (x : Int) : List Int → List Int
  | [] => [x]
  | y :: l => if x ≤ y then x :: y :: l else y :: insI x l
def srtI : List Int → List Int
  | [] => []
  | x :: l => insI x (srtI l)
theorem insI_perm (x : Int) : ∀ l : List Int, (insI x l).Perm (x :: l)
  | [] => .refl _
  | y :: l => by
    simp only [insI]
    split
    · exact .refl _
    · exact (List.Perm.cons y (insI_perm x l)).trans (List.Perm.swap x y l)
theorem insI_sorted (x : Int) : ∀ l : List Int, l.Pairwise (· ≤ ·) → (insI x l).Pairwise (· ≤ ·)
  | [], _ => by simp [insI]
  | y :: l, h => by
    obtain ⟨h1, h2⟩ := List.pairwise_cons.mp h
    simp only [insI]
    split
    · rename_i hxy
      refine List.pairwise_cons.mpr ⟨fun z hz => ?_, h⟩
      rcases List.mem_cons.mp hz with rfl | hz
      · exact hxy
      · exact Int.le_trans hxy (h1 z hz)
    · rename_i hxy
      refine List.pairwise_cons.mpr ⟨fun z hz => ?_, insI_sorted x l h2⟩
      rcases List.mem_cons.mp ((insI_perm x l).mem_iff.mp hz) with rfl | hz
      · omega
      · exact h1 z hz
theorem srtI_perm : ∀ l : List Int, (srtI l).Perm l
  | [] => .refl _
  | x :: l => (insI_perm x (srtI l)).trans ((srtI_perm l).cons x)
theorem srtI_sorted : ∀ l : List Int, (srtI l).Pairwise (· ≤ ·)
  | [] => .nil
  | x :: l => insI_sorted x _ (srtI_sorted l)
theorem sorted_one : ∀ {l l' : List Int}, l.Perm l' → l.Pairwise (· ≤ ·) → l'.Pairwise (· ≤ ·) → l = l'
  | [], l', h, _, _ => h.nil_eq
  | x :: l, [], h, _, _ => absurd h.length_eq (by simp)
  | x :: l, y :: l', h, h1, h2 => by
    obtain ⟨a1, b1⟩ := List.pairwise_cons.mp h1
    obtain ⟨a2, b2⟩ := List.pairwise_cons.mp h2
    have e : x = y := by
      have hx := h.mem_iff.mp (List.mem_cons_self (a := x) (l := l))
      have hy := h.mem_iff.mpr (List.mem_cons_self (a := y) (l := l'))
      rcases List.mem_cons.mp hx with rfl | hx
      · rfl
      · rcases List.mem_cons.mp hy with rfl | hy
        · rfl
        · have := a2 x hx
          have := a1 y hy
          omega
    subst e
    rw [sorted_one (h.cons_inv) b1 b2]
def gSrt : List D → Option D
  | [.lst _ ds] => (intsD ds).map fun ns => .lst true ((srtI ns).map .int)
  | _ => none
def dK : Key → D
  | .inl i => .int i
  | .inr x => .str x.cps.toList
def gLstD : List D → Option D
  | [.dct _ ks _] => some (.lst true (ks.map dK))
  | _ => none
section
variable {C : RC}
theorem dK_reps {H : Hp} : ∀ ks : List Key, RepL C H (ks.map dK) (ks.map kV) []
  | [] => ⟨rfl, rfl⟩
  | k :: ks => ⟨kV k, ks.map kV, [], [], rfl, by
      cases k with
      | inl i => exact ⟨rfl, rfl⟩
      | inr x => exact ⟨by show V.str x = V.str (sx x.cps.toList); rw [sx_cps], rfl⟩, dK_reps ks, by simp, rfl⟩
theorem vo_srt : VOn C (rSortedI C.K) gSrt := by
  intro ds d vs H Q r hg q
  unfold gSrt at hg
  split at hg
  · obtain ⟨v, o, rfl, rv⟩ := repw1 r
    simp only [Option.map_eq_some_iff] at hg
    obtain ⟨ns, hn, rfl⟩ := hg
    obtain ⟨a, ws, rfl, hr, w⟩ := rv.lstS
    rw [w.intsX hn] at hr
    refine ⟨a, ns, rfl, .inl hr, fun ns' p hp hs hH => ?_⟩
    rw [sorted_one (hp.trans (srtI_perm ns).symm) hs (srtI_sorted ns)]
    exact q _ _ [p] (rep_new_lst (ints_rep _) hH) (Ext.new hH) (one_none hH)
  · cases hg
theorem vo_lstD : VOn C (fun xs H Q => ∃ (a : Addr) (kvs : List (Key × V)), xs = [.ref a] ∧ Rd H a (.dK kvs) ∧ ∀ p, H p = none → Q (.ref p) (upd H p (.lst (kvs.map fun kv => kV kv.1)))) gLstD := by
  intro ds d vs H Q r hg q
  unfold gLstD at hg
  split at hg
  · obtain ⟨v, o, rfl, rv⟩ := repw1 r
    cases hg
    obtain ⟨a, ws, rfl, hr, l, w⟩ := rv.dctS
    refine ⟨a, _, rfl, hr, fun p hp => ?_⟩
    rename_i f ks es
    have e : ((ks.zip ws).map fun kv => kV kv.1) = ks.map kV := by
      have : ks.length ≤ ws.length := by rw [l, w.len]; exact Nat.le_refl _
      rw [show ((fun kv : Key × V => kV kv.1)) = kV ∘ Prod.fst from rfl, ← List.map_map, List.map_fst_zip this]
    rw [e]
    exact q _ _ [p] (rep_new_lst (dK_reps ks) hp) (Ext.new hp) (one_none hp)
  · cases hg
end
section
variable {X : Cx} {W : WX} {z : Option (Addr × Addr × Addr)} {a : Expr} {es : List Expr} {p pos : Pos} {fs : Env → Option (List D)} {ms : M (List D)}
theorem sv_cmaxs (hc : X.calm = true) (hu : X.A.units + 64 < cLine) (hm : X.mg "max" = none) (ha : SW X (KX X z) (a :: es) fs) (hg : Gl X "max" := by rfl) (he : starEach (a :: es) X.env = (false, eval a X.env) :: starEach es X.env := by rfl) (hp : (backTo pos (starEach es X.env)).any (·.1) = false := by rfl) : SV X (KX X z) (.Call (.Name "max" p) (a :: es) [] pos) (vOpn gMaxS fs) := sv_opn (fun _ q => pe_callB (cr_or (cr_max hc) (cr_maxT hc hu)) hg hm PyProof.Rows.Boot.«max» q (by decide) (by decide) he hp) vo_maxs ha
theorem sev_cmaxs (hc : X.calm = true) (hu : X.A.units + 64 < cLine) (hm : X.mg "max" = none) (ha : SW X (KX X z) (a :: es) fs) (hg : Gl X "max" := by rfl) (he : starEach (a :: es) X.env = (false, eval a X.env) :: starEach es X.env := by rfl) (hp : (backTo pos (starEach es X.env)).any (·.1) = false := by rfl) : SE X W (KX X z) (.Call (.Name "max" p) (a :: es) [] pos) (eV (vOpn gMaxS fs)) := sev_opn (fun _ q => pe_callB (cr_or (cr_max hc) (cr_maxT hc hu)) hg hm PyProof.Rows.Boot.«max» q (by decide) (by decide) he hp) vo_maxs ha
theorem se_cmaxs (hc : X.calm = true) (hu : X.A.units + 64 < cLine) (hm : X.mg "max" = none) (ha : SA X W (KX X z) (a :: es) ms) (hg : Gl X "max" := by rfl) (he : starEach (a :: es) X.env = (false, eval a X.env) :: starEach es X.env := by rfl) (hp : (backTo pos (starEach es X.env)).any (·.1) = false := by rfl) : SE X W (KX X z) (.Call (.Name "max" p) (a :: es) [] pos) (eOpn gMaxS ms) := se_opn (fun _ q => pe_callB (cr_or (cr_max hc) (cr_maxT hc hu)) hg hm PyProof.Rows.Boot.«max» q (by decide) (by decide) he hp) vo_maxs ha
theorem sv_cmins (hc : X.calm = true) (hu : X.A.units + 64 < cLine) (hm : X.mg "min" = none) (ha : SW X (KX X z) (a :: es) fs) (hg : Gl X "min" := by rfl) (he : starEach (a :: es) X.env = (false, eval a X.env) :: starEach es X.env := by rfl) (hp : (backTo pos (starEach es X.env)).any (·.1) = false := by rfl) : SV X (KX X z) (.Call (.Name "min" p) (a :: es) [] pos) (vOpn gMinS fs) := sv_opn (fun _ q => pe_callB (cr_or (cr_min hc) (cr_minT hc hu)) hg hm PyProof.Rows.Boot.«min» q (by decide) (by decide) he hp) vo_mins ha
theorem sev_cmins (hc : X.calm = true) (hu : X.A.units + 64 < cLine) (hm : X.mg "min" = none) (ha : SW X (KX X z) (a :: es) fs) (hg : Gl X "min" := by rfl) (he : starEach (a :: es) X.env = (false, eval a X.env) :: starEach es X.env := by rfl) (hp : (backTo pos (starEach es X.env)).any (·.1) = false := by rfl) : SE X W (KX X z) (.Call (.Name "min" p) (a :: es) [] pos) (eV (vOpn gMinS fs)) := sev_opn (fun _ q => pe_callB (cr_or (cr_min hc) (cr_minT hc hu)) hg hm PyProof.Rows.Boot.«min» q (by decide) (by decide) he hp) vo_mins ha
theorem se_cmins (hc : X.calm = true) (hu : X.A.units + 64 < cLine) (hm : X.mg "min" = none) (ha : SA X W (KX X z) (a :: es) ms) (hg : Gl X "min" := by rfl) (he : starEach (a :: es) X.env = (false, eval a X.env) :: starEach es X.env := by rfl) (hp : (backTo pos (starEach es X.env)).any (·.1) = false := by rfl) : SE X W (KX X z) (.Call (.Name "min" p) (a :: es) [] pos) (eOpn gMinS ms) := se_opn (fun _ q => pe_callB (cr_or (cr_min hc) (cr_minT hc hu)) hg hm PyProof.Rows.Boot.«min» q (by decide) (by decide) he hp) vo_mins ha
theorem sv_csrt (hm : X.mg "sorted" = none) (ha : SW X (KX X z) (a :: es) fs) (hg : Gl X "sorted" := by rfl) (he : starEach (a :: es) X.env = (false, eval a X.env) :: starEach es X.env := by rfl) (hp : (backTo pos (starEach es X.env)).any (·.1) = false := by rfl) : SV X (KX X z) (.Call (.Name "sorted" p) (a :: es) [] pos) (vOpn gSrt fs) := sv_opn (fun _ q => pe_callB cr_sortedI hg hm PyProof.Rows.Boot.«sorted» q (by decide) (by decide) he hp) vo_srt ha
theorem sev_csrt (hm : X.mg "sorted" = none) (ha : SW X (KX X z) (a :: es) fs) (hg : Gl X "sorted" := by rfl) (he : starEach (a :: es) X.env = (false, eval a X.env) :: starEach es X.env := by rfl) (hp : (backTo pos (starEach es X.env)).any (·.1) = false := by rfl) : SE X W (KX X z) (.Call (.Name "sorted" p) (a :: es) [] pos) (eV (vOpn gSrt fs)) := sev_opn (fun _ q => pe_callB cr_sortedI hg hm PyProof.Rows.Boot.«sorted» q (by decide) (by decide) he hp) vo_srt ha
theorem se_csrt (hm : X.mg "sorted" = none) (ha : SA X W (KX X z) (a :: es) ms) (hg : Gl X "sorted" := by rfl) (he : starEach (a :: es) X.env = (false, eval a X.env) :: starEach es X.env := by rfl) (hp : (backTo pos (starEach es X.env)).any (·.1) = false := by rfl) : SE X W (KX X z) (.Call (.Name "sorted" p) (a :: es) [] pos) (eOpn gSrt ms) := se_opn (fun _ q => pe_callB cr_sortedI hg hm PyProof.Rows.Boot.«sorted» q (by decide) (by decide) he hp) vo_srt ha
theorem sv_clstD (hc : X.calm = true) (hm : X.mg "list" = none) (ha : SW X (KX X z) (a :: es) fs) (hg : Gl X "list" := by rfl) (he : starEach (a :: es) X.env = (false, eval a X.env) :: starEach es X.env := by rfl) (hp : (backTo pos (starEach es X.env)).any (·.1) = false := by rfl) : SV X (KX X z) (.Call (.Name "list" p) (a :: es) [] pos) (vOpn gLstD fs) := sv_opn (fun _ q => pe_callTy (call_listD hc) hg hm PyProof.Rows.Boot.«list» q (by decide) (by decide) he hp) vo_lstD ha
theorem sev_clstD (hc : X.calm = true) (hm : X.mg "list" = none) (ha : SW X (KX X z) (a :: es) fs) (hg : Gl X "list" := by rfl) (he : starEach (a :: es) X.env = (false, eval a X.env) :: starEach es X.env := by rfl) (hp : (backTo pos (starEach es X.env)).any (·.1) = false := by rfl) : SE X W (KX X z) (.Call (.Name "list" p) (a :: es) [] pos) (eV (vOpn gLstD fs)) := sev_opn (fun _ q => pe_callTy (call_listD hc) hg hm PyProof.Rows.Boot.«list» q (by decide) (by decide) he hp) vo_lstD ha
theorem se_clstD (hc : X.calm = true) (hm : X.mg "list" = none) (ha : SA X W (KX X z) (a :: es) ms) (hg : Gl X "list" := by rfl) (he : starEach (a :: es) X.env = (false, eval a X.env) :: starEach es X.env := by rfl) (hp : (backTo pos (starEach es X.env)).any (·.1) = false := by rfl) : SE X W (KX X z) (.Call (.Name "list" p) (a :: es) [] pos) (eOpn gLstD ms) := se_opn (fun _ q => pe_callTy (call_listD hc) hg hm PyProof.Rows.Boot.«list» q (by decide) (by decide) he hp) vo_lstD ha
end
/-! ### f'..' -/
def fmtD : D → Option D
  | .str x => if x.length ≤ sizeLine then some (.str x) else none
  | .int i => if i.natAbs.log2 < 1920 then some (.str (toString i : Str).cps.toList) else none
  | _ => none
def eFmt (me : M D) : M D := fun ρ => (me ρ).bind fun d ρ1 => ofO (fmtD d) ρ1
structure SJ (X : Cx) (W : WX) (C : RC) (es : List Expr) (m : List Nat → M D) : Prop where
  ex : ∃ ts, PJ X es ts ∧ ∀ acc ρ σ H own Q, ER C H ρ σ own → PoE C W (m acc ρ) σ H own Q → tJs ts (sx acc) σ H fun out H1 => Q (.str out) H1
def jNil : List Nat → M D := fun acc ρ => .ok (.str acc) ρ
def jCons (me : M D) (m : List Nat → M D) : List Nat → M D := fun acc ρ => (me ρ).bind fun d ρ1 => match d with
  | .str y => if acc.length + y.length ≤ sizeLine then m (acc ++ y) ρ1 else .bad
  | _ => .bad
theorem sx_app (a b : List Nat) : sx (a ++ b) = sx a ++ sx b := by
  unfold sx
  show _ = Str.append _ _
  simp [Str.append]
section
variable {X : Cx} {W : WX} {C : RC} {e : Expr} {es : List Expr} {me : M D} {m : List Nat → M D} {pos : Pos}
theorem se_fmt (h : SE X W C e me) : SE X W C (.FormattedValue e (-1) none pos) (eFmt me) := by
  obtain ⟨t, p, s⟩ := h.ex
  refine ⟨_, pe_fmt p, fun ρ σ H own Q er hw => ?_⟩
  have hw : PoE C W ((me ρ).bind fun d ρ1 => ofO (fmtD d) ρ1) σ H own Q := hw
  refine s ρ σ H own _ er (poE_bind (P := fun r => PoE C W r σ H own Q) hw (fun z => z) exE fun d ρ1 v H1 o own1 r e1 j st hw1 => ?_)
  unfold ofO fmtD at hw1
  cases d with
  | str x =>
    dsimp only at hw1
    split at hw1
    · rename_i d' hd
      split at hd
      · rename_i hz
        cases hd
        obtain ⟨rfl, rfl⟩ := r
        exact .inl ⟨sx x, rfl, by rw [sx_len]; exact hz, hw1.fin st e1 j (fun _ _ q => q) (by exact ⟨rfl, rfl⟩) (by simp)⟩
      · cases hd
    · exact hw1.elim
  | int i =>
    dsimp only at hw1
    split at hw1
    · rename_i d' hd
      split at hd
      · rename_i hz
        cases hd
        obtain ⟨rfl, rfl⟩ := r
        exact .inr ⟨i, rfl, hz, hw1.fin st e1 j (fun _ _ q => q) (by exact ⟨by rw [sx_cps], rfl⟩) (by simp)⟩
      · cases hd
    · exact hw1.elim
  | _ => exact hw1.elim
theorem sj_nil : SJ X W C [] jNil := ⟨[], .nil, fun acc ρ σ H own Q er hw => hw _ H [] own ⟨rfl, rfl⟩ er (by simp) (Stp.refl (by simp))⟩
theorem sj_cons (he : SE X W C e me) (hr : SJ X W C es m) : SJ X W C (e :: es) (jCons me m) := by
  obtain ⟨t, p, s⟩ := he.ex
  obtain ⟨ts, ps, ss⟩ := hr.ex
  refine ⟨t :: ts, .cons p ps, fun acc ρ σ H own Q er hw => ?_⟩
  show t σ H fun x H1 => ∃ y : Str, x = .str y ∧ (sx acc ++ y).length ≤ sizeLine ∧ tJs ts (sx acc ++ y) σ H1 _
  have hw : PoE C W ((me ρ).bind fun d ρ1 => match d with
    | .str y => if acc.length + y.length ≤ sizeLine then m (acc ++ y) ρ1 else .bad
    | _ => .bad) σ H own Q := hw
  refine s ρ σ H own _ er (poE_bind (P := fun r => PoE C W r σ H own Q) hw (fun z => z) exE fun d ρ1 v H1 o own1 r e1 j st hw1 => ?_)
  cases d with
  | str y =>
    dsimp only at hw1
    split at hw1
    · rename_i hz
      obtain ⟨rfl, rfl⟩ := r
      refine ⟨sx y, rfl, by rw [← sx_app, sx_len, List.length_append]; exact hz, ?_⟩
      rw [← sx_app]
      exact ss (acc ++ y) ρ1 σ H1 own1 Q e1 (hw1.later (by simpa using st))
    · exact hw1.elim
  | _ => exact hw1.elim
theorem se_js {v1 v2 : Expr} {rest : List Expr} (h : SJ X W C (v1 :: v2 :: rest) m) : SE X W C (.JoinedStr (v1 :: v2 :: rest) pos) (m []) := by
  obtain ⟨ts, ps, ss⟩ := h.ex
  exact ⟨_, pe_joined ps, fun ρ σ H own Q er hw => ss [] ρ σ H own Q er hw⟩
theorem se_js1 (h : SE X W C e me) : SE X W C (.JoinedStr [e] pos) me := by
  obtain ⟨t, p, s⟩ := h.ex
  exact ⟨t, pe_joined1 p, s⟩
end
end Se

namespace Se
open PySem L2
/-! ### {k: v for x in xs if c}: frozen values -/
theorem dPut_keys : ∀ (ks : List Key) (ds : List D) (k : Key) (y : D), ks.length = ds.length → ks.Nodup → (dPut ks ds k y).1.Nodup ∧ ∀ x, x ∈ (dPut ks ds k y).1 ↔ x ∈ ks ∨ x = k
  | [], [], _, _, _, _ => by simp [dPut]
  | [], _ :: _, _, _, h, _ => by simp at h
  | _ :: _, [], _, _, h, _ => by simp at h
  | k1 :: ks, d1 :: ds, k, y, h, hn => by
    rw [List.nodup_cons] at hn
    simp only [dPut]
    split
    · rename_i e
      subst e
      refine ⟨List.nodup_cons.mpr hn, fun x => ⟨.inl, fun q => q.elim id fun z => by rw [z]; exact List.mem_cons_self⟩⟩
    · rename_i e
      obtain ⟨h1, h2⟩ := dPut_keys ks ds k y (by simpa using h) hn.2
      refine ⟨List.nodup_cons.mpr ⟨fun z => ?_, h1⟩, fun x => ?_⟩
      · rcases (h2 k1).mp z with q | q
        · exact hn.1 q
        · exact e q
      · rw [List.mem_cons, h2 x, List.mem_cons]
        constructor
        · rintro (q | q | q)
          · exact .inl (.inl q)
          · exact .inl (.inr q)
          · exact .inr q
        · rintro ((q | q) | q)
          · exact .inl q
          · exact .inr (.inl q)
          · exact .inr (.inr q)
def compD (vs : List Nat) (f : D → Env → Option Env) (mt : M Bool) (mk mv : M D) : List D → List Key → List D → Env → Option (List Key × List D × Env)
  | [], ks, acc, ρ => some (ks, acc, ρ)
  | d :: ds, ks, acc, ρ => match f d (wipeE ρ vs) with
    | some ρ1 => match mt ρ1 with
      | .ok b ρ2 => if b = true then (match mk ρ2 with
          | .ok k ρ3 => match mv ρ3 with
            | .ok y ρ4 => match kD k with
              | some kk => if fz y = true ∧ ks.length < sizeLine then compD vs f mt mk mv ds (dPut ks acc kk y).1 (dPut ks acc kk y).2 ρ4 else none
              | none => none
            | _ => none
          | _ => none) else compD vs f mt mk mv ds ks acc ρ2
      | _ => none
    | none => none
def eDc (vs : List Nat) (mi : M (List D)) (f : D → Env → Option Env) (mt : M Bool) (mk mv : M D) : M D := fun ρ => match mi ρ with
  | .ok ds ρ1 => match compD vs f mt mk mv ds [] [] ρ1 with
    | some (ks, acc, ρ2) => .ok (.dct true ks acc) (wipeE ρ2 vs)
    | none => .bad
  | .ex e ρ1 => .ex e ρ1
  | .bad => .bad
section
variable {X : Cx} {W : WX} {C : RC} {B : List Nat}
theorem snd_dc {vs : List Nat} {wi : TI} {g : TG} {tt : TT} {tk tv : TE} {mi : M (List D)} {f : D → Env → Option Env} {mt : M Bool} {mk mv : M D}
    (si : ∀ ρ σ H own R, ER C H ρ σ own → (match mi ρ with
      | .ok ds ρ' => ∀ J H' own', ER C H' ρ' σ own' → Stp H H' own own' → ItOk C J ds H' own' → R J H'
      | .ex e ρ' => ∀ cls d H' own', XR C H' e cls d → ER C H' ρ' σ own' → Stp H H' own own' → W cls d σ H'
      | .bad => False) → wi σ H R)
    (sg : ∀ d v o ρ ρ' σ H own Q, Rep C H d v o → ER C H ρ σ own → (∀ a ∈ o, a ∉ own) → f d ρ = some ρ' →
      (∀ σ' own', ER C H ρ' σ' own' → (∀ a ∈ own', a ∈ o ∨ a ∈ own) → (∀ j ∈ B, σ'[j]? = σ[j]?) → σ'.length = σ.length → Q σ' H) → g v σ H Q)
    (stt : ∀ ρ σ H own Q, ER C H ρ σ own → PoT C W0 (mt ρ) σ H own Q → tt σ H Q) (stk : Snd W0 C tk mk) (stv : Snd W0 C tv mv) (n : Nat) (hB : ∀ j, j < n → j ∉ vs → j ∈ B) :
    ∀ ρ σ H own Q, σ.length = n → ER C H ρ σ own → PoE C W (eDc vs mi f mt mk mv ρ) σ H own Q → tDc wi g tt tk tv vs σ H Q := by
  intro ρ σ H own Q hn er hw
  refine si ρ σ H own _ er ?_
  unfold eDc at hw
  cases hmi : mi ρ with
  | bad => rw [hmi] at hw; exact hw
  | ex e ρ1 => rw [hmi] at hw; exact hw
  | ok ds ρ1 =>
    rw [hmi] at hw
    intro J H1 own1 e1 s1 hJ p hp
    dsimp only at hw
    split at hw
    · rename_i ksF accF ρF hc
      obtain ⟨ownW, eW, mW⟩ := ER.wipe (vs := vs) e1
      refine ⟨fun i m H2 => m + i = ds.length ∧ ∃ ρ2 own2 ks acc av, compD vs f mt mk mv (ds.drop i) ks acc ρ2 = some (ksF, accF, ρF) ∧ ER C H2 (wipeE ρ2 vs) (L2.wipe σ vs) own2 ∧ H2 p = some (.dK (ks.zip av)) ∧ ks.length = acc.length ∧ ks.Nodup ∧ RepL C H2 acc av [] ∧ p ∉ own2 ∧ Stp H1 H2 own1 own2,
        ⟨ds.length, by simp, ρ1, ownW, [], [], [], hc, eW.ext (Ext.new hp), upd_same, rfl, .nil, ⟨rfl, rfl⟩, fun z => ?_, ⟨fun a ob q _ => Ext.new hp a ob q, fun a ha => .inl (mW a ha)⟩⟩, ?_⟩
      · obtain ⟨u, q, _⟩ := eW.mut p z
        rw [hp] at q; cases q
      · rintro i m H2 ⟨hm, ρ2, own2, ks, acc, av, hc2, e2, hD, hl, hnd, ra, np2, st2⟩
        have hJi := hJ H2 own2 st2 i
        by_cases hi : i < ds.length
        · right
          obtain ⟨go, hy⟩ := hJi.2 _ (List.getElem?_eq_getElem hi)
          rw [List.drop_eq_getElem_cons hi] at hc2
          unfold compD at hc2
          split at hc2
          · rename_i ρ3 hf
            refine ⟨go, fun H4 => ∃ ρ2 own2 ks acc av, compD vs f mt mk mv (ds.drop (i + 1)) ks acc ρ2 = some (ksF, accF, ρF) ∧ ER C H4 (wipeE ρ2 vs) (L2.wipe σ vs) own2 ∧ H4 p = some (.dK (ks.zip av)) ∧ ks.length = acc.length ∧ ks.Nodup ∧ RepL C H4 acc av [] ∧ p ∉ own2 ∧ Stp H1 H4 own1 own2,
              fun H4 h4 => ⟨m - 1, by omega, by omega, h4⟩, fun x H3 yy => ?_⟩
            obtain ⟨k3, r3⟩ := hy x H3 yy
            refine sg _ x [] (wipeE ρ2 vs) ρ3 (L2.wipe σ vs) H3 own2 _ r3 (e2.ext k3) (by simp) hf fun σ3 own3 e3 m3 b3 l3 => ⟨wipe_eq l3 b3 (by rw [hn]; exact hB), ?_⟩
            have sub3 : ∀ a ∈ own3, a ∈ own2 := fun a ha => (m3 a ha).resolve_left (by simp)
            have ew : L2.wipe σ3 vs = L2.wipe σ vs := wipe_eq l3 b3 (by rw [hn]; exact hB)
            refine stt ρ3 σ3 H3 own3 _ e3 ?_
            cases hmt : mt ρ3 with
            | bad => rw [hmt] at hc2; cases hc2
            | ex e ρ4 => rw [hmt] at hc2; cases hc2
            | ok b ρ4 =>
              rw [hmt] at hc2
              dsimp only at hc2
              intro H4 own4 e4 st4
              have keepA : ∀ {H5 : Hp} {own5 : List Addr}, Stp H3 H5 own3 own5 → H5 p = some (.dK (ks.zip av)) ∧ RepL C H5 acc av [] ∧ p ∉ own5 := fun {H5 own5} st5 => by
                have hD3 := k3 _ _ hD
                refine ⟨st5.keep p _ hD3 fun z => np2 (sub3 p z), (ra.ext k3).keep st5.keep e3.mut (by simp), fun z => ?_⟩
                rcases st5.sub p z with q | q
                · exact np2 (sub3 p q)
                · rw [hD3] at q; cases q
              have st13 : Stp H1 H3 own1 own3 := ⟨fun a ob q na => k3 a ob (st2.keep a ob q na), fun a ha => st2.sub a (sub3 a ha)⟩
              cases b with
              | false =>
                rw [if_neg Bool.false_ne_true] at hc2 ⊢
                obtain ⟨q1, q2, q3⟩ := keepA st4
                obtain ⟨own5, e5, m5⟩ := ER.wipe (vs := vs) e4
                rw [ew] at e5
                exact ⟨ρ4, own5, ks, acc, av, hc2, e5, q1, hl, hnd, q2, fun z => q3 (m5 p z), (st13.trans st4).less m5⟩
              | true =>
                rw [if_pos rfl] at hc2 ⊢
                refine stk ρ4 σ3 H4 own4 _ e4 ?_
                cases hmk : mk ρ4 with
                | bad => rw [hmk] at hc2; cases hc2
                | ex e ρ5 => rw [hmk] at hc2; cases hc2
                | ok kd ρ5 =>
                  rw [hmk] at hc2
                  dsimp only at hc2
                  intro wk H5 ok own5 rk e5 dk5 st5
                  have st5' : Stp H4 H5 own4 own5 := st5.less fun a ha => List.mem_append_right _ ha
                  refine stv ρ5 σ3 H5 own5 _ e5 ?_
                  cases hmv : mv ρ5 with
                  | bad => rw [hmv] at hc2; cases hc2
                  | ex e ρ6 => rw [hmv] at hc2; cases hc2
                  | ok y ρ6 =>
                    rw [hmv] at hc2
                    dsimp only at hc2
                    split at hc2
                    · rename_i kk hkk
                      split at hc2
                      · rename_i hz
                        intro w H6 oy own6 ry e6 dy st6
                        have eo := ry.fz_nil hz.1
                        subst eo
                        have ek := kD_rep rk hkk
                        subst ek
                        have st36 : Stp H3 H6 own3 own6 := (st4.trans st5').trans (st6.less fun a ha => List.mem_append_right _ ha)
                        obtain ⟨q1, q2, q3⟩ := keepA st36
                        obtain ⟨av2, o2, hput, r2, m2⟩ := RepL.putV (k := kk) ry q2 hl hnd (by simp)
                        have eo2 : o2 = [] := by
                          cases o2 with
                          | nil => rfl
                          | cons a l => exact absurd (m2 a List.mem_cons_self) (by simp)
                        subst eo2
                        have kk' : Keeps H6 (upd H6 p (.dK (putK (ks.zip av) kk w))) [p] := fun b ob q nb => by
                          rw [upd_ne (fun z => nb (by simp [z]))]; exact q
                        have mm : Muts H6 [p] := fun b hb => by
                          cases List.mem_singleton.mp hb
                          exact ⟨_, q1, trivial⟩
                        have ny : ∀ {o : List Addr}, p ∉ o → ∀ a ∈ o, a ∉ [p] := fun h a ha z => h (by cases List.mem_singleton.mp z; exact ha)
                        obtain ⟨own7, e7, m7⟩ := ER.wipe (vs := vs) (e6.keep kk' mm (ny q3))
                        rw [ew] at e7
                        obtain ⟨hn1, _⟩ := dPut_keys ks acc kk y hl hnd
                        refine ⟨ks.zip av, kk, rfl, q1, by rw [List.length_zip, ra.len, hl, Nat.min_self, ← hl]; exact hz.2, ρ6, own7, (dPut ks acc kk y).1, (dPut ks acc kk y).2, av2, hc2, e7, by rw [upd_same, hput], dPut_len _ _ _ _ hl, hn1, r2.keep kk' mm (by simp), fun z => q3 (m7 p z), ?_⟩
                        have st16 : Stp H1 H6 own1 own6 := st13.trans st36
                        refine ⟨fun a ob q na => ?_, fun a ha => st16.sub a (m7 a ha)⟩
                        have q5 := st16.keep a ob q na
                        by_cases hap : a = p
                        · subst hap; rw [hp] at q; cases q
                        · rw [upd_ne hap]; exact q5
                      · cases hc2
                    · cases hc2
          · cases hc2
        · left
          rw [List.drop_eq_nil_of_le (by omega)] at hc2
          cases hc2
          refine ⟨hJi.1 (by omega), hw (.ref p) H2 [p] own2 ⟨p, av, [], rfl, hD, hl, ra, by simp, rfl⟩ (ER.unwipe e2) (fun a ha => ?_) ?_⟩
          · cases List.mem_singleton.mp ha
            exact np2
          · have st02 := s1.trans st2
            refine ⟨st02.keep, fun a ha => ?_⟩
            rcases List.mem_append.mp ha with q | q
            · cases List.mem_singleton.mp q
              by_cases y : p ∈ own
              · exact .inl y
              · right
                cases e : H p with
                | none => rfl
                | some ob => rw [s1.keep p ob e y] at hp; cases hp
            · exact st02.sub a q
    · exact hw.elim
structure DcP (X : Cx) (C : RC) (B : List Nat) (scope : Scope) (tg kx vx : Expr) (ifs : List Expr) (f : D → Env → Option Env) (mt : M Bool) (mk mv : M D) (g : TG) (tt : TT) (tk tv : TE) : Prop where
  hg : ∀ k : Kx, PG (Cx.at X scope k) tg g
  ht : ∀ k : Kx, PTs (Cx.at X scope k) ifs tt
  hk : ∀ k : Kx, PE (Cx.at X scope k) kx tk
  hv : ∀ k : Kx, PE (Cx.at X scope k) vx tv
  sg : ∀ d v o ρ ρ' σ H own Q, Rep C H d v o → ER C H ρ σ own → (∀ a ∈ o, a ∉ own) → f d ρ = some ρ' →
      (∀ σ' own', ER C H ρ' σ' own' → (∀ a ∈ own', a ∈ o ∨ a ∈ own) → (∀ j ∈ B, σ'[j]? = σ[j]?) → σ'.length = σ.length → Q σ' H) → g v σ H Q
  stt : ∀ ρ σ H own Q, ER C H ρ σ own → PoT C W0 (mt ρ) σ H own Q → tt σ H Q
  stk : Snd W0 C tk mk
  stv : Snd W0 C tv mv
variable {scope : Scope} {kx vx tg iter test : Expr} {mi : M (List D)} {f : D → Env → Option Env} {mt : M Bool} {mk mv : M D} {pos : Pos} {own : List (Str × Nat)}
theorem dcp_none (hg : ∀ k : Kx, SG (Cx.at X scope k) C B tg f) (hk : ∀ k : Kx, SE (Cx.at X scope k) W0 C kx mk) (hv : ∀ k : Kx, SE (Cx.at X scope k) W0 C vx mv) : ∃ g tt tk tv, DcP X C B scope tg kx vx [] f tTrue mk mv g tt tk tv := by
  refine ⟨fun v σ H Q => ∀ k : Kx, (Classical.choose (hg k).ex) v σ H Q, tYes, fun σ H Q => ∀ k : Kx, (Classical.choose (hk k).ex) σ H Q, fun σ H Q => ∀ k : Kx, (Classical.choose (hv k).ex) σ H Q, ⟨fun k => pg_weak (Classical.choose_spec (hg k).ex).1 fun v σ H Q h => h k, fun k => pts_nil, fun k => pe_weak (Classical.choose_spec (hk k).ex).1 fun σ H Q h => h k, fun k => pe_weak (Classical.choose_spec (hv k).ex).1 fun σ H Q h => h k, ?_, ?_, ?_, ?_⟩⟩
  · exact fun d v o ρ ρ' σ H own Q r er dj hf hw k => (Classical.choose_spec (hg k).ex).2 d v o ρ ρ' σ H own Q r er dj hf hw
  · exact fun ρ σ H own Q er hw => hw H own er (Stp.refl fun _ z => z)
  · exact fun ρ σ H own Q er hw k => (Classical.choose_spec (hk k).ex).2 ρ σ H own Q er hw
  · exact fun ρ σ H own Q er hw k => (Classical.choose_spec (hv k).ex).2 ρ σ H own Q er hw
theorem dcp_if (hg : ∀ k : Kx, SG (Cx.at X scope k) C B tg f) (ht : ∀ k : Kx, ST (Cx.at X scope k) W0 C test mt) (hk : ∀ k : Kx, SE (Cx.at X scope k) W0 C kx mk) (hv : ∀ k : Kx, SE (Cx.at X scope k) W0 C vx mv) : ∃ g tt tk tv, DcP X C B scope tg kx vx [test] f mt mk mv g tt tk tv := by
  refine ⟨fun v σ H Q => ∀ k : Kx, (Classical.choose (hg k).ex) v σ H Q, fun σ H Q => ∀ k : Kx, (Classical.choose (ht k).ex) σ H Q, fun σ H Q => ∀ k : Kx, (Classical.choose (hk k).ex) σ H Q, fun σ H Q => ∀ k : Kx, (Classical.choose (hv k).ex) σ H Q, ⟨fun k => pg_weak (Classical.choose_spec (hg k).ex).1 fun v σ H Q h => h k, fun k => pts_one (pt_weak (Classical.choose_spec (ht k).ex).1 fun σ H Q h => h k), fun k => pe_weak (Classical.choose_spec (hk k).ex).1 fun σ H Q h => h k, fun k => pe_weak (Classical.choose_spec (hv k).ex).1 fun σ H Q h => h k, ?_, ?_, ?_, ?_⟩⟩
  · exact fun d v o ρ ρ' σ H own Q r er dj hf hw k => (Classical.choose_spec (hg k).ex).2 d v o ρ ρ' σ H own Q r er dj hf hw
  · exact fun ρ σ H own Q er hw k => (Classical.choose_spec (ht k).ex).2 ρ σ H own Q er hw
  · exact fun ρ σ H own Q er hw k => (Classical.choose_spec (hk k).ex).2 ρ σ H own Q er hw
  · exact fun ρ σ H own Q er hw k => (Classical.choose_spec (hv k).ex).2 ρ σ H own Q er hw
theorem se_dc {ifs : List Expr} (hc : X.calm = true) (hN : X.N.Nodup) (hi : SI X W C tg iter mi) (ok : BlkOk X.N X.env.scope scope own) (hp : ∃ g tt tk tv, DcP X C B scope tg kx vx ifs f mt mk mv g tt tk tv) (hB : ∀ j, j < X.N.length → j ∉ own.map (·.2) → j ∈ B)
    (hs : ∀ x, foldedSetIterable iter X.env x = pure x := by intro _; rfl) : SE X W C (.DictComp kx vx [⟨tg, iter, ifs, 0⟩] scope pos) (eDc (own.map (·.2)) mi f mt mk mv) := by
  obtain ⟨wi, pi, si⟩ := hi.ex
  obtain ⟨g, tt, tk, tv, p⟩ := hp
  refine ⟨_, pe_len (pe_dc hc hN pi ok (fun s H c cl fp => p.hg ⟨s, H, c, cl, fp⟩) (fun s H c cl fp => p.ht ⟨s, H, c, cl, fp⟩) (fun s H c cl fp => p.hk ⟨s, H, c, cl, fp⟩) (fun s H c cl fp => p.hv ⟨s, H, c, cl, fp⟩) hs), fun ρ σ H own Q er hw hl => ?_⟩
  exact snd_dc si p.sg p.stt p.stk p.stv X.N.length hB ρ σ H own Q hl er hw
end
/-! ### x[..][k] += e on a list, a dict: ints -/
def intO (f : Int → Int → Int) : D → D → Option D
  | .int a, .int b => some (.int (f a b))
  | _, _ => none
def leafAug (f : Int → Int → Int) (k : Int) (y : D) : D → Option D := fun l => match l with
  | .lst true ds => (nrm ds.length k).bind fun j => (ds[j]?).bind fun x => (intO f x y).map fun z => .lst true (ds.set j z)
  | _ => none
def sAugS (f : Int → Int → Int) (p : Env → Option (Nat × List Sel)) (fk fe : Env → Option D) : MS := fun ρ => match p ρ, fk ρ, fe ρ with
  | some (i, π), some (.int k), some y => match (ρ[i]?).join with
    | some d => match updP d π (leafAug f k y) with
      | some d' => .nx (ρ.set i (some d'))
      | none => .bad
    | none => .bad
  | _, _, _ => .bad
theorem pget_list {X : Cx} : PGet X (rIxL X.K) := by
  intro pins s σ H x y v u Q I rx ry h
  obtain ⟨p, xs, i, z, rfl, rfl, hq, he, q⟩ := h
  cases rx
  obtain ⟨t, rfl⟩ := ry
  obtain ⟨its, r, pl, hz⟩ := I.list hq
  obtain ⟨j, h1, h2, h3, h4, h5⟩ := atI_get he
  obtain ⟨w, ew, rw'⟩ := r.get h2
  have hl := r.length
  have hn := line63
  have fin : EP X pins σ Q w s := ⟨z, H, I, rw', q⟩
  by_cases h0 : 0 ≤ i
  · have hj : i.toNat = j := by
      rw [seqIndex_of h0 h5] at h1
      exact Option.some.inj h1
    exact wpAny_getItem_list pl.isList h0 (by omega) (by rw [hj]; simpa using ew) fin
  · have hj : (i + (its.toArray.size : Int)).toNat = j := by
      rw [seqIndex_neg (by omega) h4] at h1
      rw [List.size_toArray, ← hl]
      exact Option.some.inj h1
    exact wpAny_getItem_list_neg pl.isList (by omega) (by rw [List.size_toArray] <;> omega) (by omega) (by rw [hj]; simpa using ew) fin
section
variable {X : Cx} {W : WX} {C : RC} {B : List Nat} {o k e : Expr} {p : Env → Option (Nat × List Sel)} {fk fe : Env → Option D} {pos p' : Pos}
theorem ss_augS {op : Operator} {f : Int → Int → Int} (hip : PIp X op (ipI f)) (hp : SP X C o p) (hk : SV X C k fk) (he : SV X C e fe)
    (ha : ∀ ov iv new, augStore k ov iv new = (do holding [new, ov, iv] (setItem ov iv new); release [new, ov, iv] []; pure .next) := by intros; rfl) : SS X W C B (.AugAssign (.Subscript o k p') op e pos) (sAugS f p fk fe) := by
  obtain ⟨te, pe, se⟩ := he.ex
  obtain ⟨to, po, sp⟩ := hp.ex
  obtain ⟨tk, pk, sk⟩ := hk.ex
  refine ⟨_, ps_augS po pk pget_list pe hip set_list ha, fun ρ σ H own Dn er hw => ?_⟩
  unfold sAugS at hw
  split at hw
  · rename_i i π kk y hpp hkk hee
    split at hw
    · rename_i d hd
      split at hw
      · rename_i d' hu
        obtain ⟨l, hl, hf⟩ := upd_get hu
        obtain ⟨v0, ow, ownr, e1, rd, err, dj, mo⟩ := er.take (join_some hd)
        have hii : i < ρ.length := (List.getElem?_eq_some_iff.mp (join_some hd)).1
        obtain ⟨w, ox0, pw, rl0, _⟩ := rd.getP hl
        refine sp ρ σ H own _ er i π d l hpp hd hl fun v0' v H2 es' hv k2 => ?_
        rw [e1] at es'; cases es'
        have ev := hv.det (pw H fun _ _ => rfl)
        subst ev
        refine sk ρ σ H2 own _ (er.ext k2) _ hkk fun vk H3 ok' rk k3 => ?_
        obtain ⟨rfl, _⟩ := rk
        have k13 : Ext H H3 := fun a ob q => k3 a ob (k2 a ob q)
        cases l with
        | lst fl ds =>
          cases fl with
          | false => simp [leafAug] at hf
          | true =>
            obtain ⟨a, vs, o', rfl, hH0, rl1, na0, rfl⟩ := rl0
            have hf' : ∃ j x z, nrm ds.length kk = some j ∧ ds[j]? = some x ∧ intO f x y = some z := by
              simp only [leafAug, Option.isSome_iff_exists, Option.bind_eq_some_iff, Option.map_eq_some_iff] at hf
              obtain ⟨_, j, h1, x, h2, z, h3, _⟩ := hf
              exact ⟨j, x, z, h1, h2, h3⟩
            obtain ⟨j, x, z, hj, hx, hz⟩ := hf'
            obtain ⟨ix, iy, rfl, rfl, rfl⟩ : ∃ ix iy, x = .int ix ∧ y = .int iy ∧ z = .int (f ix iy) := by
              unfold intO at hz
              split at hz
              · cases hz; exact ⟨_, _, rfl, rfl, rfl⟩
              · cases hz
            obtain ⟨vx, ox, hvx, rx⟩ := rl1.w.at hx
            have evx : vx = .int ix := rx.1
            subst evx
            refine ⟨a, vs, kk, .int ix, rfl, rfl, .inl (.inl (k13 _ _ hH0)), ?_, ?_⟩
            · unfold atI
              rw [rl1.len, show ixN ds.length kk = some j from hj]
              exact hvx
            refine se ρ σ H3 own _ (er.ext k13) _ hee fun vy H4 oy ry k4 => ?_
            obtain ⟨rfl, _⟩ := ry
            have k14 : Ext H H4 := fun a ob q => k4 a ob (k13 a ob q)
            refine ⟨ix, iy, rfl, rfl, ?_⟩
            obtain ⟨x2, y', ox2, e2, g1, rx2, sx', fin⟩ := mut_core (err.ext k14) (by rw [List.getElem?_set_self hii]) e1 (rd.ext k14) dj hu (hv.ext k14)
            rw [hl] at g1; cases g1
            simp only [leafAug, hj, hx, hz, Option.bind_some, Option.map_some, Option.some.injEq] at e2
            subst e2
            obtain ⟨a', vs', o2', ea, hH, rl, na, rfl⟩ := rx2
            cases ea
            rw [k14 _ _ hH0] at hH
            cases hH
            have hH := k14 _ _ hH0
            refine ⟨a, vs, kk, j, rfl, rfl, hH, by rw [rl.len]; exact hj, ?_⟩
            obtain ⟨o2, r2, m2⟩ := rl.setV (j := j) (y := .int (f ix iy)) (w := .int (f ix iy)) (oy := []) ⟨rfl, rfl⟩ (by simp)
            have na2 : a ∉ o2 := fun z => na ((m2 a z).resolve_right (by simp))
            have kk' : Keeps H4 (upd H4 a (.lst (vs.set j (.int (f ix iy))))) [a] := fun b ob q nb => by
              rw [upd_ne (fun z => nb (by simp [z]))]; exact q
            have mm : Muts H4 [a] := fun b hb => by
              cases List.mem_singleton.mp hb
              exact ⟨_, hH, trivial⟩
            obtain ⟨own', erF, mF⟩ := fin (upd H4 a (.lst (vs.set j (.int (f ix iy))))) (a :: o2) (fun b ob nb q => kk' b ob q fun z => nb (by cases List.mem_singleton.mp z; exact List.mem_cons_self))
              ⟨a, _, o2, rfl, upd_same, r2.keep kk' mm fun x hx z => na2 (by cases List.mem_singleton.mp z; exact hx), na2, rfl⟩ (fun b hb => by
                rcases List.mem_cons.mp hb with rfl | hb
                · exact .inl List.mem_cons_self
                · exact .inl (List.mem_cons_of_mem _ ((m2 b hb).resolve_right (by simp))))
            rw [List.set_set] at erF
            have inown : ∀ b, b ∈ ow ∨ b ∈ ownr → b ∈ own := fun b hb => (mo b).mpr hb
            refine hw σ _ own' erF ⟨fun b ob q nb => kk' b ob (k14 b ob q) fun z => ?_, fun b hb => .inl ?_⟩ fun _ _ => rfl
            · cases List.mem_singleton.mp z
              exact nb (inown _ (.inl (sx' _ List.mem_cons_self)))
            · rcases mF b hb with q | ⟨q, _⟩ | q
              · exact inown b (.inr q)
              · exact inown b (.inl q)
              · rcases List.mem_cons.mp q with rfl | q
                · exact inown _ (.inl (sx' _ List.mem_cons_self))
                · exact inown b (.inl (sx' b (List.mem_cons_of_mem _ ((m2 b q).resolve_right (by simp)))))
        | _ => simp [leafAug] at hf
      · exact hw.elim
    · exact hw.elim
  · exact hw.elim
theorem ss_incS (hp : SP X C o p) (hk : SV X C k fk) (he : SV X C e fe) (ha : ∀ ov iv new, augStore k ov iv new = (do holding [new, ov, iv] (setItem ov iv new); release [new, ov, iv] []; pure .next) := by intros; rfl) : SS X W C B (.AugAssign (.Subscript o k p') .Add e pos) (sAugS (fun i j => i + j) p fk fe) := ss_augS ip_add hp hk he ha
theorem ss_decS (hp : SP X C o p) (hk : SV X C k fk) (he : SV X C e fe) (ha : ∀ ov iv new, augStore k ov iv new = (do holding [new, ov, iv] (setItem ov iv new); release [new, ov, iv] []; pure .next) := by intros; rfl) : SS X W C B (.AugAssign (.Subscript o k p') .Sub e pos) (sAugS (fun i j => i - j) p fk fe) := ss_augS ip_sub hp hk he ha
end
/-! ### keys that are written; chains; truth -/
section
variable {X : Cx} {W : WX} {z : Option (Addr × Addr × Addr)} {a b c : Expr} {pos : Pos} {fa fb fc : Env → Option D}
theorem pe_strK {x : Str} {j : Nat} {pos : Pos} (l : List Nat) (e : x = sx l) : PE X (.Constant (.str x) j pos) (tC (kV (.inr (sx l)))) := by
  subst e
  exact pe_str
theorem pe_intK {i : Int} {j : Nat} {pos : Pos} : PE X (.Constant (.int i) j pos) (tC (kV (.inl i))) := pe_int
theorem sv_ch_lt_lt (ha : SV X (KX X z) a fa) (hb : SV X (KX X z) b fb) (hc : SV X (KX X z) c fc) (hm : lastMarks [.Lt, .Lt] [b, c] = false := by with_unfolding_all rfl) : SV X (KX X z) (.Compare a [.Lt, .Lt] [b, c] pos) (vCh (gCmp fun i j => decide (i < j)) (gCmp fun i j => decide (i < j)) fa fb fc) := sv_ch (fun _ _ _ p q r => pe_chain op_lt op_lt p q r hm) (vo_cmp _) (vo_cmp _) ha hb hc
theorem sev_ch_lt_lt (ha : SV X (KX X z) a fa) (hb : SV X (KX X z) b fb) (hc : SV X (KX X z) c fc) (hm : lastMarks [.Lt, .Lt] [b, c] = false := by with_unfolding_all rfl) : SE X W (KX X z) (.Compare a [.Lt, .Lt] [b, c] pos) (eV (vCh (gCmp fun i j => decide (i < j)) (gCmp fun i j => decide (i < j)) fa fb fc)) := sev_ch (fun _ _ _ p q r => pe_chain op_lt op_lt p q r hm) (vo_cmp _) (vo_cmp _) ha hb hc
theorem stv_ch_lt_lt (ha : SV X (KX X z) a fa) (hb : SV X (KX X z) b fb) (hc : SV X (KX X z) c fc) (hm : lastMarks [.Lt, .Lt] [b, c] = false := by with_unfolding_all rfl) : ST X W (KX X z) (.Compare a [.Lt, .Lt] [b, c] pos) (Se.tB (eV (vCh (gCmp fun i j => decide (i < j)) (gCmp fun i j => decide (i < j)) fa fb fc))) := stv_ch (fun _ _ _ p q r => pt_chain op_lt op_lt p q r hm) (vo_cmp _) (vo_cmp _) ha hb hc
theorem sv_ch_lt_le (ha : SV X (KX X z) a fa) (hb : SV X (KX X z) b fb) (hc : SV X (KX X z) c fc) (hm : lastMarks [.Lt, .LtE] [b, c] = false := by with_unfolding_all rfl) : SV X (KX X z) (.Compare a [.Lt, .LtE] [b, c] pos) (vCh (gCmp fun i j => decide (i < j)) (gCmp fun i j => decide (i ≤ j)) fa fb fc) := sv_ch (fun _ _ _ p q r => pe_chain op_lt op_le p q r hm) (vo_cmp _) (vo_cmp _) ha hb hc
theorem sev_ch_lt_le (ha : SV X (KX X z) a fa) (hb : SV X (KX X z) b fb) (hc : SV X (KX X z) c fc) (hm : lastMarks [.Lt, .LtE] [b, c] = false := by with_unfolding_all rfl) : SE X W (KX X z) (.Compare a [.Lt, .LtE] [b, c] pos) (eV (vCh (gCmp fun i j => decide (i < j)) (gCmp fun i j => decide (i ≤ j)) fa fb fc)) := sev_ch (fun _ _ _ p q r => pe_chain op_lt op_le p q r hm) (vo_cmp _) (vo_cmp _) ha hb hc
theorem stv_ch_lt_le (ha : SV X (KX X z) a fa) (hb : SV X (KX X z) b fb) (hc : SV X (KX X z) c fc) (hm : lastMarks [.Lt, .LtE] [b, c] = false := by with_unfolding_all rfl) : ST X W (KX X z) (.Compare a [.Lt, .LtE] [b, c] pos) (Se.tB (eV (vCh (gCmp fun i j => decide (i < j)) (gCmp fun i j => decide (i ≤ j)) fa fb fc))) := stv_ch (fun _ _ _ p q r => pt_chain op_lt op_le p q r hm) (vo_cmp _) (vo_cmp _) ha hb hc
theorem sv_ch_le_lt (ha : SV X (KX X z) a fa) (hb : SV X (KX X z) b fb) (hc : SV X (KX X z) c fc) (hm : lastMarks [.LtE, .Lt] [b, c] = false := by with_unfolding_all rfl) : SV X (KX X z) (.Compare a [.LtE, .Lt] [b, c] pos) (vCh (gCmp fun i j => decide (i ≤ j)) (gCmp fun i j => decide (i < j)) fa fb fc) := sv_ch (fun _ _ _ p q r => pe_chain op_le op_lt p q r hm) (vo_cmp _) (vo_cmp _) ha hb hc
theorem sev_ch_le_lt (ha : SV X (KX X z) a fa) (hb : SV X (KX X z) b fb) (hc : SV X (KX X z) c fc) (hm : lastMarks [.LtE, .Lt] [b, c] = false := by with_unfolding_all rfl) : SE X W (KX X z) (.Compare a [.LtE, .Lt] [b, c] pos) (eV (vCh (gCmp fun i j => decide (i ≤ j)) (gCmp fun i j => decide (i < j)) fa fb fc)) := sev_ch (fun _ _ _ p q r => pe_chain op_le op_lt p q r hm) (vo_cmp _) (vo_cmp _) ha hb hc
theorem stv_ch_le_lt (ha : SV X (KX X z) a fa) (hb : SV X (KX X z) b fb) (hc : SV X (KX X z) c fc) (hm : lastMarks [.LtE, .Lt] [b, c] = false := by with_unfolding_all rfl) : ST X W (KX X z) (.Compare a [.LtE, .Lt] [b, c] pos) (Se.tB (eV (vCh (gCmp fun i j => decide (i ≤ j)) (gCmp fun i j => decide (i < j)) fa fb fc))) := stv_ch (fun _ _ _ p q r => pt_chain op_le op_lt p q r hm) (vo_cmp _) (vo_cmp _) ha hb hc
theorem sv_ch_le_le (ha : SV X (KX X z) a fa) (hb : SV X (KX X z) b fb) (hc : SV X (KX X z) c fc) (hm : lastMarks [.LtE, .LtE] [b, c] = false := by with_unfolding_all rfl) : SV X (KX X z) (.Compare a [.LtE, .LtE] [b, c] pos) (vCh (gCmp fun i j => decide (i ≤ j)) (gCmp fun i j => decide (i ≤ j)) fa fb fc) := sv_ch (fun _ _ _ p q r => pe_chain op_le op_le p q r hm) (vo_cmp _) (vo_cmp _) ha hb hc
theorem sev_ch_le_le (ha : SV X (KX X z) a fa) (hb : SV X (KX X z) b fb) (hc : SV X (KX X z) c fc) (hm : lastMarks [.LtE, .LtE] [b, c] = false := by with_unfolding_all rfl) : SE X W (KX X z) (.Compare a [.LtE, .LtE] [b, c] pos) (eV (vCh (gCmp fun i j => decide (i ≤ j)) (gCmp fun i j => decide (i ≤ j)) fa fb fc)) := sev_ch (fun _ _ _ p q r => pe_chain op_le op_le p q r hm) (vo_cmp _) (vo_cmp _) ha hb hc
theorem stv_ch_le_le (ha : SV X (KX X z) a fa) (hb : SV X (KX X z) b fb) (hc : SV X (KX X z) c fc) (hm : lastMarks [.LtE, .LtE] [b, c] = false := by with_unfolding_all rfl) : ST X W (KX X z) (.Compare a [.LtE, .LtE] [b, c] pos) (Se.tB (eV (vCh (gCmp fun i j => decide (i ≤ j)) (gCmp fun i j => decide (i ≤ j)) fa fb fc))) := stv_ch (fun _ _ _ p q r => pt_chain op_le op_le p q r hm) (vo_cmp _) (vo_cmp _) ha hb hc
end
/-! ### rules by which simp reckons -/
def ocK (g g' : D → D → Option D) (b : D) (q : Option D) (z : Option D) : Option D := match q with
  | some (.bl true) => z.bind fun c => g' b c
  | some (.bl false) => some (.bl false)
  | _ => none
def ch1 (g g' : D → D → Option D) (x y z : Option D) : Option D := x.bind fun a => y.bind fun b => ocK g g' b (g a b) z
section
variable {g g' : D → D → Option D} {fa fb fc : Env → Option D} {ρ : Env} {a b c d : D} {i j : Int} {x : List Nat} {ks : List Key} {ds : List D} {fl : Bool} {y : D} {k : Key}
@[simp] theorem ya1 : vCh g g' fa fb fc ρ = ch1 g g' (fa ρ) (fb ρ) (fc ρ) := by
  unfold vCh ch1 ocK
  cases fa ρ with
  | none => rfl
  | some a =>
    cases fb ρ with
    | none => rfl
    | some b =>
      simp only [Option.bind_some] <;> (cases g a b with
      | none => rfl
      | some q => cases q with
        | bl b => cases b <;> rfl
        | _ => rfl)
@[simp] theorem ya2 {z : Option D} : ch1 g g' (some a) (some b) z = ocK g g' b (g a b) z := (rfl)
@[simp] theorem ya3 : ocK g g' b (some (.bl true)) (some c) = g' b c := (rfl)
@[simp] theorem ya4 {z : Option D} : ocK g g' b (some (.bl false)) z = some (.bl false) := (rfl)
@[simp] theorem ya5 : gDk (.dct fl ks ds) y = (kD y).bind fun k => dGet ks ds k := (rfl)
@[simp] theorem ya6 : gDkF (.dct fl ks ds) y = ((kD y).bind fun k => dGet ks ds k).bind fun x => if fz x = true then some x else none := (rfl)
@[simp] theorem ya7 : kD (.int i) = some (.inl i) := (rfl)
@[simp] theorem ya8 : kD (.str x) = some (.inr (sx x)) := (rfl)
@[simp] theorem ya9 {fa fb fc : Env → Option D} {g3 : D → D → D → Option D} : vOp3 g3 fa fb fc ρ = (fa ρ).bind fun a => (fb ρ).bind fun b => (fc ρ).bind fun c => g3 a b c := (rfl)
end
end Se

namespace Se
open PySem L2
/-! ### x[..][k] = y, k with effects; y frozen -/
def sSetE (me : M D) (p : Env → Option (Nat × List Sel)) (mk : M D) : MS := fun ρ => match me ρ with
  | .ok y ρ1 => if fz y = true then (match p ρ1 with
    | some (i, π) => match (ρ1[i]?).join with
      | some d => match getP d π with
        | some (.lst true _) => match mk (ρ1.set i none) with
          | .ok (.int k) ρ2 => match ρ2[i]?, updP d π (leafSet k y) with
            | some none, some d' => .nx (ρ2.set i (some d'))
            | _, _ => .bad
          | .ex e ρ2 => .bad
          | _ => .bad
        | _ => .bad
      | none => .bad
    | none => .bad) else .bad
  | .ex e ρ1 => .ex e ρ1
  | .bad => .bad
section
variable {X : Cx} {W : WX} {C : RC} {B : List Nat} {o k e : Expr} {me mk : M D} {p : Env → Option (Nat × List Sel)} {pos p' : Pos}
theorem ss_setE (he : SE X W C e me) (hp : SP X C o p) (hk : SE X W C k mk) (ha : ∀ v, assign (.Subscript o k p') X.env v = (do
      let ow ← holding [v] (eval o X.env)
      let kv ← holding [v, ow] (eval k X.env)
      standAt p'
      holding [v, ow, kv] (setItem ow kv v)
      release [v, ow, kv] []) := by intro _; rfl)
    (hs : swapsWithSole [.Subscript o k p'] e pos.line X.env = pure false := by rfl) (hw : swappedStores [.Subscript o k p'] e X.env = pure none := by rfl)
    (h1 : (assignEach [.Subscript o k p'] X.env).map (·.2) = [assign (.Subscript o k p') X.env] := by rfl) : SS X W C B (.Assign [.Subscript o k p'] e pos) (sSetE me p mk) := by
  obtain ⟨te, pe, se⟩ := he.ex
  obtain ⟨to, po, sp⟩ := hp.ex
  obtain ⟨tk, pk, sk⟩ := hk.ex
  refine ⟨_, ps_asg pe (pg_sub po pk set_list ha) hs hw h1, fun ρ σ H own Dn er hw => ?_⟩
  refine se ρ σ H own _ er ?_
  unfold sSetE at hw
  cases hme : me ρ with
  | bad => rw [hme] at hw; exact hw.elim
  | ex e' ρ1 =>
    rw [hme] at hw
    exact fun cls d H' own' x1 x2 st => hw cls d σ H' own' x1 x2 st fun _ _ => rfl
  | ok y ρ1 =>
    rw [hme] at hw
    intro vy H1 oy own1 ry er1 dj1 st1
    dsimp only at hw
    split at hw
    · rename_i hfz
      have eo := ry.fz_nil hfz
      subst eo
      split at hw
      · rename_i i π hpp
        split at hw
        · rename_i d hd
          split at hw
          · rename_i ds hl
            obtain ⟨v0, ow, ownr, e1, rd, err, dj, mo⟩ := er1.take (join_some hd)
            obtain ⟨w, ox0, pw, _, _⟩ := rd.getP hl
            refine sp ρ1 σ H1 own1 _ er1 i π d _ hpp hd hl fun v0' v H2 es' hv k2 => ?_
            rw [e1] at es'; cases es'
            have ev := hv.det (pw H1 fun _ _ => rfl)
            subst ev
            refine sk (ρ1.set i none) σ H2 ownr _ (err.ext k2) ?_
            cases hmk : mk (ρ1.set i none) with
            | bad => rw [hmk] at hw; exact hw.elim
            | ex e' ρ2 => rw [hmk] at hw; exact hw.elim
            | ok kd ρ2 =>
              rw [hmk] at hw
              intro vk H3 ok own3 rk er3 dk3 st3
              cases kd with
              | int kk =>
                dsimp only at hw
                obtain ⟨rfl, rfl⟩ := rk
                split at hw
                · rename_i d' hhole hu
                  have djo : ∀ a ∈ ow, a ∉ own3 := fun a ha z => st3.apart (rd.ext k2).mut dj a ha (by simpa using z)
                  have hk' : ∀ a ∈ ow, H3 a = H1 a := fun a ha => by
                    obtain ⟨u, q, _⟩ := rd.mut a ha
                    rw [q]
                    exact st3.keep a u (k2 a u q) (dj a ha)
                  have rd3 := (rd.ext k2).keep st3.keep (err.ext k2).mut dj
                  obtain ⟨x, y', ox, e2, g1, rx, sx', fin⟩ := mut_core er3 hhole e1 rd3 djo hu (pw H3 hk')
                  rw [hl] at g1; cases g1
                  simp only [leafSet, Option.map_eq_some_iff] at e2
                  obtain ⟨j, hj, rfl⟩ := e2
                  obtain ⟨a, vs, o', rfl, hH, rl, na, rfl⟩ := rx
                  refine ⟨a, vs, kk, j, rfl, rfl, hH, by rw [rl.len]; exact hj, ?_⟩
                  have ry3 := (ry.ext k2).keep st3.keep (err.ext k2).mut (by simp)
                  obtain ⟨o2, r2, m2⟩ := rl.setV (j := j) ry3 (by simp)
                  have m2 : ∀ b ∈ o2, b ∈ o' := fun b hb => (m2 b hb).resolve_right (by simp)
                  have na2 : a ∉ o2 := fun z => na (m2 a z)
                  have kk' : Keeps H3 (upd H3 a (.lst (vs.set j vy))) [a] := fun b ob q nb => by
                    rw [upd_ne (fun z => nb (by simp [z]))]; exact q
                  have mm : Muts H3 [a] := fun b hb => by
                    cases List.mem_singleton.mp hb
                    exact ⟨_, hH, trivial⟩
                  obtain ⟨own', erF, mF⟩ := fin (upd H3 a (.lst (vs.set j vy))) (a :: o2) (fun b ob nb q => kk' b ob q fun z => nb (by cases List.mem_singleton.mp z; exact List.mem_cons_self))
                    ⟨a, _, o2, rfl, upd_same, r2.keep kk' mm fun x hx z => na2 (by cases List.mem_singleton.mp z; exact hx), na2, rfl⟩ (fun b hb => by
                      rcases List.mem_cons.mp hb with rfl | hb
                      · exact .inl List.mem_cons_self
                      · exact .inl (List.mem_cons_of_mem _ (m2 b hb)))
                  have in0 : ∀ b, b ∈ own1 → b ∈ own ∨ H b = none := fun b hb => st1.sub b (List.mem_append_right _ hb)
                  have up : ∀ b, b ∉ own → ∀ ob, H b = some ob → b ∉ own1 := fun b nb ob q z => by
                    rcases in0 b z with w | w
                    · exact nb w
                    · rw [q] at w; cases w
                  have in3 : ∀ b, b ∈ own3 → b ∈ own ∨ H b = none := fun b hb => by
                    rcases st3.sub b (by simpa using hb) with q | q
                    · exact in0 b ((mo b).mpr (.inr q))
                    · by_cases z : b ∈ own
                      · exact .inl z
                      · right
                        cases hq : H b with
                        | none => rfl
                        | some ob => rw [k2 b ob (st1.keep b ob hq z)] at q; cases q
                  refine hw σ _ own' erF ⟨fun b ob q nb => ?_, fun b hb => ?_⟩ fun _ _ => rfl
                  · have n1 := up b nb ob q
                    refine kk' b ob (st3.keep b ob (k2 b ob (st1.keep b ob q nb)) fun z => n1 ((mo b).mpr (.inr z))) fun z => ?_
                    cases List.mem_singleton.mp z
                    exact n1 ((mo _).mpr (.inl (sx' _ List.mem_cons_self)))
                  · rcases mF b hb with q | ⟨q, _⟩ | q
                    · exact in3 b q
                    · exact in0 b ((mo b).mpr (.inl q))
                    · rcases List.mem_cons.mp q with rfl | q
                      · exact in0 _ ((mo _).mpr (.inl (sx' _ List.mem_cons_self)))
                      · exact in0 b ((mo b).mpr (.inl (sx' b (List.mem_cons_of_mem _ (m2 b q)))))
                · exact hw.elim
              | _ => exact hw.elim
          · exact hw.elim
        · exact hw.elim
      · exact hw.elim
    · exact hw.elim
end
end Se

namespace Se
open PySem L2
/-! ### walks that give pairs: over what stays (G) -/
def ItP (G : Hp → Prop) (xs ys : List V) : It :=
  ⟨fun i H => G H ∧ i < xs.length ∧ i < ys.length, fun i H v H' => ∃ T x y, v = .ref T ∧ H T = none ∧ H' = upd H T (.tup [x, y]) ∧ xs[i]? = some x ∧ ys[i]? = some y, fun i H => G H ∧ ¬ (i < xs.length ∧ i < ys.length)⟩
theorem turnW {P : Program} {w : World} {K : PySem.W.Frag} {elts : List Expr} {kk : Nat} {tpos : Pos} {G : Hp → Prop} {xs ys : List V} {z : Addr} {ch : List Addr} {tn : Nat → Heap → Prop} (mem : z ∈ ch)
    (obj : ∀ i h, tn i h → ∀ b ∈ ch, ∃ o, h.get? b = some o ∧ ∀ v, o.data ≠ .cell v) (keep : ∀ i h h', tn i h → (∀ b ∈ ch, ∀ o, h.get? b = some o → h'.get? b = some o) → tn i h')
    (walk : ∀ X : Cx, X.prog = P → X.w = w → X.K = K → X.calm = true → ∀ (i : Nat) (pins : List (Addr × Obj)) (s : Shared) (σ : St) (H : Hp), Inv X pins σ H s → G H → tn i s.heap →
      ∃ (fp wr : List Addr) (n : Nat) (Pv : Nat → Array Value → Prop) (St : Nat → Heap → Prop) (Mid : Nat → Addr → Heap → Prop), WalksT P w X.A z fp wr n Pv St Mid ∧ (∀ b ∈ wr, b ∈ ch) ∧ St i s.heap ∧ (i < n → ∀ h, St (i + 1) h → tn (i + 1) h) ∧ (i < n ↔ i < xs.length ∧ i < ys.length) ∧ i ≤ n ∧
        ∀ vals, Pv i vals → ∃ u1 u2 x y, vals = #[u1, u2] ∧ xs[i]? = some x ∧ ys[i]? = some y ∧ RelV x u1 ∧ RelV y u2)
    (self : ∀ (A : Around) (i : Nat) (s : Shared) (Q : Value → Shared → Prop) (E : Value → Shared → Prop), tn i s.heap → Q (.ref z) s → wpAny (model P w) A (pyIter (.ref z)) Q E s) :
    Turn P w K (.Tuple elts kk tpos) (ItP G xs ys) ch z tn where
  mem := mem
  obj := obj
  keep := keep
  item := by
    intro X hP hw hK hc i pins s σ H E I hf st hg
    obtain ⟨fp, wr, n, Pv, St, Mid, W, hch, hst, hn, hin, _, hv⟩ := walk X hP hw hK hc i pins s σ H I hg.1 st
    subst hP hw hK
    refine W.item i s _ E (hin.mpr hg.2) hst fun T vals h' tk hP hT hI hM hk => ?_
    obtain ⟨u1, u2, x, y, rfl, hx, hy, r1, r2⟩ := hv vals hP
    refine ⟨.ref T, rfl, ?_⟩
    refine W.go elts kk tpos i T { s with heap := h', toks := tk } _ E hM fun h2 hst2 hk2 => ?_
    have nT : T ∉ wr := W.apart i T h' hM
    have kch : ∀ b o, b ∉ ch → s.heap.get? b = some o → h2.get? b = some o := fun b o hb q => hk2 b o (fun q' => hb (hch b q')) (hk b o (fun q' => hb (hch b q')) q)
    obtain ⟨oT, hoT, hcT, m, hdT⟩ := hI
    have hT2 : h2.get? T = some oT := hk2 T oT nT hoT
    have new : ObjOk X.prog X.w (upd H T (.tup [x, y])) h2 T (.tup [x, y]) := ⟨by show 2 ≤ sizeLine; decide, [u1, u2], .cons r1 (.cons r2 .nil), ⟨oT, hT2, hcT, m, hdT⟩⟩
    have I1 : Inv X pins σ (upd H T (.tup [x, y])) { s with heap := h2, toks := tk } := I.turnedNew (ch := ch) kch hf hT new
    refine ⟨.ref T, _, I1, rfl, ⟨T, x, y, rfl, I.hok.fresh hT, rfl, hx, hy⟩, hn (hin.mpr hg.2) h2 hst2, fun b hb => ?_⟩
    have hb' : b < s.heap.objs.size := by
      obtain ⟨o, ho, _⟩ := obj i s.heap st b hb
      exact Heap.lt_size ho
    rw [upd_ne (Nat.ne_of_lt (Nat.lt_of_lt_of_le hb' hT))]
    exact (hf b hb).1
  done := by
    intro X hP hw hK hc i pins s σ H E I hf st hg
    obtain ⟨fp, wr, n, Pv, St, Mid, W, hch, hst, hn, hin, hle, hv⟩ := walk X hP hw hK hc i pins s σ H I hg.1 st
    subst hP hw hK
    have e : i = n := by
      have : ¬ i < n := fun q => hg.2 (hin.mp q)
      omega
    rw [e] at hst
    exact W.done s _ E hst fun h' tk hk => ⟨rfl, I.turnedL (t' := tk) (ch := ch) (fun b o hb q => hk b o (fun q' => hb (hch b q')) q) hf⟩
  self := self
/-! ### what is walked: a tuple (b true), a list -/
def Sq (b : Bool) (K : PySem.W.Frag) (H : Hp) (a : Addr) (xs : List V) : Prop := if b = true then SqT K H a xs else SqL K H a xs
def IsQ (b : Bool) (h : Heap) (a : Addr) (its : Array Value) : Prop := if b = true then h.IsTuple a its else h.IsList a its
def ItQ (b : Bool) (h : Heap) (it a : Addr) (i : Nat) : Prop := if b = true then h.IsTupleIter it a i else h.IsListIter it a i
def objQ (b : Bool) (a : Addr) : Obj := { cls := .type (if b = true then "tuple_iterator" else "list_iterator"), data := .fields #[.ref a, .int 0 0] }
theorem Sq.is {b : Bool} {X : Cx} {pins : List (Addr × Obj)} {σ : St} {H : Hp} {s : Shared} {a : Addr} {xs : List V} (I : Inv X pins σ H s) (h : Sq b X.K H a xs) : ∃ its : List Value, Vals xs its ∧ IsQ b s.heap a its.toArray := by
  cases b with
  | true =>
    obtain ⟨its, rv, p, _⟩ := I.tuple (show SqT X.K H a xs from h)
    exact ⟨its, rv, p⟩
  | false =>
    obtain ⟨its, rv, p, _⟩ := I.list (show SqL X.K H a xs from h)
    exact ⟨its, rv, p.isList⟩
theorem ItQ.obj {b : Bool} {h : Heap} {it a : Addr} {i : Nat} (x : ItQ b h it a i) : ∃ o, h.get? it = some o ∧ o.cls = .type (if b = true then "tuple_iterator" else "list_iterator") ∧ o.data = .fields #[.ref a, .int i 0] := by
  cases b <;> exact x
theorem ItQ.mk {b : Bool} {h : Heap} {it a : Addr} {i : Nat} (x : ∃ o, h.get? it = some o ∧ o.cls = .type (if b = true then "tuple_iterator" else "list_iterator") ∧ o.data = .fields #[.ref a, .int i 0]) : ItQ b h it a i := by
  cases b <;> exact x
theorem IsQ.obj {b : Bool} {h : Heap} {a : Addr} {its : Array Value} (x : IsQ b h a its) : ∃ o, h.get? a = some o ∧ o.cls = .type (if b = true then "tuple" else "list") := by
  cases b with
  | true => obtain ⟨o, h1, h2, _⟩ := (show h.IsTuple a its from x); exact ⟨o, h1, h2⟩
  | false => obtain ⟨o, h1, h2, _⟩ := (show h.IsList a its from x); exact ⟨o, h1, h2⟩
theorem drawsQ {b : Bool} {prog : Program} {w : World} {A : Around} (hh : A.handled = none) (it a : Addr) (hne : a ≠ it) (its : Array Value) :
    Draws prog w A it [it, a] its.size (fun i v => its[i]? = some v) (fun i h => ItQ b h it a i ∧ IsQ b h a its) := by
  cases b with
  | true => exact Draws.tuple hh it a hne its
  | false => exact Draws.list hh it a hne its
theorem beginsQ {b : Bool} (a : Addr) (its : Array Value) : Begins (.ref a) (objQ b a) fun h => IsQ b h a its := by
  cases b with
  | true => exact begins_tuple a its
  | false => exact begins_list a its
theorem clsNe {h : Heap} {a b : Addr} {o o' : Obj} (h1 : h.get? a = some o) (h2 : h.get? b = some o') (n : o.cls ≠ o'.cls) : a ≠ b := fun e => by
  rw [e, h2] at h1
  cases h1
  exact n rfl
/-! ### enumerate -/
def numsV (n : Nat) : List V := (List.range n).map fun (i : Nat) => V.int i
theorem meets_enumQ {v : Value} {o : Obj} {H : Heap → Prop} (B : Begins v o H) :
    Meets (Builtin.«enumerate.__new__» ⟨[.type "enumerate", v], []⟩) (fun _ R s => H s.heap ∧
      R (.ok (.ret (.ref (s.heap.push o).objs.size))) { s with heap := (s.heap.push o).push { cls := .type "enumerate", data := .fields #[.none, .bool false, .ref s.heap.objs.size, rawInt 0, .none, .none] } }) :=
  .of_wp fun prog w A R s h => by
    obtain ⟨hp, g, d, tk, os⟩ := s
    obtain ⟨h1, h⟩ := h
    have hsub := sub_enumerate
    have q1 : ∀ {A' : Around} {E : Value → Shared → Prop} {Q : Value → Shared → Prop}, Q (.ref hp.objs.size) ⟨hp.push o, g, d, tk, os⟩ → wpAny (model prog w) A' (pyIter v) Q E ⟨hp, g, d, tk, os⟩ := fun q => B.iter prog w _ _ ⟨hp, g, d, tk, os⟩ _ h1 q
    wp_walk using q1
    refine wpAny_stack_any fun st => wpAny_pure ?_
    split
    · rename_i c _ _ _ _ _
      cases (c == Value.type "enumerate")
      · wp_walk using q1
        exact ⟨_, rfl, h⟩
      · wp_walk using q1
        exact ⟨_, rfl, h⟩
    · wp_walk using q1
      exact ⟨_, rfl, h⟩
theorem enumQ {prog : Program} {w : World} {A : Around} {E : Value → Shared → Prop} {s : Shared} {v : Value} {o : Obj} {H : Heap → Prop} {Q : Value → Shared → Prop} (B : Begins v o H) (h1 : H s.heap)
    (h : ∀ h', IsEnum h' (s.heap.objs.size + 1) s.heap.objs.size 0 .none → h'.get? s.heap.objs.size = some o → (∀ b o, s.heap.get? b = some o → h'.get? b = some o) → Q (.ref (s.heap.objs.size + 1)) { s with heap := h' }) :
    wpAny (model prog w) A (call (.type "enumerate") [v]) Q E s := by
  refine callType_new F.called_enumerate (by decide) (F.typeCall_enumerate_1 _) (F.newCall_enumerate_1 _) (fun obj => F.args_object_init_2 obj _) F.entry_enumerate_new (meets_enumQ B) ⟨h1, ?_⟩
  have hz : (s.heap.push o).objs.size = s.heap.objs.size + 1 := Heap.size_push ..
  have he : ((s.heap.push o).push { cls := .type "enumerate", data := .fields #[.none, .bool false, .ref s.heap.objs.size, rawInt 0, .none, .none] }).get? (s.heap.push o).objs.size = some { cls := .type "enumerate", data := .fields #[.none, .bool false, .ref s.heap.objs.size, rawInt 0, .none, .none] } := Heap.get?_push_size _ rfl
  rw [hz] at he
  show _ ∧ _
  rw [hz]
  exact ⟨⟨_, he, rfl⟩, h _ he (Heap.get?_push_of_some _ (Heap.get?_push_size _ B.free)) fun b o x => Heap.get?_push_of_some _ (Heap.get?_push_of_some _ x)⟩
theorem turn_enumQ {P : Program} {w : World} {K : PySem.W.Frag} {elts : List Expr} {kk : Nat} {tpos : Pos} (b : Bool) (a e it : Addr) (xs : List V) :
    Turn P w K (.Tuple elts kk tpos) (ItP (fun H => Sq b K H a xs) (numsV xs.length) xs) [e, it] e (fun i h => i ≤ xs.length ∧ (∃ old, IsEnum h e it ((i : Nat) : Int) old) ∧ ItQ b h it a i) := by
  refine turnW (by simp) (fun i h st c hc => ?_) (fun i h h' st k => ?_) (fun X hP hw hK hcm i pins s σ H I hG st => ?_) (fun A i s Q E st h => ?_)
  · obtain ⟨_, ⟨old, he⟩, hi⟩ := st
    obtain ⟨o, ho, _, hd⟩ := hi.obj
    have e' : c = e ∨ c = it := by simpa using hc
    rcases e' with rfl | rfl
    · exact ⟨_, he, fun v q => nomatch q⟩
    · exact ⟨o, ho, fun v q => by rw [hd] at q; cases q⟩
  · obtain ⟨hl, ⟨old, he⟩, hi⟩ := st
    obtain ⟨o, ho, h2, h3⟩ := hi.obj
    exact ⟨hl, ⟨old, k e (by simp) _ he⟩, .mk ⟨o, k it (by simp) o ho, h2, h3⟩⟩
  · subst hP hw hK
    obtain ⟨hl, ⟨old, he⟩, hi⟩ := st
    obtain ⟨its, rv, hq⟩ := Sq.is I hG
    obtain ⟨oa, hoa, hca⟩ := hq.obj
    obtain ⟨o, ho, hco, _⟩ := hi.obj
    have n1 : a ≠ it := clsNe hoa ho (by rw [hca, hco]; cases b <;> decide)
    have n2 : e ≠ it := clsNe he ho (by rw [hco]; show Value.type "enumerate" ≠ _; cases b <;> decide)
    have n3 : e ≠ a := clsNe he hoa (by rw [hca]; show Value.type "enumerate" ≠ _; cases b <;> decide)
    have hsz : its.toArray.size = xs.length := by rw [List.size_toArray, ← rv.length]
    have hW := WalksT.enumerateD (drawsQ (b := b) (prog := X.prog) (w := X.w) (A := X.A.in1) (I.ok.hd hcm) it a n1 its.toArray) e n2 (by simp [n2, n3]) (by simp)
    refine ⟨_, _, _, _, _, _, hW, fun c hc => by simpa using hc, ⟨⟨old, he⟩, hi, hq⟩, fun hlt h hh => ?_, ?_, by omega, fun vals hv => ?_⟩
    · obtain ⟨⟨old', he'⟩, hi', _⟩ := hh
      exact ⟨by omega, ⟨old', he'⟩, hi'⟩
    · rw [hsz]
      simp [numsV]
    · obtain ⟨t, x, hx, rfl⟩ := hv
      have hx' : its[i]? = some x := by simpa using hx
      obtain ⟨y, hy, ry⟩ : ∃ y, xs[i]? = some y ∧ RelV y x := by
        have hlt : i < xs.length := by
          have := (List.getElem?_eq_some_iff.mp hx').1
          rw [← rv.length] at this
          exact this
        obtain ⟨u, hu, ru⟩ := rv.get (List.getElem?_eq_getElem hlt)
        rw [hx'] at hu
        cases hu
        exact ⟨_, List.getElem?_eq_getElem hlt, ru⟩
      have hlt : i < xs.length := (List.getElem?_eq_some_iff.mp hy).1
      exact ⟨_, _, .int i, y, rfl, by simp [numsV, hlt], hy, ⟨_, rfl⟩, ry⟩
  · obtain ⟨_, ⟨old, he⟩, _⟩ := st
    exact wpAny_pyIter_enum he h
def iEnQ (K : PySem.W.Frag) (ta : TA) : TI := fun σ H R => ta σ H fun vs H1 => ∃ (b : Bool) (a : Addr) (xs : List V), vs = [.ref a] ∧ Sq b K H1 a xs ∧ R (ItP (fun H => Sq b K H a xs) (numsV xs.length) xs) H1
theorem pi_enQ {X : Cx} {e : Expr} {ta : TA} {p pos tpos : Pos} {elts : List Expr} {kk : Nat} (hg : Gl X "enumerate") (hm : X.mg "enumerate" = none) (ha : PA X [e] ta) (hs : starEach [e] X.env = [(false, eval e X.env)] := by rfl) :
    PI X (.Tuple elts kk tpos) (.Call (.Name "enumerate" p) [e] [] pos) (iEnQ X.K ta) := by
  refine ⟨fun pins s σ H R I h => ?_⟩
  refine PyProof.Rows.Call_ (ld_blt I hg hm PyProof.Rows.boot_enumerate (PyProof.Rows.callWith_type1 (thn (ha.run pos pins s σ H _ I h) fun us s1 ⟨vs, H1, I1, r1, q1⟩ => ?_) hs rfl))
  obtain ⟨b, a, xs, rfl, hq, q⟩ := q1
  cases r1 with
  | cons r rr =>
    cases rr
    cases r
    obtain ⟨its, rv, hI⟩ := Sq.is I1 hq
    refine enumQ (beginsQ (b := b) a its.toArray) hI fun h' he hit hk => wpAny_pyIter_enum he ?_
    have I2 : Inv X pins σ H1 { s1 with heap := h' } := I1.kept (t' := s1.toks) hk
    refine ⟨s1.heap.objs.size + 1, [s1.heap.objs.size + 1, s1.heap.objs.size], _, _, H1, rfl, I2, turn_enumQ b a (s1.heap.objs.size + 1) s1.heap.objs.size xs, ⟨Nat.zero_le _, ⟨.none, he⟩, .mk ⟨_, hit, rfl, rfl⟩⟩, fun c hc => ?_, q⟩
    have hle : s1.heap.objs.size ≤ c := by
      have e' : c = s1.heap.objs.size + 1 ∨ c = s1.heap.objs.size := by simpa using hc
      rcases e' with z | z
      · rw [z]; exact Nat.le_succ _
      · rw [z]; exact Nat.le_refl _
    exact I1.fpOk hle (I1.hok.fresh hle)
section
variable {C : RC}
theorem Sq.keep {b : Bool} {H H1 : Hp} {own : List Addr} {a : Addr} {xs : List V} (k : Keeps H H1 own) (m : Muts H own) (h : if b = true then SqT C.K H a xs else FzL C.K H a xs) : Sq b C.K H1 a xs := by
  cases b with
  | true => exact k.sqT m h
  | false => exact (k.fzL m h).sq
theorem numsV_at {n i : Nat} {x : V} (h : (numsV n)[i]? = some x) : x = .int i := by
  unfold numsV at h
  simp only [List.getElem?_map, Option.map_eq_some_iff] at h
  obtain ⟨j, hj, rfl⟩ := h
  by_cases hi : i < n
  · rw [List.getElem?_range hi] at hj
    cases hj; rfl
  · rw [List.getElem?_eq_none (by simpa using hi)] at hj; cases hj
theorem itOk_enQ {b : Bool} {H : Hp} {own : List Addr} {a : Addr} {ds : List D} {vs : List V} (m : Muts H own) (h : if b = true then SqT C.K H a vs else FzL C.K H a vs) (r : RepL C H ds vs []) : ItOk C (ItP (fun H => Sq b C.K H a vs) (numsV vs.length) vs) (enD 0 ds) H own := fun H1 own1 st i => by
  have k : Keeps H H1 own := st.keep
  have h1 := Sq.keep k m h
  have r1 := RepL.keep k m (by simp) r
  have hl : vs.length = ds.length := r.len
  refine ⟨fun hi => ⟨h1, fun z => ?_⟩, fun d hd => ?_⟩
  · rw [enD_len] at hi
    have := z.2
    omega
  obtain ⟨x, hx, rfl⟩ := enD_get hd
  have hlt : i < ds.length := (List.getElem?_eq_some_iff.mp hx).1
  obtain ⟨v, hv, rv⟩ := r1.at0 hx
  refine ⟨⟨h1, by simp [numsV]; omega, by omega⟩, fun y H2 yy => ?_⟩
  obtain ⟨T, z1, z2, rfl, hT, rfl, y1, y2⟩ := yy
  have e1 := numsV_at y1
  subst e1
  rw [hv] at y2; cases y2
  refine ⟨Ext.new hT, ?_⟩
  rw [Nat.zero_add]
  exact rep_pair hT ⟨rfl, rfl⟩ rv
end
def enB : List D → Option (List D)
  | [.lst false ds] => some (enD 0 ds)
  | [.tup ds] => if fzL ds = true then some (enD 0 ds) else none
  | _ => none
section
variable {X : Cx} {W : WX} {C : RC} {a : Expr} {p pos : Pos}
theorem si_enQ {elts : List Expr} {kk : Nat} {tpos : Pos} {ms : M (List D)} (hK : C.K = X.K) (hg : Gl X "enumerate") (hm : X.mg "enumerate" = none) (ha : SA X W C [a] ms) (hs : starEach [a] X.env = [(false, eval a X.env)] := by rfl) : SI X W C (.Tuple elts kk tpos) (.Call (.Name "enumerate" p) [a] [] pos) (iArgs enB ms) :=
  si_args (fun t pa => pi_enQ hg hm pa hs) (fun ds xs vs o H own R r mo hq hR => by
    unfold enB at hq
    split at hq
    · cases hq
      obtain ⟨w, rfl, rw'⟩ := r.sing
      obtain ⟨l, us, rfl, hl, rl, _⟩ := rw'
      exact ⟨false, l, us, rfl, by rw [← hK]; exact hl.sq, by rw [← hK]; exact hR _ (itOk_enQ (b := false) mo hl rl)⟩
    · split at hq
      · rename_i hf
        cases hq
        obtain ⟨w, rfl, rw'⟩ := r.sing
        have eo := rw'.fz_nil (d := .tup _) hf
        subst eo
        obtain ⟨l, us, rfl, hl, rl⟩ := rw'
        exact ⟨true, l, us, rfl, by rw [← hK]; exact hl, by rw [← hK]; exact hR _ (itOk_enQ (b := true) mo hl rl)⟩
      · cases hq
    · cases hq) ha
end
end Se

namespace Se
open PySem L2
/-! ### a local list, walked while it stays a list of its own -/
def forL (i : Nat) (f : D → Env → Option Env) (m : MS) : Nat → Nat → Env → SR
  | n, k, ρ => match (ρ[i]?).join with
    | some (.lst true ds) => match ds[k]? with
      | none => .nx ρ
      | some d => if fz d = true then (match n with
        | 0 => .bad
        | n + 1 => match f d ρ with
          | some ρ1 => match m ρ1 with
            | .nx ρ2 => forL i f m n (k + 1) ρ2
            | .ct ρ2 => forL i f m n (k + 1) ρ2
            | .bk ρ2 => .nx ρ2
            | r => r
          | none => .bad) else .bad
    | _ => .bad
def compL (i : Nat) (vs : List Nat) (f : D → Env → Option Env) (mt : M Bool) (me : M D) : Nat → Nat → List D → Env → Option (List D × Env)
  | n, k, acc, ρ => match ((wipeE ρ vs)[i]?).join with
    | some (.lst true ds) => match ds[k]? with
      | none => some (acc, ρ)
      | some d => if fz d = true then (match n with
        | 0 => none
        | n + 1 => match f d (wipeE ρ vs) with
          | some ρ1 => match mt ρ1 with
            | .ok b ρ2 => if b = true then (match me ρ2 with
                | .ok y ρ3 => if acc.length < sizeLine then compL i vs f mt me n (k + 1) (acc ++ [y]) ρ3 else none
                | _ => none) else compL i vs f mt me n (k + 1) acc ρ2
            | _ => none
          | none => none) else none
    | _ => none
/-- how long a list of one's own is; nothing for what is walked frozen -/
def ownLen (x : Option (Option D)) : Option Nat := match x with
  | some (some (.lst true ds)) => some ds.length
  | _ => none
def lcL (vs : List Nat) (r : Option (List D × Env)) : RE D := match r with
  | some (acc, ρ2) => .ok (.lst true acc) (wipeE ρ2 vs)
  | none => .bad
def eLcL (i : Nat) (vs : List Nat) (f : D → Env → Option Env) (mt : M Bool) (me : M D) : M D := fun ρ => match ownLen ρ[i]? with
  | some n => lcL vs (compL i vs f mt me n 0 [] ρ)
  | none => eLc vs (iSq (eVar i)) f mt me ρ
def sForL (i : Nat) (f : D → Env → Option Env) (m : MS) : MS := fun ρ => match ownLen ρ[i]? with
  | some n => forL i f m n 0 ρ
  | none => sFor (iSq (eVar i)) f m ρ
section
variable {X : Cx} {W : WX} {C : RC} {B : List Nat}
theorem pi_or {tg e : Expr} {w1 w2 : TI} (h1 : PI X tg e w1) (h2 : PI X tg e w2) : PI X tg e (fun σ H R => w1 σ H R ∨ w2 σ H R) :=
  ⟨fun pins s σ H R I h => h.elim (h1.run pins s σ H R I) (h2.run pins s σ H R I)⟩
theorem itl_at {ρ : Env} {σ : St} {own : List Addr} {H : Hp} {i : Nat} {ds : List D} {a : Addr} (er : ER C H ρ σ own) (e : (ρ[i]?).join = some (.lst true ds)) (es : σ[i]? = some (some (.ref a))) (k : Nat) :
    (ds.length ≤ k → (Itl C.K a).stop k H) ∧ ∀ d, ds[k]? = some d → fz d = true → (Itl C.K a).go k H ∧ ∀ x H2, (Itl C.K a).yld k H x H2 → Ext H H2 ∧ Rep C H2 d x [] := by
  obtain ⟨v, o, own1, ev, r, _⟩ := er.take (join_some e)
  rw [es] at ev
  cases ev
  obtain ⟨a', vs, o', e1, hs, rl, _⟩ := r
  cases e1
  refine ⟨fun hk => ⟨vs, SqL.of hs, by rw [rl.len]; exact hk⟩, fun d hd hz => ?_⟩
  obtain ⟨w, ow, hw, rw', _⟩ := rl.at hd
  refine ⟨⟨vs, w, SqL.of hs, hw⟩, fun x H2 y => ?_⟩
  obtain ⟨rfl, y⟩ := y
  have := y vs (SqL.of hs)
  rw [hw] at this; cases this
  have eo := Rep.fz_nil hz rw'
  subst eo
  exact ⟨Ext.refl, rw'⟩
theorem itl_ref {ρ : Env} {σ : St} {own : List Addr} {H : Hp} {i : Nat} {ds : List D} (er : ER C H ρ σ own) (e : (ρ[i]?).join = some (.lst true ds)) : ∃ a vs, σ[i]? = some (some (.ref a)) ∧ SqL C.K H a vs := by
  obtain ⟨v, o, own1, ev, r, _⟩ := er.take (join_some e)
  obtain ⟨a', vs, o', e1, hs, rl, _⟩ := r
  subst e1
  exact ⟨a', vs, ev, SqL.of hs⟩
theorem ownLen_some {ρ : Env} {i n : Nat} (h : ownLen ρ[i]? = some n) : ∃ ds, (ρ[i]?).join = some (.lst true ds) ∧ ds.length = n := by
  unfold ownLen at h
  split at h
  · rename_i ds e
    cases h
    exact ⟨ds, by rw [e]; rfl, rfl⟩
  · cases h
theorem wipeE_out {i : Nat} {ρ : Env} : ∀ {vs : List Nat}, i ∉ vs → (wipeE ρ vs)[i]? = ρ[i]?
  | [], _ => rfl
  | v :: vs, h => by
    have h1 : v ≠ i := fun e => h (by rw [e]; exact List.mem_cons_self)
    show ((wipeE ρ vs).set v none)[i]? = _
    rw [List.getElem?_set_ne h1]
    exact wipeE_out fun z => h (List.mem_cons_of_mem _ z)
theorem snd_lcL {vs : List Nat} {i0 : Nat} {K : PySem.W.Frag} (hK : C.K = K) {g : TG} {tt : TT} {te : TE} {f : D → Env → Option Env} {mt : M Bool} {me : M D}
    (sg : ∀ d v o ρ ρ' σ H own Q, Rep C H d v o → ER C H ρ σ own → (∀ a ∈ o, a ∉ own) → f d ρ = some ρ' →
      (∀ σ' own', ER C H ρ' σ' own' → (∀ a ∈ own', a ∈ o ∨ a ∈ own) → (∀ j ∈ B, σ'[j]? = σ[j]?) → σ'.length = σ.length → Q σ' H) → g v σ H Q)
    (stt : ∀ ρ σ H own Q, ER C H ρ σ own → PoT C W0 (mt ρ) σ H own Q → tt σ H Q) (ste : Snd W0 C te me) (n : Nat) (hB : ∀ j, j < n → j ∉ vs → j ∈ B) (hi0 : i0 ∉ vs) :
    ∀ ρ σ H own Q nn, σ.length = n → ER C H ρ σ own → ownLen ρ[i0]? = some nn → PoE C W (lcL vs (compL i0 vs f mt me nn 0 [] ρ)) σ H own Q → tLc (iSeq K (tVar i0)) g tt te vs σ H Q := by
  intro ρ σ H own Q nn hn er hol hw
  subst hK
  obtain ⟨ds0, eds0, _⟩ := ownLen_some hol
  obtain ⟨ra, rvs, es, rs⟩ := itl_ref er eds0
  refine ⟨.ref ra, es, .inl ⟨ra, rvs, rfl, rs, ?_⟩⟩
  unfold lcL at hw
  · intro p hp
    split at hw
    · rename_i accF ρF hc
      have e1 := er
      obtain ⟨ownW, eW, mW⟩ := ER.wipe (vs := vs) e1
      have esw : (L2.wipe σ vs)[i0]? = some (some (.ref ra)) := by rw [wipe_out hi0]; exact es
      refine ⟨fun i m H2 => ∃ ρ2 own2 acc av oa, compL i0 vs f mt me m i acc ρ2 = some (accF, ρF) ∧ ER C H2 (wipeE ρ2 vs) (L2.wipe σ vs) own2 ∧ H2 p = some (.lst av) ∧ RepL C H2 acc av oa ∧ p ∉ oa ∧ p ∉ own2 ∧ (∀ a ∈ oa, a ∉ own2) ∧ Stp H H2 own (oa ++ own2),
        ⟨nn, ρ, ownW, [], [], [], hc, eW.ext (Ext.new hp), upd_same, ⟨rfl, rfl⟩, (by simp), fun z => ?_, (by simp), ⟨fun a ob q _ => Ext.new hp a ob q, fun a ha => .inl (mW a (by simpa using ha))⟩⟩, ?_⟩
      · obtain ⟨u, q, _⟩ := eW.mut p z
        rw [hp] at q; cases q
      · rintro i m H2 ⟨ρ2, own2, acc, av, oa, hc2, e2, hD, ra', np, np2, dj, st2⟩
        unfold compL at hc2
        split at hc2
        · rename_i ds eds
          have hJi := itl_at e2 eds esw i
          split at hc2
          · rename_i hnone
            left
            cases hc2
            refine ⟨hJi.1 (List.getElem?_eq_none_iff.mp hnone), hw (.ref p) H2 (p :: oa) own2 ⟨p, av, oa, rfl, hD, ra', np, rfl⟩ (ER.unwipe e2) (fun a ha => ?_) ?_⟩
            · rcases List.mem_cons.mp ha with rfl | q
              · exact np2
              · exact dj a q
            · refine ⟨st2.keep, fun a ha => ?_⟩
              rcases List.mem_append.mp ha with q | q
              · rcases List.mem_cons.mp q with rfl | q
                · exact .inr hp
                · exact st2.sub a (List.mem_append_left _ q)
              · exact st2.sub a (List.mem_append_right _ q)
          · rename_i d hd
            split at hc2
            · rename_i hz
              obtain ⟨go, hy⟩ := hJi.2 _ hd hz
              cases m with
              | zero => cases hc2
              | succ m =>
                dsimp only at hc2
                right
                split at hc2
                · rename_i ρ3 hf
                  refine ⟨go, fun H4 => ∃ ρ2 own2 acc av oa, compL i0 vs f mt me m (i + 1) acc ρ2 = some (accF, ρF) ∧ ER C H4 (wipeE ρ2 vs) (L2.wipe σ vs) own2 ∧ H4 p = some (.lst av) ∧ RepL C H4 acc av oa ∧ p ∉ oa ∧ p ∉ own2 ∧ (∀ a ∈ oa, a ∉ own2) ∧ Stp H H4 own (oa ++ own2),
                    fun H4 h4 => ⟨m, by omega, h4⟩, fun x H3 yy => ?_⟩
                  obtain ⟨k3, r3⟩ := hy x H3 yy
                  refine sg _ x [] (wipeE ρ2 vs) ρ3 (L2.wipe σ vs) H3 own2 _ r3 (e2.ext k3) (by simp) hf fun σ3 own3 e3 m3 b3 l3 => ⟨wipe_eq l3 b3 (by rw [hn]; exact hB), ?_⟩
                  have sub3 : ∀ a ∈ own3, a ∈ own2 := fun a ha => (m3 a ha).resolve_left (by simp)
                  have ew : L2.wipe σ3 vs = L2.wipe σ vs := wipe_eq l3 b3 (by rw [hn]; exact hB)
                  refine stt ρ3 σ3 H3 own3 _ e3 ?_
                  cases hmt : mt ρ3 with
                  | bad => rw [hmt] at hc2; cases hc2
                  | ex e ρ4 => rw [hmt] at hc2; cases hc2
                  | ok b ρ4 =>
                    rw [hmt] at hc2
                    dsimp only at hc2
                    intro H4 own4 e4 st4
                    have keepA : ∀ {H5 : Hp} {own5 : List Addr}, Stp H3 H5 own3 own5 → H5 p = some (.lst av) ∧ RepL C H5 acc av oa ∧ p ∉ own5 ∧ (∀ a ∈ oa, a ∉ own5) := fun {H5 own5} st5 => by
                      have hD3 := k3 _ _ hD
                      have ra3 := ra'.ext k3
                      have d3 : ∀ a ∈ oa, a ∉ own3 := fun a ha z => dj a ha (sub3 a z)
                      refine ⟨st5.keep p _ hD3 fun z => np2 (sub3 p z), ra3.keep st5.keep e3.mut d3, fun z => ?_, st5.apart ra3.mut d3⟩
                      rcases st5.sub p z with q | q
                      · exact np2 (sub3 p q)
                      · rw [hD3] at q; cases q
                    have st13 : Stp H H3 own (oa ++ own3) := ⟨fun a ob q na => k3 a ob (st2.keep a ob q na), fun a ha => by
                      rcases List.mem_append.mp ha with q | q
                      · exact st2.sub a (List.mem_append_left _ q)
                      · exact st2.sub a (List.mem_append_right _ (sub3 a q))⟩
                    cases b with
                    | false =>
                      rw [if_neg Bool.false_ne_true] at hc2 ⊢
                      obtain ⟨q1, q2, q3, q4⟩ := keepA st4
                      obtain ⟨own5, e5, m5⟩ := ER.wipe (vs := vs) e4
                      rw [ew] at e5
                      exact ⟨ρ4, own5, acc, av, oa, hc2, e5, q1, q2, np, fun z => q3 (m5 p z), fun a ha z => q4 a ha (m5 a z), (st13.held st4).less fun a ha => (List.mem_append.mp ha).elim (List.mem_append_left _) fun z => List.mem_append_right _ (m5 a z)⟩
                    | true =>
                      rw [if_pos rfl] at hc2 ⊢
                      refine ste ρ4 σ3 H4 own4 _ e4 ?_
                      cases hme : me ρ4 with
                      | bad => rw [hme] at hc2; cases hc2
                      | ex e ρ5 => rw [hme] at hc2; cases hc2
                      | ok y ρ5 =>
                        rw [hme] at hc2
                        dsimp only at hc2
                        split at hc2
                        · rename_i hz
                          intro w H5 oy own5 ry e5 dy st5
                          have st35 : Stp H3 H5 own3 (oy ++ own5) := st4.trans st5
                          obtain ⟨q1, q2, q3, q4⟩ := keepA st35
                          have npy : p ∉ oy := fun z => q3 (List.mem_append_left _ z)
                          have np5 : p ∉ own5 := fun z => q3 (List.mem_append_right _ z)
                          have kk : Keeps H5 (upd H5 p (.lst (av ++ [w]))) [p] := fun b ob q nb => by
                            rw [upd_ne (fun z => nb (by simp [z]))]; exact q
                          have mm : Muts H5 [p] := fun b hb => by
                            cases List.mem_singleton.mp hb
                            exact ⟨_, q1, trivial⟩
                          have ny : ∀ {o : List Addr}, p ∉ o → ∀ a ∈ o, a ∉ [p] := fun h a ha z => h (by cases List.mem_singleton.mp z; exact ha)
                          obtain ⟨own6, e6, m6⟩ := ER.wipe (vs := vs) (e5.keep kk mm (ny np5))
                          rw [ew] at e6
                          refine ⟨av, q1, by rw [ra'.len]; exact hz, ρ5, own6, acc ++ [y], av ++ [w], oa ++ oy, hc2, e6, upd_same, (q2.keep kk mm (ny np)).append ⟨w, [], oy, [], rfl, ry.keep kk mm (ny npy), (show ([] : List V) = [] ∧ ([] : List Addr) = [] from ⟨rfl, rfl⟩), (by simp), (by simp)⟩ (fun a ha z => q4 a ha (List.mem_append_left _ z)), fun z => (List.mem_append.mp z).elim np npy, fun z => np5 (m6 p z), fun a ha z => ?_, ?_⟩
                          · rcases List.mem_append.mp ha with q | q
                            · exact q4 a q (List.mem_append_right _ (m6 a z))
                            · exact dy a q (m6 a z)
                          · have st15 : Stp H H5 own (oa ++ (oy ++ own5)) := st13.held st35
                            refine ⟨fun a ob q na => ?_, fun a ha => ?_⟩
                            · have q5 := st15.keep a ob q na
                              by_cases hap : a = p
                              · subst hap; rw [hp] at q; cases q
                              · rw [upd_ne hap]; exact q5
                            · rcases List.mem_append.mp ha with q | q
                              · rcases List.mem_append.mp q with q | q
                                · exact st15.sub a (List.mem_append_left _ q)
                                · exact st15.sub a (List.mem_append_right _ (List.mem_append_left _ q))
                              · exact st15.sub a (List.mem_append_right _ (List.mem_append_right _ (m6 a q)))
                        · cases hc2
                · cases hc2
            · cases hc2
        · cases hc2
    · exact hw.elim
variable {scope : Scope} {elt tg : Expr} {f : D → Env → Option Env} {mt : M Bool} {me : M D} {pos p : Pos} {own : List (Str × Nat)} {x : Str} {i : Nat} {z : Option (Addr × Addr × Addr)}
theorem se_lcL {ifs : List Expr} (hc : X.calm = true) (hN : X.N.Nodup) (hn : PE X (.Name x p) (tVar i)) (hK : C.K = X.K) (hv : SE X W C (.Name x p) (eVar i)) (ok : BlkOk X.N X.env.scope scope own) (hp : ∃ g tt te, LcP X C B scope tg elt ifs f mt me g tt te) (hB : ∀ j, j < X.N.length → j ∉ own.map (·.2) → j ∈ B) (hi : i ∉ own.map (·.2))
    (hs : ∀ y, foldedSetIterable (.Name x p) X.env y = pure y := by intro _; rfl) : SE X W C (.ListComp elt [⟨tg, .Name x p, ifs, 0⟩] scope pos) (eLcL i (own.map (·.2)) f mt me) := by
  obtain ⟨wi, pi, si⟩ := (si_seq (tg := tg) hK hv).ex
  obtain ⟨g, tt, te, q⟩ := hp
  refine ⟨_, pe_len (pe_lc hc hN (pi_or pi (pi_seq hn)) ok (fun s H c cl fp => q.hg ⟨s, H, c, cl, fp⟩) (fun s H c cl fp => q.ht ⟨s, H, c, cl, fp⟩) (fun s H c cl fp => q.he ⟨s, H, c, cl, fp⟩) hs), fun ρ σ H own' Q er hw hl => ?_⟩
  unfold eLcL at hw
  split at hw
  · rename_i n hol
    exact .inr (snd_lcL (W := W) hK q.sg q.stt q.ste X.N.length hB hi ρ σ H own' Q n hl er hol hw)
  · exact .inl (snd_lc si q.sg q.stt q.ste X.N.length hB ρ σ H own' Q hl er hw)
theorem ss_lcL {ifs : List Expr} {j : Nat} {y : Str} {py spos : Pos} {Bf : List Nat} (hc : X.calm = true) (hN : X.N.Nodup) (hy : X.N[j]? = some y) (hyl : X.env.scope.names.lookup y = some .local)
    (hsw : swapsWith (.ListComp elt [⟨tg, .Name x p, ifs, 0⟩] scope pos) (some (.Name y py)) spos.line X.env = pure true) (hn : PE X (.Name x p) (tVar i)) (hK : C.K = X.K) (hv : SE X W C (.Name x p) (eVar i)) (ok : BlkOk X.N X.env.scope scope own) (hp : ∃ g tt te, LcP X C B scope tg elt ifs f mt me g tt te) (hB : ∀ j, j < X.N.length → j ∉ own.map (·.2) → j ∈ B) (hi : i ∉ own.map (·.2)) (hiB : j ∉ Bf)
    (hs : ∀ y, foldedSetIterable (.Name x p) X.env y = pure y := by intro _; rfl) : SS X W C Bf (.Assign [.Name y py] (.ListComp elt [⟨tg, .Name x p, ifs, 0⟩] scope pos) spos) (sAsg j (eLcL i (own.map (·.2)) f mt me)) := by
  obtain ⟨wi, pi, si⟩ := (si_seq (tg := tg) hK hv).ex
  obtain ⟨g, tt, te, q⟩ := hp
  refine ⟨_, ps_len (ps_setLc hc hN hy hyl hsw (pi_or pi (pi_seq hn)) ok (fun s H c cl fp => q.hg ⟨s, H, c, cl, fp⟩) (fun s H c cl fp => q.ht ⟨s, H, c, cl, fp⟩) (fun s H c cl fp => q.he ⟨s, H, c, cl, fp⟩) hs), fun ρ σ H own' Dn er hw hl => ?_⟩
  have sw : ∀ Q, PoE C W (eLcL i (own.map (·.2)) f mt me ρ) σ H own' Q → tLc (fun σ H R => wi σ H R ∨ iSeq X.K (tVar i) σ H R) g tt te (own.map (·.2)) σ H Q := fun Q hw => by
    unfold eLcL at hw
    split at hw
    · rename_i n hol
      exact .inr (snd_lcL (W := W) hK q.sg q.stt q.ste X.N.length hB hi ρ σ H own' Q n hl er hol hw)
    · exact .inl (snd_lc si q.sg q.stt q.ste X.N.length hB ρ σ H own' Q hl er hw)
  refine sw _ (poS_e (k := fun d ρ1 => if j < ρ1.length then .nx (ρ1.set j (some d)) else .bad) hw fun d ρ1 v H1 o own1 r e1 jj st hw1 => ?_)
  split at hw1
  · rename_i hl
    obtain ⟨own2, e2, m2⟩ := e1.set hl r jj
    refine hw1 _ H1 own2 e2 (st.less fun a ha => List.mem_append.mpr (m2 a ha)) fun k hk => ?_
    rw [List.getElem?_set_ne (fun z => hiB (by rw [z]; exact hk))]
  · exact hw1.elim
theorem ss_forL {i0 : Nat} {body : List Stmt} {m : MS} (hp : PassesOwn (model X.prog X.w) X.A X.env X.xe) (hc : X.calm = true) (hn : PE X (.Name x p) (tVar i0)) (hK : C.K = X.K) (hv : SE X W C (.Name x p) (eVar i0)) (hg : SG X C (i0 :: B) tg f) (hb : SSs X W C (i0 :: B) body m)
    (hs : ∀ y, foldedSetIterable (.Name x p) X.env y = pure y := by intro _; rfl) : SS X W C B (.For tg (.Name x p) body [] pos) (sForL i0 f m) := by
  obtain ⟨wi, pi, si⟩ := (si_seq (tg := tg) hK hv).ex
  obtain ⟨g, pg, sg⟩ := hg.ex
  obtain ⟨tb, pb, sb⟩ := hb.ex

  refine ⟨_, ps_for hp hc (pi_or pi (pi_seq hn)) pg pb hs, fun ρ σ H own Dn er hw => ?_⟩
  unfold sForL at hw
  split at hw
  · rename_i nn hol
    right
    obtain ⟨ds0, eds0, _⟩ := ownLen_some hol
    obtain ⟨ra, rvs, es, rs⟩ := itl_ref er eds0
    rw [hK] at rs
    refine ⟨.ref ra, es, .inl ⟨ra, rvs, rfl, rs, ?_⟩⟩
    refine ⟨fun k n σ2 H2 => ∃ ρ2 own2, ER C H2 ρ2 σ2 own2 ∧ Stp H H2 own own2 ∧ (∀ j ∈ i0 :: B, σ2[j]? = σ[j]?) ∧ PoS C W B (forL i0 f m n k ρ2) σ H own Dn, ⟨nn, ρ, own, er, Stp.refl fun _ z => z, fun _ _ => rfl, hw⟩, ?_⟩
    rintro k n σ2 H2 ⟨ρ2, own2, e2, s2, b2, hw2⟩
    have b2' : ∀ j ∈ B, σ2[j]? = σ[j]? := fun j hj => b2 j (List.mem_cons_of_mem _ hj)
    unfold forL at hw2
    split at hw2
    · rename_i ds eds
      have hJi := itl_at e2 eds (by rw [b2 i0 List.mem_cons_self]; exact es) k
      rw [hK] at hJi
      split at hw2
      · rename_i hnone
        left
        exact ⟨hJi.1 (List.getElem?_eq_none_iff.mp hnone), hw2 σ2 H2 own2 e2 s2 b2'⟩
      · rename_i d hd
        split at hw2
        · rename_i hz
          obtain ⟨go, hy⟩ := hJi.2 _ hd hz
          cases n with
          | zero => exact (show False from hw2).elim
          | succ n =>
            dsimp only at hw2
            right
            split at hw2
            · rename_i ρ3 hf
              refine ⟨go, fun σ4 H4 => ∃ ρ4 own4, ER C H4 ρ4 σ4 own4 ∧ Stp H H4 own own4 ∧ (∀ j ∈ i0 :: B, σ4[j]? = σ[j]?) ∧ PoS C W B (forL i0 f m n (k + 1) ρ4) σ H own Dn, fun σ4 H4 h4 => ⟨n, by omega, h4⟩, fun x H3 yy => ?_⟩
              obtain ⟨k3, r3⟩ := hy x H3 yy
              refine sg _ x [] ρ2 ρ3 σ2 H3 own2 _ r3 (e2.ext k3) (by simp) hf fun σ3 own3 e3 m3 b3 _ => ?_
              have s13 : Stp H H3 own own3 := ⟨fun a ob q na => k3 a ob (s2.keep a ob q na), fun a ha => by
                rcases m3 a ha with q | q
                · cases q
                · exact s2.sub a q⟩
              have b03 : ∀ j ∈ i0 :: B, σ3[j]? = σ[j]? := fun j hj => (b3 j hj).trans (b2 j hj)
              have b03' : ∀ j ∈ B, σ3[j]? = σ[j]? := fun j hj => b03 j (List.mem_cons_of_mem _ hj)
              refine sb ρ3 σ3 H3 own3 _ e3 ?_
              cases hm : m ρ3 with
              | nx ρ4 => rw [hm] at hw2; exact fun σ4 H4 own4 e4 s4 b4 => ⟨ρ4, own4, e4, s13.trans s4, fun j hj => (b4 j hj).trans (b03 j hj), hw2⟩
              | ct ρ4 => rw [hm] at hw2; exact fun σ4 H4 own4 e4 s4 b4 => ⟨ρ4, own4, e4, s13.trans s4, fun j hj => (b4 j hj).trans (b03 j hj), hw2⟩
              | bk ρ4 => rw [hm] at hw2; exact fun σ4 H4 own4 e4 s4 b4 => hw2 σ4 H4 own4 e4 (s13.trans s4) fun j hj => (b4 j (List.mem_cons_of_mem _ hj)).trans (b03' j hj)
              | rt d ρ4 => rw [hm] at hw2; exact fun v σ4 H4 o own4 r e4 dj s4 b4 => hw2 v σ4 H4 o own4 r e4 dj (s13.trans s4) fun j hj => (b4 j (List.mem_cons_of_mem _ hj)).trans (b03' j hj)
              | ex e ρ4 => rw [hm] at hw2; exact fun cls d σ4 H4 own4 x e4 s4 b4 => hw2 cls d σ4 H4 own4 x e4 (s13.trans s4) fun j hj => (b4 j (List.mem_cons_of_mem _ hj)).trans (b03' j hj)
              | bad => rw [hm] at hw2; exact hw2
            · exact (show False from hw2).elim
        · exact (show False from hw2).elim
    · exact (show False from hw2).elim
  · left
    refine si ρ σ H own _ er ?_
    unfold sFor at hw
    cases hmi : iSq (eVar i0) ρ with
    | bad => rw [hmi] at hw; exact hw
    | ex e ρ1 => rw [hmi] at hw; exact fun cls d H' own' x e2 s2 => hw cls d σ H' own' x e2 s2 fun _ _ => rfl
    | ok ds ρ1 =>
      rw [hmi] at hw
      intro J H1 own1 e1 s1 hJ
      refine ⟨fun i k σ2 H2 => k + i = ds.length ∧ ∃ ρ2 own2, ER C H2 ρ2 σ2 own2 ∧ Stp H1 H2 own1 own2 ∧ (∀ j ∈ B, σ2[j]? = σ[j]?) ∧ PoS C W B (forF f m (ds.drop i) ρ2) σ H own Dn, ⟨ds.length, by simp, ρ1, own1, e1, Stp.refl fun _ z => z, fun _ _ => rfl, hw⟩, ?_⟩
      rintro i k σ2 H2 ⟨hk, ρ2, own2, e2, s2, b2, hw2⟩
      have hJi := hJ H2 own2 s2 i
      have s02 := s1.trans s2
      by_cases hi : i < ds.length
      · right
        have hd : ds[i]? = some ds[i] := List.getElem?_eq_getElem hi
        obtain ⟨go, hy⟩ := hJi.2 _ hd
        rw [List.drop_eq_getElem_cons hi] at hw2
        unfold forF at hw2
        split at hw2
        · rename_i ρ3 hf
          refine ⟨go, fun σ4 H4 => ∃ ρ4 own4, ER C H4 ρ4 σ4 own4 ∧ Stp H1 H4 own1 own4 ∧ (∀ j ∈ B, σ4[j]? = σ[j]?) ∧ PoS C W B (forF f m (ds.drop (i + 1)) ρ4) σ H own Dn, fun σ4 H4 h4 => ⟨k - 1, by omega, by omega, h4⟩, fun x H3 yy => ?_⟩
          obtain ⟨k3, r3⟩ := hy x H3 yy
          refine sg _ x [] ρ2 ρ3 σ2 H3 own2 _ r3 (e2.ext k3) (by simp) hf fun σ3 own3 e3 m3 b3 _ => ?_
          have s13 : Stp H1 H3 own1 own3 := ⟨fun a ob q na => k3 a ob (s2.keep a ob q na), fun a ha => by
            rcases m3 a ha with q | q
            · cases q
            · exact s2.sub a q⟩
          have s03 := s1.trans s13
          have b03 : ∀ j ∈ B, σ3[j]? = σ[j]? := fun j hj => (b3 j (List.mem_cons_of_mem _ hj)).trans (b2 j hj)
          refine sb ρ3 σ3 H3 own3 _ e3 ?_
          have wk : ∀ {σ4 : St}, (∀ j ∈ i0 :: B, σ4[j]? = σ3[j]?) → ∀ j ∈ B, σ4[j]? = σ[j]? := fun b4 j hj => (b4 j (List.mem_cons_of_mem _ hj)).trans (b03 j hj)
          cases hm : m ρ3 with
          | nx ρ4 => rw [hm] at hw2; exact fun σ4 H4 own4 e4 s4 b4 => ⟨ρ4, own4, e4, s13.trans s4, wk b4, hw2⟩
          | ct ρ4 => rw [hm] at hw2; exact fun σ4 H4 own4 e4 s4 b4 => ⟨ρ4, own4, e4, s13.trans s4, wk b4, hw2⟩
          | bk ρ4 => rw [hm] at hw2; exact fun σ4 H4 own4 e4 s4 b4 => hw2 σ4 H4 own4 e4 (s03.trans s4) (wk b4)
          | rt d ρ4 => rw [hm] at hw2; exact fun v σ4 H4 o own4 r e4 dj s4 b4 => hw2 v σ4 H4 o own4 r e4 dj (s03.trans s4) (wk b4)
          | ex e ρ4 => rw [hm] at hw2; exact fun cls d σ4 H4 own4 x e4 s4 b4 => hw2 cls d σ4 H4 own4 x e4 (s03.trans s4) (wk b4)
          | bad => rw [hm] at hw2; exact hw2
        · exact hw2.elim
      · left
        rw [List.drop_eq_nil_of_le (by omega)] at hw2
        exact ⟨hJi.1 (by omega), hw2 σ2 H2 own2 e2 s02 b2⟩
end
section
variable {f : D → Env → Option Env} {m : MS} {mt : M Bool} {me : M D} {vs : List Nat} {i : Nat} {ρ : Env}
/-- walked as it stood -/
theorem forL_eq {ds : List D} (P : Env → Prop) (hP : ∀ ρ, P ρ → (ρ[i]?).join = some (.lst true ds)) (hz : ∀ d ∈ ds, fz d = true) (st : ∀ d ρ ρ1 ρ2, d ∈ ds → P ρ → f d ρ = some ρ1 → (m ρ1 = .nx ρ2 ∨ m ρ1 = .ct ρ2) → P ρ2) :
    ∀ (n k : Nat) (ρ : Env), n + k = ds.length → P ρ → forL i f m n k ρ = forF f m (ds.drop k) ρ
  | n, k, ρ, hn, hρ => by
    unfold forL
    rw [hP ρ hρ]
    dsimp only
    by_cases hk : k < ds.length
    · rw [List.getElem?_eq_getElem hk, List.drop_eq_getElem_cons hk]
      dsimp only
      have hm := List.getElem_mem hk
      rw [if_pos (hz _ hm)]
      cases n with
      | zero => omega
      | succ n =>
        dsimp only
        unfold forF
        cases hf : f ds[k] ρ with
        | none => rfl
        | some ρ1 =>
          dsimp only
          cases h : m ρ1 with
          | nx ρ2 => exact forL_eq P hP hz st n (k + 1) ρ2 (by omega) (st _ _ _ _ hm hρ hf (.inl h))
          | ct ρ2 => exact forL_eq P hP hz st n (k + 1) ρ2 (by omega) (st _ _ _ _ hm hρ hf (.inr h))
          | _ => rfl
    · rw [List.getElem?_eq_none (by omega), List.drop_eq_nil_of_le (by omega)]
      rfl
  termination_by n => n
theorem sForL_eq {ds : List D} {ρ : Env} (P : Env → Prop) (h0 : P ρ) (hP : ∀ ρ, P ρ → (ρ[i]?).join = some (.lst true ds)) (hz : ∀ d ∈ ds, fz d = true) (st : ∀ d ρ ρ1 ρ2, d ∈ ds → P ρ → f d ρ = some ρ1 → (m ρ1 = .nx ρ2 ∨ m ρ1 = .ct ρ2) → P ρ2) :
    sForL i f m ρ = forF f m ds ρ := by
  unfold sForL
  have e := hP ρ h0
  have e' : ρ[i]? = some (some (.lst true ds)) := join_some e
  rw [e']
  show forL i f m ds.length 0 ρ = _
  rw [forL_eq P hP hz st ds.length 0 ρ rfl h0, List.drop_zero]
theorem compL_eq {ds : List D} (P : Env → Prop) (hP : ∀ ρ, P ρ → ((wipeE ρ vs)[i]?).join = some (.lst true ds)) (hz : ∀ d ∈ ds, fz d = true)
    (st : ∀ d ρ ρ1 b ρ2, d ∈ ds → P ρ → f d (wipeE ρ vs) = some ρ1 → mt ρ1 = .ok b ρ2 → P ρ2 ∧ ∀ y ρ3, me ρ2 = .ok y ρ3 → P ρ3) :
    ∀ (n k : Nat) (acc : List D) (ρ : Env), n + k = ds.length → P ρ → compL i vs f mt me n k acc ρ = compF vs f mt me (ds.drop k) acc ρ
  | n, k, acc, ρ, hn, hρ => by
    unfold compL
    rw [hP ρ hρ]
    dsimp only
    by_cases hk : k < ds.length
    · rw [List.getElem?_eq_getElem hk, List.drop_eq_getElem_cons hk]
      dsimp only
      have hm := List.getElem_mem hk
      rw [if_pos (hz _ hm)]
      cases n with
      | zero => omega
      | succ n =>
        dsimp only
        unfold compF
        cases hf : f ds[k] (wipeE ρ vs) with
        | none => rfl
        | some ρ1 =>
          dsimp only
          cases h : mt ρ1 with
          | bad => rfl
          | ex e ρ2 => rfl
          | ok b ρ2 =>
            dsimp only
            obtain ⟨p2, p3⟩ := st _ _ _ _ _ hm hρ hf h
            cases b with
            | false => exact compL_eq P hP hz st n (k + 1) acc ρ2 (by omega) p2
            | true =>
              rw [if_pos rfl, if_pos rfl]
              cases h3 : me ρ2 with
              | bad => rfl
              | ex e ρ2 => rfl
              | ok y ρ3 =>
                dsimp only
                split
                · exact compL_eq P hP hz st n (k + 1) _ ρ3 (by omega) (p3 _ _ h3)
                · rfl
    · rw [List.getElem?_eq_none (by omega), List.drop_eq_nil_of_le (by omega)]
      rfl
  termination_by n => n
theorem eLcL_eq {ds : List D} {ρ : Env} (P : Env → Prop) (h0 : P ρ) (h1 : (ρ[i]?).join = some (.lst true ds)) (hP : ∀ ρ, P ρ → ((wipeE ρ vs)[i]?).join = some (.lst true ds)) (hz : ∀ d ∈ ds, fz d = true)
    (st : ∀ d ρ ρ1 b ρ2, d ∈ ds → P ρ → f d (wipeE ρ vs) = some ρ1 → mt ρ1 = .ok b ρ2 → P ρ2 ∧ ∀ y ρ3, me ρ2 = .ok y ρ3 → P ρ3) :
    eLcL i vs f mt me ρ = lcE vs (compF vs f mt me ds [] ρ) := by
  unfold eLcL
  have e' : ρ[i]? = some (some (.lst true ds)) := join_some h1
  rw [e']
  show lcL vs (compL i vs f mt me ds.length 0 [] ρ) = _
  rw [compL_eq P hP hz st ds.length 0 [] ρ rfl h0, List.drop_zero]
  unfold lcL lcE
  rcases compF vs f mt me ds [] ρ with _ | ⟨a, b⟩ <;> rfl
end
end Se

/-! facts for plain laws -/
namespace Se
open PySem L2
theorem ixn0 {l : List D} : ixD l 0 = l[0]? := (rfl)
theorem ixn1 {l : List D} : ixD l 1 = l[1]? := (rfl)
theorem ixn2 {l : List D} : ixD l 2 = l[2]? := (rfl)
theorem ixn3 {l : List D} : ixD l 3 = l[3]? := (rfl)
theorem ixn4 {l : List D} : ixD l 4 = l[4]? := (rfl)
theorem ixn5 {l : List D} : ixD l 5 = l[5]? := (rfl)
theorem pw18 : gPow (.int 10) (.int 18) = some (.int 1000000000000000000) := by simp [gPow, L2.CPow]
theorem pw30 : gPow (.int 10) (.int 30) = some (.int 1000000000000000000000000000000) := by simp [gPow, L2.CPow]
theorem frzL_ints (l : List Int) : frzL (l.map D.int) = l.map D.int := by induction l <;> simp_all
theorem compF_fm {vs : List Nat} {f : D → Se.Env → Option Se.Env} {mt : M Bool} {me : M D} (P : Se.Env → Prop) (p : D → Bool) (g : D → D) : ∀ (ds acc : List D) (ρ : Se.Env), P ρ → acc.length + ds.length ≤ sizeLine →
    (∀ d ∈ ds, ∀ ρ, P ρ → ∃ ρ1, f d (wipeE ρ vs) = some ρ1 ∧ mt ρ1 = .ok (p d) ρ1 ∧ (p d = true → ∃ ρ2, me ρ1 = .ok (g d) ρ2 ∧ P ρ2) ∧ (p d = false → P ρ1)) → ∃ ρ', compF vs f mt me ds acc ρ = some (acc ++ (ds.filter p).map g, ρ') ∧ P ρ'
  | [], acc, ρ, h, _, _ => ⟨ρ, by simp [compF], h⟩
  | d :: ds, acc, ρ, h, hz, st => by
    obtain ⟨ρ1, h1, h2, h3, h4⟩ := st d List.mem_cons_self ρ h
    rw [List.length_cons] at hz
    unfold compF
    rw [h1]
    dsimp only
    rw [h2]
    dsimp only
    cases hp : p d with
    | true =>
      obtain ⟨ρ2, h5, h6⟩ := h3 hp
      obtain ⟨ρ', h7, h8⟩ := compF_fm P p g ds (acc ++ [g d]) ρ2 h6 (by rw [List.length_append, List.length_singleton]; omega) fun d' hd => st d' (List.mem_cons_of_mem _ hd)
      refine ⟨ρ', ?_, h8⟩
      rw [if_pos rfl, h5]
      dsimp only
      rw [if_pos (by omega), h7, List.filter_cons_of_pos hp]
      simp
    | false =>
      obtain ⟨ρ', h7, h8⟩ := compF_fm P p g ds acc ρ1 (h4 hp) (by omega) fun d' hd => st d' (List.mem_cons_of_mem _ hd)
      refine ⟨ρ', ?_, h8⟩
      rw [if_neg (by decide), h7, List.filter_cons_of_neg (by rw [hp]; decide)]
theorem compF_map {vs : List Nat} {f : D → Se.Env → Option Se.Env} {me : M D} (P : Se.Env → Prop) (g : D → D) (ds acc : List D) (ρ : Se.Env) (h : P ρ) (hz : acc.length + ds.length ≤ sizeLine)
    (st : ∀ d ∈ ds, ∀ ρ, P ρ → ∃ ρ1 ρ2, f d (wipeE ρ vs) = some ρ1 ∧ me ρ1 = .ok (g d) ρ2 ∧ P ρ2) : ∃ ρ', compF vs f tTrue me ds acc ρ = some (acc ++ ds.map g, ρ') ∧ P ρ' := by
  obtain ⟨ρ', h1, h2⟩ := compF_fm (vs := vs) (f := f) (mt := tTrue) (me := me) P (fun _ => true) g ds acc ρ h hz fun d hd ρ hρ => by
    obtain ⟨ρ1, ρ2, a, b, c⟩ := st d hd ρ hρ
    exact ⟨ρ1, a, rfl, fun _ => ⟨ρ2, b, c⟩, fun z => by cases z⟩
  exact ⟨ρ', by rw [h1, List.filter_eq_self.mpr (fun _ _ => rfl)], h2⟩
end Se

/-! rules by which simp reckons formats -/
namespace Se
open PySem L2
def jcK (m : List Nat → M D) (acc : List Nat) (r : RE D) : RE D := r.bind fun d ρ1 => match d with
  | .str y => if acc.length + y.length ≤ sizeLine then m (acc ++ y) ρ1 else .bad
  | _ => .bad
def fmK (r : RE D) : RE D := r.bind fun d ρ1 => ofO (fmtD d) ρ1
section
variable {me : M D} {m : List Nat → M D} {acc y x : List Nat} {ρ : Se.Env} {d : D} {i : Int}
@[simp] theorem yb1 : jCons me m acc ρ = jcK m acc (me ρ) := (rfl)
@[simp] theorem yb2 : jcK m acc (.ok (.str y) ρ) = if acc.length + y.length ≤ sizeLine then m (acc ++ y) ρ else .bad := (rfl)
@[simp] theorem yb3 : jNil acc ρ = .ok (.str acc) ρ := (rfl)
@[simp] theorem yb4 : eFmt me ρ = fmK (me ρ) := (rfl)
@[simp] theorem yb5 : fmK (.ok d ρ) = ofO (fmtD d) ρ := (rfl)
@[simp] theorem yb6 : fmtD (.str x) = if x.length ≤ sizeLine then some (.str x) else none := (rfl)
end
end Se

namespace K09
open PySem L2 Se
abbrev top (i : Nat) : Stmt := PySem.Challenge.pw_anysizes_k09_forms_unknowns.main.body.getD i (.Pass ⟨0, 0, 0, 0⟩)
abbrev inC (i j : Nat) : Stmt := (clsB (top i)).getD j (.Pass ⟨0, 0, 0, 0⟩)
abbrev s__law_pot : Stmt := top 15
theorem sc__law_pot : FnScope ["script", "cell"] ["script"] (defScope s__law_pot) := ⟨rfl, rfl, rfl, by decide +kernel, rfl, by decide +kernel, by decide +kernel⟩
abbrev s__law_draw : Stmt := top 16
theorem sc__law_draw : FnScope ["pot", "choices", "cell", "digit"] ["pot", "choices"] (defScope s__law_draw) := ⟨rfl, rfl, rfl, by decide +kernel, rfl, by decide +kernel, by decide +kernel⟩
abbrev s__law_numbers : Stmt := top 18
theorem sc__law_numbers : FnScope ["pot", "size", "found", "k", "way"] ["pot", "size"] (defScope s__law_numbers) := ⟨rfl, rfl, rfl, by decide +kernel, rfl, by decide +kernel, by decide +kernel⟩
abbrev s__law_worths : Stmt := top 19
theorem sc__law_worths : FnScope ["pot", "size", "found", "k", "way"] ["pot", "size"] (defScope s__law_worths) := ⟨rfl, rfl, rfl, by decide +kernel, rfl, by decide +kernel, by decide +kernel⟩
abbrev s__law_form : Stmt := top 20
theorem sc__law_form : FnScope ["told", "k"] ["told"] (defScope s__law_form) := ⟨rfl, rfl, rfl, by decide +kernel, rfl, by decide +kernel, by decide +kernel⟩
abbrev s__law_same : Stmt := top 17
theorem sc__law_same : FnScope ["due", "told", "k"] ["due", "told"] (defScope s__law_same) := ⟨rfl, rfl, rfl, by decide +kernel, rfl, by decide +kernel, by decide +kernel⟩
abbrev s_form_worth : Stmt := top 12
theorem sc_form_worth : FnScope ["form", "sizes", "number", "many"] ["form", "sizes"] (defScope s_form_worth) := ⟨rfl, rfl, rfl, by decide +kernel, rfl, by decide +kernel, by decide +kernel⟩
abbrev s_form_less : Stmt := top 13
theorem sc_form_less : FnScope ["one", "other", "many", "found", "number", "often", "_"] ["one", "other", "many"] (defScope s_form_less) := ⟨rfl, rfl, rfl, by decide +kernel, rfl, by decide +kernel, by decide +kernel⟩
abbrev s_form_of : Stmt := top 11
theorem sc_form_of : FnScope ["counts", "number", "many"] ["counts"] (defScope s_form_of) := ⟨rfl, rfl, rfl, by decide +kernel, rfl, by decide +kernel, by decide +kernel⟩
abbrev s_form_sum : Stmt := top 10
theorem sc_form_sum : FnScope ["one", "other", "counts", "number", "many"] ["one", "other"] (defScope s_form_sum) := ⟨rfl, rfl, rfl, by decide +kernel, rfl, by decide +kernel, by decide +kernel⟩
abbrev s__law_forms_right : Stmt := top 21
theorem sc__law_forms_right : FnScope ["pot", "size", "first", "second", "worths", "both", "wide", "left", "right", "less", "told", "single", "due", "k"] ["pot"] (defScope s__law_forms_right) := ⟨rfl, rfl, rfl, by decide +kernel, rfl, by decide +kernel, by decide +kernel⟩
abbrev s__law_call : Stmt := top 24
theorem sc__law_call : FnScope ["pot", "known", "ends", "state", "p", "below", "args", "most", "rows", "columns", "k", "a"] ["pot", "known", "ends", "state"] (defScope s__law_call) := ⟨rfl, rfl, rfl, by decide +kernel, rfl, by decide +kernel, by decide +kernel⟩
abbrev s__law_plain : Stmt := top 23
theorem sc__law_plain : FnScope ["pot", "word", "ends", "state", "a", "b", "end"] ["pot", "word", "ends", "state"] (defScope s__law_plain) := ⟨rfl, rfl, rfl, by decide +kernel, rfl, by decide +kernel, by decide +kernel⟩
abbrev s__law_procedure : Stmt := top 25
theorem sc__law_procedure : FnScope ["pot", "known", "steps", "params", "ends", "state", "words", "statements", "k", "gives", "place", "word", "made", "g", "end"] ["pot", "known", "steps"] (defScope s__law_procedure) := ⟨rfl, rfl, rfl, by decide +kernel, rfl, by decide +kernel, by decide +kernel⟩
abbrev s__law_whole : Stmt := top 26
theorem sc__law_whole : FnScope ["pot", "procs", "known", "procedures", "k", "main", "names", "letters", "word"] ["pot"] (defScope s__law_whole) := ⟨rfl, rfl, rfl, by decide +kernel, rfl, by decide +kernel, by decide +kernel⟩
abbrev s__law_made : Stmt := top 22
theorem sc__law_made : FnScope ["word"] ["word"] (defScope s__law_made) := ⟨rfl, rfl, rfl, by decide +kernel, rfl, by decide +kernel, by decide +kernel⟩
abbrev s__law_walk : Stmt := top 27
theorem sc__law_walk : FnScope ["procedures", "at", "found", "k", "stack", "lap", "here", "place", "path", "statements", "step", "word"] ["procedures", "at"] (defScope s__law_walk) := ⟨rfl, rfl, rfl, by decide +kernel, rfl, by decide +kernel, by decide +kernel⟩
abbrev s_dotted : Stmt := top 2
theorem sc_dotted : FnScope ["path", "number"] ["path"] (defScope s_dotted) := ⟨rfl, rfl, rfl, by decide +kernel, rfl, by decide +kernel, by decide +kernel⟩
abbrev s_hidden_names : Stmt := top 7
theorem sc_hidden_names : FnScope ["program", "number", "path", "found", "at", "statement", "here"] ["program", "number", "path"] (defScope s_hidden_names) := ⟨rfl, rfl, rfl, by decide +kernel, rfl, by decide +kernel, by decide +kernel⟩
abbrev s_unknown_names : Stmt := top 8
theorem sc_unknown_names : FnScope ["program", "number", "found", "param"] ["program", "number"] (defScope s_unknown_names) := ⟨rfl, rfl, rfl, by decide +kernel, rfl, by decide +kernel, by decide +kernel⟩
abbrev s_hidden_by : Stmt := top 4
theorem sc_hidden_by : FnScope ["program", "statement"] ["program", "statement"] (defScope s_hidden_by) := ⟨rfl, rfl, rfl, by decide +kernel, rfl, by decide +kernel, by decide +kernel⟩
abbrev s_hidden_number : Stmt := top 5
theorem sc_hidden_number : FnScope ["program", "number", "statement"] ["program", "number"] (defScope s_hidden_number) := ⟨rfl, rfl, rfl, by decide +kernel, rfl, by decide +kernel, by decide +kernel⟩
abbrev s_unknown_number : Stmt := top 6
theorem sc_unknown_number : FnScope ["program", "number"] ["program", "number"] (defScope s_unknown_number) := ⟨rfl, rfl, rfl, by decide +kernel, rfl, by decide +kernel, by decide +kernel⟩
abbrev s__law_unknowns_right : Stmt := top 28
theorem sc__law_unknowns_right : FnScope ["pot", "whole", "asked", "start", "k", "at", "due"] ["pot"] (defScope s__law_unknowns_right) := ⟨rfl, rfl, rfl, by decide +kernel, rfl, by decide +kernel, by decide +kernel⟩
abbrev s_law : Stmt := top 29
theorem sc_law : FnScope ["script", "pot"] ["script"] (defScope s_law) := ⟨rfl, rfl, rfl, by decide +kernel, rfl, by decide +kernel, by decide +kernel⟩
/-- what is asked of the written part -/
structure Z (K : PySem.W.Frag) (mg : Str → Option Value) : Prop where
  n_bool : mg "bool" = none
  n_enumerate : mg "enumerate" = none
  n_int : mg "int" = none
  n_isinstance : mg "isinstance" = none
  n_len : mg "len" = none
  n_list : mg "list" = none
  n_max : mg "max" = none
  n_min : mg "min" = none
  n_range : mg "range" = none
  n_sorted : mg "sorted" = none
  n_str : mg "str" = none
  n_sum : mg "sum" = none
  n_tuple : mg "tuple" = none
  q_TWO_WORDS : ∃ v, mg "TWO_WORDS" = some v ∧ repB K (.tup [.str [99, 117, 116], .str [115, 112, 108, 105, 116]]) v = true
  d__law_pot : ∃ f fd, mg "_law_pot" = some (.ref f) ∧ FunD K "_law_pot" "_law_pot" (defArgs s__law_pot) (defBody s__law_pot) (defScope s__law_pot) [] [] f fd ∧ Binds K fd ["script"] []
  d__law_draw : ∃ f fd, mg "_law_draw" = some (.ref f) ∧ FunD K "_law_draw" "_law_draw" (defArgs s__law_draw) (defBody s__law_draw) (defScope s__law_draw) [] [] f fd ∧ Binds K fd ["pot", "choices"] []
  d__law_numbers : ∃ f fd, mg "_law_numbers" = some (.ref f) ∧ FunD K "_law_numbers" "_law_numbers" (defArgs s__law_numbers) (defBody s__law_numbers) (defScope s__law_numbers) [] [] f fd ∧ Binds K fd ["pot", "size"] []
  d__law_worths : ∃ f fd, mg "_law_worths" = some (.ref f) ∧ FunD K "_law_worths" "_law_worths" (defArgs s__law_worths) (defBody s__law_worths) (defScope s__law_worths) [] [] f fd ∧ Binds K fd ["pot", "size"] []
  d__law_form : ∃ f fd, mg "_law_form" = some (.ref f) ∧ FunD K "_law_form" "_law_form" (defArgs s__law_form) (defBody s__law_form) (defScope s__law_form) [] [] f fd ∧ Binds K fd ["told"] []
  d__law_same : ∃ f fd, mg "_law_same" = some (.ref f) ∧ FunD K "_law_same" "_law_same" (defArgs s__law_same) (defBody s__law_same) (defScope s__law_same) [] [] f fd ∧ Binds K fd ["due", "told"] []
  d_form_worth : ∃ f fd, mg "form_worth" = some (.ref f) ∧ FunD K "form_worth" "form_worth" (defArgs s_form_worth) (defBody s_form_worth) (defScope s_form_worth) [] [] f fd ∧ Binds K fd ["form", "sizes"] []
  d_form_less : ∃ f fd, mg "form_less" = some (.ref f) ∧ FunD K "form_less" "form_less" (defArgs s_form_less) (defBody s_form_less) (defScope s_form_less) [] [] f fd ∧ Binds K fd ["one", "other", "many"] []
  d_form_of : ∃ f fd, mg "form_of" = some (.ref f) ∧ FunD K "form_of" "form_of" (defArgs s_form_of) (defBody s_form_of) (defScope s_form_of) [] [] f fd ∧ Binds K fd ["counts"] []
  d_form_sum : ∃ f fd, mg "form_sum" = some (.ref f) ∧ FunD K "form_sum" "form_sum" (defArgs s_form_sum) (defBody s_form_sum) (defScope s_form_sum) [] [] f fd ∧ Binds K fd ["one", "other"] []
  d__law_forms_right : ∃ f fd, mg "_law_forms_right" = some (.ref f) ∧ FunD K "_law_forms_right" "_law_forms_right" (defArgs s__law_forms_right) (defBody s__law_forms_right) (defScope s__law_forms_right) [] [] f fd ∧ Binds K fd ["pot"] []
  d__law_call : ∃ f fd, mg "_law_call" = some (.ref f) ∧ FunD K "_law_call" "_law_call" (defArgs s__law_call) (defBody s__law_call) (defScope s__law_call) [] [] f fd ∧ Binds K fd ["pot", "known", "ends", "state"] []
  d__law_plain : ∃ f fd, mg "_law_plain" = some (.ref f) ∧ FunD K "_law_plain" "_law_plain" (defArgs s__law_plain) (defBody s__law_plain) (defScope s__law_plain) [] [] f fd ∧ Binds K fd ["pot", "word", "ends", "state"] []
  d__law_procedure : ∃ f fd, mg "_law_procedure" = some (.ref f) ∧ FunD K "_law_procedure" "_law_procedure" (defArgs s__law_procedure) (defBody s__law_procedure) (defScope s__law_procedure) [] [] f fd ∧ Binds K fd ["pot", "known", "steps"] []
  d__law_whole : ∃ f fd, mg "_law_whole" = some (.ref f) ∧ FunD K "_law_whole" "_law_whole" (defArgs s__law_whole) (defBody s__law_whole) (defScope s__law_whole) [] [] f fd ∧ Binds K fd ["pot"] []
  d__law_made : ∃ f fd, mg "_law_made" = some (.ref f) ∧ FunD K "_law_made" "_law_made" (defArgs s__law_made) (defBody s__law_made) (defScope s__law_made) [] [] f fd ∧ Binds K fd ["word"] []
  d__law_walk : ∃ f fd, mg "_law_walk" = some (.ref f) ∧ FunD K "_law_walk" "_law_walk" (defArgs s__law_walk) (defBody s__law_walk) (defScope s__law_walk) [] [] f fd ∧ Binds K fd ["procedures", "at"] []
  d_dotted : ∃ f fd, mg "dotted" = some (.ref f) ∧ FunD K "dotted" "dotted" (defArgs s_dotted) (defBody s_dotted) (defScope s_dotted) [] [] f fd ∧ Binds K fd ["path"] []
  d_hidden_names : ∃ f fd, mg "hidden_names" = some (.ref f) ∧ FunD K "hidden_names" "hidden_names" (defArgs s_hidden_names) (defBody s_hidden_names) (defScope s_hidden_names) [] [] f fd ∧ Binds K fd ["program", "number", "path"] []
  d_unknown_names : ∃ f fd, mg "unknown_names" = some (.ref f) ∧ FunD K "unknown_names" "unknown_names" (defArgs s_unknown_names) (defBody s_unknown_names) (defScope s_unknown_names) [] [] f fd ∧ Binds K fd ["program", "number"] []
  d_hidden_by : ∃ f fd, mg "hidden_by" = some (.ref f) ∧ FunD K "hidden_by" "hidden_by" (defArgs s_hidden_by) (defBody s_hidden_by) (defScope s_hidden_by) [] [] f fd ∧ Binds K fd ["program", "statement"] []
  d_hidden_number : ∃ f fd, mg "hidden_number" = some (.ref f) ∧ FunD K "hidden_number" "hidden_number" (defArgs s_hidden_number) (defBody s_hidden_number) (defScope s_hidden_number) [] [] f fd ∧ Binds K fd ["program", "number"] []
  d_unknown_number : ∃ f fd, mg "unknown_number" = some (.ref f) ∧ FunD K "unknown_number" "unknown_number" (defArgs s_unknown_number) (defBody s_unknown_number) (defScope s_unknown_number) [] [] f fd ∧ Binds K fd ["program", "number"] []
  d__law_unknowns_right : ∃ f fd, mg "_law_unknowns_right" = some (.ref f) ∧ FunD K "_law_unknowns_right" "_law_unknowns_right" (defArgs s__law_unknowns_right) (defBody s__law_unknowns_right) (defScope s__law_unknowns_right) [] [] f fd ∧ Binds K fd ["pot"] []
  d_law : ∃ f fd, mg "law" = some (.ref f) ∧ FunD K "law" "law" (defArgs s_law) (defBody s_law) (defScope s_law) [] [] f fd ∧ Binds K fd ["script"] []

def e__law_pot_1 (K : PySem.W.Frag) : M D := eV (vOpn gInt (wCons (vVar 1) (wNil)))
def m__law_pot (K : PySem.W.Frag) : MS := sSeq (sRet (eLst (aCons (eLc [1] (iSq (eV (vSl (vVar 0) (oNone) (oSome (vLit (.int 63)))))) (fName 1) (tTrue) (e__law_pot_1 K)) (aCons (eLit (.int 0)) (aCons (eLit (.int 0)) (aCons (eLit (.int 17)) (aCons (eLit (.int 0)) (aNil)))))))) (sNil)
def F__law_pot (K : PySem.W.Frag) : List D → FR := Se.fnOf 2 [] (m__law_pot K)
theorem ff__law_pot {P : Program} {w : World} {K : PySem.W.Frag} {mg : Str → Option Value} {base : Heap} (z : Z K mg) : FK P w K mg base "_law_pot" ["script"] (s__law_pot) 1 (F__law_pot K) := by
  obtain ⟨f, fd, hm, F, hb⟩ := z.d__law_pot
  refine ⟨f, fd, hm, F, hb, ?_⟩
  have q := fnN (P := P) (w := w) (mg := mg) (base := base) (k := 0) (C := C0 K) (B := []) (m := (m__law_pot K)) F sc__law_pot
  refine q ?_
  intro cdv A outer s H E hr W tk
  have hu : (XC P w K mg base ["script", "cell"] "_law_pot" (defScope s__law_pot) f cdv A outer s H E).A.units + 64 < cLine := by have := hr.un; simp only [XC, cxOf]; omega
  have hpo : PassesOwn (model P w) (XC P w K mg base ["script", "cell"] "_law_pot" (defScope s__law_pot) f cdv A outer s H E).A (XC P w K mg base ["script", "cell"] "_law_pot" (defScope s__law_pot) f cdv A outer s H E).env (XC P w K mg base ["script", "cell"] "_law_pot" (defScope s__law_pot) f cdv A outer s H E).xe := PassesOwn.leaving
  exact sss_cons (ss_ret (se_lst (sa_cons (se_lc (own := [("cell", 1)]) (B := [0]) rfl sc__law_pot.nd (si_seq rfl (sev_sl rfl (sv_n (i := 0)) (so_none) (so_some (sv_int)))) (BlkOk.mk (N := ["script", "cell"]) (sc := defScope s__law_pot) rfl (by decide +kernel) (by decide +kernel) (by decide +kernel) (by decide +kernel)) (lcp_none (fun _ => sg_n sc__law_pot.nd (i := 1)) (fun _ => sev_cint z.n_int (sw_cons (sv_n (i := 1)) (sw_nil)))) (show ∀ j, j < 2 → j ∉ ([1] : List Nat) → j ∈ ([0] : List Nat) by decide)) (sa_cons (se_int) (sa_cons (se_int) (sa_cons (se_int) (sa_cons (se_int) (sa_nil)))))))) (sss_nil)
def m__law_draw (K : PySem.W.Frag) : MS := sSeq (sSet (eV (vOp2 gAdd (vOp2 ixv (vVar 0) (vLit (.int 4))) (vLit (.int 1)))) (pVar 0) (vLit (.int 4))) (sSeq (sIf (tAndM (Se.tB (eV (vOp2 gEq (vOp2 ixv (vVar 0) (vLit (.int 2))) (vLit (.int 0))))) (Se.tB (eV (vOp2 (gCmp fun i j => decide (i < j)) (vOp2 ixv (vVar 0) (vLit (.int 1))) (vOpn gLen (wCons (vOp2 ixv (vVar 0) (vLit (.int 0))) (wNil))))))) (sSeq (sAsg 2 (eV (vOp2 gIx (vOp2 ixv (vVar 0) (vLit (.int 0))) (vOp2 ixv (vVar 0) (vLit (.int 1)))))) (sSeq (sSet (eV (vOp2 gAdd (vOp2 ixv (vVar 0) (vLit (.int 1))) (vLit (.int 1)))) (pVar 0) (vLit (.int 1))) (sSeq (sIf (Se.tB (eV (vOp2 (gCmp fun i j => decide (i < j)) (vVar 2) (vLit (.int 0))))) (sSeq (sAsg 2 (eV (vOp2 gSub (vLit (.int 1)) (vOp2 gMulA (vLit (.int 2)) (vVar 2))))) (sNil)) (sNil)) (sSeq (sSet (eV (vOp2 gMod (vOpn gInt (wCons (vOp2 gAdd (vOp2 gAdd (vOp2 gMulA (vOp2 ixv (vVar 0) (vLit (.int 3))) (vLit (.int 37))) (vOp2 gMulA (vOp2 gMod (vOpn gInt (wCons (vVar 2) (wNil))) (vLit (.int 1999993))) (vLit (.int 4513)))) (vOp2 ixv (vVar 0) (vLit (.int 4)))) (wNil))) (vLit (.int 2147483647)))) (pVar 0) (vLit (.int 3))) (sSeq (sIf (Se.tB (eV (vOp2 (gCmp fun i j => decide (i ≥ j)) (vVar 2) (vOp2 gPow (vLit (.int 10)) (vLit (.int 18)))))) (sSeq (sSet (eVar 2) (pVar 0) (vLit (.int 2))) (sNil)) (sNil)) (sNil)))))) (sNil)) (sSeq (sIf (Se.tB (eV (vOp2 (gCmp fun i j => decide (i > j)) (vOp2 ixv (vVar 0) (vLit (.int 2))) (vLit (.int 0))))) (sSeq (sAsg 3 (eV (vOp2 gMod (vOpn gInt (wCons (vOp2 ixv (vVar 0) (vLit (.int 2))) (wNil))) (vVar 1)))) (sSeq (sSet (eV (vOp2 gDiv (vOp2 ixv (vVar 0) (vLit (.int 2))) (vVar 1))) (pVar 0) (vLit (.int 2))) (sSeq (sRet (eMove 3)) (sNil)))) (sNil)) (sSeq (sSet (eV (vOp2 gMod (vOpn gInt (wCons (vOp2 gAdd (vOp2 gAdd (vOp2 gMulA (vOp2 ixv (vVar 0) (vLit (.int 3))) (vLit (.int 16807))) (vOp2 gMulA (vOp2 gMulA (vOp2 ixv (vVar 0) (vLit (.int 4))) (vOp2 ixv (vVar 0) (vLit (.int 4)))) (vLit (.int 7919)))) (vLit (.int 12345))) (wNil))) (vLit (.int 2147483647)))) (pVar 0) (vLit (.int 3))) (sSeq (sRet (eV (vOp2 gMod (vOpn gInt (wCons (vOp2 gDiv (vOp2 ixv (vVar 0) (vLit (.int 3))) (vLit (.int 89))) (wNil))) (vVar 1)))) (sNil)))))
def F__law_draw (K : PySem.W.Frag) : List D → FR := Se.fnOf 4 [0] (m__law_draw K)
theorem ff__law_draw {P : Program} {w : World} {K : PySem.W.Frag} {mg : Str → Option Value} {base : Heap} (z : Z K mg) : FK P w K mg base "_law_draw" ["pot", "choices"] (s__law_draw) 1 (F__law_draw K) := by
  obtain ⟨f, fd, hm, F, hb⟩ := z.d__law_draw
  refine ⟨f, fd, hm, F, hb, ?_⟩
  have q := fnN (P := P) (w := w) (mg := mg) (base := base) (k := 0) (C := C0 K) (B := [0]) (m := (m__law_draw K)) F sc__law_draw
  refine q ?_
  intro cdv A outer s H E hr W tk
  have hu : (XC P w K mg base ["pot", "choices", "cell", "digit"] "_law_draw" (defScope s__law_draw) f cdv A outer s H E).A.units + 64 < cLine := by have := hr.un; simp only [XC, cxOf]; omega
  have hpo : PassesOwn (model P w) (XC P w K mg base ["pot", "choices", "cell", "digit"] "_law_draw" (defScope s__law_draw) f cdv A outer s H E).A (XC P w K mg base ["pot", "choices", "cell", "digit"] "_law_draw" (defScope s__law_draw) f cdv A outer s H E).env (XC P w K mg base ["pot", "choices", "cell", "digit"] "_law_draw" (defScope s__law_draw) f cdv A outer s H E).xe := PassesOwn.leaving
  exact sss_cons (ss_set (sev_add (sv_ix (sv_n (i := 0)) (sv_int)) (sv_int)) (sp_n (i := 0)) (sv_int)) (sss_cons (ss_if (stw_t (stw_and (stv_eq hu (sv_ix (sv_n (i := 0)) (sv_int)) (sv_int)) (stw_and1 (stv_lt (sv_ix (sv_n (i := 0)) (sv_int)) (sv_clen z.n_len (sw_cons (sv_ix (sv_n (i := 0)) (sv_int)) (sw_nil))))))) (sss_cons (ss_setn (i := 2) (sev_ix (sv_ix (sv_n (i := 0)) (sv_int)) (sv_ix (sv_n (i := 0)) (sv_int))) sc__law_draw.nd) (sss_cons (ss_set (sev_add (sv_ix (sv_n (i := 0)) (sv_int)) (sv_int)) (sp_n (i := 0)) (sv_int)) (sss_cons (ss_if (stv_lt (sv_n (i := 2)) (sv_int)) (sss_cons (ss_setn (i := 2) (sev_sub (sv_int) (sv_mul (sv_int) (sv_n (i := 2)))) sc__law_draw.nd) (sss_nil)) (sss_nil)) (sss_cons (ss_set (sev_mod (sv_cint z.n_int (sw_cons (sv_add (sv_add (sv_mul (sv_ix (sv_n (i := 0)) (sv_int)) (sv_int)) (sv_mul (sv_mod (sv_cint z.n_int (sw_cons (sv_n (i := 2)) (sw_nil))) (sv_int)) (sv_int))) (sv_ix (sv_n (i := 0)) (sv_int))) (sw_nil))) (sv_int)) (sp_n (i := 0)) (sv_int)) (sss_cons (ss_if (stv_ge (sv_n (i := 2)) (sv_pow (sv_int) (sv_int))) (sss_cons (ss_set (se_n (i := 2)) (sp_n (i := 0)) (sv_int)) (sss_nil)) (sss_nil)) (sss_nil)))))) (sss_nil)) (sss_cons (ss_if (stv_gt (sv_ix (sv_n (i := 0)) (sv_int)) (sv_int)) (sss_cons (ss_setn (i := 3) (sev_mod (sv_cint z.n_int (sw_cons (sv_ix (sv_n (i := 0)) (sv_int)) (sw_nil))) (sv_n (i := 1))) sc__law_draw.nd) (sss_cons (ss_set (sev_div (sv_ix (sv_n (i := 0)) (sv_int)) (sv_n (i := 1))) (sp_n (i := 0)) (sv_int)) (sss_cons (ss_ret (se_m (i := 3))) (sss_nil)))) (sss_nil)) (sss_cons (ss_set (sev_mod (sv_cint z.n_int (sw_cons (sv_add (sv_add (sv_mul (sv_ix (sv_n (i := 0)) (sv_int)) (sv_int)) (sv_mul (sv_mul (sv_ix (sv_n (i := 0)) (sv_int)) (sv_ix (sv_n (i := 0)) (sv_int))) (sv_int))) (sv_int)) (sw_nil))) (sv_int)) (sp_n (i := 0)) (sv_int)) (sss_cons (ss_ret (sev_mod (sv_cint z.n_int (sw_cons (sv_div (sv_ix (sv_n (i := 0)) (sv_int)) (sv_int)) (sw_nil))) (sv_n (i := 1)))) (sss_nil)))))
def b__law_numbers_1 (K : PySem.W.Frag) : MS := sSeq (sAsg 4 (eCall 2 (F__law_draw K) (bBor 0 (bVal (eLit (.int 6)) (bNil))))) (sSeq (sIf (Se.tB (eV (vOp2 (gCmp fun i j => decide (i < j)) (vVar 4) (vLit (.int 2))))) (sSeq (sExpr (eMutQ gmAppend (pVar 2) (wCons (vLit (.int 0)) (wNil)))) (sNil)) (sSeq (sIf (Se.tB (eV (vOp2 gEq (vVar 4) (vLit (.int 2))))) (sSeq (sExpr (eMutQ gmAppend (pVar 2) (wCons (vLit (.int 1)) (wNil)))) (sNil)) (sSeq (sIf (Se.tB (eV (vOp2 gEq (vVar 4) (vLit (.int 3))))) (sSeq (sExpr (eMut gmAppend (pVar 2) (aCons (eCall 2 (F__law_draw K) (bBor 0 (bVal (eLit (.int 5)) (bNil)))) (aNil)))) (sNil)) (sSeq (sIf (Se.tB (eV (vOp2 gEq (vVar 4) (vLit (.int 4))))) (sSeq (sExpr (eMut gmAppend (pVar 2) (aCons (eCall 2 (F__law_draw K) (bBor 0 (bVal (eLit (.int 500001)) (bNil)))) (aNil)))) (sNil)) (sSeq (sExpr (eMutQ gmAppend (pVar 2) (wCons (vLit (.int 500000)) (wNil)))) (sNil))) (sNil))) (sNil))) (sNil))) (sNil))
def m__law_numbers (K : PySem.W.Frag) : MS := sSeq (sAsg 2 (eLst (aNil))) (sSeq (sFor (iArgs rg1 (aCons (eVar 1) (aNil))) (fName 3) (b__law_numbers_1 K)) (sSeq (sIf (Se.tB (eV (vOp2 gEq (vOpn gMaxS (wCons (vVar 2) (wNil))) (vLit (.int 0))))) (sSeq (sSetE (eFz (eOp2 gAdd (eLit (.int 1)) (eCall 2 (F__law_draw K) (bBor 0 (bVal (eLit (.int 3)) (bNil)))))) (pVar 2) (eCall 2 (F__law_draw K) (bBor 0 (bVal (eVar 1) (bNil))))) (sNil)) (sNil)) (sSeq (sRet (eMove 2)) (sNil))))
def F__law_numbers (K : PySem.W.Frag) : List D → FR := Se.fnOf 5 [0] (m__law_numbers K)
theorem ff__law_numbers {P : Program} {w : World} {K : PySem.W.Frag} {mg : Str → Option Value} {base : Heap} (z : Z K mg) : FK P w K mg base "_law_numbers" ["pot", "size"] (s__law_numbers) 2 (F__law_numbers K) := by
  obtain ⟨f, fd, hm, F, hb⟩ := z.d__law_numbers
  obtain ⟨f__law_draw, fd__law_draw, hm__law_draw, d__law_draw, hb__law_draw, ok__law_draw⟩ := (ff__law_draw (P := P) (w := w) (base := base) z)
  have hk__law_draw := d__law_draw.kp
  refine ⟨f, fd, hm, F, hb, ?_⟩
  have q := fnN (P := P) (w := w) (mg := mg) (base := base) (k := 1) (C := C0 K) (B := [0]) (m := (m__law_numbers K)) F sc__law_numbers
  refine q ?_
  intro cdv A outer s H E hr W tk
  have hu : (XC P w K mg base ["pot", "size", "found", "k", "way"] "_law_numbers" (defScope s__law_numbers) f cdv A outer s H E).A.units + 64 < cLine := by have := hr.un; simp only [XC, cxOf]; omega
  have hpo : PassesOwn (model P w) (XC P w K mg base ["pot", "size", "found", "k", "way"] "_law_numbers" (defScope s__law_numbers) f cdv A outer s H E).A (XC P w K mg base ["pot", "size", "found", "k", "way"] "_law_numbers" (defScope s__law_numbers) f cdv A outer s H E).env (XC P w K mg base ["pot", "size", "found", "k", "way"] "_law_numbers" (defScope s__law_numbers) f cdv A outer s H E).xe := PassesOwn.leaving
  exact sss_cons (ss_setn (i := 2) (se_lst (sa_nil)) sc__law_numbers.nd) (sss_cons (ss_for hpo rfl (si_range1 rfl z.n_range (sa_cons (se_n (i := 1)) (sa_nil))) (sg_n sc__law_numbers.nd (i := 3)) (sss_cons (ss_setn (i := 4) (se_call rfl (cal_calm ok__law_draw (hr.mono (by decide))) tk rfl hm__law_draw hk__law_draw hb__law_draw rfl (sab_bor (nm (i := 0)) (sab_val (se_int) (sab_nil)))) sc__law_numbers.nd) (sss_cons (ss_if (stv_lt (sv_n (i := 4)) (sv_int)) (sss_cons (ss_expr (se_appendQ (sp_n (i := 2)) (sw_cons (sv_int) (sw_nil)))) (sss_nil)) (sss_cons (ss_if (stv_eq hu (sv_n (i := 4)) (sv_int)) (sss_cons (ss_expr (se_appendQ (sp_n (i := 2)) (sw_cons (sv_int) (sw_nil)))) (sss_nil)) (sss_cons (ss_if (stv_eq hu (sv_n (i := 4)) (sv_int)) (sss_cons (ss_expr (se_append (sp_n (i := 2)) (sa_cons (se_call rfl (cal_calm ok__law_draw (hr.mono (by decide))) tk rfl hm__law_draw hk__law_draw hb__law_draw rfl (sab_bor (nm (i := 0)) (sab_val (se_int) (sab_nil)))) (sa_nil)))) (sss_nil)) (sss_cons (ss_if (stv_eq hu (sv_n (i := 4)) (sv_int)) (sss_cons (ss_expr (se_append (sp_n (i := 2)) (sa_cons (se_call rfl (cal_calm ok__law_draw (hr.mono (by decide))) tk rfl hm__law_draw hk__law_draw hb__law_draw rfl (sab_bor (nm (i := 0)) (sab_val (se_int) (sab_nil)))) (sa_nil)))) (sss_nil)) (sss_cons (ss_expr (se_appendQ (sp_n (i := 2)) (sw_cons (sv_int) (sw_nil)))) (sss_nil))) (sss_nil))) (sss_nil))) (sss_nil))) (sss_nil)))) (sss_cons (ss_if (stv_eq hu (sv_cmaxs rfl hu z.n_max (sw_cons (sv_n (i := 2)) (sw_nil))) (sv_int)) (sss_cons (ss_setE (se_fz (se_add (se_int) (se_call rfl (cal_calm ok__law_draw (hr.mono (by decide))) tk rfl hm__law_draw hk__law_draw hb__law_draw rfl (sab_bor (nm (i := 0)) (sab_val (se_int) (sab_nil)))))) (sp_n (i := 2)) (se_call rfl (cal_calm ok__law_draw (hr.mono (by decide))) tk rfl hm__law_draw hk__law_draw hb__law_draw rfl (sab_bor (nm (i := 0)) (sab_val (se_n (i := 1)) (sab_nil))))) (sss_nil)) (sss_nil)) (sss_cons (ss_ret (se_m (i := 2))) (sss_nil))))
def b__law_worths_1 (K : PySem.W.Frag) : MS := sSeq (sAsg 4 (eCall 2 (F__law_draw K) (bBor 0 (bVal (eLit (.int 3)) (bNil))))) (sSeq (sIf (Se.tB (eV (vOp2 gEq (vVar 4) (vLit (.int 0))))) (sSeq (sExpr (eMut gmAppend (pVar 2) (aCons (eOp2 gAdd (eLit (.int 1)) (eCall 2 (F__law_draw K) (bBor 0 (bVal (eLit (.int 9)) (bNil))))) (aNil)))) (sNil)) (sSeq (sIf (Se.tB (eV (vOp2 gEq (vVar 4) (vLit (.int 1))))) (sSeq (sExpr (eMut gmAppend (pVar 2) (aCons (eOp2 gAdd (eLit (.int 1)) (eCall 2 (F__law_draw K) (bBor 0 (bVal (eLit (.int 1000003)) (bNil))))) (aNil)))) (sNil)) (sSeq (sExpr (eMut gmAppend (pVar 2) (aCons (eOp2 gSub (eV (vOp2 gPow (vLit (.int 10)) (vLit (.int 30)))) (eCall 2 (F__law_draw K) (bBor 0 (bVal (eLit (.int 7)) (bNil))))) (aNil)))) (sNil))) (sNil))) (sNil))
def m__law_worths (K : PySem.W.Frag) : MS := sSeq (sAsg 2 (eLst (aNil))) (sSeq (sFor (iArgs rg1 (aCons (eVar 1) (aNil))) (fName 3) (b__law_worths_1 K)) (sSeq (sRet (eMove 2)) (sNil)))
def F__law_worths (K : PySem.W.Frag) : List D → FR := Se.fnOf 5 [0] (m__law_worths K)
theorem ff__law_worths {P : Program} {w : World} {K : PySem.W.Frag} {mg : Str → Option Value} {base : Heap} (z : Z K mg) : FK P w K mg base "_law_worths" ["pot", "size"] (s__law_worths) 2 (F__law_worths K) := by
  obtain ⟨f, fd, hm, F, hb⟩ := z.d__law_worths
  obtain ⟨f__law_draw, fd__law_draw, hm__law_draw, d__law_draw, hb__law_draw, ok__law_draw⟩ := (ff__law_draw (P := P) (w := w) (base := base) z)
  have hk__law_draw := d__law_draw.kp
  refine ⟨f, fd, hm, F, hb, ?_⟩
  have q := fnN (P := P) (w := w) (mg := mg) (base := base) (k := 1) (C := C0 K) (B := [0]) (m := (m__law_worths K)) F sc__law_worths
  refine q ?_
  intro cdv A outer s H E hr W tk
  have hu : (XC P w K mg base ["pot", "size", "found", "k", "way"] "_law_worths" (defScope s__law_worths) f cdv A outer s H E).A.units + 64 < cLine := by have := hr.un; simp only [XC, cxOf]; omega
  have hpo : PassesOwn (model P w) (XC P w K mg base ["pot", "size", "found", "k", "way"] "_law_worths" (defScope s__law_worths) f cdv A outer s H E).A (XC P w K mg base ["pot", "size", "found", "k", "way"] "_law_worths" (defScope s__law_worths) f cdv A outer s H E).env (XC P w K mg base ["pot", "size", "found", "k", "way"] "_law_worths" (defScope s__law_worths) f cdv A outer s H E).xe := PassesOwn.leaving
  exact sss_cons (ss_setn (i := 2) (se_lst (sa_nil)) sc__law_worths.nd) (sss_cons (ss_for hpo rfl (si_range1 rfl z.n_range (sa_cons (se_n (i := 1)) (sa_nil))) (sg_n sc__law_worths.nd (i := 3)) (sss_cons (ss_setn (i := 4) (se_call rfl (cal_calm ok__law_draw (hr.mono (by decide))) tk rfl hm__law_draw hk__law_draw hb__law_draw rfl (sab_bor (nm (i := 0)) (sab_val (se_int) (sab_nil)))) sc__law_worths.nd) (sss_cons (ss_if (stv_eq hu (sv_n (i := 4)) (sv_int)) (sss_cons (ss_expr (se_append (sp_n (i := 2)) (sa_cons (se_add (se_int) (se_call rfl (cal_calm ok__law_draw (hr.mono (by decide))) tk rfl hm__law_draw hk__law_draw hb__law_draw rfl (sab_bor (nm (i := 0)) (sab_val (se_int) (sab_nil))))) (sa_nil)))) (sss_nil)) (sss_cons (ss_if (stv_eq hu (sv_n (i := 4)) (sv_int)) (sss_cons (ss_expr (se_append (sp_n (i := 2)) (sa_cons (se_add (se_int) (se_call rfl (cal_calm ok__law_draw (hr.mono (by decide))) tk rfl hm__law_draw hk__law_draw hb__law_draw rfl (sab_bor (nm (i := 0)) (sab_val (se_int) (sab_nil))))) (sa_nil)))) (sss_nil)) (sss_cons (ss_expr (se_append (sp_n (i := 2)) (sa_cons (se_sub (sev_pow (sv_int) (sv_int)) (se_call rfl (cal_calm ok__law_draw (hr.mono (by decide))) tk rfl hm__law_draw hk__law_draw hb__law_draw rfl (sab_bor (nm (i := 0)) (sab_val (se_int) (sab_nil))))) (sa_nil)))) (sss_nil))) (sss_nil))) (sss_nil)))) (sss_cons (ss_ret (se_m (i := 2))) (sss_nil)))
def e__law_form_1 (K : PySem.W.Frag) : M D := eTup (aCons (eVar 1) (aCons (eOp2 gIx (eVar 0) (eVar 1)) (aNil)))
def m__law_form (K : PySem.W.Frag) : MS := sSeq (sRet (eOpn gTup (aCons (eLc [1] (iArgs rg1 (aCons (eV (vOpn gLen (wCons (vVar 0) (wNil)))) (aNil))) (fName 1) (Se.tB (eV (vOp2 (gCmp fun i j => decide (i > j)) (vOp2 ixv (vVar 0) (vVar 1)) (vLit (.int 0))))) (e__law_form_1 K)) (aNil)))) (sNil)
def F__law_form (K : PySem.W.Frag) : List D → FR := Se.fnOf 2 [] (m__law_form K)
theorem ff__law_form {P : Program} {w : World} {K : PySem.W.Frag} {mg : Str → Option Value} {base : Heap} (z : Z K mg) : FK P w K mg base "_law_form" ["told"] (s__law_form) 1 (F__law_form K) := by
  obtain ⟨f, fd, hm, F, hb⟩ := z.d__law_form
  refine ⟨f, fd, hm, F, hb, ?_⟩
  have q := fnN (P := P) (w := w) (mg := mg) (base := base) (k := 0) (C := C0 K) (B := []) (m := (m__law_form K)) F sc__law_form
  refine q ?_
  intro cdv A outer s H E hr W tk
  have hu : (XC P w K mg base ["told", "k"] "_law_form" (defScope s__law_form) f cdv A outer s H E).A.units + 64 < cLine := by have := hr.un; simp only [XC, cxOf]; omega
  have hpo : PassesOwn (model P w) (XC P w K mg base ["told", "k"] "_law_form" (defScope s__law_form) f cdv A outer s H E).A (XC P w K mg base ["told", "k"] "_law_form" (defScope s__law_form) f cdv A outer s H E).env (XC P w K mg base ["told", "k"] "_law_form" (defScope s__law_form) f cdv A outer s H E).xe := PassesOwn.leaving
  exact sss_cons (ss_ret (se_ctuple z.n_tuple (sa_cons (se_lc (own := [("k", 1)]) (B := [0]) rfl sc__law_form.nd (si_range1 rfl z.n_range (sa_cons (sev_clen z.n_len (sw_cons (sv_n (i := 0)) (sw_nil))) (sa_nil))) (BlkOk.mk (N := ["told", "k"]) (sc := defScope s__law_form) rfl (by decide +kernel) (by decide +kernel) (by decide +kernel) (by decide +kernel)) (lcp_if (fun _ => sg_n sc__law_form.nd (i := 1)) (fun _ => stv_gt (sv_ix (sv_n (i := 0)) (sv_n (i := 1))) (sv_int)) (fun _ => se_tup (sa_cons (se_n (i := 1)) (sa_cons (se_ix (se_n (i := 0)) (se_n (i := 1))) (sa_nil))))) (show ∀ j, j < 2 → j ∉ ([1] : List Nat) → j ∈ ([0] : List Nat) by decide)) (sa_nil)))) (sss_nil)
def b__law_same_1 (K : PySem.W.Frag) (r__law_same : List D → FR) : MS := sSeq (sIf (tNotM (tE (eCall 2 r__law_same (bVal (eOp2 gIx (eVar 0) (eVar 2)) (bVal (eOp2 gIx (eVar 1) (eVar 2)) (bNil)))))) (sSeq (sRet (eLit (.bl false))) (sNil)) (sNil)) (sNil)
def m__law_same (K : PySem.W.Frag) (r__law_same : List D → FR) : MS := sSeq (sIf (tOrM (tV (vOpn (gIsi K) (wCons (vVar 0) (wCons (vLit (.ty "bool")) (wNil))))) (tV (vOpn (gIsi K) (wCons (vVar 1) (wCons (vLit (.ty "bool")) (wNil)))))) (sSeq (sRet (eLit (.bl false))) (sNil)) (sNil)) (sSeq (sIf (tV (vOpn (gIsi K) (wCons (vVar 0) (wCons (vLit (.ty "int")) (wNil))))) (sSeq (sRet (eAnd (eV (vOpn (gIsi K) (wCons (vVar 1) (wCons (vLit (.ty "int")) (wNil))))) (eV (vOp2 gEq (vVar 1) (vVar 0))))) (sNil)) (sNil)) (sSeq (sIf (tV (vOpn (gIsi K) (wCons (vVar 0) (wCons (vLit (.ty "str")) (wNil))))) (sSeq (sRet (eAnd (eV (vOpn (gIsi K) (wCons (vVar 1) (wCons (vLit (.ty "str")) (wNil))))) (eV (vOp2 gEq (vVar 1) (vVar 0))))) (sNil)) (sNil)) (sSeq (sIf (tOrM (tNotM (tV (vOpn (gIsi K) (wCons (vVar 1) (wCons (vLit (.ty "tuple")) (wNil)))))) (Se.tB (eV (vOp2 gNe (vOpn gLen (wCons (vVar 1) (wNil))) (vOpn gLen (wCons (vVar 0) (wNil))))))) (sSeq (sRet (eLit (.bl false))) (sNil)) (sNil)) (sSeq (sFor (iArgs rg1 (aCons (eV (vOpn gLen (wCons (vVar 0) (wNil)))) (aNil))) (fName 2) (b__law_same_1 K r__law_same)) (sSeq (sRet (eLit (.bl true))) (sNil))))))
def F__law_same (K : PySem.W.Frag) : Nat → List D → FR
  | 0 => fun _ => .bad
  | n + 1 => Se.fnOf 3 [] (m__law_same K (F__law_same K n))
theorem fs__law_same {P : Program} {w : World} {K : PySem.W.Frag} {mg : Str → Option Value} {base : Heap} (z : Z K mg) {n : Nat} (ih : FK P w K mg base "_law_same" ["due", "told"] (s__law_same) (0 + n + 1) (F__law_same K n)) : FK P w K mg base "_law_same" ["due", "told"] (s__law_same) (0 + (n + 1) + 1) (Se.fnOf 3 [] (m__law_same K (F__law_same K n))) := by
  obtain ⟨f, fd, hm, F, hb⟩ := z.d__law_same
  obtain ⟨f__law_same, fd__law_same, hm__law_same, d__law_same, hb__law_same, ok__law_same⟩ := ih
  have hk__law_same := d__law_same.kp
  refine ⟨f, fd, hm, F, hb, ?_⟩
  have q := fnN (P := P) (w := w) (mg := mg) (base := base) (k := 0 + n + 1) (C := C0 K) (B := []) (m := (m__law_same K (F__law_same K n))) F sc__law_same
  refine q ?_
  intro cdv A outer s H E hr W tk
  have hu : (XC P w K mg base ["due", "told", "k"] "_law_same" (defScope s__law_same) f cdv A outer s H E).A.units + 64 < cLine := by have := hr.un; simp only [XC, cxOf]; omega
  have hpo : PassesOwn (model P w) (XC P w K mg base ["due", "told", "k"] "_law_same" (defScope s__law_same) f cdv A outer s H E).A (XC P w K mg base ["due", "told", "k"] "_law_same" (defScope s__law_same) f cdv A outer s H E).env (XC P w K mg base ["due", "told", "k"] "_law_same" (defScope s__law_same) f cdv A outer s H E).xe := PassesOwn.leaving
  exact sss_cons (ss_if (stw_t (stw_or (stv_t (sv_cisi z.n_isinstance (sw_cons (sv_n (i := 0)) (sw_cons (sv_bt z.n_bool PyProof.Rows.Boot.«bool») (sw_nil))))) (stw_or1 (stv_t (sv_cisi z.n_isinstance (sw_cons (sv_n (i := 1)) (sw_cons (sv_bt z.n_bool PyProof.Rows.Boot.«bool») (sw_nil)))))))) (sss_cons (ss_ret (se_bl)) (sss_nil)) (sss_nil)) (sss_cons (ss_if (stv_t (sv_cisi z.n_isinstance (sw_cons (sv_n (i := 0)) (sw_cons (sv_bt z.n_int PyProof.Rows.Boot.«int») (sw_nil))))) (sss_cons (ss_ret (se_and (sev_cisi z.n_isinstance (sw_cons (sv_n (i := 1)) (sw_cons (sv_bt z.n_int PyProof.Rows.Boot.«int») (sw_nil)))) (se_one (sev_eq hu (sv_n (i := 1)) (sv_n (i := 0)))))) (sss_nil)) (sss_nil)) (sss_cons (ss_if (stv_t (sv_cisi z.n_isinstance (sw_cons (sv_n (i := 0)) (sw_cons (sv_bt z.n_str PyProof.Rows.Boot.«str») (sw_nil))))) (sss_cons (ss_ret (se_and (sev_cisi z.n_isinstance (sw_cons (sv_n (i := 1)) (sw_cons (sv_bt z.n_str PyProof.Rows.Boot.«str») (sw_nil)))) (se_one (sev_eq hu (sv_n (i := 1)) (sv_n (i := 0)))))) (sss_nil)) (sss_nil)) (sss_cons (ss_if (stw_t (stw_or (st_not (stv_t (sv_cisi z.n_isinstance (sw_cons (sv_n (i := 1)) (sw_cons (sv_bt z.n_tuple PyProof.Rows.Boot.«tuple») (sw_nil)))))) (stw_or1 (stv_ne hu (sv_clen z.n_len (sw_cons (sv_n (i := 1)) (sw_nil))) (sv_clen z.n_len (sw_cons (sv_n (i := 0)) (sw_nil))))))) (sss_cons (ss_ret (se_bl)) (sss_nil)) (sss_nil)) (sss_cons (ss_for hpo rfl (si_range1 rfl z.n_range (sa_cons (sev_clen z.n_len (sw_cons (sv_n (i := 0)) (sw_nil))) (sa_nil))) (sg_n sc__law_same.nd (i := 2)) (sss_cons (ss_if (st_not (st_t (se_call rfl (cal_calm ok__law_same (hr.mono (by omega))) tk rfl hm__law_same hk__law_same hb__law_same rfl (sab_val (se_ix (se_n (i := 0)) (se_n (i := 2))) (sab_val (se_ix (se_n (i := 1)) (se_n (i := 2))) (sab_nil)))))) (sss_cons (ss_ret (se_bl)) (sss_nil)) (sss_nil)) (sss_nil))) (sss_cons (ss_ret (se_bl)) (sss_nil))))))
theorem fa__law_same {P : Program} {w : World} {K : PySem.W.Frag} {mg : Str → Option Value} {base : Heap} (z : Z K mg) : ∀ n : Nat, FK P w K mg base "_law_same" ["due", "told"] (s__law_same) (0 + n + 1) (F__law_same K n)
  | 0 => fk_bad z.d__law_same
  | n + 1 => fs__law_same z (fa__law_same z n)
theorem ff__law_same {P : Program} {w : World} {K : PySem.W.Frag} {mg : Str → Option Value} {base : Heap} (z : Z K mg) (n : Nat) : FK P w K mg base "_law_same" ["due", "told"] (s__law_same) (0 + n + 1) (F__law_same K n) := (fa__law_same z n)
def e_form_worth_1 (K : PySem.W.Frag) : M D := eV (vOp2 gMulA (vVar 3) (vOp2 ixv (vVar 1) (vVar 2)))
def m_form_worth (K : PySem.W.Frag) : MS := sSeq (sRet (eOpn gSum (aCons (eLc [2, 3] (iSq (eVar 0)) (fTup (fCons (fName 2) (fCons (fName 3) (fNil)))) (tTrue) (e_form_worth_1 K)) (aNil)))) (sNil)
def F_form_worth (K : PySem.W.Frag) : List D → FR := Se.fnOf 4 [] (m_form_worth K)
theorem ff_form_worth {P : Program} {w : World} {K : PySem.W.Frag} {mg : Str → Option Value} {base : Heap} (z : Z K mg) : FK P w K mg base "form_worth" ["form", "sizes"] (s_form_worth) 1 (F_form_worth K) := by
  obtain ⟨f, fd, hm, F, hb⟩ := z.d_form_worth
  refine ⟨f, fd, hm, F, hb, ?_⟩
  have q := fnN (P := P) (w := w) (mg := mg) (base := base) (k := 0) (C := C0 K) (B := []) (m := (m_form_worth K)) F sc_form_worth
  refine q ?_
  intro cdv A outer s H E hr W tk
  have hu : (XC P w K mg base ["form", "sizes", "number", "many"] "form_worth" (defScope s_form_worth) f cdv A outer s H E).A.units + 64 < cLine := by have := hr.un; simp only [XC, cxOf]; omega
  have hpo : PassesOwn (model P w) (XC P w K mg base ["form", "sizes", "number", "many"] "form_worth" (defScope s_form_worth) f cdv A outer s H E).A (XC P w K mg base ["form", "sizes", "number", "many"] "form_worth" (defScope s_form_worth) f cdv A outer s H E).env (XC P w K mg base ["form", "sizes", "number", "many"] "form_worth" (defScope s_form_worth) f cdv A outer s H E).xe := PassesOwn.leaving
  exact sss_cons (ss_ret (se_csum rfl z.n_sum (sa_cons (se_lc (own := [("number", 2), ("many", 3)]) (B := [0, 1]) rfl sc_form_worth.nd (si_seq rfl (se_n (i := 0))) (BlkOk.mk (N := ["form", "sizes", "number", "many"]) (sc := defScope s_form_worth) rfl (by decide +kernel) (by decide +kernel) (by decide +kernel) (by decide +kernel)) (lcp_none (fun _ => sg_tup rfl rfl (sgs_cons (sg_n sc_form_worth.nd (i := 2)) (sgs_cons (sg_n sc_form_worth.nd (i := 3)) (sgs_nil))) (fCons_len (fCons_len (fNil_len)))) (fun _ => sev_mul (sv_n (i := 3)) (sv_ix (sv_n (i := 1)) (sv_n (i := 2))))) (show ∀ j, j < 4 → j ∉ ([2, 3] : List Nat) → j ∈ ([0, 1] : List Nat) by decide)) (sa_nil)))) (sss_nil)
def e_form_less_1 (K : PySem.W.Frag) : M D := eLit (.int 0)
def b_form_less_2 (K : PySem.W.Frag) : MS := sSeq (sAugS (fun i j => i + j) (pVar 3) (vVar 4) (vVar 5)) (sNil)
def b_form_less_3 (K : PySem.W.Frag) : MS := sSeq (sAugS (fun i j => i - j) (pVar 3) (vVar 4) (vVar 5)) (sNil)
def m_form_less (K : PySem.W.Frag) : MS := sSeq (sAsg 3 (eLc [6] (iArgs rg1 (aCons (eVar 2) (aNil))) (fName 6) (tTrue) (e_form_less_1 K))) (sSeq (sFor (iSq (eVar 0)) (fTup (fCons (fName 4) (fCons (fName 5) (fNil)))) (b_form_less_2 K)) (sSeq (sFor (iSq (eVar 1)) (fTup (fCons (fName 4) (fCons (fName 5) (fNil)))) (b_form_less_3 K)) (sSeq (sRet (eV (vOpn gTup (wCons (vVar 3) (wNil))))) (sNil))))
def F_form_less (K : PySem.W.Frag) : List D → FR := Se.fnOf 7 [] (m_form_less K)
theorem ff_form_less {P : Program} {w : World} {K : PySem.W.Frag} {mg : Str → Option Value} {base : Heap} (z : Z K mg) : FK P w K mg base "form_less" ["one", "other", "many"] (s_form_less) 1 (F_form_less K) := by
  obtain ⟨f, fd, hm, F, hb⟩ := z.d_form_less
  refine ⟨f, fd, hm, F, hb, ?_⟩
  have q := fnN (P := P) (w := w) (mg := mg) (base := base) (k := 0) (C := C0 K) (B := []) (m := (m_form_less K)) F sc_form_less
  refine q ?_
  intro cdv A outer s H E hr W tk
  have hu : (XC P w K mg base ["one", "other", "many", "found", "number", "often", "_"] "form_less" (defScope s_form_less) f cdv A outer s H E).A.units + 64 < cLine := by have := hr.un; simp only [XC, cxOf]; omega
  have hpo : PassesOwn (model P w) (XC P w K mg base ["one", "other", "many", "found", "number", "often", "_"] "form_less" (defScope s_form_less) f cdv A outer s H E).A (XC P w K mg base ["one", "other", "many", "found", "number", "often", "_"] "form_less" (defScope s_form_less) f cdv A outer s H E).env (XC P w K mg base ["one", "other", "many", "found", "number", "often", "_"] "form_less" (defScope s_form_less) f cdv A outer s H E).xe := PassesOwn.leaving
  exact sss_cons (ss_lc (i := 3) (own := [("_", 6)]) (B := [0, 1, 2, 3, 4, 5]) rfl sc_form_less.nd rfl rfl rfl (si_range1 rfl z.n_range (sa_cons (se_n (i := 2)) (sa_nil))) (BlkOk.mk (N := ["one", "other", "many", "found", "number", "often", "_"]) (sc := defScope s_form_less) rfl (by decide +kernel) (by decide +kernel) (by decide +kernel) (by decide +kernel)) (lcp_none (fun _ => sg_n sc_form_less.nd (i := 6)) (fun _ => se_int)) (show ∀ j, j < 7 → j ∉ ([6] : List Nat) → j ∈ ([0, 1, 2, 3, 4, 5] : List Nat) by decide) (by decide)) (sss_cons (ss_for hpo rfl (si_seq rfl (se_n (i := 0))) (sg_tup rfl rfl (sgs_cons (sg_n sc_form_less.nd (i := 4)) (sgs_cons (sg_n sc_form_less.nd (i := 5)) (sgs_nil))) (fCons_len (fCons_len (fNil_len)))) (sss_cons (ss_incS (sp_n (i := 3)) (sv_n (i := 4)) (sv_n (i := 5))) (sss_nil))) (sss_cons (ss_for hpo rfl (si_seq rfl (se_n (i := 1))) (sg_tup rfl rfl (sgs_cons (sg_n sc_form_less.nd (i := 4)) (sgs_cons (sg_n sc_form_less.nd (i := 5)) (sgs_nil))) (fCons_len (fCons_len (fNil_len)))) (sss_cons (ss_decS (sp_n (i := 3)) (sv_n (i := 4)) (sv_n (i := 5))) (sss_nil))) (sss_cons (ss_ret (sev_ctuple z.n_tuple (sw_cons (sv_n (i := 3)) (sw_nil)))) (sss_nil))))
def e_form_of_1 (K : PySem.W.Frag) : M D := eTup (aCons (eVar 1) (aCons (eVar 2) (aNil)))
def m_form_of (K : PySem.W.Frag) : MS := sSeq (sRet (eOpn gTup (aCons (eLc [1, 2] (iArgs enB (aCons (eFz (eVar 0)) aNil)) (fTup (fCons (fName 1) (fCons (fName 2) (fNil)))) (Se.tB (eV (vOp2 (gCmp fun i j => decide (i > j)) (vVar 2) (vLit (.int 0))))) (e_form_of_1 K)) (aNil)))) (sNil)
def F_form_of (K : PySem.W.Frag) : List D → FR := Se.fnOf 3 [] (m_form_of K)
theorem ff_form_of {P : Program} {w : World} {K : PySem.W.Frag} {mg : Str → Option Value} {base : Heap} (z : Z K mg) : FK P w K mg base "form_of" ["counts"] (s_form_of) 1 (F_form_of K) := by
  obtain ⟨f, fd, hm, F, hb⟩ := z.d_form_of
  refine ⟨f, fd, hm, F, hb, ?_⟩
  have q := fnN (P := P) (w := w) (mg := mg) (base := base) (k := 0) (C := C0 K) (B := []) (m := (m_form_of K)) F sc_form_of
  refine q ?_
  intro cdv A outer s H E hr W tk
  have hu : (XC P w K mg base ["counts", "number", "many"] "form_of" (defScope s_form_of) f cdv A outer s H E).A.units + 64 < cLine := by have := hr.un; simp only [XC, cxOf]; omega
  have hpo : PassesOwn (model P w) (XC P w K mg base ["counts", "number", "many"] "form_of" (defScope s_form_of) f cdv A outer s H E).A (XC P w K mg base ["counts", "number", "many"] "form_of" (defScope s_form_of) f cdv A outer s H E).env (XC P w K mg base ["counts", "number", "many"] "form_of" (defScope s_form_of) f cdv A outer s H E).xe := PassesOwn.leaving
  exact sss_cons (ss_ret (se_ctuple z.n_tuple (sa_cons (se_lc (own := [("number", 1), ("many", 2)]) (B := [0]) rfl sc_form_of.nd (si_enQ rfl rfl z.n_enumerate (sa_cons (se_fz (se_n (i := 0))) sa_nil)) (BlkOk.mk (N := ["counts", "number", "many"]) (sc := defScope s_form_of) rfl (by decide +kernel) (by decide +kernel) (by decide +kernel) (by decide +kernel)) (lcp_if (fun _ => sg_tup rfl rfl (sgs_cons (sg_n sc_form_of.nd (i := 1)) (sgs_cons (sg_n sc_form_of.nd (i := 2)) (sgs_nil))) (fCons_len (fCons_len (fNil_len)))) (fun _ => stv_gt (sv_n (i := 2)) (sv_int)) (fun _ => se_tup (sa_cons (se_n (i := 1)) (sa_cons (se_n (i := 2)) (sa_nil))))) (show ∀ j, j < 3 → j ∉ ([1, 2] : List Nat) → j ∈ ([0] : List Nat) by decide)) (sa_nil)))) (sss_nil)
def e_form_sum_1 (K : PySem.W.Frag) : M D := eVar 3
def e_form_sum_2 (K : PySem.W.Frag) : M D := eVar 4
def b_form_sum_3 (K : PySem.W.Frag) : MS := sSeq (sPut (eV (vOp2 gAdd (vOp3 gDk2 (vVar 2) (vVar 3) (vLit (.int 0))) (vVar 4))) (pVar 2) (vVar 3)) (sNil)
def e_form_sum_4 (K : PySem.W.Frag) : M D := eTup (aCons (eVar 3) (aCons (eV (vOp2 gDkF (vVar 2) (vVar 3))) (aNil)))
def m_form_sum (K : PySem.W.Frag) : MS := sSeq (sAsg 2 (eDc [3, 4] (iSq (eVar 0)) (fTup (fCons (fName 3) (fCons (fName 4) (fNil)))) (tTrue) (e_form_sum_1 K) (e_form_sum_2 K))) (sSeq (sFor (iSq (eVar 1)) (fTup (fCons (fName 3) (fCons (fName 4) (fNil)))) (b_form_sum_3 K)) (sSeq (sRet (eOpn gTup (aCons (eLc [3] (iSq (eV (vOpn gSrt (wCons (vOpn gLstD (wCons (vVar 2) (wNil))) (wNil))))) (fName 3) (tTrue) (e_form_sum_4 K)) (aNil)))) (sNil)))
def F_form_sum (K : PySem.W.Frag) : List D → FR := Se.fnOf 5 [] (m_form_sum K)
theorem ff_form_sum {P : Program} {w : World} {K : PySem.W.Frag} {mg : Str → Option Value} {base : Heap} (z : Z K mg) : FK P w K mg base "form_sum" ["one", "other"] (s_form_sum) 1 (F_form_sum K) := by
  obtain ⟨f, fd, hm, F, hb⟩ := z.d_form_sum
  refine ⟨f, fd, hm, F, hb, ?_⟩
  have q := fnN (P := P) (w := w) (mg := mg) (base := base) (k := 0) (C := C0 K) (B := []) (m := (m_form_sum K)) F sc_form_sum
  refine q ?_
  intro cdv A outer s H E hr W tk
  have hu : (XC P w K mg base ["one", "other", "counts", "number", "many"] "form_sum" (defScope s_form_sum) f cdv A outer s H E).A.units + 64 < cLine := by have := hr.un; simp only [XC, cxOf]; omega
  have hpo : PassesOwn (model P w) (XC P w K mg base ["one", "other", "counts", "number", "many"] "form_sum" (defScope s_form_sum) f cdv A outer s H E).A (XC P w K mg base ["one", "other", "counts", "number", "many"] "form_sum" (defScope s_form_sum) f cdv A outer s H E).env (XC P w K mg base ["one", "other", "counts", "number", "many"] "form_sum" (defScope s_form_sum) f cdv A outer s H E).xe := PassesOwn.leaving
  exact sss_cons (ss_setn (i := 2) (se_dc (own := [("number", 3), ("many", 4)]) (B := [0, 1, 2]) rfl sc_form_sum.nd (si_seq rfl (se_n (i := 0))) (BlkOk.mk (N := ["one", "other", "counts", "number", "many"]) (sc := defScope s_form_sum) rfl (by decide +kernel) (by decide +kernel) (by decide +kernel) (by decide +kernel)) (dcp_none (fun _ => sg_tup rfl rfl (sgs_cons (sg_n sc_form_sum.nd (i := 3)) (sgs_cons (sg_n sc_form_sum.nd (i := 4)) (sgs_nil))) (fCons_len (fCons_len (fNil_len)))) (fun _ => se_n (i := 3)) (fun _ => se_n (i := 4))) (show ∀ j, j < 5 → j ∉ ([3, 4] : List Nat) → j ∈ ([0, 1, 2] : List Nat) by decide)) sc_form_sum.nd) (sss_cons (ss_for hpo rfl (si_seq rfl (se_n (i := 1))) (sg_tup rfl rfl (sgs_cons (sg_n sc_form_sum.nd (i := 3)) (sgs_cons (sg_n sc_form_sum.nd (i := 4)) (sgs_nil))) (fCons_len (fCons_len (fNil_len)))) (sss_cons (ss_put hu (sev_add (sv_dget2 hu (sv_n (i := 2)) (sv_n (i := 3)) (sv_int)) (sv_n (i := 4))) (sp_n (i := 2)) (sv_n (i := 3))) (sss_nil))) (sss_cons (ss_ret (se_ctuple z.n_tuple (sa_cons (se_lc (own := [("number", 3)]) (B := [0, 1, 2, 4]) rfl sc_form_sum.nd (si_seq rfl (sev_csrt z.n_sorted (sw_cons (sv_clstD rfl z.n_list (sw_cons (sv_n (i := 2)) (sw_nil))) (sw_nil)))) (BlkOk.mk (N := ["one", "other", "counts", "number", "many"]) (sc := defScope s_form_sum) rfl (by decide +kernel) (by decide +kernel) (by decide +kernel) (by decide +kernel)) (lcp_none (fun _ => sg_n sc_form_sum.nd (i := 3)) (fun _ => se_tup (sa_cons (se_n (i := 3)) (sa_cons (sev_dk hu (sv_n (i := 2)) (sv_n (i := 3))) (sa_nil))))) (show ∀ j, j < 5 → j ∉ ([3] : List Nat) → j ∈ ([0, 1, 2, 4] : List Nat) by decide)) (sa_nil)))) (sss_nil)))
def e__law_forms_right_1 (K : PySem.W.Frag) : M D := eV (vOp2 gAdd (vOp2 ixv (vVar 2) (vVar 13)) (vOp2 ixv (vVar 3) (vVar 13)))
def e__law_forms_right_2 (K : PySem.W.Frag) : M D := eV (vOp2 gSub (vOp2 ixv (vVar 2) (vVar 13)) (vOp2 ixv (vVar 3) (vVar 13)))
def e__law_forms_right_3 (K : PySem.W.Frag) : M D := eV (vOp2 gSub (vLit (.int 0)) (vVar 13))
def e__law_forms_right_4 (K : PySem.W.Frag) : M D := eV (vOp2 gMulA (vOp2 ixv (vVar 10) (vVar 13)) (vOp2 ixv (vVar 4) (vVar 13)))
def b__law_forms_right_5 (K : PySem.W.Frag) : MS := sSeq (sAsg 12 (eOpn gSum (aCons (eLc [13] (iArgs rg1 (aCons (eVar 1) (aNil))) (fName 13) (tTrue) (e__law_forms_right_4 K)) (aNil)))) (sSeq (sIf (tNotM (tE (eCall 2 (F__law_same K 40) (bVal (eVar 12) (bVal (eFz (eCall 2 (F_form_worth K) (bVal (eFz (eCall 1 (F__law_form K) (bVal (eVar 10) (bNil)))) (bVal (eV (vOpn gTup (wCons (vVar 4) (wNil)))) (bNil))))) (bNil)))))) (sSeq (sRet (eLit (.bl false))) (sNil)) (sNil)) (sNil))
def m__law_forms_right (K : PySem.W.Frag) : MS := sSeq (sAsg 1 (eOp2 gAdd (eLit (.int 2)) (eCall 2 (F__law_draw K) (bBor 0 (bVal (eLit (.int 23)) (bNil)))))) (sSeq (sAsg 2 (eCall 2 (F__law_numbers K) (bBor 0 (bVal (eVar 1) (bNil))))) (sSeq (sAsg 3 (eCall 2 (F__law_numbers K) (bBor 0 (bVal (eVar 1) (bNil))))) (sSeq (sAsg 4 (eCall 2 (F__law_worths K) (bBor 0 (bVal (eVar 1) (bNil))))) (sSeq (sAsg 5 (eLc [13] (iArgs rg1 (aCons (eVar 1) (aNil))) (fName 13) (tTrue) (e__law_forms_right_1 K))) (sSeq (sAsg 6 (eOp2 gAdd (eVar 1) (eCall 2 (F__law_draw K) (bBor 0 (bVal (eV (vOp2 gSub (vLit (.int 25)) (vVar 1))) (bNil)))))) (sSeq (sAsg 7 (eCall 1 (F__law_form K) (bVal (eVar 2) (bNil)))) (sSeq (sAsg 8 (eCall 1 (F__law_form K) (bVal (eVar 3) (bNil)))) (sSeq (sAsg 9 (eOp2 gAdd (eLc [13] (iArgs rg1 (aCons (eVar 1) (aNil))) (fName 13) (tTrue) (e__law_forms_right_2 K)) (eOp2 gMulA (eLst (aCons (eLit (.int 0)) (aNil))) (eV (vOp2 gSub (vVar 6) (vVar 1)))))) (sSeq (sIf (tOrM (tNotM (tE (eCall 2 (F__law_same K 40) (bVal (eVar 7) (bVal (eFz (eCall 1 (F_form_of K) (bVal (eV (vOpn gTup (wCons (vVar 2) (wNil)))) (bNil)))) (bNil)))))) (tNotM (tE (eCall 2 (F__law_same K 40) (bVal (eVar 8) (bVal (eFz (eCall 1 (F_form_of K) (bVal (eV (vOpn gTup (wCons (vVar 3) (wNil)))) (bNil)))) (bNil))))))) (sSeq (sRet (eLit (.bl false))) (sNil)) (sNil)) (sSeq (sIf (tOrM (tNotM (tE (eCall 2 (F__law_same K 40) (bVal (eFz (eCall 1 (F__law_form K) (bVal (eVar 5) (bNil)))) (bVal (eFz (eCall 1 (F_form_of K) (bVal (eV (vOpn gTup (wCons (vVar 5) (wNil)))) (bNil)))) (bNil)))))) (tNotM (tE (eCall 2 (F__law_same K 40) (bVal (eFz (eTup (aNil))) (bVal (eFz (eCall 1 (F_form_of K) (bVal (eFz (eOpn gTup (aCons (eOp2 gMulA (eLst (aCons (eLit (.int 0)) (aNil))) (eVar 1)) (aNil)))) (bNil)))) (bNil))))))) (sSeq (sRet (eLit (.bl false))) (sNil)) (sNil)) (sSeq (sIf (tOrM (tNotM (tE (eCall 2 (F__law_same K 40) (bVal (eFz (eCall 1 (F__law_form K) (bVal (eVar 5) (bNil)))) (bVal (eFz (eCall 2 (F_form_sum K) (bVal (eVar 7) (bVal (eVar 8) (bNil))))) (bNil)))))) (tNotM (tE (eCall 2 (F__law_same K 40) (bVal (eFz (eCall 1 (F__law_form K) (bVal (eVar 5) (bNil)))) (bVal (eFz (eCall 2 (F_form_sum K) (bVal (eVar 8) (bVal (eVar 7) (bNil))))) (bNil))))))) (sSeq (sRet (eLit (.bl false))) (sNil)) (sNil)) (sSeq (sIf (tNotM (tE (eCall 2 (F__law_same K 40) (bVal (eV (vOpn gTup (wCons (vVar 9) (wNil)))) (bVal (eFz (eCall 3 (F_form_less K) (bVal (eVar 7) (bVal (eVar 8) (bVal (eVar 6) (bNil)))))) (bNil)))))) (sSeq (sRet (eLit (.bl false))) (sNil)) (sNil)) (sSeq (sIf (tNotM (tE (eCall 2 (F__law_same K 40) (bVal (eFz (eOpn gTup (aCons (eLc [13] (iSq (eVar 9)) (fName 13) (tTrue) (e__law_forms_right_3 K)) (aNil)))) (bVal (eFz (eCallP [0, 2, 1] 3 (F_form_less K) (bVal (eVar 8) (bVal (eVar 6) (bVal (eVar 7) (bNil)))))) (bNil)))))) (sSeq (sRet (eLit (.bl false))) (sNil)) (sNil)) (sSeq (sIf (tNotM (tE (eCall 2 (F__law_same K 40) (bVal (eFz (eOpn gTup (aCons (eOp2 gMulA (eLst (aCons (eLit (.int 0)) (aNil))) (eVar 1)) (aNil)))) (bVal (eFz (eCall 3 (F_form_less K) (bVal (eVar 8) (bVal (eVar 8) (bVal (eVar 1) (bNil)))))) (bNil)))))) (sSeq (sRet (eLit (.bl false))) (sNil)) (sNil)) (sSeq (sFor (iSq (eLst (aCons (eVar 2) (aCons (eVar 3) (aCons (eVar 5) (aNil)))))) (fName 10) (b__law_forms_right_5 K)) (sSeq (sAsg 11 (eCall 2 (F__law_draw K) (bBor 0 (bVal (eVar 1) (bNil))))) (sSeq (sRet (eCall 2 (F__law_same K 40) (bVal (eV (vOp2 gMulA (vOp2 ixv (vVar 4) (vVar 11)) (vLit (.int 3)))) (bVal (eFz (eCallP [1, 0] 2 (F_form_worth K) (bVal (eV (vOpn gTup (wCons (vVar 4) (wNil)))) (bVal (eFz (eTup (aCons (eTup (aCons (eVar 11) (aCons (eLit (.int 3)) (aNil)))) (aNil)))) (bNil))))) (bNil))))) (sNil))))))))))))))))))
def F__law_forms_right (K : PySem.W.Frag) : List D → FR := Se.fnOf 14 [0] (m__law_forms_right K)
theorem ff__law_forms_right {P : Program} {w : World} {K : PySem.W.Frag} {mg : Str → Option Value} {base : Heap} (z : Z K mg) : FK P w K mg base "_law_forms_right" ["pot"] (s__law_forms_right) 42 (F__law_forms_right K) := by
  obtain ⟨f, fd, hm, F, hb⟩ := z.d__law_forms_right
  obtain ⟨f__law_draw, fd__law_draw, hm__law_draw, d__law_draw, hb__law_draw, ok__law_draw⟩ := (ff__law_draw (P := P) (w := w) (base := base) z)
  have hk__law_draw := d__law_draw.kp
  obtain ⟨f__law_form, fd__law_form, hm__law_form, d__law_form, hb__law_form, ok__law_form⟩ := (ff__law_form (P := P) (w := w) (base := base) z)
  have hk__law_form := d__law_form.kp
  obtain ⟨f__law_numbers, fd__law_numbers, hm__law_numbers, d__law_numbers, hb__law_numbers, ok__law_numbers⟩ := (ff__law_numbers (P := P) (w := w) (base := base) z)
  have hk__law_numbers := d__law_numbers.kp
  obtain ⟨f__law_same, fd__law_same, hm__law_same, d__law_same, hb__law_same, ok__law_same⟩ := (ff__law_same (P := P) (w := w) (base := base) z 40)
  have hk__law_same := d__law_same.kp
  obtain ⟨f__law_worths, fd__law_worths, hm__law_worths, d__law_worths, hb__law_worths, ok__law_worths⟩ := (ff__law_worths (P := P) (w := w) (base := base) z)
  have hk__law_worths := d__law_worths.kp
  obtain ⟨f_form_less, fd_form_less, hm_form_less, d_form_less, hb_form_less, ok_form_less⟩ := (ff_form_less (P := P) (w := w) (base := base) z)
  have hk_form_less := d_form_less.kp
  obtain ⟨f_form_of, fd_form_of, hm_form_of, d_form_of, hb_form_of, ok_form_of⟩ := (ff_form_of (P := P) (w := w) (base := base) z)
  have hk_form_of := d_form_of.kp
  obtain ⟨f_form_sum, fd_form_sum, hm_form_sum, d_form_sum, hb_form_sum, ok_form_sum⟩ := (ff_form_sum (P := P) (w := w) (base := base) z)
  have hk_form_sum := d_form_sum.kp
  obtain ⟨f_form_worth, fd_form_worth, hm_form_worth, d_form_worth, hb_form_worth, ok_form_worth⟩ := (ff_form_worth (P := P) (w := w) (base := base) z)
  have hk_form_worth := d_form_worth.kp
  refine ⟨f, fd, hm, F, hb, ?_⟩
  have q := fnN (P := P) (w := w) (mg := mg) (base := base) (k := 41) (C := C0 K) (B := [0]) (m := (m__law_forms_right K)) F sc__law_forms_right
  refine q ?_
  intro cdv A outer s H E hr W tk
  have hu : (XC P w K mg base ["pot", "size", "first", "second", "worths", "both", "wide", "left", "right", "less", "told", "single", "due", "k"] "_law_forms_right" (defScope s__law_forms_right) f cdv A outer s H E).A.units + 64 < cLine := by have := hr.un; simp only [XC, cxOf]; omega
  have hpo : PassesOwn (model P w) (XC P w K mg base ["pot", "size", "first", "second", "worths", "both", "wide", "left", "right", "less", "told", "single", "due", "k"] "_law_forms_right" (defScope s__law_forms_right) f cdv A outer s H E).A (XC P w K mg base ["pot", "size", "first", "second", "worths", "both", "wide", "left", "right", "less", "told", "single", "due", "k"] "_law_forms_right" (defScope s__law_forms_right) f cdv A outer s H E).env (XC P w K mg base ["pot", "size", "first", "second", "worths", "both", "wide", "left", "right", "less", "told", "single", "due", "k"] "_law_forms_right" (defScope s__law_forms_right) f cdv A outer s H E).xe := PassesOwn.leaving
  exact sss_cons (ss_setn (i := 1) (se_add (se_int) (se_call rfl (cal_calm ok__law_draw (hr.mono (by decide))) tk rfl hm__law_draw hk__law_draw hb__law_draw rfl (sab_bor (nm (i := 0)) (sab_val (se_int) (sab_nil))))) sc__law_forms_right.nd) (sss_cons (ss_setn (i := 2) (se_call rfl (cal_calm ok__law_numbers (hr.mono (by decide))) tk rfl hm__law_numbers hk__law_numbers hb__law_numbers rfl (sab_bor (nm (i := 0)) (sab_val (se_n (i := 1)) (sab_nil)))) sc__law_forms_right.nd) (sss_cons (ss_setn (i := 3) (se_call rfl (cal_calm ok__law_numbers (hr.mono (by decide))) tk rfl hm__law_numbers hk__law_numbers hb__law_numbers rfl (sab_bor (nm (i := 0)) (sab_val (se_n (i := 1)) (sab_nil)))) sc__law_forms_right.nd) (sss_cons (ss_setn (i := 4) (se_call rfl (cal_calm ok__law_worths (hr.mono (by decide))) tk rfl hm__law_worths hk__law_worths hb__law_worths rfl (sab_bor (nm (i := 0)) (sab_val (se_n (i := 1)) (sab_nil)))) sc__law_forms_right.nd) (sss_cons (ss_lc (i := 5) (own := [("k", 13)]) (B := [0, 1, 2, 3, 4, 5, 6, 7, 8, 9, 10, 11, 12]) rfl sc__law_forms_right.nd rfl rfl rfl (si_range1 rfl z.n_range (sa_cons (se_n (i := 1)) (sa_nil))) (BlkOk.mk (N := ["pot", "size", "first", "second", "worths", "both", "wide", "left", "right", "less", "told", "single", "due", "k"]) (sc := defScope s__law_forms_right) rfl (by decide +kernel) (by decide +kernel) (by decide +kernel) (by decide +kernel)) (lcp_none (fun _ => sg_n sc__law_forms_right.nd (i := 13)) (fun _ => sev_add (sv_ix (sv_n (i := 2)) (sv_n (i := 13))) (sv_ix (sv_n (i := 3)) (sv_n (i := 13))))) (show ∀ j, j < 14 → j ∉ ([13] : List Nat) → j ∈ ([0, 1, 2, 3, 4, 5, 6, 7, 8, 9, 10, 11, 12] : List Nat) by decide) (by decide)) (sss_cons (ss_setn (i := 6) (se_add (se_n (i := 1)) (se_call rfl (cal_calm ok__law_draw (hr.mono (by decide))) tk rfl hm__law_draw hk__law_draw hb__law_draw rfl (sab_bor (nm (i := 0)) (sab_val (sev_sub (sv_int) (sv_n (i := 1))) (sab_nil))))) sc__law_forms_right.nd) (sss_cons (ss_setn (i := 7) (se_call rfl (cal_calm ok__law_form (hr.mono (by decide))) tk rfl hm__law_form hk__law_form hb__law_form rfl (sab_val (se_n (i := 2)) (sab_nil))) sc__law_forms_right.nd) (sss_cons (ss_setn (i := 8) (se_call rfl (cal_calm ok__law_form (hr.mono (by decide))) tk rfl hm__law_form hk__law_form hb__law_form rfl (sab_val (se_n (i := 3)) (sab_nil))) sc__law_forms_right.nd) (sss_cons (ss_setn (i := 9) (se_add (se_lc (own := [("k", 13)]) (B := [0, 1, 2, 3, 4, 5, 6, 7, 8, 9, 10, 11, 12]) rfl sc__law_forms_right.nd (si_range1 rfl z.n_range (sa_cons (se_n (i := 1)) (sa_nil))) (BlkOk.mk (N := ["pot", "size", "first", "second", "worths", "both", "wide", "left", "right", "less", "told", "single", "due", "k"]) (sc := defScope s__law_forms_right) rfl (by decide +kernel) (by decide +kernel) (by decide +kernel) (by decide +kernel)) (lcp_none (fun _ => sg_n sc__law_forms_right.nd (i := 13)) (fun _ => sev_sub (sv_ix (sv_n (i := 2)) (sv_n (i := 13))) (sv_ix (sv_n (i := 3)) (sv_n (i := 13))))) (show ∀ j, j < 14 → j ∉ ([13] : List Nat) → j ∈ ([0, 1, 2, 3, 4, 5, 6, 7, 8, 9, 10, 11, 12] : List Nat) by decide)) (se_mul (se_lst (sa_cons (se_int) (sa_nil))) (sev_sub (sv_n (i := 6)) (sv_n (i := 1))))) sc__law_forms_right.nd) (sss_cons (ss_if (stw_t (stw_or (st_not (st_t (se_call rfl (cal_calm ok__law_same (hr.mono (by decide))) tk rfl hm__law_same hk__law_same hb__law_same rfl (sab_val (se_n (i := 7)) (sab_val (se_fz (se_call rfl (cal_calm ok_form_of (hr.mono (by decide))) tk rfl hm_form_of hk_form_of hb_form_of rfl (sab_val (sev_ctuple z.n_tuple (sw_cons (sv_n (i := 2)) (sw_nil))) (sab_nil)))) (sab_nil)))))) (stw_or1 (st_not (st_t (se_call rfl (cal_calm ok__law_same (hr.mono (by decide))) tk rfl hm__law_same hk__law_same hb__law_same rfl (sab_val (se_n (i := 8)) (sab_val (se_fz (se_call rfl (cal_calm ok_form_of (hr.mono (by decide))) tk rfl hm_form_of hk_form_of hb_form_of rfl (sab_val (sev_ctuple z.n_tuple (sw_cons (sv_n (i := 3)) (sw_nil))) (sab_nil)))) (sab_nil))))))))) (sss_cons (ss_ret (se_bl)) (sss_nil)) (sss_nil)) (sss_cons (ss_if (stw_t (stw_or (st_not (st_t (se_call rfl (cal_calm ok__law_same (hr.mono (by decide))) tk rfl hm__law_same hk__law_same hb__law_same rfl (sab_val (se_fz (se_call rfl (cal_calm ok__law_form (hr.mono (by decide))) tk rfl hm__law_form hk__law_form hb__law_form rfl (sab_val (se_n (i := 5)) (sab_nil)))) (sab_val (se_fz (se_callK rfl (cal_calm ok_form_of (hr.mono (by decide))) tk rfl hm_form_of hk_form_of (bkI d_form_of fun _ _ _ _ _ _ ws hl => match ws, hl with | [_], _ => rfl) rfl (skw_val (sev_ctuple z.n_tuple (sw_cons (sv_n (i := 5)) (sw_nil))) (skw_nil)))) (sab_nil)))))) (stw_or1 (st_not (st_t (se_call rfl (cal_calm ok__law_same (hr.mono (by decide))) tk rfl hm__law_same hk__law_same hb__law_same rfl (sab_val (se_fz (se_tup (sa_nil))) (sab_val (se_fz (se_call rfl (cal_calm ok_form_of (hr.mono (by decide))) tk rfl hm_form_of hk_form_of hb_form_of rfl (sab_val (se_fz (se_ctuple z.n_tuple (sa_cons (se_mul (se_lst (sa_cons (se_int) (sa_nil))) (se_n (i := 1))) (sa_nil)))) (sab_nil)))) (sab_nil))))))))) (sss_cons (ss_ret (se_bl)) (sss_nil)) (sss_nil)) (sss_cons (ss_if (stw_t (stw_or (st_not (st_t (se_call rfl (cal_calm ok__law_same (hr.mono (by decide))) tk rfl hm__law_same hk__law_same hb__law_same rfl (sab_val (se_fz (se_call rfl (cal_calm ok__law_form (hr.mono (by decide))) tk rfl hm__law_form hk__law_form hb__law_form rfl (sab_val (se_n (i := 5)) (sab_nil)))) (sab_val (se_fz (se_call rfl (cal_calm ok_form_sum (hr.mono (by decide))) tk rfl hm_form_sum hk_form_sum hb_form_sum rfl (sab_val (se_n (i := 7)) (sab_val (se_n (i := 8)) (sab_nil))))) (sab_nil)))))) (stw_or1 (st_not (st_t (se_call rfl (cal_calm ok__law_same (hr.mono (by decide))) tk rfl hm__law_same hk__law_same hb__law_same rfl (sab_val (se_fz (se_call rfl (cal_calm ok__law_form (hr.mono (by decide))) tk rfl hm__law_form hk__law_form hb__law_form rfl (sab_val (se_n (i := 5)) (sab_nil)))) (sab_val (se_fz (se_call rfl (cal_calm ok_form_sum (hr.mono (by decide))) tk rfl hm_form_sum hk_form_sum hb_form_sum rfl (sab_val (se_n (i := 8)) (sab_val (se_n (i := 7)) (sab_nil))))) (sab_nil))))))))) (sss_cons (ss_ret (se_bl)) (sss_nil)) (sss_nil)) (sss_cons (ss_if (st_not (st_t (se_call rfl (cal_calm ok__law_same (hr.mono (by decide))) tk rfl hm__law_same hk__law_same hb__law_same rfl (sab_val (sev_ctuple z.n_tuple (sw_cons (sv_n (i := 9)) (sw_nil))) (sab_val (se_fz (se_call rfl (cal_calm ok_form_less (hr.mono (by decide))) tk rfl hm_form_less hk_form_less hb_form_less rfl (sab_val (se_n (i := 7)) (sab_val (se_n (i := 8)) (sab_val (se_n (i := 6)) (sab_nil)))))) (sab_nil)))))) (sss_cons (ss_ret (se_bl)) (sss_nil)) (sss_nil)) (sss_cons (ss_if (st_not (st_t (se_call rfl (cal_calm ok__law_same (hr.mono (by decide))) tk rfl hm__law_same hk__law_same hb__law_same rfl (sab_val (se_fz (se_ctuple z.n_tuple (sa_cons (se_lc (own := [("k", 13)]) (B := [0, 1, 2, 3, 4, 5, 6, 7, 8, 9, 10, 11, 12]) rfl sc__law_forms_right.nd (si_seq rfl (se_n (i := 9))) (BlkOk.mk (N := ["pot", "size", "first", "second", "worths", "both", "wide", "left", "right", "less", "told", "single", "due", "k"]) (sc := defScope s__law_forms_right) rfl (by decide +kernel) (by decide +kernel) (by decide +kernel) (by decide +kernel)) (lcp_none (fun _ => sg_n sc__law_forms_right.nd (i := 13)) (fun _ => sev_sub (sv_int) (sv_n (i := 13)))) (show ∀ j, j < 14 → j ∉ ([13] : List Nat) → j ∈ ([0, 1, 2, 3, 4, 5, 6, 7, 8, 9, 10, 11, 12] : List Nat) by decide)) (sa_nil)))) (sab_val (se_fz (se_callP (ks := ["one", "many", "other"]) rfl (cal_calm ok_form_less (hr.mono (by decide))) tk rfl hm_form_less hk_form_less (bkP d_form_less (by decide) (by decide) rfl rfl fun _ _ _ _ _ _ ws hl => match ws, hl with | [_, _, _], _ => rfl) rfl (skw_val (se_n (i := 8)) (skw_val (se_n (i := 6)) (skw_val (se_n (i := 7)) (skw_nil)))))) (sab_nil)))))) (sss_cons (ss_ret (se_bl)) (sss_nil)) (sss_nil)) (sss_cons (ss_if (st_not (st_t (se_call rfl (cal_calm ok__law_same (hr.mono (by decide))) tk rfl hm__law_same hk__law_same hb__law_same rfl (sab_val (se_fz (se_ctuple z.n_tuple (sa_cons (se_mul (se_lst (sa_cons (se_int) (sa_nil))) (se_n (i := 1))) (sa_nil)))) (sab_val (se_fz (se_call rfl (cal_calm ok_form_less (hr.mono (by decide))) tk rfl hm_form_less hk_form_less hb_form_less rfl (sab_val (se_n (i := 8)) (sab_val (se_n (i := 8)) (sab_val (se_n (i := 1)) (sab_nil)))))) (sab_nil)))))) (sss_cons (ss_ret (se_bl)) (sss_nil)) (sss_nil)) (sss_cons (ss_for hpo rfl (si_seq rfl (se_lst (sa_cons (se_n (i := 2)) (sa_cons (se_n (i := 3)) (sa_cons (se_n (i := 5)) (sa_nil)))))) (sg_n sc__law_forms_right.nd (i := 10)) (sss_cons (ss_setn (i := 12) (se_csum rfl z.n_sum (sa_cons (se_lc (own := [("k", 13)]) (B := [0, 1, 2, 3, 4, 5, 6, 7, 8, 9, 10, 11, 12]) rfl sc__law_forms_right.nd (si_range1 rfl z.n_range (sa_cons (se_n (i := 1)) (sa_nil))) (BlkOk.mk (N := ["pot", "size", "first", "second", "worths", "both", "wide", "left", "right", "less", "told", "single", "due", "k"]) (sc := defScope s__law_forms_right) rfl (by decide +kernel) (by decide +kernel) (by decide +kernel) (by decide +kernel)) (lcp_none (fun _ => sg_n sc__law_forms_right.nd (i := 13)) (fun _ => sev_mul (sv_ix (sv_n (i := 10)) (sv_n (i := 13))) (sv_ix (sv_n (i := 4)) (sv_n (i := 13))))) (show ∀ j, j < 14 → j ∉ ([13] : List Nat) → j ∈ ([0, 1, 2, 3, 4, 5, 6, 7, 8, 9, 10, 11, 12] : List Nat) by decide)) (sa_nil))) sc__law_forms_right.nd) (sss_cons (ss_if (st_not (st_t (se_call rfl (cal_calm ok__law_same (hr.mono (by decide))) tk rfl hm__law_same hk__law_same hb__law_same rfl (sab_val (se_n (i := 12)) (sab_val (se_fz (se_call rfl (cal_calm ok_form_worth (hr.mono (by decide))) tk rfl hm_form_worth hk_form_worth hb_form_worth rfl (sab_val (se_fz (se_call rfl (cal_calm ok__law_form (hr.mono (by decide))) tk rfl hm__law_form hk__law_form hb__law_form rfl (sab_val (se_n (i := 10)) (sab_nil)))) (sab_val (sev_ctuple z.n_tuple (sw_cons (sv_n (i := 4)) (sw_nil))) (sab_nil))))) (sab_nil)))))) (sss_cons (ss_ret (se_bl)) (sss_nil)) (sss_nil)) (sss_nil)))) (sss_cons (ss_setn (i := 11) (se_call rfl (cal_calm ok__law_draw (hr.mono (by decide))) tk rfl hm__law_draw hk__law_draw hb__law_draw rfl (sab_bor (nm (i := 0)) (sab_val (se_n (i := 1)) (sab_nil)))) sc__law_forms_right.nd) (sss_cons (ss_ret (se_call rfl (cal_calm ok__law_same (hr.mono (by decide))) tk rfl hm__law_same hk__law_same hb__law_same rfl (sab_val (sev_mul (sv_ix (sv_n (i := 4)) (sv_n (i := 11))) (sv_int)) (sab_val (se_fz (se_callP (ks := ["sizes", "form"]) rfl (cal_calm ok_form_worth (hr.mono (by decide))) tk rfl hm_form_worth hk_form_worth (bkP d_form_worth (by decide) (by decide) rfl rfl fun _ _ _ _ _ _ ws hl => match ws, hl with | [_, _], _ => rfl) rfl (skw_val (sev_ctuple z.n_tuple (sw_cons (sv_n (i := 4)) (sw_nil))) (skw_val (se_fz (se_tup (sa_cons (se_tup (sa_cons (se_n (i := 11)) (sa_cons (se_int) (sa_nil)))) (sa_nil)))) (skw_nil))))) (sab_nil))))) (sss_nil))))))))))))))))))
def e__law_call_1 (K : PySem.W.Frag) : M D := eCall 2 (F__law_draw K) (bBor 0 (bVal (eV (vOpn gLen (wCons (vVar 2) (wNil)))) (bNil)))
def e__law_call_2 (K : PySem.W.Frag) : M D := eV (vOpn gMaxS (wCons (vOp2 ixv (vVar 2) (vVar 11)) (wNil)))
def b__law_call_3 (K : PySem.W.Frag) : MS := sSeq (sExpr (eMut gmAppend (pVar 2) (aCons (eTup (aCons (eV (vOp2 gMulA (vVar 8) (vVar 7))) (aCons (eV (vOp2 gMulA (vVar 9) (vVar 7))) (aNil)))) (aNil)))) (sNil)
def m__law_call (K : PySem.W.Frag) : MS := sSeq (sAsg 4 (eCall 2 (F__law_draw K) (bBor 0 (bVal (eV (vOpn gLen (wCons (vVar 1) (wNil)))) (bNil))))) (sSeq (sAsg 5 (eV (vOp2 gIx (vVar 1) (vVar 4)))) (sSeq (sAsg 6 (eOpn gTup (aCons (eLc [10] (iArgs rg1 (aCons (eOp2 gIx (eVar 5) (eLit (.int 0))) (aNil))) (fName 10) (tTrue) (e__law_call_1 K)) (aNil)))) (sSeq (sAsg 7 (eOpn gMaxS (aCons (eLc [11] (iSq (eVar 6)) (fName 11) (tTrue) (e__law_call_2 K)) (aNil)))) (sSeq (sIf (tOrM (Se.tB (eV (vOp2 (gCmp fun i j => decide (i > j)) (vOp2 gAdd (vOp2 ixv (vVar 3) (vLit (.int 0))) (vOp2 ixv (vVar 5) (vLit (.int 1)))) (vLit (.int 24))))) (tOrM (Se.tB (eV (vOp2 (gCmp fun i j => decide (i > j)) (vOp2 gAdd (vOp2 gAdd (vOp2 ixv (vVar 3) (vLit (.int 1))) (vOp2 ixv (vVar 5) (vLit (.int 2)))) (vLit (.int 1))) (vLit (.int 58))))) (tOrM (Se.tB (eV (vOp2 (gCmp fun i j => decide (i > j)) (vOp2 gAdd (vOp2 ixv (vVar 3) (vLit (.int 2))) (vOp2 ixv (vVar 5) (vLit (.int 3)))) (vLit (.int 58))))) (Se.tB (eV (vOp2 (gCmp fun i j => decide (i > j)) (vOp2 gMulA (vOp2 ixv (vVar 5) (vLit (.int 4))) (vVar 7)) (vLit (.int 250000)))))))) (sSeq (sRet (eTup (aNil))) (sNil)) (sNil)) (sSeq (sSet (eV (vOp2 gAdd (vOp2 ixv (vVar 3) (vLit (.int 0))) (vOp2 ixv (vVar 5) (vLit (.int 1))))) (pVar 3) (vLit (.int 0))) (sSeq (sSet (eV (vOp2 gAdd (vOp2 gAdd (vOp2 ixv (vVar 3) (vLit (.int 1))) (vOp2 ixv (vVar 5) (vLit (.int 2)))) (vLit (.int 1)))) (pVar 3) (vLit (.int 1))) (sSeq (sSet (eV (vOp2 gAdd (vOp2 ixv (vVar 3) (vLit (.int 2))) (vOp2 ixv (vVar 5) (vLit (.int 3))))) (pVar 3) (vLit (.int 2))) (sSeq (sSet (eV (vOpn gMax (wCons (vOp2 ixv (vVar 3) (vLit (.int 3))) (wCons (vOp2 gMulA (vOp2 ixv (vVar 5) (vLit (.int 4))) (vVar 7)) (wNil))))) (pVar 3) (vLit (.int 3))) (sSeq (sFor (iSq (eOp2 gIx (eVar 5) (eLit (.int 5)))) (fTup (fCons (fName 8) (fCons (fName 9) (fNil)))) (b__law_call_3 K)) (sSeq (sRet (eTup (aCons (eLit (.str [99, 97, 108, 108])) (aCons (eMove 4) (aCons (eMove 6) (aNil)))))) (sNil)))))))))))
def F__law_call (K : PySem.W.Frag) : List D → FR := Se.fnOf 12 [0, 1, 2, 3] (m__law_call K)
theorem ff__law_call {P : Program} {w : World} {K : PySem.W.Frag} {mg : Str → Option Value} {base : Heap} (z : Z K mg) : FK P w K mg base "_law_call" ["pot", "known", "ends", "state"] (s__law_call) 2 (F__law_call K) := by
  obtain ⟨f, fd, hm, F, hb⟩ := z.d__law_call
  obtain ⟨f__law_draw, fd__law_draw, hm__law_draw, d__law_draw, hb__law_draw, ok__law_draw⟩ := (ff__law_draw (P := P) (w := w) (base := base) z)
  have hk__law_draw := d__law_draw.kp
  refine ⟨f, fd, hm, F, hb, ?_⟩
  have q := fnN (P := P) (w := w) (mg := mg) (base := base) (k := 1) (C := C0 K) (B := [0, 1, 2, 3]) (m := (m__law_call K)) F sc__law_call
  refine q ?_
  intro cdv A outer s H E hr W tk
  have hu : (XC P w K mg base ["pot", "known", "ends", "state", "p", "below", "args", "most", "rows", "columns", "k", "a"] "_law_call" (defScope s__law_call) f cdv A outer s H E).A.units + 64 < cLine := by have := hr.un; simp only [XC, cxOf]; omega
  have hpo : PassesOwn (model P w) (XC P w K mg base ["pot", "known", "ends", "state", "p", "below", "args", "most", "rows", "columns", "k", "a"] "_law_call" (defScope s__law_call) f cdv A outer s H E).A (XC P w K mg base ["pot", "known", "ends", "state", "p", "below", "args", "most", "rows", "columns", "k", "a"] "_law_call" (defScope s__law_call) f cdv A outer s H E).env (XC P w K mg base ["pot", "known", "ends", "state", "p", "below", "args", "most", "rows", "columns", "k", "a"] "_law_call" (defScope s__law_call) f cdv A outer s H E).xe := PassesOwn.leaving
  exact sss_cons (ss_setn (i := 4) (se_call rfl (cal_calm ok__law_draw (hr.mono (by decide))) tk rfl hm__law_draw hk__law_draw hb__law_draw rfl (sab_bor (nm (i := 0)) (sab_val (sev_clen z.n_len (sw_cons (sv_n (i := 1)) (sw_nil))) (sab_nil)))) sc__law_call.nd) (sss_cons (ss_setn (i := 5) (sev_ix (sv_n (i := 1)) (sv_n (i := 4))) sc__law_call.nd) (sss_cons (ss_setn (i := 6) (se_ctuple z.n_tuple (sa_cons (se_lc (own := [("k", 10)]) (B := [0, 1, 2, 3, 4, 5, 6, 7, 8, 9, 11]) rfl sc__law_call.nd (si_range1 rfl z.n_range (sa_cons (se_ix (se_n (i := 5)) (se_int)) (sa_nil))) (BlkOk.mk (N := ["pot", "known", "ends", "state", "p", "below", "args", "most", "rows", "columns", "k", "a"]) (sc := defScope s__law_call) rfl (by decide +kernel) (by decide +kernel) (by decide +kernel) (by decide +kernel)) (lcp_none (fun _ => sg_n sc__law_call.nd (i := 10)) (fun _ => se_call rfl (cal_calm ok__law_draw (hr.mono (by decide))) takes0 rfl hm__law_draw hk__law_draw hb__law_draw rfl (sab_bor (nm (i := 0)) (sab_val (sev_clen z.n_len (sw_cons (sv_n (i := 2)) (sw_nil))) (sab_nil))))) (show ∀ j, j < 12 → j ∉ ([10] : List Nat) → j ∈ ([0, 1, 2, 3, 4, 5, 6, 7, 8, 9, 11] : List Nat) by decide)) (sa_nil))) sc__law_call.nd) (sss_cons (ss_setn (i := 7) (se_cmaxs rfl hu z.n_max (sa_cons (se_lc (own := [("a", 11)]) (B := [0, 1, 2, 3, 4, 5, 6, 7, 8, 9, 10]) rfl sc__law_call.nd (si_seq rfl (se_n (i := 6))) (BlkOk.mk (N := ["pot", "known", "ends", "state", "p", "below", "args", "most", "rows", "columns", "k", "a"]) (sc := defScope s__law_call) rfl (by decide +kernel) (by decide +kernel) (by decide +kernel) (by decide +kernel)) (lcp_none (fun _ => sg_n sc__law_call.nd (i := 11)) (fun _ => sev_cmaxs rfl hu z.n_max (sw_cons (sv_ix (sv_n (i := 2)) (sv_n (i := 11))) (sw_nil)))) (show ∀ j, j < 12 → j ∉ ([11] : List Nat) → j ∈ ([0, 1, 2, 3, 4, 5, 6, 7, 8, 9, 10] : List Nat) by decide)) (sa_nil))) sc__law_call.nd) (sss_cons (ss_if (stw_t (stw_or (stv_gt (sv_add (sv_ix (sv_n (i := 3)) (sv_int)) (sv_ix (sv_n (i := 5)) (sv_int))) (sv_int)) (stw_or (stv_gt (sv_add (sv_add (sv_ix (sv_n (i := 3)) (sv_int)) (sv_ix (sv_n (i := 5)) (sv_int))) (sv_int)) (sv_int)) (stw_or (stv_gt (sv_add (sv_ix (sv_n (i := 3)) (sv_int)) (sv_ix (sv_n (i := 5)) (sv_int))) (sv_int)) (stw_or1 (stv_gt (sv_mul (sv_ix (sv_n (i := 5)) (sv_int)) (sv_n (i := 7))) (sv_int))))))) (sss_cons (ss_ret (se_tup (sa_nil))) (sss_nil)) (sss_nil)) (sss_cons (ss_set (sev_add (sv_ix (sv_n (i := 3)) (sv_int)) (sv_ix (sv_n (i := 5)) (sv_int))) (sp_n (i := 3)) (sv_int)) (sss_cons (ss_set (sev_add (sv_add (sv_ix (sv_n (i := 3)) (sv_int)) (sv_ix (sv_n (i := 5)) (sv_int))) (sv_int)) (sp_n (i := 3)) (sv_int)) (sss_cons (ss_set (sev_add (sv_ix (sv_n (i := 3)) (sv_int)) (sv_ix (sv_n (i := 5)) (sv_int))) (sp_n (i := 3)) (sv_int)) (sss_cons (ss_set (sev_cmax rfl z.n_max (sw_cons (sv_ix (sv_n (i := 3)) (sv_int)) (sw_cons (sv_mul (sv_ix (sv_n (i := 5)) (sv_int)) (sv_n (i := 7))) (sw_nil)))) (sp_n (i := 3)) (sv_int)) (sss_cons (ss_for hpo rfl (si_seq rfl (se_ix (se_n (i := 5)) (se_int))) (sg_tup rfl rfl (sgs_cons (sg_n sc__law_call.nd (i := 8)) (sgs_cons (sg_n sc__law_call.nd (i := 9)) (sgs_nil))) (fCons_len (fCons_len (fNil_len)))) (sss_cons (ss_expr (se_append (sp_n (i := 2)) (sa_cons (se_tup (sa_cons (sev_mul (sv_n (i := 8)) (sv_n (i := 7))) (sa_cons (sev_mul (sv_n (i := 9)) (sv_n (i := 7))) (sa_nil)))) (sa_nil)))) (sss_nil))) (sss_cons (ss_ret (se_tup (sa_cons (se_str [99, 97, 108, 108] rfl) (sa_cons (se_m (i := 4)) (sa_cons (se_m (i := 6)) (sa_nil)))))) (sss_nil)))))))))))
def e__law_plain_1 (K : PySem.W.Frag) : M D := eV (vOpn gMaxS (wCons (vVar 6) (wNil)))
def m__law_plain (K : PySem.W.Frag) : MS := sSeq (sAsg 4 (eCall 2 (F__law_draw K) (bBor 0 (bVal (eV (vOpn gLen (wCons (vVar 2) (wNil)))) (bNil))))) (sSeq (sAsg 5 (eCall 2 (F__law_draw K) (bBor 0 (bVal (eV (vOpn gLen (wCons (vVar 2) (wNil)))) (bNil))))) (sSeq (sIf (Se.tB (eV (vOp2 gEq (vVar 1) (vLit (.str [116, 117, 114, 110]))))) (sSeq (sExpr (eMutQ gmAppend (pVar 2) (wCons (vTup (wCons (vOp2 ixv (vOp2 ixv (vVar 2) (vVar 4)) (vLit (.int 1))) (wCons (vOp2 ixv (vOp2 ixv (vVar 2) (vVar 4)) (vLit (.int 0))) (wNil)))) (wNil)))) (sSeq (sRet (eTup (aCons (eMove 1) (aCons (eMove 4) (aNil))))) (sNil))) (sNil)) (sSeq (sIf (Se.tB (eV (vOp2 gEq (vVar 1) (vLit (.str [99, 117, 116]))))) (sSeq (sExpr (eMutQ gmAppend (pVar 2) (wCons (vTup (wCons (vOp2 ixv (vOp2 ixv (vVar 2) (vVar 4)) (vLit (.int 0))) (wCons (vLit (.int 1)) (wNil)))) (wNil)))) (sSeq (sExpr (eMutQ gmAppend (pVar 2) (wCons (vTup (wCons (vOp2 ixv (vOp2 ixv (vVar 2) (vVar 4)) (vLit (.int 0))) (wCons (vLit (.int 1)) (wNil)))) (wNil)))) (sSeq (sRet (eTup (aCons (eMove 1) (aCons (eMove 4) (aNil))))) (sNil)))) (sNil)) (sSeq (sIf (Se.tB (eV (vOp2 gEq (vVar 1) (vLit (.str [115, 112, 108, 105, 116]))))) (sSeq (sExpr (eMutQ gmAppend (pVar 2) (wCons (vTup (wCons (vLit (.int 1)) (wCons (vOp2 ixv (vOp2 ixv (vVar 2) (vVar 4)) (vLit (.int 1))) (wNil)))) (wNil)))) (sSeq (sExpr (eMutQ gmAppend (pVar 2) (wCons (vTup (wCons (vLit (.int 1)) (wCons (vOp2 ixv (vOp2 ixv (vVar 2) (vVar 4)) (vLit (.int 1))) (wNil)))) (wNil)))) (sSeq (sRet (eTup (aCons (eMove 1) (aCons (eMove 4) (aNil))))) (sNil)))) (sNil)) (sSeq (sIf (Se.tB (eV (vOp2 gEq (vVar 1) (vLit (.str [115, 113, 117, 97, 114, 101]))))) (sSeq (sRet (eTup (aCons (eMove 1) (aCons (eMove 4) (aNil))))) (sNil)) (sNil)) (sSeq (sIf (Se.tB (eV (vOp2 gEq (vVar 1) (vLit (.str [116, 105, 109, 101, 115]))))) (sSeq (sExpr (eMutQ gmAppend (pVar 2) (wCons (vTup (wCons (vOp2 ixv (vOp2 ixv (vVar 2) (vVar 4)) (vLit (.int 0))) (wCons (vOp2 ixv (vOp2 ixv (vVar 2) (vVar 5)) (vLit (.int 1))) (wNil)))) (wNil)))) (sNil)) (sSeq (sIf (tOrM (Se.tB (eV (vOp2 gEq (vVar 1) (vLit (.str [112, 108, 117, 115]))))) (Se.tB (eV (vOp2 gEq (vVar 1) (vLit (.str [108, 101, 115, 115])))))) (sSeq (sExpr (eMutQ gmAppend (pVar 2) (wCons (vOp2 ixv (vVar 2) (vVar 4)) (wNil)))) (sNil)) (sSeq (sIf (Se.tB (eV (vOp2 gEq (vVar 1) (vLit (.str [98, 101, 115, 105, 100, 101]))))) (sSeq (sExpr (eMutQ gmAppend (pVar 2) (wCons (vTup (wCons (vOp2 ixv (vOp2 ixv (vVar 2) (vVar 4)) (vLit (.int 0))) (wCons (vOp2 gAdd (vOp2 ixv (vOp2 ixv (vVar 2) (vVar 4)) (vLit (.int 1))) (vOp2 ixv (vOp2 ixv (vVar 2) (vVar 5)) (vLit (.int 1)))) (wNil)))) (wNil)))) (sNil)) (sSeq (sIf (Se.tB (eV (vOp2 gEq (vVar 1) (vLit (.str [97, 98, 111, 118, 101]))))) (sSeq (sExpr (eMutQ gmAppend (pVar 2) (wCons (vTup (wCons (vOp2 gAdd (vOp2 ixv (vOp2 ixv (vVar 2) (vVar 4)) (vLit (.int 0))) (vOp2 ixv (vOp2 ixv (vVar 2) (vVar 5)) (vLit (.int 0)))) (wCons (vOp2 ixv (vOp2 ixv (vVar 2) (vVar 4)) (vLit (.int 1))) (wNil)))) (wNil)))) (sNil)) (sNil)) (sNil))) (sNil))) (sNil))) (sSeq (sSet (eOpn gMaxS (aCons (eOp2 gAdd (eLst (aCons (eV (vOp2 gIx (vVar 3) (vLit (.int 3)))) (aNil))) (eLcL 2 [6] (fName 6) (tTrue) (e__law_plain_1 K))) (aNil))) (pVar 3) (vLit (.int 3))) (sSeq (sRet (eTup (aCons (eMove 1) (aCons (eMove 4) (aCons (eMove 5) (aNil)))))) (sNil)))))))))
def F__law_plain (K : PySem.W.Frag) : List D → FR := Se.fnOf 7 [0, 2, 3] (m__law_plain K)
theorem ff__law_plain {P : Program} {w : World} {K : PySem.W.Frag} {mg : Str → Option Value} {base : Heap} (z : Z K mg) : FK P w K mg base "_law_plain" ["pot", "word", "ends", "state"] (s__law_plain) 2 (F__law_plain K) := by
  obtain ⟨f, fd, hm, F, hb⟩ := z.d__law_plain
  obtain ⟨f__law_draw, fd__law_draw, hm__law_draw, d__law_draw, hb__law_draw, ok__law_draw⟩ := (ff__law_draw (P := P) (w := w) (base := base) z)
  have hk__law_draw := d__law_draw.kp
  refine ⟨f, fd, hm, F, hb, ?_⟩
  have q := fnN (P := P) (w := w) (mg := mg) (base := base) (k := 1) (C := C0 K) (B := [0, 2, 3]) (m := (m__law_plain K)) F sc__law_plain
  refine q ?_
  intro cdv A outer s H E hr W tk
  have hu : (XC P w K mg base ["pot", "word", "ends", "state", "a", "b", "end"] "_law_plain" (defScope s__law_plain) f cdv A outer s H E).A.units + 64 < cLine := by have := hr.un; simp only [XC, cxOf]; omega
  have hpo : PassesOwn (model P w) (XC P w K mg base ["pot", "word", "ends", "state", "a", "b", "end"] "_law_plain" (defScope s__law_plain) f cdv A outer s H E).A (XC P w K mg base ["pot", "word", "ends", "state", "a", "b", "end"] "_law_plain" (defScope s__law_plain) f cdv A outer s H E).env (XC P w K mg base ["pot", "word", "ends", "state", "a", "b", "end"] "_law_plain" (defScope s__law_plain) f cdv A outer s H E).xe := PassesOwn.leaving
  exact sss_cons (ss_setn (i := 4) (se_call rfl (cal_calm ok__law_draw (hr.mono (by decide))) tk rfl hm__law_draw hk__law_draw hb__law_draw rfl (sab_bor (nm (i := 0)) (sab_val (sev_clen z.n_len (sw_cons (sv_n (i := 2)) (sw_nil))) (sab_nil)))) sc__law_plain.nd) (sss_cons (ss_setn (i := 5) (se_call rfl (cal_calm ok__law_draw (hr.mono (by decide))) tk rfl hm__law_draw hk__law_draw hb__law_draw rfl (sab_bor (nm (i := 0)) (sab_val (sev_clen z.n_len (sw_cons (sv_n (i := 2)) (sw_nil))) (sab_nil)))) sc__law_plain.nd) (sss_cons (ss_if (stv_eq hu (sv_n (i := 1)) (sv_str [116, 117, 114, 110] rfl)) (sss_cons (ss_expr (se_appendQ (sp_n (i := 2)) (sw_cons (sv_tup (sw_cons (sv_ix (sv_ix (sv_n (i := 2)) (sv_n (i := 4))) (sv_int)) (sw_cons (sv_ix (sv_ix (sv_n (i := 2)) (sv_n (i := 4))) (sv_int)) (sw_nil)))) (sw_nil)))) (sss_cons (ss_ret (se_tup (sa_cons (se_m (i := 1)) (sa_cons (se_m (i := 4)) (sa_nil))))) (sss_nil))) (sss_nil)) (sss_cons (ss_if (stv_eq hu (sv_n (i := 1)) (sv_str [99, 117, 116] rfl)) (sss_cons (ss_expr (se_appendQ (sp_n (i := 2)) (sw_cons (sv_tup (sw_cons (sv_ix (sv_ix (sv_n (i := 2)) (sv_n (i := 4))) (sv_int)) (sw_cons (sv_int) (sw_nil)))) (sw_nil)))) (sss_cons (ss_expr (se_appendQ (sp_n (i := 2)) (sw_cons (sv_tup (sw_cons (sv_ix (sv_ix (sv_n (i := 2)) (sv_n (i := 4))) (sv_int)) (sw_cons (sv_int) (sw_nil)))) (sw_nil)))) (sss_cons (ss_ret (se_tup (sa_cons (se_m (i := 1)) (sa_cons (se_m (i := 4)) (sa_nil))))) (sss_nil)))) (sss_nil)) (sss_cons (ss_if (stv_eq hu (sv_n (i := 1)) (sv_str [115, 112, 108, 105, 116] rfl)) (sss_cons (ss_expr (se_appendQ (sp_n (i := 2)) (sw_cons (sv_tup (sw_cons (sv_int) (sw_cons (sv_ix (sv_ix (sv_n (i := 2)) (sv_n (i := 4))) (sv_int)) (sw_nil)))) (sw_nil)))) (sss_cons (ss_expr (se_appendQ (sp_n (i := 2)) (sw_cons (sv_tup (sw_cons (sv_int) (sw_cons (sv_ix (sv_ix (sv_n (i := 2)) (sv_n (i := 4))) (sv_int)) (sw_nil)))) (sw_nil)))) (sss_cons (ss_ret (se_tup (sa_cons (se_m (i := 1)) (sa_cons (se_m (i := 4)) (sa_nil))))) (sss_nil)))) (sss_nil)) (sss_cons (ss_if (stv_eq hu (sv_n (i := 1)) (sv_str [115, 113, 117, 97, 114, 101] rfl)) (sss_cons (ss_ret (se_tup (sa_cons (se_m (i := 1)) (sa_cons (se_m (i := 4)) (sa_nil))))) (sss_nil)) (sss_nil)) (sss_cons (ss_if (stv_eq hu (sv_n (i := 1)) (sv_str [116, 105, 109, 101, 115] rfl)) (sss_cons (ss_expr (se_appendQ (sp_n (i := 2)) (sw_cons (sv_tup (sw_cons (sv_ix (sv_ix (sv_n (i := 2)) (sv_n (i := 4))) (sv_int)) (sw_cons (sv_ix (sv_ix (sv_n (i := 2)) (sv_n (i := 5))) (sv_int)) (sw_nil)))) (sw_nil)))) (sss_nil)) (sss_cons (ss_if (stw_t (stw_or (stv_eq hu (sv_n (i := 1)) (sv_str [112, 108, 117, 115] rfl)) (stw_or1 (stv_eq hu (sv_n (i := 1)) (sv_str [108, 101, 115, 115] rfl))))) (sss_cons (ss_expr (se_appendQ (sp_n (i := 2)) (sw_cons (sv_ix (sv_n (i := 2)) (sv_n (i := 4))) (sw_nil)))) (sss_nil)) (sss_cons (ss_if (stv_eq hu (sv_n (i := 1)) (sv_str [98, 101, 115, 105, 100, 101] rfl)) (sss_cons (ss_expr (se_appendQ (sp_n (i := 2)) (sw_cons (sv_tup (sw_cons (sv_ix (sv_ix (sv_n (i := 2)) (sv_n (i := 4))) (sv_int)) (sw_cons (sv_add (sv_ix (sv_ix (sv_n (i := 2)) (sv_n (i := 4))) (sv_int)) (sv_ix (sv_ix (sv_n (i := 2)) (sv_n (i := 5))) (sv_int))) (sw_nil)))) (sw_nil)))) (sss_nil)) (sss_cons (ss_if (stv_eq hu (sv_n (i := 1)) (sv_str [97, 98, 111, 118, 101] rfl)) (sss_cons (ss_expr (se_appendQ (sp_n (i := 2)) (sw_cons (sv_tup (sw_cons (sv_add (sv_ix (sv_ix (sv_n (i := 2)) (sv_n (i := 4))) (sv_int)) (sv_ix (sv_ix (sv_n (i := 2)) (sv_n (i := 5))) (sv_int))) (sw_cons (sv_ix (sv_ix (sv_n (i := 2)) (sv_n (i := 4))) (sv_int)) (sw_nil)))) (sw_nil)))) (sss_nil)) (sss_nil)) (sss_nil))) (sss_nil))) (sss_nil))) (sss_cons (ss_set (se_cmaxs rfl hu z.n_max (sa_cons (se_add (se_lst (sa_cons (sev_ix (sv_n (i := 3)) (sv_int)) (sa_nil))) (se_lcL (own := [("end", 6)]) (B := [0, 1, 2, 3, 4, 5]) rfl sc__law_plain.nd (nm (i := 2)) rfl (se_n (i := 2)) (BlkOk.mk (N := ["pot", "word", "ends", "state", "a", "b", "end"]) (sc := defScope s__law_plain) rfl (by decide +kernel) (by decide +kernel) (by decide +kernel) (by decide +kernel)) (lcp_none (fun _ => sg_n sc__law_plain.nd (i := 6)) (fun _ => sev_cmaxs rfl hu z.n_max (sw_cons (sv_n (i := 6)) (sw_nil)))) (show ∀ j, j < 7 → j ∉ ([6] : List Nat) → j ∈ ([0, 1, 2, 3, 4, 5] : List Nat) by decide) (by decide))) (sa_nil))) (sp_n (i := 3)) (sv_int)) (sss_cons (ss_ret (se_tup (sa_cons (se_m (i := 1)) (sa_cons (se_m (i := 4)) (sa_cons (se_m (i := 5)) (sa_nil)))))) (sss_nil)))))))))
def e__law_procedure_1 (K : PySem.W.Frag) : M D := eV (vOpn gMaxS (wCons (vVar 14) (wNil)))
def b__law_procedure_2 (K : PySem.W.Frag) : MS := sSeq (sAsg 10 (eCall 2 (F__law_draw K) (bBor 0 (bVal (eV (vOp2 gAdd (vLit (.int 10)) (vOp2 gMulA (vLit (.int 3)) (vOpn gMin (wCons (vLit (.int 1)) (wCons (vOpn gLen (wCons (vVar 1) (wNil))) (wNil))))))) (bNil))))) (sSeq (sIf (tAndM (Se.tB (eV (vOp2 gEq (vVar 8) (vLit (.int 0))))) (tNotM (tV (vVar 1)))) (sSeq (sAsg 10 (eV (vOp2 gMod (vOpn gInt (wCons (vVar 10) (wNil))) (vLit (.int 2))))) (sNil)) (sSeq (sIf (tAndM (Se.tB (eV (vOp2 gEq (vVar 8) (vLit (.int 0))))) (Se.tB (eOp2 gEq (eCall 2 (F__law_draw K) (bBor 0 (bVal (eLit (.int 2)) (bNil)))) (eLit (.int 0))))) (sSeq (sAsg 10 (eLit (.int 10))) (sNil)) (sNil)) (sNil))) (sSeq (sIf (Se.tB (eV (vOp2 (gCmp fun i j => decide (i > j)) (vVar 10) (vLit (.int 9))))) (sSeq (sAsg 12 (eCall 4 (F__law_call K) (bBor 0 (bBor 1 (bBor 4 (bBor 5 (bNil))))))) (sSeq (sIf (tV (vVar 12)) (sSeq (sExpr (eMut gmAppend (pVar 7) (aCons (eVar 12) (aNil)))) (sNil)) (sNil)) (sSeq (sCont) (sNil)))) (sNil)) (sSeq (sAsg 11 (eV (vOp2 gIx (vVar 6) (vVar 10)))) (sSeq (sIf (tAndM (Se.tB (eV (vOp2 (gCmp fun i j => decide (i < j)) (vVar 10) (vLit (.int 2))))) (Se.tB (eV (vOp2 (gCmp fun i j => decide (i > j)) (vOp2 gAdd (vOp2 ixv (vVar 5) (vLit (.int 0))) (vLit (.int 2))) (vLit (.int 24)))))) (sSeq (sCont) (sNil)) (sNil)) (sSeq (sIf (tOrM (Se.tB (eV (vOp2 (gCmp fun i j => decide (i > j)) (vOp2 gAdd (vOp2 ixv (vVar 5) (vLit (.int 1))) (vLit (.int 1))) (vLit (.int 60))))) (tOrM (Se.tB (eV (vOp2 (gCmp fun i j => decide (i > j)) (vOp2 gAdd (vOp2 ixv (vVar 5) (vLit (.int 2))) (vLit (.int 2))) (vLit (.int 60))))) (Se.tB (eOp2 (gCmp fun i j => decide (i > j)) (eOpn gMaxS (aCons (eLcL 4 [14] (fName 14) (tTrue) (e__law_procedure_1 K)) (aNil))) (eLit (.int 250000)))))) (sSeq (sCont) (sNil)) (sNil)) (sSeq (sExpr (eMut gmAppend (pVar 7) (aCons (eCall 4 (F__law_plain K) (bBor 0 (bVal (eVar 11) (bBor 4 (bBor 5 (bNil)))))) (aNil)))) (sSeq (sSet (eV (vOp2 gAdd (vOp2 ixv (vVar 5) (vLit (.int 0))) (vOp2 gMulA (vLit (.int 2)) (vOpn gInt (wCons (vOp2 (gCmp fun i j => decide (i < j)) (vVar 10) (vLit (.int 2))) (wNil)))))) (pVar 5) (vLit (.int 0))) (sSeq (sSet (eV (vOp2 gAdd (vOp2 ixv (vVar 5) (vLit (.int 1))) (vLit (.int 1)))) (pVar 5) (vLit (.int 1))) (sSeq (sSet (eOp2 gAdd (eV (vOp2 gIx (vVar 5) (vLit (.int 2)))) (eOp2 gIx (eLst (aCons (eLit (.int 1)) (aCons (eLit (.int 1)) (aCons (eLit (.int 0)) (aCons (eLit (.int 1)) (aCons (eLit (.int 2)) (aCons (eLit (.int 2)) (aCons (eLit (.int 1)) (aCons (eLit (.int 1)) (aCons (eLit (.int 2)) (aCons (eLit (.int 1)) (aNil)))))))))))) (eVar 10))) (pVar 5) (vLit (.int 2))) (sNil))))))))))
def e__law_procedure_3 (K : PySem.W.Frag) : M D := eCall 2 (F__law_draw K) (bBor 0 (bVal (eV (vOpn gLen (wCons (vVar 4) (wNil)))) (bNil)))
def e__law_procedure_4 (K : PySem.W.Frag) : M D := eV (vOp2 gIx (vVar 4) (vVar 13))
def m__law_procedure (K : PySem.W.Frag) : MS := sSeq (sAsg 3 (eOp2 gAdd (eLit (.int 1)) (eCall 2 (F__law_draw K) (bBor 0 (bVal (eLit (.int 4)) (bNil)))))) (sSeq (sAsg 4 (eOp2 gMulA (eLst (aCons (eTup (aCons (eLit (.int 1)) (aCons (eLit (.int 1)) (aNil)))) (aNil))) (eVar 3))) (sSeq (sAsg 5 (eLst (aCons (eV (vOp2 gMulA (vLit (.int 2)) (vVar 3))) (aCons (eLit (.int 0)) (aCons (eLit (.int 0)) (aCons (eLit (.int 2)) (aNil))))))) (sSeq (sAsg 6 (eLst (aCons (eLit (.str [99, 117, 116])) (aCons (eLit (.str [115, 112, 108, 105, 116])) (aCons (eLit (.str [116, 117, 114, 110])) (aCons (eLit (.str [116, 105, 109, 101, 115])) (aCons (eLit (.str [112, 108, 117, 115])) (aCons (eLit (.str [108, 101, 115, 115])) (aCons (eLit (.str [98, 101, 115, 105, 100, 101])) (aCons (eLit (.str [97, 98, 111, 118, 101])) (aCons (eLit (.str [108, 105, 107, 101])) (aCons (eLit (.str [115, 113, 117, 97, 114, 101])) (aNil))))))))))))) (sSeq (sAsg 7 (eLst (aNil))) (sSeq (sFor (iArgs rg1 (aCons (eVar 2) (aNil))) (fName 8) (b__law_procedure_2 K)) (sSeq (sAsg 9 (eOpn gTup (aCons (eLc [8] (iArgs rg1 (aCons (eOp2 gAdd (eLit (.int 1)) (eCall 2 (F__law_draw K) (bBor 0 (bVal (eLit (.int 4)) (bNil))))) (aNil))) (fName 8) (tTrue) (e__law_procedure_3 K)) (aNil)))) (sSeq (sExpr (eMut gmAppend (pVar 1) (aCons (eFz (eTup (aCons (eVar 3) (aCons (eV (vOp2 gSub (vOp2 ixv (vVar 5) (vLit (.int 0))) (vOp2 gMulA (vLit (.int 2)) (vVar 3)))) (aCons (eV (vOp2 gIx (vVar 5) (vLit (.int 1)))) (aCons (eV (vOp2 gIx (vVar 5) (vLit (.int 2)))) (aCons (eV (vOp2 gIx (vVar 5) (vLit (.int 3)))) (aCons (eLc [13] (iSq (eVar 9)) (fName 13) (tTrue) (e__law_procedure_4 K)) (aNil))))))))) aNil))) (sSeq (sRet (eTup (aCons (eMove 3) (aCons (eV (vOpn gTup (wCons (vVar 7) (wNil)))) (aCons (eMove 9) (aNil)))))) (sNil)))))))))
def F__law_procedure (K : PySem.W.Frag) : List D → FR := Se.fnOf 15 [0, 1] (m__law_procedure K)
theorem ff__law_procedure {P : Program} {w : World} {K : PySem.W.Frag} {mg : Str → Option Value} {base : Heap} (z : Z K mg) : FK P w K mg base "_law_procedure" ["pot", "known", "steps"] (s__law_procedure) 3 (F__law_procedure K) := by
  obtain ⟨f, fd, hm, F, hb⟩ := z.d__law_procedure
  obtain ⟨f__law_call, fd__law_call, hm__law_call, d__law_call, hb__law_call, ok__law_call⟩ := (ff__law_call (P := P) (w := w) (base := base) z)
  have hk__law_call := d__law_call.kp
  obtain ⟨f__law_draw, fd__law_draw, hm__law_draw, d__law_draw, hb__law_draw, ok__law_draw⟩ := (ff__law_draw (P := P) (w := w) (base := base) z)
  have hk__law_draw := d__law_draw.kp
  obtain ⟨f__law_plain, fd__law_plain, hm__law_plain, d__law_plain, hb__law_plain, ok__law_plain⟩ := (ff__law_plain (P := P) (w := w) (base := base) z)
  have hk__law_plain := d__law_plain.kp
  refine ⟨f, fd, hm, F, hb, ?_⟩
  have q := fnN (P := P) (w := w) (mg := mg) (base := base) (k := 2) (C := C0 K) (B := [0, 1]) (m := (m__law_procedure K)) F sc__law_procedure
  refine q ?_
  intro cdv A outer s H E hr W tk
  have hu : (XC P w K mg base ["pot", "known", "steps", "params", "ends", "state", "words", "statements", "k", "gives", "place", "word", "made", "g", "end"] "_law_procedure" (defScope s__law_procedure) f cdv A outer s H E).A.units + 64 < cLine := by have := hr.un; simp only [XC, cxOf]; omega
  have hpo : PassesOwn (model P w) (XC P w K mg base ["pot", "known", "steps", "params", "ends", "state", "words", "statements", "k", "gives", "place", "word", "made", "g", "end"] "_law_procedure" (defScope s__law_procedure) f cdv A outer s H E).A (XC P w K mg base ["pot", "known", "steps", "params", "ends", "state", "words", "statements", "k", "gives", "place", "word", "made", "g", "end"] "_law_procedure" (defScope s__law_procedure) f cdv A outer s H E).env (XC P w K mg base ["pot", "known", "steps", "params", "ends", "state", "words", "statements", "k", "gives", "place", "word", "made", "g", "end"] "_law_procedure" (defScope s__law_procedure) f cdv A outer s H E).xe := PassesOwn.leaving
  exact sss_cons (ss_setn (i := 3) (se_add (se_int) (se_call rfl (cal_calm ok__law_draw (hr.mono (by decide))) tk rfl hm__law_draw hk__law_draw hb__law_draw rfl (sab_bor (nm (i := 0)) (sab_val (se_int) (sab_nil))))) sc__law_procedure.nd) (sss_cons (ss_setn (i := 4) (se_mul (se_lst (sa_cons (se_tup (sa_cons (se_int) (sa_cons (se_int) (sa_nil)))) (sa_nil))) (se_n (i := 3))) sc__law_procedure.nd) (sss_cons (ss_setn (i := 5) (se_lst (sa_cons (sev_mul (sv_int) (sv_n (i := 3))) (sa_cons (se_int) (sa_cons (se_int) (sa_cons (se_int) (sa_nil)))))) sc__law_procedure.nd) (sss_cons (ss_setn (i := 6) (se_lst (sa_cons (se_str [99, 117, 116] rfl) (sa_cons (se_str [115, 112, 108, 105, 116] rfl) (sa_cons (se_str [116, 117, 114, 110] rfl) (sa_cons (se_str [116, 105, 109, 101, 115] rfl) (sa_cons (se_str [112, 108, 117, 115] rfl) (sa_cons (se_str [108, 101, 115, 115] rfl) (sa_cons (se_str [98, 101, 115, 105, 100, 101] rfl) (sa_cons (se_str [97, 98, 111, 118, 101] rfl) (sa_cons (se_str [108, 105, 107, 101] rfl) (sa_cons (se_str [115, 113, 117, 97, 114, 101] rfl) (sa_nil)))))))))))) sc__law_procedure.nd) (sss_cons (ss_setn (i := 7) (se_lst (sa_nil)) sc__law_procedure.nd) (sss_cons (ss_for hpo rfl (si_range1 rfl z.n_range (sa_cons (se_n (i := 2)) (sa_nil))) (sg_n sc__law_procedure.nd (i := 8)) (sss_cons (ss_setn (i := 10) (se_call rfl (cal_calm ok__law_draw (hr.mono (by decide))) tk rfl hm__law_draw hk__law_draw hb__law_draw rfl (sab_bor (nm (i := 0)) (sab_val (sev_add (sv_int) (sv_mul (sv_int) (sv_cmin rfl z.n_min (sw_cons (sv_int) (sw_cons (sv_clen z.n_len (sw_cons (sv_n (i := 1)) (sw_nil))) (sw_nil)))))) (sab_nil)))) sc__law_procedure.nd) (sss_cons (ss_if (stw_t (stw_and (stv_eq hu (sv_n (i := 8)) (sv_int)) (stw_and1 (st_not (stv_t (sv_n (i := 1))))))) (sss_cons (ss_setn (i := 10) (sev_mod (sv_cint z.n_int (sw_cons (sv_n (i := 10)) (sw_nil))) (sv_int)) sc__law_procedure.nd) (sss_nil)) (sss_cons (ss_if (stw_t (stw_and (stv_eq hu (sv_n (i := 8)) (sv_int)) (stw_and1 (st_eq hu (se_call rfl (cal_calm ok__law_draw (hr.mono (by decide))) tk rfl hm__law_draw hk__law_draw hb__law_draw rfl (sab_bor (nm (i := 0)) (sab_val (se_int) (sab_nil)))) (se_int))))) (sss_cons (ss_setn (i := 10) (se_int) sc__law_procedure.nd) (sss_nil)) (sss_nil)) (sss_nil))) (sss_cons (ss_if (stv_gt (sv_n (i := 10)) (sv_int)) (sss_cons (ss_setn (i := 12) (se_call rfl (cal_calm ok__law_call (hr.mono (by decide))) tk rfl hm__law_call hk__law_call hb__law_call rfl (sab_bor (nm (i := 0)) (sab_bor (nm (i := 1)) (sab_bor (nm (i := 4)) (sab_bor (nm (i := 5)) (sab_nil)))))) sc__law_procedure.nd) (sss_cons (ss_if (stv_t (sv_n (i := 12))) (sss_cons (ss_expr (se_append (sp_n (i := 7)) (sa_cons (se_n (i := 12)) (sa_nil)))) (sss_nil)) (sss_nil)) (sss_cons (ss_cont) (sss_nil)))) (sss_nil)) (sss_cons (ss_setn (i := 11) (sev_ix (sv_n (i := 6)) (sv_n (i := 10))) sc__law_procedure.nd) (sss_cons (ss_if (stw_t (stw_and (stv_lt (sv_n (i := 10)) (sv_int)) (stw_and1 (stv_gt (sv_add (sv_ix (sv_n (i := 5)) (sv_int)) (sv_int)) (sv_int))))) (sss_cons (ss_cont) (sss_nil)) (sss_nil)) (sss_cons (ss_if (stw_t (stw_or (stv_gt (sv_add (sv_ix (sv_n (i := 5)) (sv_int)) (sv_int)) (sv_int)) (stw_or (stv_gt (sv_add (sv_ix (sv_n (i := 5)) (sv_int)) (sv_int)) (sv_int)) (stw_or1 (st_gt (se_cmaxs rfl hu z.n_max (sa_cons (se_lcL (own := [("end", 14)]) (B := [0, 1, 2, 3, 4, 5, 6, 7, 8, 9, 10, 11, 12, 13]) rfl sc__law_procedure.nd (nm (i := 4)) rfl (se_n (i := 4)) (BlkOk.mk (N := ["pot", "known", "steps", "params", "ends", "state", "words", "statements", "k", "gives", "place", "word", "made", "g", "end"]) (sc := defScope s__law_procedure) rfl (by decide +kernel) (by decide +kernel) (by decide +kernel) (by decide +kernel)) (lcp_none (fun _ => sg_n sc__law_procedure.nd (i := 14)) (fun _ => sev_cmaxs rfl hu z.n_max (sw_cons (sv_n (i := 14)) (sw_nil)))) (show ∀ j, j < 15 → j ∉ ([14] : List Nat) → j ∈ ([0, 1, 2, 3, 4, 5, 6, 7, 8, 9, 10, 11, 12, 13] : List Nat) by decide) (by decide)) (sa_nil))) (se_int)))))) (sss_cons (ss_cont) (sss_nil)) (sss_nil)) (sss_cons (ss_expr (se_append (sp_n (i := 7)) (sa_cons (se_call rfl (cal_calm ok__law_plain (hr.mono (by decide))) tk rfl hm__law_plain hk__law_plain hb__law_plain rfl (sab_bor (nm (i := 0)) (sab_val (se_n (i := 11)) (sab_bor (nm (i := 4)) (sab_bor (nm (i := 5)) (sab_nil)))))) (sa_nil)))) (sss_cons (ss_set (sev_add (sv_ix (sv_n (i := 5)) (sv_int)) (sv_mul (sv_int) (sv_cint z.n_int (sw_cons (sv_lt (sv_n (i := 10)) (sv_int)) (sw_nil))))) (sp_n (i := 5)) (sv_int)) (sss_cons (ss_set (sev_add (sv_ix (sv_n (i := 5)) (sv_int)) (sv_int)) (sp_n (i := 5)) (sv_int)) (sss_cons (ss_set (se_add (sev_ix (sv_n (i := 5)) (sv_int)) (se_ix (se_lst (sa_cons (se_int) (sa_cons (se_int) (sa_cons (se_int) (sa_cons (se_int) (sa_cons (se_int) (sa_cons (se_int) (sa_cons (se_int) (sa_cons (se_int) (sa_cons (se_int) (sa_cons (se_int) (sa_nil)))))))))))) (se_n (i := 10)))) (sp_n (i := 5)) (sv_int)) (sss_nil)))))))))))) (sss_cons (ss_setn (i := 9) (se_ctuple z.n_tuple (sa_cons (se_lc (own := [("k", 8)]) (B := [0, 1, 2, 3, 4, 5, 6, 7, 9, 10, 11, 12, 13, 14]) rfl sc__law_procedure.nd (si_range1 rfl z.n_range (sa_cons (se_add (se_int) (se_call rfl (cal_calm ok__law_draw (hr.mono (by decide))) tk rfl hm__law_draw hk__law_draw hb__law_draw rfl (sab_bor (nm (i := 0)) (sab_val (se_int) (sab_nil))))) (sa_nil))) (BlkOk.mk (N := ["pot", "known", "steps", "params", "ends", "state", "words", "statements", "k", "gives", "place", "word", "made", "g", "end"]) (sc := defScope s__law_procedure) rfl (by decide +kernel) (by decide +kernel) (by decide +kernel) (by decide +kernel)) (lcp_none (fun _ => sg_n sc__law_procedure.nd (i := 8)) (fun _ => se_call rfl (cal_calm ok__law_draw (hr.mono (by decide))) takes0 rfl hm__law_draw hk__law_draw hb__law_draw rfl (sab_bor (nm (i := 0)) (sab_val (sev_clen z.n_len (sw_cons (sv_n (i := 4)) (sw_nil))) (sab_nil))))) (show ∀ j, j < 15 → j ∉ ([8] : List Nat) → j ∈ ([0, 1, 2, 3, 4, 5, 6, 7, 9, 10, 11, 12, 13, 14] : List Nat) by decide)) (sa_nil))) sc__law_procedure.nd) (sss_cons (ss_expr (se_append (sp_n (i := 1)) (sa_cons (se_fz (se_tup (sa_cons (se_n (i := 3)) (sa_cons (sev_sub (sv_ix (sv_n (i := 5)) (sv_int)) (sv_mul (sv_int) (sv_n (i := 3)))) (sa_cons (sev_ix (sv_n (i := 5)) (sv_int)) (sa_cons (sev_ix (sv_n (i := 5)) (sv_int)) (sa_cons (sev_ix (sv_n (i := 5)) (sv_int)) (sa_cons (se_lc (own := [("g", 13)]) (B := [0, 1, 2, 3, 4, 5, 6, 7, 8, 9, 10, 11, 12, 14]) rfl sc__law_procedure.nd (si_seq rfl (se_n (i := 9))) (BlkOk.mk (N := ["pot", "known", "steps", "params", "ends", "state", "words", "statements", "k", "gives", "place", "word", "made", "g", "end"]) (sc := defScope s__law_procedure) rfl (by decide +kernel) (by decide +kernel) (by decide +kernel) (by decide +kernel)) (lcp_none (fun _ => sg_n sc__law_procedure.nd (i := 13)) (fun _ => sev_ix (sv_n (i := 4)) (sv_n (i := 13)))) (show ∀ j, j < 15 → j ∉ ([13] : List Nat) → j ∈ ([0, 1, 2, 3, 4, 5, 6, 7, 8, 9, 10, 11, 12, 14] : List Nat) by decide)) (sa_nil))))))))) sa_nil))) (sss_cons (ss_ret (se_tup (sa_cons (se_m (i := 3)) (sa_cons (sev_ctuple z.n_tuple (sw_cons (sv_n (i := 7)) (sw_nil))) (sa_cons (se_m (i := 9)) (sa_nil)))))) (sss_nil)))))))))
def b__law_whole_1 (K : PySem.W.Frag) : MS := sSeq (sExpr (eMut gmAppend (pVar 3) (aCons (eCall 3 (F__law_procedure K) (bBor 0 (bBor 2 (bVal (eFz (eOp2 gAdd (eLit (.int 1)) (eCall 2 (F__law_draw K) (bBor 0 (bVal (eV (vOp2 gAdd (vLit (.int 6)) (vOp2 gMulA (vLit (.int 14)) (vOpn gInt (wCons (vOp2 gEq (vVar 1) (vLit (.int 8))) (wNil)))))) (bNil)))))) (bNil))))) (aNil)))) (sNil)
def b__law_whole_2 (K : PySem.W.Frag) : MS := sSeq (sAsg 8 (eOp2 gAdd (eOp2 gAdd (eIxVar gIx 7 (eCall 2 (F__law_draw K) (bBor 0 (bVal (eLit (.int 26)) (bNil))))) (eV (vOpn gStr (wCons (vVar 4) (wNil))))) (eOp2 gMulA (eIxVar gIx 7 (eCall 2 (F__law_draw K) (bBor 0 (bVal (eLit (.int 26)) (bNil))))) (eCall 2 (F__law_draw K) (bBor 0 (bVal (eLit (.int 11)) (bNil))))))) (sSeq (sExpr (eMut gmAppend (pVar 6) (aCons (eVar 8) (aNil)))) (sNil))
def m__law_whole (K : PySem.W.Frag) : MS := sSeq (sAsg 1 (eOp2 gAdd (eLit (.int 1)) (eCall 2 (F__law_draw K) (bBor 0 (bVal (eLit (.int 3)) (bNil)))))) (sSeq (sIf (Se.tB (eOp2 gEq (eCall 2 (F__law_draw K) (bBor 0 (bVal (eLit (.int 7)) (bNil)))) (eLit (.int 5)))) (sSeq (sAsg 1 (eLit (.int 8))) (sNil)) (sNil)) (sSeq (sAsg 2 (eLst (aNil))) (sSeq (sAsg 3 (eLst (aNil))) (sSeq (sFor (iArgs rg1 (aCons (eVar 1) (aNil))) (fName 4) (b__law_whole_1 K)) (sSeq (sAsg 5 (eCall 2 (F__law_draw K) (bBor 0 (bVal (eVar 1) (bNil))))) (sSeq (sAsg 6 (eLst (aNil))) (sSeq (sAsg 7 (eLit (.str [97, 98, 99, 100, 101, 102, 103, 104, 105, 106, 107, 108, 109, 110, 111, 112, 113, 114, 115, 116, 117, 118, 119, 120, 121, 122]))) (sSeq (sFor (iArgs rg1 (aCons (eVar 1) (aNil))) (fName 4) (b__law_whole_2 K)) (sSeq (sSet (eLit (.str [109, 97, 105, 110])) (pVar 6) (vVar 5)) (sSeq (sRet (eTup (aCons (eV (vOpn gTup (wCons (vVar 6) (wNil)))) (aCons (eV (vOpn gTup (wCons (vVar 3) (wNil)))) (aNil))))) (sNil)))))))))))
def F__law_whole (K : PySem.W.Frag) : List D → FR := Se.fnOf 9 [0] (m__law_whole K)
theorem ff__law_whole {P : Program} {w : World} {K : PySem.W.Frag} {mg : Str → Option Value} {base : Heap} (z : Z K mg) : FK P w K mg base "_law_whole" ["pot"] (s__law_whole) 4 (F__law_whole K) := by
  obtain ⟨f, fd, hm, F, hb⟩ := z.d__law_whole
  obtain ⟨f__law_draw, fd__law_draw, hm__law_draw, d__law_draw, hb__law_draw, ok__law_draw⟩ := (ff__law_draw (P := P) (w := w) (base := base) z)
  have hk__law_draw := d__law_draw.kp
  obtain ⟨f__law_procedure, fd__law_procedure, hm__law_procedure, d__law_procedure, hb__law_procedure, ok__law_procedure⟩ := (ff__law_procedure (P := P) (w := w) (base := base) z)
  have hk__law_procedure := d__law_procedure.kp
  refine ⟨f, fd, hm, F, hb, ?_⟩
  have q := fnN (P := P) (w := w) (mg := mg) (base := base) (k := 3) (C := C0 K) (B := [0]) (m := (m__law_whole K)) F sc__law_whole
  refine q ?_
  intro cdv A outer s H E hr W tk
  have hu : (XC P w K mg base ["pot", "procs", "known", "procedures", "k", "main", "names", "letters", "word"] "_law_whole" (defScope s__law_whole) f cdv A outer s H E).A.units + 64 < cLine := by have := hr.un; simp only [XC, cxOf]; omega
  have hpo : PassesOwn (model P w) (XC P w K mg base ["pot", "procs", "known", "procedures", "k", "main", "names", "letters", "word"] "_law_whole" (defScope s__law_whole) f cdv A outer s H E).A (XC P w K mg base ["pot", "procs", "known", "procedures", "k", "main", "names", "letters", "word"] "_law_whole" (defScope s__law_whole) f cdv A outer s H E).env (XC P w K mg base ["pot", "procs", "known", "procedures", "k", "main", "names", "letters", "word"] "_law_whole" (defScope s__law_whole) f cdv A outer s H E).xe := PassesOwn.leaving
  exact sss_cons (ss_setn (i := 1) (se_add (se_int) (se_call rfl (cal_calm ok__law_draw (hr.mono (by decide))) tk rfl hm__law_draw hk__law_draw hb__law_draw rfl (sab_bor (nm (i := 0)) (sab_val (se_int) (sab_nil))))) sc__law_whole.nd) (sss_cons (ss_if (st_eq hu (se_call rfl (cal_calm ok__law_draw (hr.mono (by decide))) tk rfl hm__law_draw hk__law_draw hb__law_draw rfl (sab_bor (nm (i := 0)) (sab_val (se_int) (sab_nil)))) (se_int)) (sss_cons (ss_setn (i := 1) (se_int) sc__law_whole.nd) (sss_nil)) (sss_nil)) (sss_cons (ss_setn (i := 2) (se_lst (sa_nil)) sc__law_whole.nd) (sss_cons (ss_setn (i := 3) (se_lst (sa_nil)) sc__law_whole.nd) (sss_cons (ss_for hpo rfl (si_range1 rfl z.n_range (sa_cons (se_n (i := 1)) (sa_nil))) (sg_n sc__law_whole.nd (i := 4)) (sss_cons (ss_expr (se_append (sp_n (i := 3)) (sa_cons (se_call rfl (cal_calm ok__law_procedure (hr.mono (by decide))) tk rfl hm__law_procedure hk__law_procedure hb__law_procedure rfl (sab_bor (nm (i := 0)) (sab_bor (nm (i := 2)) (sab_val (se_fz (se_add (se_int) (se_call rfl (cal_calm ok__law_draw (hr.mono (by decide))) tk rfl hm__law_draw hk__law_draw hb__law_draw rfl (sab_bor (nm (i := 0)) (sab_val (sev_add (sv_int) (sv_mul (sv_int) (sv_cint z.n_int (sw_cons (sv_eq hu (sv_n (i := 1)) (sv_int)) (sw_nil))))) (sab_nil)))))) (sab_nil))))) (sa_nil)))) (sss_nil))) (sss_cons (ss_setn (i := 5) (se_call rfl (cal_calm ok__law_draw (hr.mono (by decide))) tk rfl hm__law_draw hk__law_draw hb__law_draw rfl (sab_bor (nm (i := 0)) (sab_val (se_n (i := 1)) (sab_nil)))) sc__law_whole.nd) (sss_cons (ss_setn (i := 6) (se_lst (sa_nil)) sc__law_whole.nd) (sss_cons (ss_setn (i := 7) (se_str [97, 98, 99, 100, 101, 102, 103, 104, 105, 106, 107, 108, 109, 110, 111, 112, 113, 114, 115, 116, 117, 118, 119, 120, 121, 122] rfl) sc__law_whole.nd) (sss_cons (ss_for hpo rfl (si_range1 rfl z.n_range (sa_cons (se_n (i := 1)) (sa_nil))) (sg_n sc__law_whole.nd (i := 4)) (sss_cons (ss_setn (i := 8) (se_add (se_add (se_ixn (nm (i := 7)) (se_call rfl (cal_calm ok__law_draw (hr.mono (by decide))) tk rfl hm__law_draw hk__law_draw hb__law_draw rfl (sab_bor (nm (i := 0)) (sab_val (se_int) (sab_nil))))) (sev_cstr z.n_str (sw_cons (sv_n (i := 4)) (sw_nil)))) (se_mul (se_ixn (nm (i := 7)) (se_call rfl (cal_calm ok__law_draw (hr.mono (by decide))) tk rfl hm__law_draw hk__law_draw hb__law_draw rfl (sab_bor (nm (i := 0)) (sab_val (se_int) (sab_nil))))) (se_call rfl (cal_calm ok__law_draw (hr.mono (by decide))) tk rfl hm__law_draw hk__law_draw hb__law_draw rfl (sab_bor (nm (i := 0)) (sab_val (se_int) (sab_nil)))))) sc__law_whole.nd) (sss_cons (ss_expr (se_append (sp_n (i := 6)) (sa_cons (se_n (i := 8)) (sa_nil)))) (sss_nil)))) (sss_cons (ss_set (se_str [109, 97, 105, 110] rfl) (sp_n (i := 6)) (sv_n (i := 5))) (sss_cons (ss_ret (se_tup (sa_cons (sev_ctuple z.n_tuple (sw_cons (sv_n (i := 6)) (sw_nil))) (sa_cons (sev_ctuple z.n_tuple (sw_cons (sv_n (i := 3)) (sw_nil))) (sa_nil))))) (sss_nil)))))))))))
def m__law_made (K : PySem.W.Frag) : MS := sSeq (sIf (tOrM (Se.tB (eV (vOp2 gEq (vVar 0) (vLit (.str [108, 105, 107, 101]))))) (Se.tB (eV (vOp2 gEq (vVar 0) (vLit (.str [115, 113, 117, 97, 114, 101])))))) (sSeq (sRet (eLit (.int 0))) (sNil)) (sNil)) (sSeq (sIf (tOrM (Se.tB (eV (vOp2 gEq (vVar 0) (vLit (.str [99, 117, 116]))))) (Se.tB (eV (vOp2 gEq (vVar 0) (vLit (.str [115, 112, 108, 105, 116])))))) (sSeq (sRet (eLit (.int 2))) (sNil)) (sNil)) (sSeq (sRet (eLit (.int 1))) (sNil)))
def F__law_made (K : PySem.W.Frag) : List D → FR := Se.fnOf 1 [] (m__law_made K)
theorem ff__law_made {P : Program} {w : World} {K : PySem.W.Frag} {mg : Str → Option Value} {base : Heap} (z : Z K mg) : FK P w K mg base "_law_made" ["word"] (s__law_made) 1 (F__law_made K) := by
  obtain ⟨f, fd, hm, F, hb⟩ := z.d__law_made
  refine ⟨f, fd, hm, F, hb, ?_⟩
  have q := fnN (P := P) (w := w) (mg := mg) (base := base) (k := 0) (C := C0 K) (B := []) (m := (m__law_made K)) F sc__law_made
  refine q ?_
  intro cdv A outer s H E hr W tk
  have hu : (XC P w K mg base ["word"] "_law_made" (defScope s__law_made) f cdv A outer s H E).A.units + 64 < cLine := by have := hr.un; simp only [XC, cxOf]; omega
  have hpo : PassesOwn (model P w) (XC P w K mg base ["word"] "_law_made" (defScope s__law_made) f cdv A outer s H E).A (XC P w K mg base ["word"] "_law_made" (defScope s__law_made) f cdv A outer s H E).env (XC P w K mg base ["word"] "_law_made" (defScope s__law_made) f cdv A outer s H E).xe := PassesOwn.leaving
  exact sss_cons (ss_if (stw_t (stw_or (stv_eq hu (sv_n (i := 0)) (sv_str [108, 105, 107, 101] rfl)) (stw_or1 (stv_eq hu (sv_n (i := 0)) (sv_str [115, 113, 117, 97, 114, 101] rfl))))) (sss_cons (ss_ret (se_int)) (sss_nil)) (sss_nil)) (sss_cons (ss_if (stw_t (stw_or (stv_eq hu (sv_n (i := 0)) (sv_str [99, 117, 116] rfl)) (stw_or1 (stv_eq hu (sv_n (i := 0)) (sv_str [115, 112, 108, 105, 116] rfl))))) (sss_cons (ss_ret (se_int)) (sss_nil)) (sss_nil)) (sss_cons (ss_ret (se_int)) (sss_nil)))
def b__law_walk_1 (K : PySem.W.Frag) : MS := sSeq (sExpr (eMutQ gmAppend (pVar 2) (wCons (vOp2 gAdd (vLit (.str [114, 111, 119, 115, 32])) (vOpn gStr (wCons (vVar 3) (wNil)))) (wNil)))) (sSeq (sExpr (eMutQ gmAppend (pVar 2) (wCons (vOp2 gAdd (vLit (.str [99, 111, 108, 117, 109, 110, 115, 32])) (vOpn gStr (wCons (vVar 3) (wNil)))) (wNil)))) (sNil))
def b__law_walk_2 (K : PySem.W.Frag) : MS := sSeq (sIf (tNotM (tV (vVar 4))) (sSeq (sBreak) (sNil)) (sNil)) (sSeq (sAsgG (fTup (fCons (fName 6) (fCons (fName 7) (fCons (fName 8) (fNil))))) (eMutQ gmPop (pVar 4) wNil)) (sSeq (sAsg 9 (eOp2 gIx (eOp2 gIx (eVar 0) (eVar 6)) (eLit (.int 1)))) (sSeq (sIf (Se.tB (eV (vOp2 (gCmp fun i j => decide (i < j)) (vVar 7) (vOpn gLen (wCons (vVar 9) (wNil)))))) (sSeq (sAsg 10 (eV (vOp2 gAdd (vVar 8) (vOpn gStr (wCons (vVar 7) (wNil)))))) (sSeq (sAsg 11 (eOp2 gIx (eOp2 gIx (eVar 9) (eVar 7)) (eLit (.int 0)))) (sSeq (sExpr (eMut gmAppend (pVar 4) (aCons (eTup (aCons (eVar 6) (aCons (eV (vOp2 gAdd (vVar 7) (vLit (.int 1)))) (aCons (eVar 8) (aNil))))) (aNil)))) (sSeq (sIf (Se.tB (eV (vOp2 gEq (vVar 11) (vLit (.str [99, 97, 108, 108]))))) (sSeq (sExpr (eMut gmAppend (pVar 4) (aCons (eTup (aCons (eOp2 gIx (eOp2 gIx (eVar 9) (eVar 7)) (eLit (.int 1))) (aCons (eLit (.int 0)) (aCons (eV (vOp2 gAdd (vVar 10) (vLit (.str [46])))) (aNil))))) (aNil)))) (sNil)) (sSeq (sIf (Se.tB (eOp2 gEq (eCall 1 (F__law_made K) (bVal (eVar 11) (bNil))) (eLit (.int 2)))) (sSeq (sExpr (eMutQ gmAppend (pVar 2) (wCons (vOp2 gAdd (vOp2 gAdd (vLit (.str [97, 116, 32])) (vVar 10)) (vLit (.str [32, 102, 105, 114, 115, 116]))) (wNil)))) (sSeq (sExpr (eMutQ gmAppend (pVar 2) (wCons (vOp2 gAdd (vOp2 gAdd (vLit (.str [97, 116, 32])) (vVar 10)) (vLit (.str [32, 115, 101, 99, 111, 110, 100]))) (wNil)))) (sNil))) (sNil)) (sNil))) (sNil))))) (sNil)) (sNil))))
def m__law_walk (K : PySem.W.Frag) : MS := sSeq (sAsg 2 (eLst (aNil))) (sSeq (sFor (iArgs rg1 (aCons (eOp2 gIx (eOp2 gIx (eVar 0) (eVar 1)) (eLit (.int 0))) (aNil))) (fName 3) (b__law_walk_1 K)) (sSeq (sAsg 4 (eLst (aCons (eTup (aCons (eVar 1) (aCons (eLit (.int 0)) (aCons (eLit (.str [])) (aNil))))) (aNil)))) (sSeq (sFor (iArgs rg1 (aCons (eLit (.int 200)) (aNil))) (fName 5) (b__law_walk_2 K)) (sSeq (sRet (eMove 2)) (sNil)))))
def F__law_walk (K : PySem.W.Frag) : List D → FR := Se.fnOf 12 [] (m__law_walk K)
theorem ff__law_walk {P : Program} {w : World} {K : PySem.W.Frag} {mg : Str → Option Value} {base : Heap} (z : Z K mg) : FK P w K mg base "_law_walk" ["procedures", "at"] (s__law_walk) 2 (F__law_walk K) := by
  obtain ⟨f, fd, hm, F, hb⟩ := z.d__law_walk
  obtain ⟨f__law_made, fd__law_made, hm__law_made, d__law_made, hb__law_made, ok__law_made⟩ := (ff__law_made (P := P) (w := w) (base := base) z)
  have hk__law_made := d__law_made.kp
  refine ⟨f, fd, hm, F, hb, ?_⟩
  have q := fnN (P := P) (w := w) (mg := mg) (base := base) (k := 1) (C := C0 K) (B := []) (m := (m__law_walk K)) F sc__law_walk
  refine q ?_
  intro cdv A outer s H E hr W tk
  have hu : (XC P w K mg base ["procedures", "at", "found", "k", "stack", "lap", "here", "place", "path", "statements", "step", "word"] "_law_walk" (defScope s__law_walk) f cdv A outer s H E).A.units + 64 < cLine := by have := hr.un; simp only [XC, cxOf]; omega
  have hpo : PassesOwn (model P w) (XC P w K mg base ["procedures", "at", "found", "k", "stack", "lap", "here", "place", "path", "statements", "step", "word"] "_law_walk" (defScope s__law_walk) f cdv A outer s H E).A (XC P w K mg base ["procedures", "at", "found", "k", "stack", "lap", "here", "place", "path", "statements", "step", "word"] "_law_walk" (defScope s__law_walk) f cdv A outer s H E).env (XC P w K mg base ["procedures", "at", "found", "k", "stack", "lap", "here", "place", "path", "statements", "step", "word"] "_law_walk" (defScope s__law_walk) f cdv A outer s H E).xe := PassesOwn.leaving
  exact sss_cons (ss_setn (i := 2) (se_lst (sa_nil)) sc__law_walk.nd) (sss_cons (ss_for hpo rfl (si_range1 rfl z.n_range (sa_cons (se_ix (se_ix (se_n (i := 0)) (se_n (i := 1))) (se_int)) (sa_nil))) (sg_n sc__law_walk.nd (i := 3)) (sss_cons (ss_expr (se_appendQ (sp_n (i := 2)) (sw_cons (sv_add (sv_str [114, 111, 119, 115, 32] rfl) (sv_cstr z.n_str (sw_cons (sv_n (i := 3)) (sw_nil)))) (sw_nil)))) (sss_cons (ss_expr (se_appendQ (sp_n (i := 2)) (sw_cons (sv_add (sv_str [99, 111, 108, 117, 109, 110, 115, 32] rfl) (sv_cstr z.n_str (sw_cons (sv_n (i := 3)) (sw_nil)))) (sw_nil)))) (sss_nil)))) (sss_cons (ss_setn (i := 4) (se_lst (sa_cons (se_tup (sa_cons (se_n (i := 1)) (sa_cons (se_int) (sa_cons (se_str [] rfl) (sa_nil))))) (sa_nil))) sc__law_walk.nd) (sss_cons (ss_for hpo rfl (si_range1 rfl z.n_range (sa_cons (se_int) (sa_nil))) (sg_n sc__law_walk.nd (i := 5)) (sss_cons (ss_if (st_not (stv_t (sv_n (i := 4)))) (sss_cons (ss_break) (sss_nil)) (sss_nil)) (sss_cons (ss_asgG (se_pop (sp_n (i := 4))) (sg_tup rfl rfl (sgs_cons (sg_n sc__law_walk.nd (i := 6)) (sgs_cons (sg_n sc__law_walk.nd (i := 7)) (sgs_cons (sg_n sc__law_walk.nd (i := 8)) (sgs_nil)))) (fCons_len (fCons_len (fCons_len (fNil_len)))))) (sss_cons (ss_setn (i := 9) (se_ix (se_ix (se_n (i := 0)) (se_n (i := 6))) (se_int)) sc__law_walk.nd) (sss_cons (ss_if (stv_lt (sv_n (i := 7)) (sv_clen z.n_len (sw_cons (sv_n (i := 9)) (sw_nil)))) (sss_cons (ss_setn (i := 10) (sev_add (sv_n (i := 8)) (sv_cstr z.n_str (sw_cons (sv_n (i := 7)) (sw_nil)))) sc__law_walk.nd) (sss_cons (ss_setn (i := 11) (se_ix (se_ix (se_n (i := 9)) (se_n (i := 7))) (se_int)) sc__law_walk.nd) (sss_cons (ss_expr (se_append (sp_n (i := 4)) (sa_cons (se_tup (sa_cons (se_n (i := 6)) (sa_cons (sev_add (sv_n (i := 7)) (sv_int)) (sa_cons (se_n (i := 8)) (sa_nil))))) (sa_nil)))) (sss_cons (ss_if (stv_eq hu (sv_n (i := 11)) (sv_str [99, 97, 108, 108] rfl)) (sss_cons (ss_expr (se_append (sp_n (i := 4)) (sa_cons (se_tup (sa_cons (se_ix (se_ix (se_n (i := 9)) (se_n (i := 7))) (se_int)) (sa_cons (se_int) (sa_cons (sev_add (sv_n (i := 10)) (sv_str [46] rfl)) (sa_nil))))) (sa_nil)))) (sss_nil)) (sss_cons (ss_if (st_eq hu (se_call rfl (cal_calm ok__law_made (hr.mono (by decide))) tk rfl hm__law_made hk__law_made hb__law_made rfl (sab_val (se_n (i := 11)) (sab_nil))) (se_int)) (sss_cons (ss_expr (se_appendQ (sp_n (i := 2)) (sw_cons (sv_add (sv_add (sv_str [97, 116, 32] rfl) (sv_n (i := 10))) (sv_str [32, 102, 105, 114, 115, 116] rfl)) (sw_nil)))) (sss_cons (ss_expr (se_appendQ (sp_n (i := 2)) (sw_cons (sv_add (sv_add (sv_str [97, 116, 32] rfl) (sv_n (i := 10))) (sv_str [32, 115, 101, 99, 111, 110, 100] rfl)) (sw_nil)))) (sss_nil))) (sss_nil)) (sss_nil))) (sss_nil))))) (sss_nil)) (sss_nil)))))) (sss_cons (ss_ret (se_m (i := 2))) (sss_nil)))))
def e_dotted_1 (K : PySem.W.Frag) : M D := eV (vOpn gStr (wCons (vVar 1) (wNil)))
def m_dotted (K : PySem.W.Frag) : MS := sSeq (sRet (eBm gJoin (vLit (.str [46])) (eLc [1] (iSq (eVar 0)) (fName 1) (tTrue) (e_dotted_1 K)))) (sNil)
def F_dotted (K : PySem.W.Frag) : List D → FR := Se.fnOf 2 [] (m_dotted K)
theorem ff_dotted {P : Program} {w : World} {K : PySem.W.Frag} {mg : Str → Option Value} {base : Heap} (z : Z K mg) : FK P w K mg base "dotted" ["path"] (s_dotted) 1 (F_dotted K) := by
  obtain ⟨f, fd, hm, F, hb⟩ := z.d_dotted
  refine ⟨f, fd, hm, F, hb, ?_⟩
  have q := fnN (P := P) (w := w) (mg := mg) (base := base) (k := 0) (C := C0 K) (B := []) (m := (m_dotted K)) F sc_dotted
  refine q ?_
  intro cdv A outer s H E hr W tk
  have hu : (XC P w K mg base ["path", "number"] "dotted" (defScope s_dotted) f cdv A outer s H E).A.units + 64 < cLine := by have := hr.un; simp only [XC, cxOf]; omega
  have hpo : PassesOwn (model P w) (XC P w K mg base ["path", "number"] "dotted" (defScope s_dotted) f cdv A outer s H E).A (XC P w K mg base ["path", "number"] "dotted" (defScope s_dotted) f cdv A outer s H E).env (XC P w K mg base ["path", "number"] "dotted" (defScope s_dotted) f cdv A outer s H E).xe := PassesOwn.leaving
  exact sss_cons (ss_ret (se_join (sv_str [46] rfl) (se_lc (own := [("number", 1)]) (B := [0]) rfl sc_dotted.nd (si_seq rfl (se_n (i := 0))) (BlkOk.mk (N := ["path", "number"]) (sc := defScope s_dotted) rfl (by decide +kernel) (by decide +kernel) (by decide +kernel) (by decide +kernel)) (lcp_none (fun _ => sg_n sc_dotted.nd (i := 1)) (fun _ => sev_cstr z.n_str (sw_cons (sv_n (i := 1)) (sw_nil)))) (show ∀ j, j < 2 → j ∉ ([1] : List Nat) → j ∈ ([0] : List Nat) by decide)))) (sss_nil)
def b_hidden_names_1 (K : PySem.W.Frag) (r_hidden_names : List D → FR) : MS := sSeq (sAsg 6 (eOp2 gAdd (eVar 2) (eTup (aCons (eVar 4) (aNil))))) (sSeq (sIf (Se.tB (eV (vOp2 gEq (vOp2 ixv (vVar 5) (vLit (.int 0))) (vLit (.str [99, 97, 108, 108]))))) (sSeq (sAsg 3 (eOp2 gAdd (eVar 3) (eCall 3 r_hidden_names (bVal (eVar 0) (bVal (eOp2 gIx (eVar 5) (eLit (.int 1))) (bVal (eVar 6) (bNil))))))) (sNil)) (sSeq (sIf (Se.tB (eV (vOp2 gIn (vOp2 ixv (vVar 5) (vLit (.int 0))) (vLit (.tup [.str [99, 117, 116], .str [115, 112, 108, 105, 116]]))))) (sSeq (sAsg 3 (eOp2 gAdd (eVar 3) (eLst (aCons ((jCons (eLit (.str [97, 116, 32])) (jCons (eFmt (eCall 1 (F_dotted K) (bVal (eVar 6) (bNil)))) (jCons (eLit (.str [32, 102, 105, 114, 115, 116])) (jNil)))) []) (aCons ((jCons (eLit (.str [97, 116, 32])) (jCons (eFmt (eCall 1 (F_dotted K) (bVal (eVar 6) (bNil)))) (jCons (eLit (.str [32, 115, 101, 99, 111, 110, 100])) (jNil)))) []) (aNil)))))) (sNil)) (sNil)) (sNil))) (sNil))
def m_hidden_names (K : PySem.W.Frag) (r_hidden_names : List D → FR) : MS := sSeq (sAsg 3 (eLst (aNil))) (sSeq (sFor (iArgs enB (aCons (eFz (eOp2 gIx (eOp2 gIx (eOp2 gIx (eVar 0) (eLit (.int 1))) (eVar 1)) (eLit (.int 1)))) aNil)) (fTup (fCons (fName 4) (fCons (fName 5) (fNil)))) (b_hidden_names_1 K r_hidden_names)) (sSeq (sRet (eMove 3)) (sNil)))
def F_hidden_names (K : PySem.W.Frag) : Nat → List D → FR
  | 0 => fun _ => .bad
  | n + 1 => Se.fnOf 7 [] (m_hidden_names K (F_hidden_names K n))
theorem fs_hidden_names {P : Program} {w : World} {K : PySem.W.Frag} {mg : Str → Option Value} {base : Heap} (z : Z K mg) {n : Nat} (ih : FK P w K mg base "hidden_names" ["program", "number", "path"] (s_hidden_names) (1 + n + 1) (F_hidden_names K n)) : FK P w K mg base "hidden_names" ["program", "number", "path"] (s_hidden_names) (1 + (n + 1) + 1) (Se.fnOf 7 [] (m_hidden_names K (F_hidden_names K n))) := by
  obtain ⟨f, fd, hm, F, hb⟩ := z.d_hidden_names
  obtain ⟨f_dotted, fd_dotted, hm_dotted, d_dotted, hb_dotted, ok_dotted⟩ := (ff_dotted (P := P) (w := w) (base := base) z)
  have hk_dotted := d_dotted.kp
  obtain ⟨f_hidden_names, fd_hidden_names, hm_hidden_names, d_hidden_names, hb_hidden_names, ok_hidden_names⟩ := ih
  have hk_hidden_names := d_hidden_names.kp
  refine ⟨f, fd, hm, F, hb, ?_⟩
  have q := fnN (P := P) (w := w) (mg := mg) (base := base) (k := 1 + n + 1) (C := C0 K) (B := []) (m := (m_hidden_names K (F_hidden_names K n))) F sc_hidden_names
  refine q ?_
  intro cdv A outer s H E hr W tk
  have hu : (XC P w K mg base ["program", "number", "path", "found", "at", "statement", "here"] "hidden_names" (defScope s_hidden_names) f cdv A outer s H E).A.units + 64 < cLine := by have := hr.un; simp only [XC, cxOf]; omega
  have hpo : PassesOwn (model P w) (XC P w K mg base ["program", "number", "path", "found", "at", "statement", "here"] "hidden_names" (defScope s_hidden_names) f cdv A outer s H E).A (XC P w K mg base ["program", "number", "path", "found", "at", "statement", "here"] "hidden_names" (defScope s_hidden_names) f cdv A outer s H E).env (XC P w K mg base ["program", "number", "path", "found", "at", "statement", "here"] "hidden_names" (defScope s_hidden_names) f cdv A outer s H E).xe := PassesOwn.leaving
  exact sss_cons (ss_setn (i := 3) (se_lst (sa_nil)) sc_hidden_names.nd) (sss_cons (ss_for hpo rfl (si_enQ rfl rfl z.n_enumerate (sa_cons (se_fz (se_ix (se_ix (se_ix (se_n (i := 0)) (se_int)) (se_n (i := 1))) (se_int))) sa_nil)) (sg_tup rfl rfl (sgs_cons (sg_n sc_hidden_names.nd (i := 4)) (sgs_cons (sg_n sc_hidden_names.nd (i := 5)) (sgs_nil))) (fCons_len (fCons_len (fNil_len)))) (sss_cons (ss_setn (i := 6) (se_add (se_n (i := 2)) (se_tup (sa_cons (se_n (i := 4)) (sa_nil)))) sc_hidden_names.nd) (sss_cons (ss_if (stv_eq hu (sv_ix (sv_n (i := 5)) (sv_int)) (sv_str [99, 97, 108, 108] rfl)) (sss_cons (ss_setn (i := 3) (se_add (se_n (i := 3)) (se_call rfl (cal_calm ok_hidden_names (hr.mono (by omega))) tk rfl hm_hidden_names hk_hidden_names hb_hidden_names rfl (sab_val (se_n (i := 0)) (sab_val (se_ix (se_n (i := 5)) (se_int)) (sab_val (se_n (i := 6)) (sab_nil)))))) sc_hidden_names.nd) (sss_nil)) (sss_cons (ss_if (stv_in (sv_ix (sv_n (i := 5)) (sv_int)) (sv_gk z.q_TWO_WORDS)) (sss_cons (ss_setn (i := 3) (se_add (se_n (i := 3)) (se_lst (sa_cons (se_js (sj_cons (se_str [97, 116, 32] rfl) (sj_cons (se_fmt (se_call rfl (cal_calm ok_dotted (hr.mono (by omega))) tk rfl hm_dotted hk_dotted hb_dotted rfl (sab_val (se_n (i := 6)) (sab_nil)))) (sj_cons (se_str [32, 102, 105, 114, 115, 116] rfl) (sj_nil))))) (sa_cons (se_js (sj_cons (se_str [97, 116, 32] rfl) (sj_cons (se_fmt (se_call rfl (cal_calm ok_dotted (hr.mono (by omega))) tk rfl hm_dotted hk_dotted hb_dotted rfl (sab_val (se_n (i := 6)) (sab_nil)))) (sj_cons (se_str [32, 115, 101, 99, 111, 110, 100] rfl) (sj_nil))))) (sa_nil))))) sc_hidden_names.nd) (sss_nil)) (sss_nil)) (sss_nil))) (sss_nil)))) (sss_cons (ss_ret (se_m (i := 3))) (sss_nil)))
theorem fa_hidden_names {P : Program} {w : World} {K : PySem.W.Frag} {mg : Str → Option Value} {base : Heap} (z : Z K mg) : ∀ n : Nat, FK P w K mg base "hidden_names" ["program", "number", "path"] (s_hidden_names) (1 + n + 1) (F_hidden_names K n)
  | 0 => fk_bad z.d_hidden_names
  | n + 1 => fs_hidden_names z (fa_hidden_names z n)
theorem ff_hidden_names {P : Program} {w : World} {K : PySem.W.Frag} {mg : Str → Option Value} {base : Heap} (z : Z K mg) (n : Nat) : FK P w K mg base "hidden_names" ["program", "number", "path"] (s_hidden_names) (1 + n + 1) (F_hidden_names K n) := (fa_hidden_names z n)
def b_unknown_names_1 (K : PySem.W.Frag) : MS := sSeq (sAsg 2 (eOp2 gAdd (eVar 2) (eLst (aCons ((jCons (eLit (.str [114, 111, 119, 115, 32])) (jCons (eFmt (eVar 3)) (jNil))) []) (aCons ((jCons (eLit (.str [99, 111, 108, 117, 109, 110, 115, 32])) (jCons (eFmt (eVar 3)) (jNil))) []) (aNil)))))) (sNil)
def m_unknown_names (K : PySem.W.Frag) : MS := sSeq (sAsg 2 (eLst (aNil))) (sSeq (sFor (iArgs rg1 (aCons (eOp2 gIx (eOp2 gIx (eOp2 gIx (eVar 0) (eLit (.int 1))) (eVar 1)) (eLit (.int 0))) (aNil))) (fName 3) (b_unknown_names_1 K)) (sSeq (sRet (eOpn gTup (aCons (eOp2 gAdd (eVar 2) (eCall 3 (F_hidden_names K 40) (bVal (eVar 0) (bVal (eVar 1) (bVal (eFz (eTup (aNil))) (bNil)))))) (aNil)))) (sNil)))
def F_unknown_names (K : PySem.W.Frag) : List D → FR := Se.fnOf 4 [] (m_unknown_names K)
theorem ff_unknown_names {P : Program} {w : World} {K : PySem.W.Frag} {mg : Str → Option Value} {base : Heap} (z : Z K mg) : FK P w K mg base "unknown_names" ["program", "number"] (s_unknown_names) 43 (F_unknown_names K) := by
  obtain ⟨f, fd, hm, F, hb⟩ := z.d_unknown_names
  obtain ⟨f_hidden_names, fd_hidden_names, hm_hidden_names, d_hidden_names, hb_hidden_names, ok_hidden_names⟩ := (ff_hidden_names (P := P) (w := w) (base := base) z 40)
  have hk_hidden_names := d_hidden_names.kp
  refine ⟨f, fd, hm, F, hb, ?_⟩
  have q := fnN (P := P) (w := w) (mg := mg) (base := base) (k := 42) (C := C0 K) (B := []) (m := (m_unknown_names K)) F sc_unknown_names
  refine q ?_
  intro cdv A outer s H E hr W tk
  have hu : (XC P w K mg base ["program", "number", "found", "param"] "unknown_names" (defScope s_unknown_names) f cdv A outer s H E).A.units + 64 < cLine := by have := hr.un; simp only [XC, cxOf]; omega
  have hpo : PassesOwn (model P w) (XC P w K mg base ["program", "number", "found", "param"] "unknown_names" (defScope s_unknown_names) f cdv A outer s H E).A (XC P w K mg base ["program", "number", "found", "param"] "unknown_names" (defScope s_unknown_names) f cdv A outer s H E).env (XC P w K mg base ["program", "number", "found", "param"] "unknown_names" (defScope s_unknown_names) f cdv A outer s H E).xe := PassesOwn.leaving
  exact sss_cons (ss_setn (i := 2) (se_lst (sa_nil)) sc_unknown_names.nd) (sss_cons (ss_for hpo rfl (si_range1 rfl z.n_range (sa_cons (se_ix (se_ix (se_ix (se_n (i := 0)) (se_int)) (se_n (i := 1))) (se_int)) (sa_nil))) (sg_n sc_unknown_names.nd (i := 3)) (sss_cons (ss_setn (i := 2) (se_add (se_n (i := 2)) (se_lst (sa_cons (se_js (sj_cons (se_str [114, 111, 119, 115, 32] rfl) (sj_cons (se_fmt (se_n (i := 3))) (sj_nil)))) (sa_cons (se_js (sj_cons (se_str [99, 111, 108, 117, 109, 110, 115, 32] rfl) (sj_cons (se_fmt (se_n (i := 3))) (sj_nil)))) (sa_nil))))) sc_unknown_names.nd) (sss_nil))) (sss_cons (ss_ret (se_ctuple z.n_tuple (sa_cons (se_add (se_n (i := 2)) (se_call rfl (cal_calm ok_hidden_names (hr.mono (by decide))) tk rfl hm_hidden_names hk_hidden_names hb_hidden_names rfl (sab_val (se_n (i := 0)) (sab_val (se_n (i := 1)) (sab_val (se_fz (se_tup (sa_nil))) (sab_nil)))))) (sa_nil)))) (sss_nil)))
def m_hidden_by (K : PySem.W.Frag) (r_hidden_by r_hidden_number : List D → FR) : MS := sSeq (sIf (Se.tB (eV (vOp2 gEq (vOp2 ixv (vVar 1) (vLit (.int 0))) (vLit (.str [99, 97, 108, 108]))))) (sSeq (sRet (eCall 2 r_hidden_number (bVal (eVar 0) (bVal (eOp2 gIx (eVar 1) (eLit (.int 1))) (bNil))))) (sNil)) (sNil)) (sSeq (sRet (eIf (Se.tB (eV (vOp2 gIn (vOp2 ixv (vVar 1) (vLit (.int 0))) (vLit (.tup [.str [99, 117, 116], .str [115, 112, 108, 105, 116]]))))) (eLit (.int 2)) (eLit (.int 0)))) (sNil))
def e_hidden_number_1 (K : PySem.W.Frag) (r_hidden_by r_hidden_number : List D → FR) : M D := eCall 2 r_hidden_by (bVal (eVar 0) (bVal (eVar 2) (bNil)))
def m_hidden_number (K : PySem.W.Frag) (r_hidden_by r_hidden_number : List D → FR) : MS := sSeq (sRet (eOpn gSum (aCons (eLc [2] (iSq (eOp2 gIx (eOp2 gIx (eOp2 gIx (eVar 0) (eLit (.int 1))) (eVar 1)) (eLit (.int 1)))) (fName 2) (tTrue) (e_hidden_number_1 K r_hidden_by r_hidden_number)) (aNil)))) (sNil)
mutual
def F_hidden_by (K : PySem.W.Frag) : Nat → List D → FR
  | 0 => fun _ => .bad
  | n + 1 => Se.fnOf 2 [] (m_hidden_by K (F_hidden_by K n) (F_hidden_number K n))
def F_hidden_number (K : PySem.W.Frag) : Nat → List D → FR
  | 0 => fun _ => .bad
  | n + 1 => Se.fnOf 3 [] (m_hidden_number K (F_hidden_by K n) (F_hidden_number K n))
end
theorem fs_hidden_by {P : Program} {w : World} {K : PySem.W.Frag} {mg : Str → Option Value} {base : Heap} (z : Z K mg) {n : Nat} (ih : FK P w K mg base "hidden_by" ["program", "statement"] (s_hidden_by) (0 + n + 1) (F_hidden_by K n) ∧ FK P w K mg base "hidden_number" ["program", "number"] (s_hidden_number) (0 + n + 1) (F_hidden_number K n)) : FK P w K mg base "hidden_by" ["program", "statement"] (s_hidden_by) (0 + (n + 1) + 1) (Se.fnOf 2 [] (m_hidden_by K (F_hidden_by K n) (F_hidden_number K n))) := by
  obtain ⟨f, fd, hm, F, hb⟩ := z.d_hidden_by
  obtain ⟨f_hidden_number, fd_hidden_number, hm_hidden_number, d_hidden_number, hb_hidden_number, ok_hidden_number⟩ := (ih.2)
  have hk_hidden_number := d_hidden_number.kp
  refine ⟨f, fd, hm, F, hb, ?_⟩
  have q := fnN (P := P) (w := w) (mg := mg) (base := base) (k := 0 + n + 1) (C := C0 K) (B := []) (m := (m_hidden_by K (F_hidden_by K n) (F_hidden_number K n))) F sc_hidden_by
  refine q ?_
  intro cdv A outer s H E hr W tk
  have hu : (XC P w K mg base ["program", "statement"] "hidden_by" (defScope s_hidden_by) f cdv A outer s H E).A.units + 64 < cLine := by have := hr.un; simp only [XC, cxOf]; omega
  have hpo : PassesOwn (model P w) (XC P w K mg base ["program", "statement"] "hidden_by" (defScope s_hidden_by) f cdv A outer s H E).A (XC P w K mg base ["program", "statement"] "hidden_by" (defScope s_hidden_by) f cdv A outer s H E).env (XC P w K mg base ["program", "statement"] "hidden_by" (defScope s_hidden_by) f cdv A outer s H E).xe := PassesOwn.leaving
  exact sss_cons (ss_if (stv_eq hu (sv_ix (sv_n (i := 1)) (sv_int)) (sv_str [99, 97, 108, 108] rfl)) (sss_cons (ss_ret (se_call rfl (cal_calm ok_hidden_number (hr.mono (by omega))) tk rfl hm_hidden_number hk_hidden_number hb_hidden_number rfl (sab_val (se_n (i := 0)) (sab_val (se_ix (se_n (i := 1)) (se_int)) (sab_nil))))) (sss_nil)) (sss_nil)) (sss_cons (ss_ret (se_if (stv_in (sv_ix (sv_n (i := 1)) (sv_int)) (sv_gk z.q_TWO_WORDS)) (se_int) (se_int))) (sss_nil))
theorem fs_hidden_number {P : Program} {w : World} {K : PySem.W.Frag} {mg : Str → Option Value} {base : Heap} (z : Z K mg) {n : Nat} (ih : FK P w K mg base "hidden_by" ["program", "statement"] (s_hidden_by) (0 + n + 1) (F_hidden_by K n) ∧ FK P w K mg base "hidden_number" ["program", "number"] (s_hidden_number) (0 + n + 1) (F_hidden_number K n)) : FK P w K mg base "hidden_number" ["program", "number"] (s_hidden_number) (0 + (n + 1) + 1) (Se.fnOf 3 [] (m_hidden_number K (F_hidden_by K n) (F_hidden_number K n))) := by
  obtain ⟨f, fd, hm, F, hb⟩ := z.d_hidden_number
  obtain ⟨f_hidden_by, fd_hidden_by, hm_hidden_by, d_hidden_by, hb_hidden_by, ok_hidden_by⟩ := (ih.1)
  have hk_hidden_by := d_hidden_by.kp
  refine ⟨f, fd, hm, F, hb, ?_⟩
  have q := fnN (P := P) (w := w) (mg := mg) (base := base) (k := 0 + n + 1) (C := C0 K) (B := []) (m := (m_hidden_number K (F_hidden_by K n) (F_hidden_number K n))) F sc_hidden_number
  refine q ?_
  intro cdv A outer s H E hr W tk
  have hu : (XC P w K mg base ["program", "number", "statement"] "hidden_number" (defScope s_hidden_number) f cdv A outer s H E).A.units + 64 < cLine := by have := hr.un; simp only [XC, cxOf]; omega
  have hpo : PassesOwn (model P w) (XC P w K mg base ["program", "number", "statement"] "hidden_number" (defScope s_hidden_number) f cdv A outer s H E).A (XC P w K mg base ["program", "number", "statement"] "hidden_number" (defScope s_hidden_number) f cdv A outer s H E).env (XC P w K mg base ["program", "number", "statement"] "hidden_number" (defScope s_hidden_number) f cdv A outer s H E).xe := PassesOwn.leaving
  exact sss_cons (ss_ret (se_csum rfl z.n_sum (sa_cons (se_lc (own := [("statement", 2)]) (B := [0, 1]) rfl sc_hidden_number.nd (si_seq rfl (se_ix (se_ix (se_ix (se_n (i := 0)) (se_int)) (se_n (i := 1))) (se_int))) (BlkOk.mk (N := ["program", "number", "statement"]) (sc := defScope s_hidden_number) rfl (by decide +kernel) (by decide +kernel) (by decide +kernel) (by decide +kernel)) (lcp_none (fun _ => sg_n sc_hidden_number.nd (i := 2)) (fun _ => se_call rfl (cal_calm ok_hidden_by (hr.mono (by omega))) takes0 rfl hm_hidden_by hk_hidden_by hb_hidden_by rfl (sab_val (se_n (i := 0)) (sab_val (se_n (i := 2)) (sab_nil))))) (show ∀ j, j < 3 → j ∉ ([2] : List Nat) → j ∈ ([0, 1] : List Nat) by decide)) (sa_nil)))) (sss_nil)
theorem fa_hidden_by {P : Program} {w : World} {K : PySem.W.Frag} {mg : Str → Option Value} {base : Heap} (z : Z K mg) : ∀ n : Nat, FK P w K mg base "hidden_by" ["program", "statement"] (s_hidden_by) (0 + n + 1) (F_hidden_by K n) ∧ FK P w K mg base "hidden_number" ["program", "number"] (s_hidden_number) (0 + n + 1) (F_hidden_number K n)
  | 0 => ⟨fk_bad z.d_hidden_by, fk_bad z.d_hidden_number⟩
  | n + 1 => ⟨fs_hidden_by z (fa_hidden_by z n), fs_hidden_number z (fa_hidden_by z n)⟩
theorem ff_hidden_by {P : Program} {w : World} {K : PySem.W.Frag} {mg : Str → Option Value} {base : Heap} (z : Z K mg) (n : Nat) : FK P w K mg base "hidden_by" ["program", "statement"] (s_hidden_by) (0 + n + 1) (F_hidden_by K n) := (fa_hidden_by z n).1
theorem ff_hidden_number {P : Program} {w : World} {K : PySem.W.Frag} {mg : Str → Option Value} {base : Heap} (z : Z K mg) (n : Nat) : FK P w K mg base "hidden_number" ["program", "number"] (s_hidden_number) (0 + n + 1) (F_hidden_number K n) := (fa_hidden_by z n).2
def m_unknown_number (K : PySem.W.Frag) : MS := sSeq (sRet (eOp2 gAdd (eV (vOp2 gMulA (vLit (.int 2)) (vOp2 ixv (vOp2 ixv (vOp2 ixv (vVar 0) (vLit (.int 1))) (vVar 1)) (vLit (.int 0))))) (eCall 2 (F_hidden_number K 40) (bVal (eVar 0) (bVal (eVar 1) (bNil)))))) (sNil)
def F_unknown_number (K : PySem.W.Frag) : List D → FR := Se.fnOf 2 [] (m_unknown_number K)
theorem ff_unknown_number {P : Program} {w : World} {K : PySem.W.Frag} {mg : Str → Option Value} {base : Heap} (z : Z K mg) : FK P w K mg base "unknown_number" ["program", "number"] (s_unknown_number) 42 (F_unknown_number K) := by
  obtain ⟨f, fd, hm, F, hb⟩ := z.d_unknown_number
  obtain ⟨f_hidden_number, fd_hidden_number, hm_hidden_number, d_hidden_number, hb_hidden_number, ok_hidden_number⟩ := (ff_hidden_number (P := P) (w := w) (base := base) z 40)
  have hk_hidden_number := d_hidden_number.kp
  refine ⟨f, fd, hm, F, hb, ?_⟩
  have q := fnN (P := P) (w := w) (mg := mg) (base := base) (k := 41) (C := C0 K) (B := []) (m := (m_unknown_number K)) F sc_unknown_number
  refine q ?_
  intro cdv A outer s H E hr W tk
  have hu : (XC P w K mg base ["program", "number"] "unknown_number" (defScope s_unknown_number) f cdv A outer s H E).A.units + 64 < cLine := by have := hr.un; simp only [XC, cxOf]; omega
  have hpo : PassesOwn (model P w) (XC P w K mg base ["program", "number"] "unknown_number" (defScope s_unknown_number) f cdv A outer s H E).A (XC P w K mg base ["program", "number"] "unknown_number" (defScope s_unknown_number) f cdv A outer s H E).env (XC P w K mg base ["program", "number"] "unknown_number" (defScope s_unknown_number) f cdv A outer s H E).xe := PassesOwn.leaving
  exact sss_cons (ss_ret (se_add (sev_mul (sv_int) (sv_ix (sv_ix (sv_ix (sv_n (i := 0)) (sv_int)) (sv_n (i := 1))) (sv_int))) (se_call rfl (cal_calm ok_hidden_number (hr.mono (by decide))) tk rfl hm_hidden_number hk_hidden_number hb_hidden_number rfl (sab_val (se_n (i := 0)) (sab_val (se_n (i := 1)) (sab_nil)))))) (sss_nil)
def b__law_unknowns_right_1 (K : PySem.W.Frag) : MS := sSeq (sAsg 5 (eV (vOp2 gMod (vOpn gInt (wCons (vOp2 gAdd (vVar 3) (vVar 4)) (wNil))) (vOpn gLen (wCons (vOp2 ixv (vVar 1) (vLit (.int 1))) (wNil)))))) (sSeq (sAsg 6 (eCall 2 (F__law_walk K) (bVal (eOp2 gIx (eVar 1) (eLit (.int 1))) (bVal (eVar 5) (bNil))))) (sSeq (sIf (tNotM (tE (eCall 2 (F__law_same K 40) (bVal (eV (vOpn gTup (wCons (vVar 6) (wNil)))) (bVal (eFz (eCall 2 (F_unknown_names K) (bVal (eVar 1) (bVal (eVar 5) (bNil))))) (bNil)))))) (sSeq (sRet (eLit (.bl false))) (sNil)) (sNil)) (sSeq (sIf (tNotM (tE (eCall 2 (F__law_same K 40) (bVal (eV (vOpn gLen (wCons (vVar 6) (wNil)))) (bVal (eFz (eCall 2 (F_unknown_number K) (bVal (eVar 1) (bVal (eVar 5) (bNil))))) (bNil)))))) (sSeq (sRet (eLit (.bl false))) (sNil)) (sNil)) (sSeq (sIf (tNotM (tE (eCall 2 (F__law_same K 40) (bVal (eV (vOp2 gSub (vOpn gLen (wCons (vVar 6) (wNil))) (vOp2 gMulA (vLit (.int 2)) (vOp2 ixv (vOp2 ixv (vOp2 ixv (vVar 1) (vLit (.int 1))) (vVar 5)) (vLit (.int 0)))))) (bVal (eFz (eCallP [1, 0] 2 (F_hidden_number K 40) (bVal (eVar 5) (bVal (eVar 1) (bNil))))) (bNil)))))) (sSeq (sRet (eLit (.bl false))) (sNil)) (sNil)) (sSeq (sAsg 2 (eV (vOp2 gAdd (vVar 2) (vLit (.int 1))))) (sNil))))))
def m__law_unknowns_right (K : PySem.W.Frag) : MS := sSeq (sAsg 1 (eCall 1 (F__law_whole K) (bBor 0 (bNil)))) (sSeq (sAsg 2 (eLit (.int 0))) (sSeq (sAsg 3 (eCall 2 (F__law_draw K) (bBor 0 (bVal (eV (vOpn gLen (wCons (vOp2 ixv (vVar 1) (vLit (.int 1))) (wNil)))) (bNil))))) (sSeq (sFor (iArgs rg1 (aCons (eV (vOpn gLen (wCons (vOp2 ixv (vVar 1) (vLit (.int 1))) (wNil)))) (aNil))) (fName 4) (b__law_unknowns_right_1 K)) (sSeq (sRet (eV (vOp2 gEq (vVar 2) (vOpn gLen (wCons (vOp2 ixv (vVar 1) (vLit (.int 1))) (wNil)))))) (sNil)))))
def F__law_unknowns_right (K : PySem.W.Frag) : List D → FR := Se.fnOf 7 [0] (m__law_unknowns_right K)
theorem ff__law_unknowns_right {P : Program} {w : World} {K : PySem.W.Frag} {mg : Str → Option Value} {base : Heap} (z : Z K mg) : FK P w K mg base "_law_unknowns_right" ["pot"] (s__law_unknowns_right) 44 (F__law_unknowns_right K) := by
  obtain ⟨f, fd, hm, F, hb⟩ := z.d__law_unknowns_right
  obtain ⟨f__law_draw, fd__law_draw, hm__law_draw, d__law_draw, hb__law_draw, ok__law_draw⟩ := (ff__law_draw (P := P) (w := w) (base := base) z)
  have hk__law_draw := d__law_draw.kp
  obtain ⟨f__law_same, fd__law_same, hm__law_same, d__law_same, hb__law_same, ok__law_same⟩ := (ff__law_same (P := P) (w := w) (base := base) z 40)
  have hk__law_same := d__law_same.kp
  obtain ⟨f__law_walk, fd__law_walk, hm__law_walk, d__law_walk, hb__law_walk, ok__law_walk⟩ := (ff__law_walk (P := P) (w := w) (base := base) z)
  have hk__law_walk := d__law_walk.kp
  obtain ⟨f__law_whole, fd__law_whole, hm__law_whole, d__law_whole, hb__law_whole, ok__law_whole⟩ := (ff__law_whole (P := P) (w := w) (base := base) z)
  have hk__law_whole := d__law_whole.kp
  obtain ⟨f_hidden_number, fd_hidden_number, hm_hidden_number, d_hidden_number, hb_hidden_number, ok_hidden_number⟩ := (ff_hidden_number (P := P) (w := w) (base := base) z 40)
  have hk_hidden_number := d_hidden_number.kp
  obtain ⟨f_unknown_names, fd_unknown_names, hm_unknown_names, d_unknown_names, hb_unknown_names, ok_unknown_names⟩ := (ff_unknown_names (P := P) (w := w) (base := base) z)
  have hk_unknown_names := d_unknown_names.kp
  obtain ⟨f_unknown_number, fd_unknown_number, hm_unknown_number, d_unknown_number, hb_unknown_number, ok_unknown_number⟩ := (ff_unknown_number (P := P) (w := w) (base := base) z)
  have hk_unknown_number := d_unknown_number.kp
  refine ⟨f, fd, hm, F, hb, ?_⟩
  have q := fnN (P := P) (w := w) (mg := mg) (base := base) (k := 43) (C := C0 K) (B := [0]) (m := (m__law_unknowns_right K)) F sc__law_unknowns_right
  refine q ?_
  intro cdv A outer s H E hr W tk
  have hu : (XC P w K mg base ["pot", "whole", "asked", "start", "k", "at", "due"] "_law_unknowns_right" (defScope s__law_unknowns_right) f cdv A outer s H E).A.units + 64 < cLine := by have := hr.un; simp only [XC, cxOf]; omega
  have hpo : PassesOwn (model P w) (XC P w K mg base ["pot", "whole", "asked", "start", "k", "at", "due"] "_law_unknowns_right" (defScope s__law_unknowns_right) f cdv A outer s H E).A (XC P w K mg base ["pot", "whole", "asked", "start", "k", "at", "due"] "_law_unknowns_right" (defScope s__law_unknowns_right) f cdv A outer s H E).env (XC P w K mg base ["pot", "whole", "asked", "start", "k", "at", "due"] "_law_unknowns_right" (defScope s__law_unknowns_right) f cdv A outer s H E).xe := PassesOwn.leaving
  exact sss_cons (ss_setn (i := 1) (se_call rfl (cal_calm ok__law_whole (hr.mono (by decide))) tk rfl hm__law_whole hk__law_whole hb__law_whole rfl (sab_bor (nm (i := 0)) (sab_nil))) sc__law_unknowns_right.nd) (sss_cons (ss_setn (i := 2) (se_int) sc__law_unknowns_right.nd) (sss_cons (ss_setn (i := 3) (se_call rfl (cal_calm ok__law_draw (hr.mono (by decide))) tk rfl hm__law_draw hk__law_draw hb__law_draw rfl (sab_bor (nm (i := 0)) (sab_val (sev_clen z.n_len (sw_cons (sv_ix (sv_n (i := 1)) (sv_int)) (sw_nil))) (sab_nil)))) sc__law_unknowns_right.nd) (sss_cons (ss_for hpo rfl (si_range1 rfl z.n_range (sa_cons (sev_clen z.n_len (sw_cons (sv_ix (sv_n (i := 1)) (sv_int)) (sw_nil))) (sa_nil))) (sg_n sc__law_unknowns_right.nd (i := 4)) (sss_cons (ss_setn (i := 5) (sev_mod (sv_cint z.n_int (sw_cons (sv_add (sv_n (i := 3)) (sv_n (i := 4))) (sw_nil))) (sv_clen z.n_len (sw_cons (sv_ix (sv_n (i := 1)) (sv_int)) (sw_nil)))) sc__law_unknowns_right.nd) (sss_cons (ss_setn (i := 6) (se_call rfl (cal_calm ok__law_walk (hr.mono (by decide))) tk rfl hm__law_walk hk__law_walk hb__law_walk rfl (sab_val (se_ix (se_n (i := 1)) (se_int)) (sab_val (se_n (i := 5)) (sab_nil)))) sc__law_unknowns_right.nd) (sss_cons (ss_if (st_not (st_t (se_call rfl (cal_calm ok__law_same (hr.mono (by decide))) tk rfl hm__law_same hk__law_same hb__law_same rfl (sab_val (sev_ctuple z.n_tuple (sw_cons (sv_n (i := 6)) (sw_nil))) (sab_val (se_fz (se_call rfl (cal_calm ok_unknown_names (hr.mono (by decide))) tk rfl hm_unknown_names hk_unknown_names hb_unknown_names rfl (sab_val (se_n (i := 1)) (sab_val (se_n (i := 5)) (sab_nil))))) (sab_nil)))))) (sss_cons (ss_ret (se_bl)) (sss_nil)) (sss_nil)) (sss_cons (ss_if (st_not (st_t (se_call rfl (cal_calm ok__law_same (hr.mono (by decide))) tk rfl hm__law_same hk__law_same hb__law_same rfl (sab_val (sev_clen z.n_len (sw_cons (sv_n (i := 6)) (sw_nil))) (sab_val (se_fz (se_call rfl (cal_calm ok_unknown_number (hr.mono (by decide))) tk rfl hm_unknown_number hk_unknown_number hb_unknown_number rfl (sab_val (se_n (i := 1)) (sab_val (se_n (i := 5)) (sab_nil))))) (sab_nil)))))) (sss_cons (ss_ret (se_bl)) (sss_nil)) (sss_nil)) (sss_cons (ss_if (st_not (st_t (se_call rfl (cal_calm ok__law_same (hr.mono (by decide))) tk rfl hm__law_same hk__law_same hb__law_same rfl (sab_val (sev_sub (sv_clen z.n_len (sw_cons (sv_n (i := 6)) (sw_nil))) (sv_mul (sv_int) (sv_ix (sv_ix (sv_ix (sv_n (i := 1)) (sv_int)) (sv_n (i := 5))) (sv_int)))) (sab_val (se_fz (se_callP (ks := ["number", "program"]) rfl (cal_calm ok_hidden_number (hr.mono (by decide))) tk rfl hm_hidden_number hk_hidden_number (bkP d_hidden_number (by decide) (by decide) rfl rfl fun _ _ _ _ _ _ ws hl => match ws, hl with | [_, _], _ => rfl) rfl (skw_val (se_n (i := 5)) (skw_val (se_n (i := 1)) (skw_nil))))) (sab_nil)))))) (sss_cons (ss_ret (se_bl)) (sss_nil)) (sss_nil)) (sss_cons (ss_setn (i := 2) (sev_add (sv_n (i := 2)) (sv_int)) sc__law_unknowns_right.nd) (sss_nil)))))))) (sss_cons (ss_ret (sev_eq hu (sv_n (i := 2)) (sv_clen z.n_len (sw_cons (sv_ix (sv_n (i := 1)) (sv_int)) (sw_nil))))) (sss_nil)))))
def m_law (K : PySem.W.Frag) : MS := sSeq (sAsg 1 (eCall 1 (F__law_pot K) (bVal (eVar 0) (bNil)))) (sSeq (sRet (eAnd (eCall 1 (F__law_forms_right K) (bBor 1 (bNil))) (eCall 1 (F__law_unknowns_right K) (bBor 1 (bNil))))) (sNil))
def F_law (K : PySem.W.Frag) : List D → FR := Se.fnOf 2 [] (m_law K)
theorem ff_law {P : Program} {w : World} {K : PySem.W.Frag} {mg : Str → Option Value} {base : Heap} (z : Z K mg) : FK P w K mg base "law" ["script"] (s_law) 45 (F_law K) := by
  obtain ⟨f, fd, hm, F, hb⟩ := z.d_law
  obtain ⟨f__law_forms_right, fd__law_forms_right, hm__law_forms_right, d__law_forms_right, hb__law_forms_right, ok__law_forms_right⟩ := (ff__law_forms_right (P := P) (w := w) (base := base) z)
  have hk__law_forms_right := d__law_forms_right.kp
  obtain ⟨f__law_pot, fd__law_pot, hm__law_pot, d__law_pot, hb__law_pot, ok__law_pot⟩ := (ff__law_pot (P := P) (w := w) (base := base) z)
  have hk__law_pot := d__law_pot.kp
  obtain ⟨f__law_unknowns_right, fd__law_unknowns_right, hm__law_unknowns_right, d__law_unknowns_right, hb__law_unknowns_right, ok__law_unknowns_right⟩ := (ff__law_unknowns_right (P := P) (w := w) (base := base) z)
  have hk__law_unknowns_right := d__law_unknowns_right.kp
  refine ⟨f, fd, hm, F, hb, ?_⟩
  have q := fnN (P := P) (w := w) (mg := mg) (base := base) (k := 44) (C := C0 K) (B := []) (m := (m_law K)) F sc_law
  refine q ?_
  intro cdv A outer s H E hr W tk
  have hu : (XC P w K mg base ["script", "pot"] "law" (defScope s_law) f cdv A outer s H E).A.units + 64 < cLine := by have := hr.un; simp only [XC, cxOf]; omega
  have hpo : PassesOwn (model P w) (XC P w K mg base ["script", "pot"] "law" (defScope s_law) f cdv A outer s H E).A (XC P w K mg base ["script", "pot"] "law" (defScope s_law) f cdv A outer s H E).env (XC P w K mg base ["script", "pot"] "law" (defScope s_law) f cdv A outer s H E).xe := PassesOwn.leaving
  exact sss_cons (ss_setn (i := 1) (se_call rfl (cal_calm ok__law_pot (hr.mono (by decide))) tk rfl hm__law_pot hk__law_pot hb__law_pot rfl (sab_val (se_n (i := 0)) (sab_nil))) sc_law.nd) (sss_cons (ss_ret (se_and (se_call rfl (cal_calm ok__law_forms_right (hr.mono (by decide))) tk rfl hm__law_forms_right hk__law_forms_right hb__law_forms_right rfl (sab_bor (nm (i := 1)) (sab_nil))) (se_one (se_call rfl (cal_calm ok__law_unknowns_right (hr.mono (by decide))) tk rfl hm__law_unknowns_right hk__law_unknowns_right hb__law_unknowns_right rfl (sab_bor (nm (i := 1)) (sab_nil)))))) (sss_nil))
/-! the head -/
def fa : List He.Fa := [.free "bool", .free "enumerate", .free "int", .free "isinstance", .free "len", .free "list", .free "max", .free "min", .free "range", .free "sorted", .free "str", .free "sum", .free "tuple", .glo "TWO_WORDS", .glo "_law_pot", .glo "_law_draw", .glo "_law_numbers", .glo "_law_worths", .glo "_law_form", .glo "_law_same", .glo "form_worth", .glo "form_less", .glo "form_of", .glo "form_sum", .glo "_law_forms_right", .glo "_law_call", .glo "_law_plain", .glo "_law_procedure", .glo "_law_whole", .glo "_law_made", .glo "_law_walk", .glo "dotted", .glo "hidden_names", .glo "unknown_names", .glo "hidden_by", .glo "hidden_number", .glo "unknown_number", .glo "_law_unknowns_right", .glo "law"]
def fn : List He.DefD := [dD "_law_pot" s__law_pot, dD "_law_draw" s__law_draw, dD "_law_numbers" s__law_numbers, dD "_law_worths" s__law_worths, dD "_law_form" s__law_form, dD "_law_same" s__law_same, dD "form_worth" s_form_worth, dD "form_less" s_form_less, dD "form_of" s_form_of, dD "form_sum" s_form_sum, dD "_law_forms_right" s__law_forms_right, dD "_law_call" s__law_call, dD "_law_plain" s__law_plain, dD "_law_procedure" s__law_procedure, dD "_law_whole" s__law_whole, dD "_law_made" s__law_made, dD "_law_walk" s__law_walk, dD "dotted" s_dotted, dD "hidden_names" s_hidden_names, dD "unknown_names" s_unknown_names, dD "hidden_by" s_hidden_by, dD "hidden_number" s_hidden_number, dD "unknown_number" s_unknown_number, dD "_law_unknowns_right" s__law_unknowns_right, dD "law" s_law]
def ex (K : PySem.W.Frag) : List Bool := [gcB K "TWO_WORDS" (.tup [.str [99, 117, 116], .str [115, 112, 108, 105, 116]])]
theorem z_of {K : PySem.W.Frag} {mg : Str → Option Value} {h : Heap} (X : K.In h) (G : h.Ns mainGlobals mg) (c : He.SaysD fa fn K) (e : (ex K).all id = true) : Z K mg where
  n_bool := He.free_ok X G (c.fact 0 (f := .free "bool") rfl)
  n_enumerate := He.free_ok X G (c.fact 1 (f := .free "enumerate") rfl)
  n_int := He.free_ok X G (c.fact 2 (f := .free "int") rfl)
  n_isinstance := He.free_ok X G (c.fact 3 (f := .free "isinstance") rfl)
  n_len := He.free_ok X G (c.fact 4 (f := .free "len") rfl)
  n_list := He.free_ok X G (c.fact 5 (f := .free "list") rfl)
  n_max := He.free_ok X G (c.fact 6 (f := .free "max") rfl)
  n_min := He.free_ok X G (c.fact 7 (f := .free "min") rfl)
  n_range := He.free_ok X G (c.fact 8 (f := .free "range") rfl)
  n_sorted := He.free_ok X G (c.fact 9 (f := .free "sorted") rfl)
  n_str := He.free_ok X G (c.fact 10 (f := .free "str") rfl)
  n_sum := He.free_ok X G (c.fact 11 (f := .free "sum") rfl)
  n_tuple := He.free_ok X G (c.fact 12 (f := .free "tuple") rfl)
  q_TWO_WORDS := ⟨_, He.glo_ok X G (c.fact 13 (f := .glo "TWO_WORDS") rfl), exAt e 0 rfl⟩
  d__law_pot := d_of X G c 0 14 rfl rfl fun _ _ _ _ _ _ us hl => match us, hl with | [_], _ => rfl
  d__law_draw := d_of X G c 1 15 rfl rfl fun _ _ _ _ _ _ us hl => match us, hl with | [_, _], _ => rfl
  d__law_numbers := d_of X G c 2 16 rfl rfl fun _ _ _ _ _ _ us hl => match us, hl with | [_, _], _ => rfl
  d__law_worths := d_of X G c 3 17 rfl rfl fun _ _ _ _ _ _ us hl => match us, hl with | [_, _], _ => rfl
  d__law_form := d_of X G c 4 18 rfl rfl fun _ _ _ _ _ _ us hl => match us, hl with | [_], _ => rfl
  d__law_same := d_of X G c 5 19 rfl rfl fun _ _ _ _ _ _ us hl => match us, hl with | [_, _], _ => rfl
  d_form_worth := d_of X G c 6 20 rfl rfl fun _ _ _ _ _ _ us hl => match us, hl with | [_, _], _ => rfl
  d_form_less := d_of X G c 7 21 rfl rfl fun _ _ _ _ _ _ us hl => match us, hl with | [_, _, _], _ => rfl
  d_form_of := d_of X G c 8 22 rfl rfl fun _ _ _ _ _ _ us hl => match us, hl with | [_], _ => rfl
  d_form_sum := d_of X G c 9 23 rfl rfl fun _ _ _ _ _ _ us hl => match us, hl with | [_, _], _ => rfl
  d__law_forms_right := d_of X G c 10 24 rfl rfl fun _ _ _ _ _ _ us hl => match us, hl with | [_], _ => rfl
  d__law_call := d_of X G c 11 25 rfl rfl fun _ _ _ _ _ _ us hl => match us, hl with | [_, _, _, _], _ => rfl
  d__law_plain := d_of X G c 12 26 rfl rfl fun _ _ _ _ _ _ us hl => match us, hl with | [_, _, _, _], _ => rfl
  d__law_procedure := d_of X G c 13 27 rfl rfl fun _ _ _ _ _ _ us hl => match us, hl with | [_, _, _], _ => rfl
  d__law_whole := d_of X G c 14 28 rfl rfl fun _ _ _ _ _ _ us hl => match us, hl with | [_], _ => rfl
  d__law_made := d_of X G c 15 29 rfl rfl fun _ _ _ _ _ _ us hl => match us, hl with | [_], _ => rfl
  d__law_walk := d_of X G c 16 30 rfl rfl fun _ _ _ _ _ _ us hl => match us, hl with | [_, _], _ => rfl
  d_dotted := d_of X G c 17 31 rfl rfl fun _ _ _ _ _ _ us hl => match us, hl with | [_], _ => rfl
  d_hidden_names := d_of X G c 18 32 rfl rfl fun _ _ _ _ _ _ us hl => match us, hl with | [_, _, _], _ => rfl
  d_unknown_names := d_of X G c 19 33 rfl rfl fun _ _ _ _ _ _ us hl => match us, hl with | [_, _], _ => rfl
  d_hidden_by := d_of X G c 20 34 rfl rfl fun _ _ _ _ _ _ us hl => match us, hl with | [_, _], _ => rfl
  d_hidden_number := d_of X G c 21 35 rfl rfl fun _ _ _ _ _ _ us hl => match us, hl with | [_, _], _ => rfl
  d_unknown_number := d_of X G c 22 36 rfl rfl fun _ _ _ _ _ _ us hl => match us, hl with | [_, _], _ => rfl
  d__law_unknowns_right := d_of X G c 23 37 rfl rfl fun _ _ _ _ _ _ us hl => match us, hl with | [_], _ => rfl
  d_law := d_of X G c 24 38 rfl rfl fun _ _ _ _ _ _ us hl => match us, hl with | [_], _ => rfl
def loose : List Str := (["TWO_WORDS", "dotted", "hidden_by", "hidden_number", "unknown_number", "hidden_names", "unknown_names", "form_sum", "form_of", "form_worth", "form_less", "_law_pot", "_law_draw", "_law_same", "_law_numbers", "_law_worths", "_law_form", "_law_forms_right", "_law_made", "_law_plain", "_law_call", "_law_procedure", "_law_whole", "_law_walk", "_law_unknowns_right"] : List Str)
abbrev R : PySem.W.OpenRow := PySem.W.OpenLaw.row PySem.Challenge.rw_anysizes_k09_forms_unknowns
abbrev hk : PySem.W.Hook := hookG 6 fa fn ex
def ob (s : PySem.W.SharedT) : He.AlD × Bool := obG 6 fa fn ex (HandSHeadRun.getT s)
theorem ob_eq (s : PySem.W.SharedT) : ob s = hk.obs s.abs := obG_eq (HandSHeadRun.getT_eq s)
theorem run (w : World) : HandSHeadRun.RunEq R (PySem.W.view R.prog [29]) hk ob 3000 loose w := by
  intro os
  kernel_rfl
end K09
open PySem PySem.W PySem.Calls PyProof.Rows
theorem K09.holds (ht : ∀ (K : PySem.W.Frag) (mg : PySem.Str → Option Value), K09.Z K mg → ∀ ns : List Int, ns.length ≤ 63 → ∃ ds, K09.F_law K [.lst false (ns.map Se.D.int)] = .rt (.bl true) ds) : PySem.Challenge.rw_anysizes_k09_forms_unknowns.Holds := by
  w_on; o_law
  refine HandSHeadRun.head_any (r := OpenLaw.row PySem.Challenge.rw_anysizes_k09_forms_unknowns) (q := view (OpenLaw.row PySem.Challenge.rw_anysizes_k09_forms_unknowns).prog [29]) (H := K09.hk) (ob := K09.ob) (M := 3000) (loose := K09.loose) (d := HandSHeadRun.topDef (OpenLaw.row PySem.Challenge.rw_anysizes_k09_forms_unknowns).prog 29) (kwd := []) K09.ob_eq (by kernel_rfl) (fun s => by kernel_rfl) K09.run
    (by kernel_rfl) (by kernel_rfl) (by kernel_rfl) (by rfl) (by first | assumption | decide +kernel) (by decide +kernel) ⟨rfl, rfl, rfl, rfl, rfl, by decide +kernel⟩ ?hw ?hc
  case hw => w_witness2
  case hc =>
    refine L2.walk_ofE (l := PySem.Challenge.rw_anysizes_k09_forms_unknowns) (n := 63) (k := 45) (x := "script") (CX := Se.CXa PySem.Challenge.pw_anysizes_k09_forms_unknowns) rfl (by decide) (by kernel_rfl) ⟨rfl, by decide, by decide⟩ ?F Se.noCX
    intro w mg fa h Y G hmg0
    obtain ⟨K, KX, c, e, nl⟩ := Y
    have hmg : mg ("law" : PySem.Str) = some (.ref fa) := by
      have e : (HandSHeadRun.topDef (OpenLaw.row PySem.Challenge.rw_anysizes_k09_forms_unknowns).prog 29).name = ("law" : PySem.Str) := by kernel_rfl
      rw [← e]
      exact hmg0
    have z := K09.z_of KX G c e
    exact Se.law_F KX hmg nl z.d_law (fun base => K09.ff_law z) (ht K mg z) fun _ _ _ _ _ _ us hl => match us, hl with | [_], _ => rfl

namespace K09
open Se PySem
def ptD (cs : List Int) (i c s m : Int) : D := .lst true [.lst true (cs.map D.int), .int i, .int c, .int s, .int m]
def Pt (n : Nat) (d : D) : Prop := ∃ (cs : List Int) (i : Nat) (c s m : Int), d = ptD cs i c s m ∧ 0 ≤ c ∧ 0 ≤ s ∧ s < 2147483647 ∧ 0 ≤ m ∧ m ≤ n ∧ i ≤ cs.length ∧ cs.length ≤ 63
theorem Pt.le {m n : Nat} {d : D} (h : Pt m d) (e : m ≤ n) : Pt n d := by
  obtain ⟨cs, i, c, s, k, rfl, h1, h2, h3, h4, h5, h6⟩ := h
  exact ⟨cs, i, c, s, k, rfl, h1, h2, h3, h4, by omega, h6⟩
theorem Pt.ne {n : Nat} {d : D} (h : Pt n d) : ne d = true := by
  obtain ⟨cs, i, c, s, k, rfl, _⟩ := h
  simp [ptD, neL_ints]
theorem ixI {cs : List Int} {i : Nat} (h : i < cs.length) : ixD (cs.map D.int) (i : Int) = some (.int cs[i]) := by
  unfold ixD
  rw [if_pos (by omega)]
  simp [h]
theorem draw_ok (K : PySem.W.Frag) {n : Nat} {d : D} {many : Int} (h : Pt n d) (hn : n < 2 ^ 40) (h2 : 0 < many) (h3 : many < 1073741824) : ∃ x d', F__law_draw K [d, .int many] = .rt (.int x) [d', .int many] ∧ 0 ≤ x ∧ x < many ∧ Pt (n + 1) d' := by
  obtain ⟨cs, i, c, s, m, rfl, c0, s0, s1, m0, m1, i1, l1⟩ := h
  have k1 : ∀ i, CMulA i 37 := fun i => cm7 (by decide) (by decide)
  have k2 : ∀ i, CMulA 2 i := fun i => cm8 (by decide) (by decide)
  have k3 : ∀ i, CMulA i 4513 := fun i => cm7 (by decide) (by decide)
  have k4 : ∀ i, CMulA i 16807 := fun i => cm7 (by decide) (by decide)
  have k5 : ∀ i, CMulA i 7919 := fun i => cm7 (by decide) (by decide)
  have k6 : CMulA (m + 1) (m + 1) := cm7 (by omega) (by omega)
  have md : ∀ z : Int, 0 ≤ z % 2147483647 ∧ z % 2147483647 < 2147483647 := fun z => ⟨Int.emod_nonneg _ (by omega), Int.emod_lt_of_pos _ (by omega)⟩
  by_cases hc : c = 0
  · subst hc
    by_cases hi : i < cs.length
    · have hx := ixI hi
      have hi2 : ((i : Int) < (cs.length : Int)) := by omega
      -- the cell as it is used
      have go : ∀ w : Int, (w = cs[i] ∧ 0 ≤ cs[i] ∨ w = 1 - 2 * cs[i] ∧ cs[i] < 0) → ∃ x d', F__law_draw K [ptD cs i 0 s m, .int many] = .rt (.int x) [d', .int many] ∧ 0 ≤ x ∧ x < many ∧ Pt (n + 1) d' := by
        intro w hw
        have hw0 : 0 ≤ w := by omega
        by_cases hb : w ≥ 1000000000000000000
        · have hwp : 0 < w := by omega
          refine ⟨w % many, ptD cs (i + 1 : Nat) (w / many) ((s * 37 + w % 1999993 * 4513 + (m + 1)) % 2147483647) (m + 1), ?_, Int.emod_nonneg _ (by omega), Int.emod_lt_of_pos _ h2, cs, i + 1, _, _, m + 1, rfl, Int.ediv_nonneg (by omega) (by omega), (md _).1, (md _).2, by omega, by omega, by omega, l1⟩
          rcases hw with ⟨rfl, hn⟩ | ⟨rfl, hn⟩
          · simp [F__law_draw, u131, startE, m__law_draw, ptD, ixn0, ixn1, ixn2, ixn3, ixn4, pw18, hx, hi2, nrm, L2.CDiv, h2, h3, k1, k2, k3, gIx, hb, hwp, show ¬ cs[i] < 0 by omega]
          · simp [F__law_draw, u131, startE, m__law_draw, ptD, ixn0, ixn1, ixn2, ixn3, ixn4, pw18, hx, hi2, nrm, L2.CDiv, h2, h3, k1, k2, k3, gIx, hb, hwp, hn, show 2 * cs[i] < 1 by omega]
        · refine ⟨((s * 37 + w % 1999993 * 4513 + (m + 1)) % 2147483647 * 16807 + (m + 1) * (m + 1) * 7919 + 12345) % 2147483647 / 89 % many, ptD cs (i + 1 : Nat) 0 (((s * 37 + w % 1999993 * 4513 + (m + 1)) % 2147483647 * 16807 + (m + 1) * (m + 1) * 7919 + 12345) % 2147483647) (m + 1), ?_, Int.emod_nonneg _ (by omega), Int.emod_lt_of_pos _ h2, cs, i + 1, _, _, m + 1, rfl, by omega, (md _).1, (md _).2, by omega, by omega, by omega, l1⟩
          rcases hw with ⟨rfl, hn⟩ | ⟨rfl, hn⟩
          · simp [F__law_draw, u131, startE, m__law_draw, ptD, ixn0, ixn1, ixn2, ixn3, ixn4, pw18, hx, hi2, nrm, L2.CDiv, h2, h3, k1, k2, k3, k4, k5, k6, gIx, hb, show ¬ cs[i] < 0 by omega]
          · simp [F__law_draw, u131, startE, m__law_draw, ptD, ixn0, ixn1, ixn2, ixn3, ixn4, pw18, hx, hi2, nrm, L2.CDiv, h2, h3, k1, k2, k3, k4, k5, k6, gIx, hb, hn]
      by_cases hn : cs[i] < 0
      · exact go (1 - 2 * cs[i]) (.inr ⟨rfl, hn⟩)
      · exact go cs[i] (.inl ⟨rfl, by omega⟩)
    · have hi2 : ¬ ((i : Int) < (cs.length : Int)) := by omega
      refine ⟨(s * 16807 + (m + 1) * (m + 1) * 7919 + 12345) % 2147483647 / 89 % many, ptD cs i 0 ((s * 16807 + (m + 1) * (m + 1) * 7919 + 12345) % 2147483647) (m + 1), ?_, Int.emod_nonneg _ (by omega), Int.emod_lt_of_pos _ h2, cs, i, 0, _, m + 1, rfl, by omega, (md _).1, (md _).2, by omega, by omega, i1, l1⟩
      simp [F__law_draw, u131, startE, m__law_draw, ptD, ixn0, ixn1, ixn2, ixn3, ixn4, hi2, nrm, L2.CDiv, h2, h3, k4, k5, k6]
  · have h1 : 0 < c := by omega
    refine ⟨c % many, ptD cs i (c / many) s (m + 1), ?_, Int.emod_nonneg _ (by omega), Int.emod_lt_of_pos _ h2, cs, i, c / many, s, m + 1, rfl, Int.ediv_nonneg (by omega) (by omega), s0, s1, by omega, by omega, i1, l1⟩
    simp [F__law_draw, u131, startE, m__law_draw, ptD, ixn0, ixn1, ixn2, ixn3, ixn4, hc, nrm, L2.CDiv, h1, h2, h3]
theorem pot_ok (K : PySem.W.Frag) {ns : List Int} (h : ns.length ≤ 63) : ∃ d, F__law_pot K [.lst false (ns.map .int)] = .rt d [.lst false (ns.map .int)] ∧ Pt 0 d := by
  obtain ⟨ρ', e, q, rfl⟩ := compF_map (vs := [1]) (f := fName 1) (me := e__law_pot_1 K) (fun ρ => ∃ q, ρ = [some (.lst false (ns.map .int)), q]) id (ns.map D.int) [] [some (.lst false (ns.map .int)), none] ⟨none, rfl⟩ (by simp [szl]; omega) (by
    rintro d hd ρ ⟨q, rfl⟩
    obtain ⟨n, _, rfl⟩ := List.mem_map.mp hd
    exact ⟨_, _, rfl, rfl, _, rfl⟩)
  have hs : gSl (.lst false (ns.map .int)) none (some 63) = some (.lst true (ns.map D.int)) := by
    show (if fzL (ns.map D.int) = true then some (D.lst true (cutL (ns.map D.int) none (some ((63 : Nat) : Int)))) else none) = _
    rw [if_pos (fzL_ints ns), cutL_take, List.take_of_length_le (by simpa using h)]
  refine ⟨ptD ns 0 0 17 0, ?_, ns, 0, 0, 17, 0, rfl, by omega, by omega, by omega, by omega, by omega, by omega, h⟩
  have h1 := fzL_ints ns
  have h2 := frzL_ints ns
  simp only [List.nil_append, List.map_id] at e
  simp [F__law_pot, u131, startE, m__law_pot, hs, h1, h2, ptD, e, szl, itemsD]
end K09

namespace K09
open Se PySem
/-- numbers, texts, tuples of such -/
def Pl : Nat → D → Prop
  | 0, d => (∃ i, d = .int i) ∨ ∃ z, d = .str z
  | n + 1, d => (∃ i, d = .int i) ∨ (∃ z, d = .str z) ∨ ∃ ds, d = .tup ds ∧ ds.length ≤ 1000000 ∧ ∀ x ∈ ds, Pl n x
theorem Pl.fz : ∀ {n : Nat} {d : D}, Pl n d → Se.fz d = true ∧ Se.ne d = true
  | 0, d, h => by
    rcases h with ⟨i, rfl⟩ | ⟨z, rfl⟩ <;> exact ⟨rfl, rfl⟩
  | n + 1, d, h => by
    rcases h with ⟨i, rfl⟩ | ⟨z, rfl⟩ | ⟨ds, rfl, _, h⟩
    · exact ⟨rfl, rfl⟩
    · exact ⟨rfl, rfl⟩
    · have : ∀ ds : List D, (∀ x ∈ ds, Pl n x) → fzL ds = true ∧ neL ds = true := by
        intro ds
        induction ds with
        | nil => exact fun _ => ⟨rfl, rfl⟩
        | cons a ds ih =>
          intro h
          obtain ⟨h1, h2⟩ := ih fun x hx => h x (List.mem_cons_of_mem _ hx)
          obtain ⟨h3, h4⟩ := Pl.fz (h a List.mem_cons_self)
          exact ⟨by simp [h1, h3], by simp [h2, h4]⟩
      exact this ds h
theorem Pl.frz : ∀ {n : Nat} {d : D}, Pl n d → Se.frz d = d
  | 0, d, h => by
    rcases h with ⟨i, rfl⟩ | ⟨z, rfl⟩ <;> rfl
  | n + 1, d, h => by
    rcases h with ⟨i, rfl⟩ | ⟨z, rfl⟩ | ⟨ds, rfl, _, h⟩
    · rfl
    · rfl
    · have : ∀ ds : List D, (∀ x ∈ ds, Pl n x) → frzL ds = ds := by
        intro ds
        induction ds with
        | nil => exact fun _ => rfl
        | cons a ds ih =>
          intro h
          show Se.frz a :: frzL ds = _
          rw [ih fun x hx => h x (List.mem_cons_of_mem _ hx), Pl.frz (h a List.mem_cons_self)]
      show D.tup (frzL ds) = _
      rw [this ds h]
theorem Pl.int {n : Nat} {i : Int} : Pl n (.int i) := by
  cases n
  · exact .inl ⟨i, rfl⟩
  · exact .inl ⟨i, rfl⟩
theorem Pl.str {n : Nat} {z : List Nat} : Pl n (.str z) := by
  cases n
  · exact .inr ⟨z, rfl⟩
  · exact .inr (.inl ⟨z, rfl⟩)
theorem Pl.tup {n : Nat} {ds : List D} (hl : ds.length ≤ 1000000) (h : ∀ x ∈ ds, Pl n x) : Pl (n + 1) (.tup ds) := .inr (.inr ⟨ds, rfl, hl, h⟩)
theorem same_ok (K : PySem.W.Frag) : ∀ (n f : Nat) (d : D), n < f → Pl n d → F__law_same K f [d, d] = .rt (.bl true) [d, d] := by
  have i1 : ∀ i : Int, gIsi K [.int i, .ty "bool"] = some (.bl false) := fun _ => rfl
  have i2 : ∀ i : Int, gIsi K [.int i, .ty "int"] = some (.bl true) := fun _ => rfl
  have j1 : ∀ i, gIsi K [.str i, .ty "bool"] = some (.bl false) := fun _ => rfl
  have j2 : ∀ i, gIsi K [.str i, .ty "int"] = some (.bl false) := fun _ => rfl
  have j3 : ∀ i, gIsi K [.str i, .ty "str"] = some (.bl true) := fun _ => rfl
  have k1 : ∀ i, gIsi K [.tup i, .ty "bool"] = some (.bl false) := fun _ => rfl
  have k2 : ∀ i, gIsi K [.tup i, .ty "int"] = some (.bl false) := fun _ => rfl
  have k3 : ∀ i, gIsi K [.tup i, .ty "str"] = some (.bl false) := fun _ => rfl
  have k4 : ∀ i, gIsi K [.tup i, .ty "tuple"] = some (.bl true) := fun _ => rfl
  have base : ∀ (f : Nat) (d : D), 0 < f → ((∃ i, d = .int i) ∨ ∃ z, d = .str z) → F__law_same K f [d, d] = .rt (.bl true) [d, d] := by
    intro f d hf h
    obtain ⟨f, rfl⟩ : ∃ g, f = g + 1 := ⟨f - 1, by omega⟩
    rcases h with ⟨i, rfl⟩ | ⟨z, rfl⟩
    · simp [F__law_same, u131, startE, m__law_same, i1, i2]
    · simp [F__law_same, u131, startE, m__law_same, j1, j2, j3]
  intro n
  induction n with
  | zero => exact fun f d hf h => base f d (by omega) h
  | succ n ih =>
    intro f d hf h
    rcases h with h | h | ⟨ds, rfl, hl, h⟩
    · exact base f d (by omega) (.inl h)
    · exact base f d (by omega) (.inr h)
    · obtain ⟨f, rfl⟩ : ∃ g, f = g + 1 := ⟨f - 1, by omega⟩
      have hz : fzL ds = true := (Pl.fz (n := n + 1) (.inr (.inr ⟨ds, rfl, hl, h⟩))).1
      have hn : neL ds = true := (Pl.fz (n := n + 1) (.inr (.inr ⟨ds, rfl, hl, h⟩))).2
      obtain ⟨ρ', e, q, rfl⟩ := forF_range (f := fName 2) (m := b__law_same_1 K (F__law_same K f)) (fun i ρ => ∃ q, ρ = [some (.tup ds), some (.tup ds), q]) (lo := 0) (n := ds.length) (ρ := [some (.tup ds), some (.tup ds), none]) ⟨none, rfl⟩ (by
        rintro i ρ hi ⟨q, rfl⟩
        refine ⟨_, [some (.tup ds), some (.tup ds), some (.int (0 + i))], rfl, .inl ?_, _, rfl⟩
        have hx : ixD ds ((0 : Int) + i) = some ds[i] := by
          rw [Int.zero_add]
          unfold ixD
          rw [if_pos (by omega)]
          simp [hi]
        obtain ⟨h3, h4⟩ := (h _ (List.getElem_mem hi)).fz
        have e := ih f ds[i] (by omega) (h _ (List.getElem_mem hi))
        rw [Int.zero_add] at hx
        simp [b__law_same_1, hz, hx, gIx, h3, h4, e])
      have b1 : -4611686018427387904 < (ds.length : Int) := by omega
      have b2 : (ds.length : Int) < 4611686018427387904 := by omega
      simp [F__law_same, u131, startE, m__law_same, k1, k2, k3, k4, rg1_of b1 b2, e, hz]
theorem same40 (K : PySem.W.Frag) {n : Nat} {d : D} (h : Pl n d) (hn : n < 40) : F__law_same K 40 [d, d] = .rt (.bl true) [d, d] := same_ok K n 40 d hn h
end K09

namespace K09
open Se PySem
theorem sSetE_ok {me mk : M D} {p : Se.Env → Option (Nat × List Sel)} {ρ ρ1 ρ2 : Se.Env} {y : D} {i j : Nat} {ds : List D} {k : Int} (h1 : me ρ = .ok y ρ1) (h2 : fz y = true) (h3 : p ρ1 = some (i, [])) (h4 : ρ1[i]? = some (some (.lst true ds))) (h5 : mk (ρ1.set i none) = .ok (.int k) ρ2) (h6 : ρ2[i]? = some none) (h7 : nrm ds.length k = some j) :
    sSetE me p mk ρ = .nx (ρ2.set i (some (.lst true (ds.set j y)))) := by
  unfold sSetE
  rw [h1]
  dsimp only
  rw [if_pos h2, h3]
  dsimp only
  rw [h4]
  show (match mk (ρ1.set i none) with
          | .ok (.int k) ρ2 => match ρ2[i]?, updP (.lst true ds) [] (leafSet k y) with
            | some none, some d' => SR.nx (ρ2.set i (some d'))
            | _, _ => .bad
          | .ex e ρ2 => .bad
          | _ => .bad) = _
  rw [h5]
  dsimp only
  rw [h6]
  show (match some none, (nrm ds.length k).map fun j => D.lst true (ds.set j y) with
            | some (none : Option D), some d' => SR.nx (ρ2.set i (some d'))
            | _, _ => .bad) = _
  rw [h7]
  rfl
theorem intsD_map (l : List Int) : intsD (l.map D.int) = some l := by
  induction l with
  | nil => rfl
  | cons a l ih => simp [intsD, ih]
/-- counts -/
def Nu (k : Nat) (l : List Int) : Prop := l.length = k ∧ ∀ x ∈ l, 0 ≤ x ∧ x ≤ 500003
theorem numbers_ok (K : PySem.W.Frag) {n k : Nat} {d : D} (h : Pt n d) (hn : n + 200 < 2 ^ 40) (h1 : 1 ≤ k) (h2 : k ≤ 30) : ∃ (l : List Int) (d' : D), F__law_numbers K [d, .int k] = .rt (.lst true (l.map D.int)) [d', .int k] ∧ Nu k l ∧ Pt (n + 62) d' := by
  obtain ⟨ρ', e3, d1, l, q, w, rfl, hl, hb, s1⟩ := forF_range (f := fName 3) (m := b__law_numbers_1 K) (fun i ρ => ∃ (d' : D) (l : List Int) (q w : Option D), ρ = [some d', some (.int k), some (.lst true (l.map D.int)), q, w] ∧ l.length = i ∧ (∀ x ∈ l, 0 ≤ x ∧ x ≤ 500003) ∧ Pt (n + 2 * i) d') (lo := 0) (n := k) (ρ := [some d, some (.int k), some (.lst true []), none, none]) ⟨d, [], none, none, rfl, rfl, by simp, h⟩ (by
    rintro i ρ hi ⟨d', l, q, w, rfl, hl, hb, s⟩
    obtain ⟨x, d1, e1, x0, x1, s1⟩ := draw_ok K (many := 6) s (by omega) (by decide) (by decide)
    have hd := s.ne
    have hd1 := s1.ne
    have hz := szl
    have hll : l.length < 16777216 := by omega
    have fin : ∀ (y : Int) (d2 : D), 0 ≤ y → y ≤ 500003 → Pt (n + 2 * i + 2) d2 → b__law_numbers_1 K [some d', some (.int k), some (.lst true (l.map D.int)), some (.int (0 + i)), w] = .nx [some d2, some (.int k), some (.lst true (l.map D.int ++ [.int y])), some (.int (0 + i)), some (.int x)] →
        ∃ ρ1 ρ2, fName 3 (.int (0 + i)) [some d', some (.int k), some (.lst true (l.map D.int)), q, w] = some ρ1 ∧ (b__law_numbers_1 K ρ1 = .nx ρ2 ∨ b__law_numbers_1 K ρ1 = .ct ρ2) ∧ ∃ (d' : D) (l : List Int) (q w : Option D), ρ2 = [some d', some (.int k), some (.lst true (l.map D.int)), q, w] ∧ l.length = i + 1 ∧ (∀ x ∈ l, 0 ≤ x ∧ x ≤ 500003) ∧ Pt (n + 2 * (i + 1)) d' := by
      intro y d2 y0 y1 s2 e
      refine ⟨_, _, rfl, .inl e, d2, l ++ [y], _, _, by rw [List.map_append]; rfl, by simp [hl], fun z hz => ?_, by rw [show n + 2 * (i + 1) = n + 2 * i + 2 by omega]; exact s2⟩
      rcases List.mem_append.mp hz with q | q
      · exact hb z q
      · cases List.mem_singleton.mp q; exact ⟨y0, y1⟩
    by_cases c1 : x < 2
    · exact fin 0 d1 (by omega) (by omega) (s1.le (by omega)) (by simp [b__law_numbers_1, e1, hd, szl, hll, c1])
    by_cases c2 : x = 2
    · subst c2
      exact fin 1 d1 (by omega) (by omega) (s1.le (by omega)) (by simp [b__law_numbers_1, e1, hd, szl, hll])
    by_cases c3 : x = 3
    · subst c3
      obtain ⟨y, d2, e2, y0, y1, s2⟩ := draw_ok K (many := 5) s1 (by omega) (by decide) (by decide)
      exact fin y d2 (by omega) (by omega) (s2.le (by omega)) (by simp [b__law_numbers_1, e1, e2, hd, hd1, szl, hll])
    by_cases c4 : x = 4
    · subst c4
      obtain ⟨y, d2, e2, y0, y1, s2⟩ := draw_ok K (many := 500001) s1 (by omega) (by decide) (by decide)
      exact fin y d2 (by omega) (by omega) (s2.le (by omega)) (by simp [b__law_numbers_1, e1, e2, hd, hd1, szl, hll])
    · exact fin 500000 d1 (by omega) (by omega) (s1.le (by omega)) (by simp [b__law_numbers_1, e1, hd, szl, hll, c1, c2, c3, c4]))
  have b1 : -4611686018427387904 < (k : Int) := by omega
  have b2 : (k : Int) < 4611686018427387904 := by omega
  have hd1 := s1.ne
  obtain ⟨a, l', rfl⟩ : ∃ a l', l = a :: l' := by
    cases l with
    | nil => simp at hl; omega
    | cons a l' => exact ⟨a, l', rfl⟩
  have hm : gMaxS [.lst true ((a :: l').map D.int)] = some (.int (l'.foldl max a)) := by
    show (intsD ((a :: l').map D.int)).bind _ = _
    rw [intsD_map]
    rfl
  simp only [List.map_cons] at hm e3
  by_cases hc : l'.foldl max a = 0
  · obtain ⟨y, d2, e4, y0, y1, s2⟩ := draw_ok K (many := 3) s1 (by omega) (by decide) (by decide)
    obtain ⟨j, d3, e5, j0, j1, s3⟩ := draw_ok K (many := (k : Int)) s2 (by omega) (by omega) (by omega)
    have hd2 := s2.ne
    obtain ⟨jn, rfl⟩ : ∃ jn : Nat, j = jn := ⟨j.toNat, by omega⟩
    have hj : nrm ((D.int a :: l'.map D.int).length) (jn : Int) = some jn := by
      have : jn < l'.length + 1 := by rw [List.length_cons] at hl; omega
      unfold nrm
      rw [if_pos (by omega), if_pos (by rw [List.length_cons, List.length_map]; omega)]
      simp
    refine ⟨(a :: l').set jn (1 + y), d3, ?_, ⟨by rw [List.length_set]; exact hl, fun z hz => ?_⟩, s3.le (by omega)⟩
    · have hs := sSetE_ok (me := eFz (eOp2 gAdd (eLit (.int 1)) (eCall 2 (F__law_draw K) (bBor 0 (bVal (eLit (.int 3)) (bNil)))))) (p := pVar 2) (mk := eCall 2 (F__law_draw K) (bBor 0 (bVal (eVar 1) (bNil)))) (ρ := [some d1, some (.int k), some (.lst true (.int a :: l'.map D.int)), q, w]) (ρ1 := [some d2, some (.int k), some (.lst true (.int a :: l'.map D.int)), q, w]) (ρ2 := [some d3, some (.int k), none, q, w]) (y := .int (1 + y)) (i := 2) (j := jn) (ds := .int a :: l'.map D.int) (k := jn) (by simp [e4, hd1]) rfl rfl rfl (by simp [e5, hd2]) rfl hj
      have em : ((a :: l').set jn (1 + y)).map D.int = (D.int a :: l'.map D.int).set jn (.int (1 + y)) := by
        rw [List.map_set]; rfl
      rw [em]
      simp [F__law_numbers, u131, startE, m__law_numbers, szl, rg1_of b1 b2, e3, hm, hc, hs]
    · rcases List.mem_or_eq_of_mem_set hz with q | q
      · exact hb z q
      · subst q; omega
  · refine ⟨a :: l', d1, ?_, ⟨hl, hb⟩, s1.le (by omega)⟩
    simp [F__law_numbers, u131, startE, m__law_numbers, szl, rg1_of b1 b2, e3, hm, hc]
def Wo (k : Nat) (l : List Int) : Prop := l.length = k ∧ ∀ x ∈ l, 0 ≤ x
theorem worths_ok (K : PySem.W.Frag) {n k : Nat} {d : D} (h : Pt n d) (hn : n + 200 < 2 ^ 40) (h1 : 1 ≤ k) (h2 : k ≤ 30) : ∃ (l : List Int) (d' : D), F__law_worths K [d, .int k] = .rt (.lst true (l.map D.int)) [d', .int k] ∧ Wo k l ∧ Pt (n + 62) d' := by
  obtain ⟨ρ', e3, d1, l, q, w, rfl, hl, hb, s1⟩ := forF_range (f := fName 3) (m := b__law_worths_1 K) (fun i ρ => ∃ (d' : D) (l : List Int) (q w : Option D), ρ = [some d', some (.int k), some (.lst true (l.map D.int)), q, w] ∧ l.length = i ∧ (∀ x ∈ l, 0 ≤ x) ∧ Pt (n + 2 * i) d') (lo := 0) (n := k) (ρ := [some d, some (.int k), some (.lst true []), none, none]) ⟨d, [], none, none, rfl, rfl, by simp, h⟩ (by
    rintro i ρ hi ⟨d', l, q, w, rfl, hl, hb, s⟩
    obtain ⟨x, d1, e1, x0, x1, s1⟩ := draw_ok K (many := 3) s (by omega) (by decide) (by decide)
    have hd := s.ne
    have hd1 := s1.ne
    have hz := szl
    have hll : l.length < 16777216 := by omega
    have fin : ∀ (y : Int) (d2 : D), 0 ≤ y → Pt (n + 2 * i + 2) d2 → b__law_worths_1 K [some d', some (.int k), some (.lst true (l.map D.int)), some (.int (0 + i)), w] = .nx [some d2, some (.int k), some (.lst true (l.map D.int ++ [.int y])), some (.int (0 + i)), some (.int x)] →
        ∃ ρ1 ρ2, fName 3 (.int (0 + i)) [some d', some (.int k), some (.lst true (l.map D.int)), q, w] = some ρ1 ∧ (b__law_worths_1 K ρ1 = .nx ρ2 ∨ b__law_worths_1 K ρ1 = .ct ρ2) ∧ ∃ (d' : D) (l : List Int) (q w : Option D), ρ2 = [some d', some (.int k), some (.lst true (l.map D.int)), q, w] ∧ l.length = i + 1 ∧ (∀ x ∈ l, 0 ≤ x) ∧ Pt (n + 2 * (i + 1)) d' := by
      intro y d2 y0 s2 e
      refine ⟨_, _, rfl, .inl e, d2, l ++ [y], _, _, by rw [List.map_append]; rfl, by simp [hl], fun z hz => ?_, by rw [show n + 2 * (i + 1) = n + 2 * i + 2 by omega]; exact s2⟩
      rcases List.mem_append.mp hz with q | q
      · exact hb z q
      · cases List.mem_singleton.mp q; exact y0
    by_cases c1 : x = 0
    · subst c1
      obtain ⟨y, d2, e2, y0, y1, s2⟩ := draw_ok K (many := 9) s1 (by omega) (by decide) (by decide)
      exact fin (1 + y) d2 (by omega) (s2.le (by omega)) (by simp [b__law_worths_1, e1, e2, hd, hd1, szl, hll])
    by_cases c2 : x = 1
    · subst c2
      obtain ⟨y, d2, e2, y0, y1, s2⟩ := draw_ok K (many := 1000003) s1 (by omega) (by decide) (by decide)
      exact fin (1 + y) d2 (by omega) (s2.le (by omega)) (by simp [b__law_worths_1, e1, e2, hd, hd1, szl, hll])
    · obtain ⟨y, d2, e2, y0, y1, s2⟩ := draw_ok K (many := 7) s1 (by omega) (by decide) (by decide)
      exact fin (1000000000000000000000000000000 - y) d2 (by omega) (s2.le (by omega)) (by simp [b__law_worths_1, e1, e2, hd, hd1, szl, hll, c1, c2, pw30]))
  have b1 : -4611686018427387904 < (k : Int) := by omega
  have b2 : (k : Int) < 4611686018427387904 := by omega
  refine ⟨l, d1, ?_, ⟨hl, hb⟩, s1.le (by omega)⟩
  simp [F__law_worths, u131, startE, m__law_worths, szl, rg1_of b1 b2, e3]
end K09

namespace K09
open Se PySem
/-- which ones are not nought, and how often each -/
def fm : Nat → List Int → List (Int × Int)
  | _, [] => []
  | k, a :: l => if a > 0 then ((k : Int), a) :: fm (k + 1) l else fm (k + 1) l
theorem fm_pos {k : Nat} {a : Int} {l : List Int} (h : a > 0) : fm k (a :: l) = ((k : Int), a) :: fm (k + 1) l := by show (if a > 0 then _ else _) = _; rw [if_pos h]
theorem fm_neg {k : Nat} {a : Int} {l : List Int} (h : ¬ a > 0) : fm k (a :: l) = fm (k + 1) l := by show (if a > 0 then _ else _) = _; rw [if_neg h]
def prD (p : Int × Int) : D := .tup [.int p.1, .int p.2]
theorem fm_len : ∀ (l : List Int) (k : Nat), (fm k l).length ≤ l.length
  | [], k => Nat.le_refl _
  | a :: l, k => by
    have := fm_len l (k + 1)
    unfold fm
    split <;> simp only [List.length_cons] <;> omega
theorem fm_mem : ∀ (l : List Int) (k : Nat) (p : Int × Int), p ∈ fm k l ↔ ∃ j : Nat, p.1 = (k : Int) + j ∧ l[j]? = some p.2 ∧ p.2 > 0
  | [], k, p => by simp [fm]
  | a :: l, k, p => by
    have ih := fm_mem l (k + 1) p
    have key : (∃ j : Nat, p.1 = (k : Int) + j ∧ (a :: l)[j]? = some p.2 ∧ p.2 > 0) ↔ (p.1 = k ∧ a = p.2 ∧ p.2 > 0) ∨ p ∈ fm (k + 1) l := by
      rw [ih]
      constructor
      · rintro ⟨j, h1, h2, h3⟩
        cases j with
        | zero => exact .inl ⟨by omega, by simpa using h2, h3⟩
        | succ j => exact .inr ⟨j, by omega, by simpa using h2, h3⟩
      · rintro (⟨h1, h2, h3⟩ | ⟨j, h1, h2, h3⟩)
        · exact ⟨0, by omega, by simp [h2], h3⟩
        · exact ⟨j + 1, by omega, by simpa using h2, h3⟩
    rw [key]
    by_cases h : a > 0
    · rw [fm_pos h, List.mem_cons]
      constructor
      · rintro (rfl | h1)
        · exact .inl ⟨rfl, rfl, h⟩
        · exact .inr h1
      · rintro (⟨h1, h2, h3⟩ | h1)
        · left; obtain ⟨x, y⟩ := p; simp only at h1 h2; rw [h1, h2]
        · exact .inr h1
    · rw [fm_neg h]
      constructor
      · exact .inr
      · rintro (⟨h1, h2, h3⟩ | h1)
        · omega
        · exact h1
theorem fm_sorted : ∀ (l : List Int) (k : Nat), ((fm k l).map (·.1)).Pairwise (· < ·) ∧ ∀ p ∈ fm k l, (k : Int) ≤ p.1
  | [], k => ⟨.nil, by simp [fm]⟩
  | a :: l, k => by
    obtain ⟨h1, h2⟩ := fm_sorted l (k + 1)
    by_cases h : a > 0
    · rw [fm_pos h]
      refine ⟨?_, fun p hp => ?_⟩
      · rw [List.map_cons, List.pairwise_cons]
        refine ⟨fun x hx => ?_, h1⟩
        obtain ⟨p, hp, rfl⟩ := List.mem_map.mp hx
        have := h2 p hp
        show (k : Int) < p.1
        omega
      · rcases List.mem_cons.mp hp with rfl | hp
        · exact Int.le_refl _
        · have := h2 p hp; omega
    · rw [fm_neg h]; exact ⟨h1, fun p hp => by have := h2 p hp; omega⟩
theorem fm_zero (k n : Nat) : fm k (List.replicate n 0) = [] := by
  induction n generalizing k with
  | zero => rfl
  | succ n ih => rw [List.replicate_succ, fm_neg (by decide), ih]
theorem rgD_succ (lo : Int) (n : Nat) : rgD lo (n + 1) = .int lo :: rgD (lo + 1) n := by
  unfold rgD
  rw [List.range_succ_eq_map, List.map_cons, List.map_map]
  congr 1
  · simp
  · apply List.map_congr_left
    intro i _
    show D.int (lo + ((i + 1 : Nat) : Int)) = D.int (lo + 1 + i)
    congr 1; omega
/-- by place -/
def pP (l : List Int) (d : D) : Bool := match d with
  | .int i => decide (l.getD i.toNat 0 > 0)
  | _ => false
def gP (l : List Int) (d : D) : D := match d with
  | .int i => .tup [.int i, .int (l.getD i.toNat 0)]
  | _ => d
theorem fm_rg : ∀ (l pre : List Int), ((rgD (pre.length : Int) l.length).filter (pP (pre ++ l))).map (gP (pre ++ l)) = (fm pre.length l).map prD
  | [], pre => rfl
  | a :: l, pre => by
    have ih := fm_rg l (pre ++ [a])
    have e : pre ++ [a] ++ l = pre ++ a :: l := by simp
    have e2 : (pre ++ [a]).length = pre.length + 1 := by simp
    rw [e, e2] at ih
    have hg : (pre ++ a :: l).getD ((pre.length : Int)).toNat 0 = a := by simp [List.getD]
    rw [List.length_cons, rgD_succ]
    have ec : ((pre.length + 1 : Nat) : Int) = (pre.length : Int) + 1 := by omega
    rw [ec] at ih
    by_cases h : a > 0
    · rw [fm_pos h, List.filter_cons_of_pos (by unfold pP; dsimp only; rw [hg]; simpa using h), List.map_cons, ih, List.map_cons]
      unfold gP
      dsimp only
      rw [hg]
      rfl
    · rw [fm_neg h, List.filter_cons_of_neg (by unfold pP; dsimp only; rw [hg]; simpa using h), ih]
def pE (d : D) : Bool := match d with
  | .tup [_, .int a] => decide (a > 0)
  | _ => false
theorem fm_en : ∀ (l : List Int) (k : Nat), ((enD k (l.map D.int)).filter pE) = (fm k l).map prD
  | [], k => rfl
  | a :: l, k => by
    have ih := fm_en l (k + 1)
    show (D.tup [.int k, .int a] :: enD (k + 1) (l.map D.int)).filter pE = _
    by_cases h : a > 0
    · rw [fm_pos h, List.filter_cons_of_pos (by simpa [pE] using h), ih]
      rfl
    · rw [fm_neg h, List.filter_cons_of_neg (by simpa [pE] using h), ih]
theorem fz_prs (l : List (Int × Int)) : fzL (l.map prD) = true ∧ neL (l.map prD) = true ∧ frzL (l.map prD) = l.map prD := by
  induction l with
  | nil => exact ⟨rfl, rfl, rfl⟩
  | cons a l ih =>
    obtain ⟨h1, h2, h3⟩ := ih
    refine ⟨by simp [h1, prD], by simp [h2, prD], ?_⟩
    show frz (prD a) :: frzL (l.map prD) = _
    rw [h3]; rfl
theorem law_form_ok (K : PySem.W.Frag) {l : List Int} (hl : l.length ≤ 1000000) : F__law_form K [.lst false (l.map D.int)] = .rt (.tup ((fm 0 l).map prD)) [.lst false (l.map D.int)] := by
  have hz := fzL_ints l
  obtain ⟨ρ', e, q, rfl⟩ := compF_fm (vs := [1]) (f := fName 1) (mt := Se.tB (eV (vOp2 (gCmp fun i j => decide (i > j)) (vOp2 ixv (vVar 0) (vVar 1)) (vLit (.int 0))))) (me := e__law_form_1 K) (fun ρ => ∃ q, ρ = [some (.lst false (l.map D.int)), q]) (pP l) (gP l) (rgD 0 l.length) [] [some (.lst false (l.map D.int)), none] ⟨none, rfl⟩ (by simp [szl, rgD_len]; omega) (by
    rintro d hd ρ ⟨q, rfl⟩
    obtain ⟨i, hi⟩ := List.getElem?_of_mem hd
    obtain ⟨hi2, rfl⟩ := rgD_get hi
    have hx := ixI hi2
    have hg : l.getD ((0 : Int) + i).toNat 0 = l[i] := by simp [List.getD, hi2]
    have e0 : (0 : Int) + i = i := by omega
    rw [e0] at hg ⊢
    refine ⟨[some (.lst false (l.map D.int)), some (.int i)], rfl, ?_, fun _ => ⟨[some (.lst false (l.map D.int)), some (.int i)], ?_, _, rfl⟩, fun _ => ⟨_, rfl⟩⟩
    · unfold pP; dsimp only; rw [hg]; simp [hx]
    · unfold gP; dsimp only; rw [hg]; simp [e__law_form_1, hx, gIx, szl])
  have b1 : -4611686018427387904 < (l.length : Int) := by omega
  have b2 : (l.length : Int) < 4611686018427387904 := by omega
  have e2 := fm_rg l []
  simp only [List.nil_append, List.length_nil, Int.natCast_zero] at e2 e
  rw [e2] at e
  obtain ⟨h1, h2, h3⟩ := fz_prs (fm 0 l)
  simp [F__law_form, u131, startE, m__law_form, rg1_of b1 b2, e, gTup, h1]
theorem form_of_ok (K : PySem.W.Frag) {l : List Int} (hl : l.length ≤ 1000000) : F_form_of K [.tup (l.map D.int)] = .rt (.tup ((fm 0 l).map prD)) [.tup (l.map D.int)] := by
  have hz := fzL_ints l
  have hmem : ∀ (l : List Int) (k : Nat) (d : D), d ∈ enD k (l.map D.int) → ∃ i a, d = .tup [.int i, .int a] := by
    intro l
    induction l with
    | nil => intro k d h; cases h
    | cons a l ih =>
      intro k d h
      have h : d ∈ (D.tup [.int k, .int a] :: enD (k + 1) (l.map D.int)) := h
      rcases List.mem_cons.mp h with rfl | h
      · exact ⟨_, _, rfl⟩
      · exact ih _ _ h
  obtain ⟨ρ', e, q, r, rfl⟩ := compF_fm (vs := [1, 2]) (f := fTup (fCons (fName 1) (fCons (fName 2) (fNil)))) (mt := Se.tB (eV (vOp2 (gCmp fun i j => decide (i > j)) (vVar 2) (vLit (.int 0))))) (me := e_form_of_1 K) (fun ρ => ∃ q r, ρ = [some (.tup (l.map D.int)), q, r]) pE id (enD 0 (l.map D.int)) [] [some (.tup (l.map D.int)), none, none] ⟨none, none, rfl⟩ (by simp [szl, enD_len]; omega) (by
    rintro d hd ρ ⟨q, r, rfl⟩
    obtain ⟨i, a, rfl⟩ := hmem _ _ _ hd
    refine ⟨[some (.tup (l.map D.int)), some (.int i), some (.int a)], by simp [fTup, fCons, fNil], ?_, fun _ => ⟨[some (.tup (l.map D.int)), some (.int i), some (.int a)], ?_, _, _, rfl⟩, fun _ => ⟨_, _, rfl⟩⟩
    · simp [pE]
    · simp [e_form_of_1, szl])
  have e2 := fm_en l 0
  simp only [List.nil_append, List.map_id, Int.natCast_zero] at e2 e
  rw [e2] at e
  obtain ⟨h1, h2, h3⟩ := fz_prs (fm 0 l)
  have hf := frzL_ints l
  simp [F_form_of, u131, startE, m_form_of, enB, hz, hf, e, gTup, h1]
end K09

namespace K09
open Se PySem
theorem nrm_nat {n j : Nat} (h : j < n) : nrm n (j : Int) = some j := by
  unfold nrm
  rw [if_pos (by omega), if_pos (by omega)]
  simp
theorem sAugS_ok {o : Int → Int → Int} {p : Se.Env → Option (Nat × List Sel)} {fk fe : Se.Env → Option D} {ρ : Se.Env} {i j : Nat} {l : List Int} {x e : Int} (h1 : p ρ = some (i, [])) (h2 : fk ρ = some (.int (j : Int))) (h3 : fe ρ = some (.int e)) (h4 : ρ[i]? = some (some (.lst true (l.map D.int)))) (h5 : l[j]? = some x) :
    sAugS o p fk fe ρ = .nx (ρ.set i (some (.lst true ((l.set j (o x e)).map D.int)))) := by
  have hj : j < l.length := (List.getElem?_eq_some_iff.mp h5).1
  have h6 : nrm l.length (j : Int) = some j := nrm_nat hj
  unfold sAugS
  rw [h1, h2, h3]
  dsimp only
  rw [h4]
  have e : leafAug o (j : Int) (.int e) (.lst true (l.map D.int)) = some (.lst true ((l.set j (o x e)).map D.int)) := by
    unfold leafAug
    simp [h6, h5, List.map_set, intO]
  show (match leafAug o (j : Int) (.int _) (.lst true (l.map D.int)) with
      | some d' => SR.nx (ρ.set i (some d'))
      | none => .bad) = _
  rw [e]
/-- y put to x, place by place -/
def o2 (o : Int → Int → Int) : List Int → List Int → List Int
  | x :: xs, y :: ys => (if y > 0 then o x y else x) :: o2 o xs ys
  | xs, [] => xs
  | [], _ => []
theorem o2_len (o : Int → Int → Int) : ∀ xs ys, (o2 o xs ys).length = xs.length
  | x :: xs, y :: ys => by show (_ :: o2 o xs ys).length = _; rw [List.length_cons, o2_len o xs ys, List.length_cons]
  | [], [] => rfl
  | x :: xs, [] => rfl
  | [], y :: ys => rfl
theorem less_go (o : Int → Int → Int) (m : MS) (hm : m = sSeq (sAugS o (pVar 3) (vVar 4) (vVar 5)) (sNil)) (a b c : Option D) : ∀ (l pre xs : List Int) (q r z : Option D), l.length ≤ xs.length →
    ∃ q' r', forF (fTup (fCons (fName 4) (fCons (fName 5) (fNil)))) m ((fm pre.length l).map prD) [a, b, c, some (.lst true ((pre ++ xs).map D.int)), q, r, z] = .nx [a, b, c, some (.lst true ((pre ++ o2 o xs l).map D.int)), q', r', z]
  | [], pre, xs, q, r, z, _ => ⟨q, r, by cases xs <;> rfl⟩
  | y :: l, pre, [], q, r, z, h => by simp at h
  | y :: l, pre, x :: xs, q, r, z, h => by
    have hl : l.length ≤ xs.length := by simpa using h
    have e2 : ∀ w : Int, (pre ++ [w]).length = pre.length + 1 := fun w => by simp
    by_cases hy : y > 0
    · obtain ⟨q', r', e⟩ := less_go o m hm a b c l (pre ++ [o x y]) xs (some (.int (pre.length : Int))) (some (.int y)) z hl
      rw [e2] at e
      refine ⟨q', r', ?_⟩
      rw [fm_pos hy, List.map_cons]
      unfold forF
      have ef : fTup (fCons (fName 4) (fCons (fName 5) (fNil))) (prD ((pre.length : Int), y)) [a, b, c, some (.lst true ((pre ++ x :: xs).map D.int)), q, r, z] = some [a, b, c, some (.lst true ((pre ++ x :: xs).map D.int)), some (.int (pre.length : Int)), some (.int y), z] := by
        simp [fTup, fCons, fNil, prD]
      have em : m [a, b, c, some (.lst true ((pre ++ x :: xs).map D.int)), some (.int (pre.length : Int)), some (.int y), z] = .nx [a, b, c, some (.lst true ((pre ++ [o x y] ++ xs).map D.int)), some (.int (pre.length : Int)), some (.int y), z] := by
        rw [hm, u2, sAugS_ok (i := 3) (j := pre.length) (l := pre ++ x :: xs) (x := x) (e := y) rfl rfl rfl rfl (by simp)]
        have : (pre ++ x :: xs).set pre.length (o x y) = pre ++ [o x y] ++ xs := by simp
        rw [this]
        rfl
      rw [ef]
      dsimp only
      rw [em]
      dsimp only
      rw [e]
      show _ = SR.nx [a, b, c, some (.lst true ((pre ++ (if y > 0 then o x y else x) :: o2 o xs l).map D.int)), q', r', z]
      rw [if_pos hy]
      simp
    · obtain ⟨q', r', e⟩ := less_go o m hm a b c l (pre ++ [x]) xs q r z hl
      rw [e2] at e
      refine ⟨q', r', ?_⟩
      rw [fm_neg hy]
      have : pre ++ x :: xs = pre ++ [x] ++ xs := by simp
      rw [this, e]
      show _ = SR.nx [a, b, c, some (.lst true ((pre ++ (if y > 0 then o x y else x) :: o2 o xs l).map D.int)), q', r', z]
      rw [if_neg hy]
      simp
def lessL (f s : List Int) (m : Nat) : List Int := List.zipWith (fun a b => a - b) f s ++ List.replicate (m - f.length) 0
theorem o2_nil (o : Int → Int → Int) (xs : List Int) : o2 o xs [] = xs := by cases xs <;> rfl
theorem less_eq : ∀ (f s : List Int) (m : Nat), f.length = s.length → f.length ≤ m → (∀ x ∈ f, 0 ≤ x) → (∀ x ∈ s, 0 ≤ x) → o2 (fun i j => i - j) (o2 (fun i j => i + j) (List.replicate m 0) f) s = lessL f s m
  | [], [], m, _, _, _, _ => by
    rw [o2_nil, o2_nil]
    simp [lessL]
  | [], y :: s, m, h, _, _, _ => by simp at h
  | x :: f, [], m, h, _, _, _ => by simp at h
  | x :: f, y :: s, 0, _, h, _, _ => by simp at h
  | x :: f, y :: s, m + 1, h1, h2, h3, h4 => by
    have ih := less_eq f s m (by simpa using h1) (by simpa using h2) (fun z hz => h3 z (List.mem_cons_of_mem _ hz)) (fun z hz => h4 z (List.mem_cons_of_mem _ hz))
    have hx := h3 x List.mem_cons_self
    have hy := h4 y List.mem_cons_self
    show (if y > 0 then (if x > 0 then (0 : Int) + x else 0) - y else (if x > 0 then (0 : Int) + x else 0)) :: o2 _ (o2 _ (List.replicate m 0) f) s = _
    rw [ih]
    have e : (if y > 0 then (if x > 0 then (0 : Int) + x else 0) - y else (if x > 0 then (0 : Int) + x else 0)) = x - y := by
      split <;> split <;> omega
    rw [e]
    simp [lessL]
theorem form_less_ok (K : PySem.W.Frag) {f s : List Int} {m : Nat} (h1 : f.length = s.length) (h2 : f.length ≤ m) (hm : m ≤ 1000000) (h3 : ∀ x ∈ f, 0 ≤ x) (h4 : ∀ x ∈ s, 0 ≤ x) :
    F_form_less K [.tup ((fm 0 f).map prD), .tup ((fm 0 s).map prD), .int m] = .rt (.tup ((lessL f s m).map D.int)) [.tup ((fm 0 f).map prD), .tup ((fm 0 s).map prD), .int m] := by
  obtain ⟨ρ', e, q, rfl⟩ := compF_map (vs := [6]) (f := fName 6) (me := e_form_less_1 K) (fun ρ => ∃ q, ρ = [some (.tup ((fm 0 f).map prD)), some (.tup ((fm 0 s).map prD)), some (.int m), none, none, none, q]) (fun _ => .int 0) (rgD 0 m) [] [some (.tup ((fm 0 f).map prD)), some (.tup ((fm 0 s).map prD)), some (.int m), none, none, none, none] ⟨none, rfl⟩ (by simp [szl, rgD_len]; omega) (by
    rintro d hd ρ ⟨q, rfl⟩
    exact ⟨_, _, rfl, rfl, _, rfl⟩)
  have ez : (rgD 0 m).map (fun _ => D.int 0) = (List.replicate m (0 : Int)).map D.int := by
    rw [List.map_const', rgD_len, List.map_replicate]
  rw [List.nil_append, ez] at e
  obtain ⟨q1, r1, e1⟩ := less_go (fun i j => i + j) (b_form_less_2 K) rfl (some (.tup ((fm 0 f).map prD))) (some (.tup ((fm 0 s).map prD))) (some (.int m)) f [] (List.replicate m 0) none none none (by simpa using h2)
  obtain ⟨q2, r2, e2⟩ := less_go (fun i j => i - j) (b_form_less_3 K) rfl (some (.tup ((fm 0 f).map prD))) (some (.tup ((fm 0 s).map prD))) (some (.int m)) s [] (o2 (fun i j => i + j) (List.replicate m 0) f) q1 r1 none (by rw [o2_len]; simp; omega)
  rw [List.nil_append, less_eq f s m h1 h2 h3 h4] at e2
  rw [List.nil_append, List.nil_append] at e1
  have b1 : -4611686018427387904 < (m : Int) := by omega
  have b2 : (m : Int) < 4611686018427387904 := by omega
  obtain ⟨g1, g2, g3⟩ := fz_prs (fm 0 f)
  obtain ⟨i1, i2, i3⟩ := fz_prs (fm 0 s)
  have hz := fzL_ints (lessL f s m)
  simp only [List.length_nil, List.nil_append, List.map_replicate] at e e1 e2
  simp [F_form_less, u131, startE, m_form_less, rg1_of b1 b2, e, e1, e2, g1, g3, i1, i3, itemsD, gTup, hz]
/-- the sum of pairs -/
def wsum (w l : List Int) : Int := (List.zipWith (fun a b => a * b) l w).sum
theorem worth_sum : ∀ (l w pre : List Int), l.length = w.length → (∀ x ∈ l, 0 ≤ x) → ((fm pre.length l).map fun p => p.2 * (pre ++ w).getD p.1.toNat 0).sum = wsum w l
  | [], [], pre, _, _ => rfl
  | [], y :: w, pre, h, _ => by simp at h
  | x :: l, [], pre, h, _ => by simp at h
  | x :: l, y :: w, pre, h, hn => by
    have ih := worth_sum l w (pre ++ [y]) (by simpa using h) fun z hz => hn z (List.mem_cons_of_mem _ hz)
    have e2 : (pre ++ [y]).length = pre.length + 1 := by simp
    have e3 : pre ++ [y] ++ w = pre ++ y :: w := by simp
    rw [e2, e3] at ih
    have hx := hn x List.mem_cons_self
    have ew : wsum (y :: w) (x :: l) = x * y + wsum w l := by simp [wsum]
    rw [ew]
    by_cases c : x > 0
    · rw [fm_pos c, List.map_cons, List.sum_cons, ih]
      congr 1
      simp [List.getD]
    · rw [fm_neg c, ih]
      have : x = 0 := by omega
      subst this
      simp
def gW (w : List Int) (d : D) : D := match d with
  | .tup [.int i, .int a] => .int (a * w.getD i.toNat 0)
  | d => d
theorem form_worth_ok (K : PySem.W.Frag) {l w : List Int} (h1 : l.length = w.length) (hl : l.length ≤ 1000000) (hn : ∀ x ∈ l, 0 ≤ x ∧ x ≤ 2000000) :
    F_form_worth K [.tup ((fm 0 l).map prD), .tup (w.map D.int)] = .rt (.int (wsum w l)) [.tup ((fm 0 l).map prD), .tup (w.map D.int)] := by
  have hfl := fm_len l 0
  obtain ⟨ρ', e, q, r, rfl⟩ := compF_map (vs := [2, 3]) (f := fTup (fCons (fName 2) (fCons (fName 3) (fNil)))) (me := e_form_worth_1 K) (fun ρ => ∃ q r, ρ = [some (.tup ((fm 0 l).map prD)), some (.tup (w.map D.int)), q, r]) (gW w) ((fm 0 l).map prD) [] [some (.tup ((fm 0 l).map prD)), some (.tup (w.map D.int)), none, none] ⟨none, none, rfl⟩ (by simp [szl]; omega) (by
    rintro d hd ρ ⟨q, r, rfl⟩
    obtain ⟨⟨i, a⟩, hp, rfl⟩ := List.mem_map.mp hd
    obtain ⟨j, h2, h3, h4⟩ := (fm_mem l 0 _).mp hp
    simp only at h2 h3 h4
    have hj : j < w.length := by
      have := (List.getElem?_eq_some_iff.mp h3).1
      omega
    have ha : a ≤ 2000000 := (hn a (List.mem_of_getElem? h3)).2
    have hi : i = j := by omega
    subst hi
    have hx := ixI hj
    have hc : CMulA a w[j] := cm8 (by omega) (by omega)
    have hg : w.getD j 0 = w[j] := by simp [List.getD, hj]
    refine ⟨[some (.tup ((fm 0 l).map prD)), some (.tup (w.map D.int)), some (.int j), some (.int a)], [some (.tup ((fm 0 l).map prD)), some (.tup (w.map D.int)), some (.int j), some (.int a)], by simp [fTup, fCons, fNil, prD], ?_, _, _, rfl⟩
    simp [e_form_worth_1, prD, hx, hc, hg, hj, gW])
  have ew := worth_sum l w [] h1 fun x hx => (hn x hx).1
  have es : intsD (((fm 0 l).map prD).map (gW w)) = some ((fm 0 l).map fun p => p.2 * w.getD p.1.toNat 0) := by
    rw [List.map_map, ← intsD_map, List.map_map]
    rfl
  rw [List.nil_append] at e
  rw [List.nil_append, List.length_nil] at ew
  obtain ⟨g1, g2, g3⟩ := fz_prs (fm 0 l)
  generalize ((fm 0 l).map prD).map (gW w) = L at e es
  have hw := fzL_ints w
  have es2 : (intsD L).map List.sum = some (wsum w l) := by rw [es, Option.map_some, ew]
  have es3 : gSum [.lst true L] = some (.int (wsum w l)) := by
    show (intsD L).map (fun ns => D.int ns.sum) = _
    rw [es, Option.map_some, ew]
  simp [F_form_worth, u131, startE, m_form_worth, e, g1, g3, itemsD, es3, hw]
end K09

namespace K09
open Se PySem
/-! ### a dict of numbers -/
def asG : List (Int × Int) → Int → Option Int
  | [], _ => none
  | p :: L, k => if p.1 = k then some p.2 else asG L k
def asP : List (Int × Int) → Int → Int → List (Int × Int)
  | [], k, v => [(k, v)]
  | p :: L, k, v => if p.1 = k then (k, v) :: L else p :: asP L k v
def kys (L : List (Int × Int)) : List L2.Key := L.map fun p => .inl p.1
def vls (L : List (Int × Int)) : List D := L.map fun p => .int p.2
theorem dGet_as : ∀ (L : List (Int × Int)) (k : Int), dGet (kys L) (vls L) (.inl k) = (asG L k).map D.int
  | [], k => rfl
  | p :: L, k => by
    have ih := dGet_as L k
    show (if (Sum.inl p.1 : L2.Key) = .inl k then some (D.int p.2) else dGet (kys L) (vls L) (.inl k)) = (if p.1 = k then some p.2 else asG L k).map D.int
    by_cases h : p.1 = k
    · rw [if_pos h, if_pos (by rw [h])]; rfl
    · rw [if_neg h, if_neg (fun z => h (Sum.inl.inj z)), ih]
theorem dPut_as : ∀ (L : List (Int × Int)) (k v : Int), dPut (kys L) (vls L) (.inl k) (.int v) = (kys (asP L k v), vls (asP L k v))
  | [], k, v => rfl
  | p :: L, k, v => by
    have ih := dPut_as L k v
    show (if (Sum.inl p.1 : L2.Key) = .inl k then ((Sum.inl p.1 : L2.Key) :: kys L, D.int v :: vls L) else ((Sum.inl p.1 : L2.Key) :: (dPut (kys L) (vls L) (.inl k) (.int v)).1, D.int p.2 :: (dPut (kys L) (vls L) (.inl k) (.int v)).2)) = (kys (if p.1 = k then (k, v) :: L else p :: asP L k v), vls (if p.1 = k then (k, v) :: L else p :: asP L k v))
    by_cases h : p.1 = k
    · rw [if_pos h, if_pos (by rw [h])]; subst h; rfl
    · rw [if_neg h, if_neg (fun z => h (Sum.inl.inj z)), ih]; rfl
theorem asG_P : ∀ (L : List (Int × Int)) (k v j : Int), asG (asP L k v) j = if k = j then some v else asG L j
  | [], k, v, j => rfl
  | p :: L, k, v, j => by
    have ih := asG_P L k v j
    unfold asP
    by_cases h : p.1 = k
    · rw [if_pos h]
      subst h
      show (if p.1 = j then _ else _) = _
      by_cases h2 : p.1 = j
      · rw [if_pos h2, if_pos h2]
      · rw [if_neg h2, if_neg h2]
        show _ = if p.1 = j then _ else _
        rw [if_neg h2]
    · rw [if_neg h]
      show (if p.1 = j then some p.2 else asG (asP L k v) j) = if k = j then some v else (if p.1 = j then some p.2 else asG L j)
      by_cases h2 : p.1 = j
      · rw [if_pos h2, if_neg (by omega), if_pos h2]
      · rw [if_neg h2, if_neg h2, ih]
theorem asG_mem : ∀ (L : List (Int × Int)) (k : Int), k ∈ L.map (·.1) ↔ asG L k ≠ none
  | [], k => by simp [asG]
  | p :: L, k => by
    have ih := asG_mem L k
    show k ∈ p.1 :: L.map (·.1) ↔ (if p.1 = k then some p.2 else asG L k) ≠ none
    rw [List.mem_cons, ih]
    by_cases h : p.1 = k
    · rw [if_pos h]
      exact ⟨fun _ z => (by cases z), fun _ => .inl h.symm⟩
    · rw [if_neg h]
      exact ⟨fun z => z.resolve_left fun q => h q.symm, .inr⟩
theorem asP_nodup : ∀ (L : List (Int × Int)) (k v : Int), (L.map (·.1)).Nodup → ((asP L k v).map (·.1)).Nodup
  | [], k, v, _ => by simp [asP]
  | p :: L, k, v, h => by
    have h : (p.1 :: L.map (·.1)).Nodup := h
    obtain ⟨h1, h2⟩ := List.nodup_cons.mp h
    have ih := asP_nodup L k v h2
    unfold asP
    by_cases e : p.1 = k
    · rw [if_pos e]
      show (k :: L.map (·.1)).Nodup
      rw [← e]; exact h
    · rw [if_neg e]
      show (p.1 :: (asP L k v).map (·.1)).Nodup
      refine List.nodup_cons.mpr ⟨fun z => ?_, ih⟩
      rw [asG_mem, asG_P, if_neg (fun q => e q.symm), ← asG_mem] at z
      exact h1 z
theorem asP_len (L : List (Int × Int)) (k v : Int) : (asP L k v).length ≤ L.length + 1 := by
  induction L with
  | nil => exact Nat.le_refl _
  | cons p L ih =>
    unfold asP
    split <;> simp only [List.length_cons] <;> omega
def dcD (L : List (Int × Int)) : D := .dct true (kys L) (vls L)
/-- one count at a place -/
def atI (l : List Int) (k : Int) : Int := if 0 ≤ k then l.getD k.toNat 0 else 0
theorem atI_cons {a : Int} {l : List Int} {k : Int} : atI (a :: l) k = if k = 0 then a else atI l (k - 1) := by
  unfold atI
  by_cases h : k = 0
  · subst h; rfl
  · rw [if_neg h]
    by_cases h0 : 0 ≤ k
    · rw [if_pos h0, if_pos (by omega)]
      have : k.toNat = (k - 1).toNat + 1 := by omega
      rw [this]; rfl
    · rw [if_neg h0, if_neg (by omega)]
theorem asG_fm : ∀ (l : List Int) (n : Nat) (k : Int), asG (fm n l) k = if atI l (k - n) > 0 then some (atI l (k - n)) else none
  | [], n, k => by
    have : atI [] (k - n) = 0 := by unfold atI; split <;> rfl
    rw [this]; rfl
  | a :: l, n, k => by
    have ih := asG_fm l (n + 1) k
    have e : k - (n : Int) - 1 = k - ((n + 1 : Nat) : Int) := by omega
    rw [atI_cons, e]
    by_cases h : a > 0
    · rw [fm_pos h]
      show (if (n : Int) = k then some a else asG (fm (n + 1) l) k) = _
      by_cases h2 : (n : Int) = k
      · rw [if_pos h2, if_pos (show k - (n : Int) = 0 by omega), if_pos h]
      · rw [if_neg h2, if_neg (show ¬ k - (n : Int) = 0 by omega), ih]
    · rw [fm_neg h, ih]
      by_cases h2 : k - (n : Int) = 0
      · rw [if_pos h2, if_neg h]
        have : atI l (k - ((n + 1 : Nat) : Int)) = 0 := by unfold atI; rw [if_neg (by omega)]
        rw [this]; rfl
      · rw [if_neg h2]
/-- adding counts -/
def ad (L : List (Int × Int)) (ps : List (Int × Int)) : List (Int × Int) := ps.foldl (fun L p => asP L p.1 ((asG L p.1).getD 0 + p.2)) L
theorem ad_fm : ∀ (l : List Int) (n : Nat) (L : List (Int × Int)) (j : Int), asG (ad L (fm n l)) j = if atI l (j - n) > 0 then some ((asG L j).getD 0 + atI l (j - n)) else asG L j
  | [], n, L, j => by
    have : atI [] (j - n) = 0 := by unfold atI; split <;> rfl
    rw [this]; rfl
  | a :: l, n, L, j => by
    have e : j - (n : Int) - 1 = j - ((n + 1 : Nat) : Int) := by omega
    rw [atI_cons, e]
    by_cases h : a > 0
    · rw [fm_pos h]
      show asG (ad (asP L n ((asG L n).getD 0 + a)) (fm (n + 1) l)) j = _
      rw [ad_fm l (n + 1) _ j]
      by_cases h2 : (n : Int) = j
      · have z : atI l (j - ((n + 1 : Nat) : Int)) = 0 := by unfold atI; rw [if_neg (by omega)]
        rw [z, if_neg (by decide), asG_P, if_pos h2, if_pos (show j - (n : Int) = 0 by omega), if_pos h, h2]
      · rw [asG_P, if_neg h2, if_neg (show ¬ j - (n : Int) = 0 by omega)]
    · rw [fm_neg h, ad_fm l (n + 1) L j]
      by_cases h2 : j - (n : Int) = 0
      · have z : atI l (j - ((n + 1 : Nat) : Int)) = 0 := by unfold atI; rw [if_neg (by omega)]
        rw [z, if_neg (by decide), if_pos h2, if_neg h]
      · rw [if_neg h2]
theorem ad_nodup : ∀ (ps L : List (Int × Int)), (L.map (·.1)).Nodup → ((ad L ps).map (·.1)).Nodup
  | [], L, h => h
  | p :: ps, L, h => ad_nodup ps _ (asP_nodup L _ _ h)
theorem ad_len : ∀ (ps L : List (Int × Int)), (ad L ps).length ≤ L.length + ps.length
  | [], L => Nat.le_refl _
  | p :: ps, L => by
    have := ad_len ps (asP L p.1 ((asG L p.1).getD 0 + p.2))
    have h2 := asP_len L p.1 ((asG L p.1).getD 0 + p.2)
    show (ad (asP L p.1 _) ps).length ≤ _
    rw [List.length_cons]
    omega
/-- the first dict -/
def pu (L : List (Int × Int)) (ps : List (Int × Int)) : List (Int × Int) := ps.foldl (fun L p => asP L p.1 p.2) L
theorem asP_new : ∀ (L : List (Int × Int)) (k v : Int), (∀ p ∈ L, p.1 ≠ k) → asP L k v = L ++ [(k, v)]
  | [], k, v, _ => rfl
  | p :: L, k, v, h => by
    unfold asP
    rw [if_neg (h p List.mem_cons_self), asP_new L k v fun q hq => h q (List.mem_cons_of_mem _ hq)]
    rfl
theorem pu_new : ∀ (l : List Int) (n : Nat) (L : List (Int × Int)), (∀ p ∈ L, p.1 < n) → pu L (fm n l) = L ++ fm n l
  | [], n, L, _ => by simp [pu, fm]
  | a :: l, n, L, h => by
    by_cases c : a > 0
    · rw [fm_pos c]
      show pu (asP L n a) (fm (n + 1) l) = _
      rw [asP_new L n a fun p hp z => by have := h p hp; omega, pu_new l (n + 1) _ fun p hp => ?_]
      · simp
      · rcases List.mem_append.mp hp with q | q
        · have := h p q; omega
        · cases List.mem_singleton.mp q; show (n : Int) < _; omega
    · rw [fm_neg c]
      exact pu_new l (n + 1) L fun p hp => by have := h p hp; omega
theorem atI_zip (f s : List Int) (h : f.length = s.length) (k : Int) : atI (List.zipWith (fun a b => a + b) f s) k = atI f k + atI s k := by
  unfold atI
  split
  · by_cases hk : k.toNat < f.length
    · simp [List.getD, hk, List.getElem?_zipWith, show k.toNat < s.length by omega]
    · simp [List.getD, List.getElem?_zipWith, List.getElem?_eq_none (show f.length ≤ k.toNat by omega), List.getElem?_eq_none (show s.length ≤ k.toNat by omega)]
  · rfl
theorem atI_nn {l : List Int} (h : ∀ x ∈ l, 0 ≤ x) (k : Int) : 0 ≤ atI l k := by
  unfold atI
  split
  · by_cases hk : k.toNat < l.length
    · simp only [List.getD, List.getElem?_eq_getElem hk, Option.getD_some]
      exact h _ (List.getElem_mem hk)
    · simp [List.getD, List.getElem?_eq_none (show l.length ≤ k.toNat by omega)]
  · exact Int.le_refl _
/-- what the two forms sum to -/
theorem sum_eq {f s : List Int} (h : f.length = s.length) (h1 : ∀ x ∈ f, 0 ≤ x) (h2 : ∀ x ∈ s, 0 ≤ x) :
    (srtI ((ad (fm 0 f) (fm 0 s)).map (·.1))).map (fun k => (k, (asG (ad (fm 0 f) (fm 0 s)) k).getD 0)) = fm 0 (List.zipWith (fun a b => a + b) f s) := by
  have hG : ∀ j, asG (ad (fm 0 f) (fm 0 s)) j = if atI f j + atI s j > 0 then some (atI f j + atI s j) else none := by
    intro j
    have e : j - ((0 : Nat) : Int) = j := by omega
    rw [ad_fm, asG_fm, e]
    have := atI_nn h1 j
    have := atI_nn h2 j
    by_cases c1 : atI f j > 0 <;> by_cases c2 : atI s j > 0
    · rw [if_pos c2, if_pos c1, if_pos (by omega)]; rfl
    · rw [if_neg c2, if_pos c1, if_pos (by omega)]; congr 1; omega
    · rw [if_pos c2, if_neg c1, if_pos (by omega)]; congr 1; show (0 : Int) + _ = _; omega
    · rw [if_neg c2, if_neg c1, if_neg (by omega)]
  have hB : ∀ j, asG (fm 0 (List.zipWith (fun a b => a + b) f s)) j = if atI f j + atI s j > 0 then some (atI f j + atI s j) else none := by
    intro j
    have e : j - ((0 : Nat) : Int) = j := by omega
    rw [asG_fm, e, atI_zip f s h]
  have srt := (fm_sorted (List.zipWith (fun a b => a + b) f s) 0).1
  have nd : ((fm 0 f).map (·.1)).Nodup := (fm_sorted f 0).1.imp fun hlt e => by omega
  have ndB : ((fm 0 (List.zipWith (fun a b => a + b) f s)).map (·.1)).Nodup := srt.imp fun hlt e => by omega
  have pm : ((ad (fm 0 f) (fm 0 s)).map (·.1)).Perm ((fm 0 (List.zipWith (fun a b => a + b) f s)).map (·.1)) := by
    rw [List.perm_ext_iff_of_nodup (ad_nodup _ _ nd) ndB]
    intro k
    rw [asG_mem, asG_mem, hG, hB]
  have es : srtI ((ad (fm 0 f) (fm 0 s)).map (·.1)) = (fm 0 (List.zipWith (fun a b => a + b) f s)).map (·.1) :=
    sorted_one ((srtI_perm _).trans pm) (srtI_sorted _) (srt.imp fun hlt => by omega)
  rw [es, List.map_map]
  have : ∀ L : List (Int × Int), (L.map (·.1)).Nodup → ∀ p ∈ L, asG L p.1 = some p.2 := by
    intro L
    induction L with
    | nil => intro _ p hp; cases hp
    | cons q L ih =>
      intro hn p hp
      have hn : (q.1 :: L.map (·.1)).Nodup := hn
      obtain ⟨n1, n2⟩ := List.nodup_cons.mp hn
      show (if q.1 = p.1 then some q.2 else asG L p.1) = _
      rcases List.mem_cons.mp hp with rfl | hp
      · rw [if_pos rfl]
      · rw [if_neg (fun e => n1 (by rw [e]; exact List.mem_map.mpr ⟨p, hp, rfl⟩)), ih n2 p hp]
  have hv := this _ ndB
  conv => rhs; rw [← List.map_id (fm 0 (List.zipWith (fun a b => a + b) f s))]
  apply List.map_congr_left
  intro p hp
  have h3 := hv p hp
  show (p.1, (asG (ad (fm 0 f) (fm 0 s)) p.1).getD 0) = p
  rw [hG, ← hB, h3]
  rfl
end K09

namespace K09
open Se PySem
theorem eDc_ok {vs : List Nat} {mi : M (List D)} {f : D → Se.Env → Option Se.Env} {mt : M Bool} {mk mv : M D} {ρ ρ1 ρ2 : Se.Env} {ds acc : List D} {ks : List L2.Key} (h1 : mi ρ = .ok ds ρ1) (h2 : compD vs f mt mk mv ds [] [] ρ1 = some (ks, acc, ρ2)) : eDc vs mi f mt mk mv ρ = .ok (.dct true ks acc) (wipeE ρ2 vs) := by
  unfold eDc
  rw [h1]
  dsimp only
  rw [h2]
theorem kys_len (L : List (Int × Int)) : (kys L).length = L.length := List.length_map ..
theorem kys_nodup {L : List (Int × Int)} (h : (L.map (·.1)).Nodup) : (kys L).Nodup := by
  have : kys L = (L.map (·.1)).map Sum.inl := by rw [List.map_map]; rfl
  rw [this]
  exact List.Pairwise.map _ (fun _ _ e q => e (Sum.inl.inj q)) h
theorem dict_go (K : PySem.W.Frag) (a b c : Option D) : ∀ (ps L : List (Int × Int)) (q r : Option D), L.length + ps.length ≤ 1000000 →
    ∃ q' r', compD [3, 4] (fTup (fCons (fName 3) (fCons (fName 4) (fNil)))) tTrue (e_form_sum_1 K) (e_form_sum_2 K) (ps.map prD) (kys L) (vls L) [a, b, c, q, r] = some (kys (pu L ps), vls (pu L ps), [a, b, c, q', r'])
  | [], L, q, r, _ => ⟨q, r, rfl⟩
  | p :: ps, L, q, r, h => by
    rw [List.length_cons] at h
    have hl := asP_len L p.1 p.2
    obtain ⟨q', r', e⟩ := dict_go K a b c ps (asP L p.1 p.2) (some (.int p.1)) (some (.int p.2)) (by omega)
    refine ⟨q', r', ?_⟩
    rw [List.map_cons]
    unfold compD
    have ef : fTup (fCons (fName 3) (fCons (fName 4) (fNil))) (prD p) (wipeE [a, b, c, q, r] [3, 4]) = some [a, b, c, some (.int p.1), some (.int p.2)] := by
      simp [fTup, fCons, fNil, prD]
    have e1 : e_form_sum_1 K [a, b, c, some (.int p.1), some (.int p.2)] = .ok (.int p.1) [a, b, c, some (.int p.1), some (.int p.2)] := by simp [e_form_sum_1]
    have e2 : e_form_sum_2 K [a, b, c, some (.int p.1), some (.int p.2)] = .ok (.int p.2) [a, b, c, some (.int p.1), some (.int p.2)] := by simp [e_form_sum_2]
    rw [ef]
    dsimp only [tTrue]
    rw [if_pos rfl, e1]
    dsimp only
    rw [e2]
    show (if fz (D.int p.2) = true ∧ (kys L).length < sizeLine then compD _ _ _ _ _ _ (dPut (kys L) (vls L) (.inl p.1) (.int p.2)).1 (dPut (kys L) (vls L) (.inl p.1) (.int p.2)).2 _ else none) = _
    rw [if_pos ⟨rfl, by rw [kys_len, szl]; omega⟩, dPut_as]
    exact e
theorem add_go (K : PySem.W.Frag) (a b : Option D) : ∀ (ps L : List (Int × Int)) (q r : Option D), L.length + ps.length ≤ 1000000 → (L.map (·.1)).Nodup →
    ∃ q' r', forF (fTup (fCons (fName 3) (fCons (fName 4) (fNil)))) (b_form_sum_3 K) (ps.map prD) [a, b, some (dcD L), q, r] = .nx [a, b, some (dcD (ad L ps)), q', r']
  | [], L, q, r, _, _ => ⟨q, r, rfl⟩
  | p :: ps, L, q, r, h, hn => by
    rw [List.length_cons] at h
    have hl := asP_len L p.1 ((asG L p.1).getD 0 + p.2)
    obtain ⟨q', r', e⟩ := add_go K a b ps (asP L p.1 ((asG L p.1).getD 0 + p.2)) (some (.int p.1)) (some (.int p.2)) (by omega) (asP_nodup _ _ _ hn)
    refine ⟨q', r', ?_⟩
    rw [List.map_cons]
    unfold forF
    have ef : fTup (fCons (fName 3) (fCons (fName 4) (fNil))) (prD p) [a, b, some (dcD L), q, r] = some [a, b, some (dcD L), some (.int p.1), some (.int p.2)] := by
      simp [fTup, fCons, fNil, prD]
    have eg : gDk2 (dcD L) (.int p.1) (.int 0) = some (.int ((asG L p.1).getD 0)) := by
      unfold gDk2 dcD
      dsimp only
      rw [ya7, Option.bind_some, if_pos (show fz (D.int 0) = true from rfl), dGet_as]
      cases asG L p.1 <;> rfl
    have ev : eV (vOp2 gAdd (vOp3 gDk2 (vVar 2) (vVar 3) (vLit (.int 0))) (vVar 4)) [a, b, some (dcD L), some (.int p.1), some (.int p.2)] = .ok (.int ((asG L p.1).getD 0 + p.2)) [a, b, some (dcD L), some (.int p.1), some (.int p.2)] := by
      simp [eg]
    have el : leafPut (.inl p.1) (.int ((asG L p.1).getD 0 + p.2)) (dcD L) = some (dcD (asP L p.1 ((asG L p.1).getD 0 + p.2))) := by
      show (if (kys L).Nodup ∧ (kys L).length = (vls L).length ∧ (kys L).length < sizeLine then some (D.dct true (dPut (kys L) (vls L) (.inl p.1) (.int ((asG L p.1).getD 0 + p.2))).1 (dPut (kys L) (vls L) (.inl p.1) (.int ((asG L p.1).getD 0 + p.2))).2) else none) = _
      rw [if_pos ⟨kys_nodup hn, by unfold vls; rw [kys_len, List.length_map], by rw [kys_len, szl]; omega⟩, dPut_as]
      rfl
    have em : b_form_sum_3 K [a, b, some (dcD L), some (.int p.1), some (.int p.2)] = .nx [a, b, some (dcD (asP L p.1 ((asG L p.1).getD 0 + p.2))), some (.int p.1), some (.int p.2)] := by
      show seqK (sPut (eV (vOp2 gAdd (vOp3 gDk2 (vVar 2) (vVar 3) (vLit (.int 0))) (vVar 4))) (pVar 2) (vVar 3) _) sNil = _
      unfold sPut
      rw [ev]
      show seqK (match leafPut (.inl p.1) (.int ((asG L p.1).getD 0 + p.2)) (dcD L) with
        | some d' => SR.nx _
        | none => .bad) sNil = _
      rw [el]
      rfl
    rw [ef]
    dsimp only
    rw [em]
    dsimp only
    exact e
def gA (L : List (Int × Int)) (d : D) : D := match d with
  | .int k => prD (k, (asG L k).getD 0)
  | d => d
theorem form_sum_ok (K : PySem.W.Frag) {f s : List Int} (h : f.length = s.length) (hl : f.length ≤ 100000) (h1 : ∀ x ∈ f, 0 ≤ x) (h2 : ∀ x ∈ s, 0 ≤ x) :
    F_form_sum K [.tup ((fm 0 f).map prD), .tup ((fm 0 s).map prD)] = .rt (.tup ((fm 0 (List.zipWith (fun a b => a + b) f s)).map prD)) [.tup ((fm 0 f).map prD), .tup ((fm 0 s).map prD)] := by
  have lf := fm_len f 0
  have ls := fm_len s 0
  obtain ⟨q1, r1, e1⟩ := dict_go K (some (.tup ((fm 0 f).map prD))) (some (.tup ((fm 0 s).map prD))) none (fm 0 f) [] none none (by simp; omega)
  rw [pu_new f 0 [] (by simp), List.nil_append] at e1
  have nd : ((fm 0 f).map (·.1)).Nodup := (fm_sorted f 0).1.imp fun hlt e => by omega
  obtain ⟨q2, r2, e2⟩ := add_go K (some (.tup ((fm 0 f).map prD))) (some (.tup ((fm 0 s).map prD))) (fm 0 s) (fm 0 f) none none (by omega) nd
  have hL := ad_len (fm 0 s) (fm 0 f)
  have se := sum_eq h h1 h2
  have key : ∀ k ∈ srtI ((ad (fm 0 f) (fm 0 s)).map (·.1)), ∃ v, asG (ad (fm 0 f) (fm 0 s)) k = some v := by
    intro k hk
    have := (srtI_perm _).mem_iff.mp hk
    rw [asG_mem] at this
    cases e : asG (ad (fm 0 f) (fm 0 s)) k with
    | none => exact absurd e this
    | some v => exact ⟨v, rfl⟩
  have hlen : (srtI ((ad (fm 0 f) (fm 0 s)).map (·.1))).length = (ad (fm 0 f) (fm 0 s)).length := by
    rw [(srtI_perm _).length_eq, List.length_map]
  generalize hL2 : ad (fm 0 f) (fm 0 s) = L at e2 hL se key hlen
  obtain ⟨ρ', e3, q, r, rfl⟩ := compF_map (vs := [3]) (f := fName 3) (me := e_form_sum_4 K) (fun ρ => ∃ q r, ρ = [some (.tup ((fm 0 f).map prD)), some (.tup ((fm 0 s).map prD)), some (dcD L), q, r]) (gA L) ((srtI (L.map (·.1))).map D.int) [] [some (.tup ((fm 0 f).map prD)), some (.tup ((fm 0 s).map prD)), some (dcD L), q2, r2] ⟨_, _, rfl⟩ (by simp [szl, hlen]; omega) (by
    rintro d hd ρ ⟨q, r, rfl⟩
    obtain ⟨k, hk, rfl⟩ := List.mem_map.mp hd
    obtain ⟨v, hv⟩ := key k hk
    refine ⟨[some (.tup ((fm 0 f).map prD)), some (.tup ((fm 0 s).map prD)), some (dcD L), some (.int k), r], [some (.tup ((fm 0 f).map prD)), some (.tup ((fm 0 s).map prD)), some (dcD L), some (.int k), r], rfl, ?_, _, _, rfl⟩
    have eg : gDkF (dcD L) (.int k) = some (.int v) := by
      unfold gDkF gDk dcD
      dsimp only
      rw [ya7, Option.bind_some, dGet_as, hv]
      rfl
    simp [e_form_sum_4, eg, gA, hv, prD, szl])
  have ea : ((srtI (L.map (·.1))).map D.int).map (gA L) = (fm 0 (List.zipWith (fun a b => a + b) f s)).map prD := by
    rw [← se, List.map_map, List.map_map]
    rfl
  rw [List.nil_append, ea] at e3
  have ei : gLstD [dcD L] = some (.lst true ((L.map (·.1)).map D.int)) := by
    show some (D.lst true ((kys L).map dK)) = _
    unfold kys
    rw [List.map_map, List.map_map]
    rfl
  have eS : gSrt [.lst true ((L.map (·.1)).map D.int)] = some (.lst true ((srtI (L.map (·.1))).map D.int)) := by
    show (intsD ((L.map (·.1)).map D.int)).map _ = _
    rw [intsD_map]
    rfl
  obtain ⟨g1, g2, g3⟩ := fz_prs (fm 0 f)
  obtain ⟨i1, i2, i3⟩ := fz_prs (fm 0 s)
  obtain ⟨j1, j2, j3⟩ := fz_prs (fm 0 (List.zipWith (fun a b => a + b) f s))
  have ed := eDc_ok (mi := iSq (eVar 0)) (f := fTup (fCons (fName 3) (fCons (fName 4) (fNil)))) (mt := tTrue) (mk := e_form_sum_1 K) (mv := e_form_sum_2 K) (vs := [3, 4]) (ρ := [some (.tup ((fm 0 f).map prD)), some (.tup ((fm 0 s).map prD)), none, none, none]) (by simp [g1, g3, itemsD]) e1
  have ed : eDc [3, 4] (iSq (eVar 0)) (fTup (fCons (fName 3) (fCons (fName 4) (fNil)))) tTrue (e_form_sum_1 K) (e_form_sum_2 K) [some (.tup ((fm 0 f).map prD)), some (.tup ((fm 0 s).map prD)), none, none, none] = .ok (dcD (fm 0 f)) [some (.tup ((fm 0 f).map prD)), some (.tup ((fm 0 s).map prD)), none, none, none] := ed
  generalize (L.map (·.1)).map D.int = A at ei eS
  have hzs := fzL_ints (srtI (L.map (·.1)))
  have hfs := frzL_ints (srtI (L.map (·.1)))
  generalize (srtI (L.map (·.1))).map D.int = B at eS e3 hzs hfs
  simp [F_form_sum, u131, startE, m_form_sum, ed, g1, g3, i1, i3, itemsD, e2, ei, eS, hzs, hfs, e3, gTup, j1]
end K09

namespace K09
open Se PySem
def addL (f s : List Int) : List Int := List.zipWith (fun a b => a + b) f s
def subL (f s : List Int) : List Int := List.zipWith (fun a b => a - b) f s
def mulL (f s : List Int) : List Int := List.zipWith (fun a b => a * b) f s
def ixG (o : Int → Int → Int) (f s : List Int) (d : D) : D := match d with
  | .int i => .int (o (f.getD i.toNat 0) (s.getD i.toNat 0))
  | d => d
theorem rg_zip (o : Int → Int → Int) : ∀ (f s pre pre' : List Int), pre.length = pre'.length → f.length = s.length → (rgD (pre.length : Int) f.length).map (ixG o (pre ++ f) (pre' ++ s)) = (List.zipWith o f s).map D.int
  | [], [], pre, pre', _, _ => rfl
  | [], y :: s, pre, pre', _, h => by simp at h
  | x :: f, [], pre, pre', _, h => by simp at h
  | x :: f, y :: s, pre, pre', h, h2 => by
    have ih := rg_zip o f s (pre ++ [x]) (pre' ++ [y]) (by simp [h]) (by simpa using h2)
    have e1 : pre ++ [x] ++ f = pre ++ x :: f := by simp
    have e2 : pre' ++ [y] ++ s = pre' ++ y :: s := by simp
    have e3 : (((pre ++ [x]).length : Nat) : Int) = (pre.length : Int) + 1 := by simp
    rw [e1, e2, e3] at ih
    rw [List.length_cons, rgD_succ, List.map_cons, ih]
    show D.int (o ((pre ++ x :: f).getD ((pre.length : Int)).toNat 0) ((pre' ++ y :: s).getD ((pre.length : Int)).toNat 0)) :: _ = D.int (o x y) :: _
    congr 2
    · congr 1
      · simp [List.getD]
      · simp [List.getD, h]
theorem lc_zip {me : M D} {env : Option D → Se.Env} {vs : List Nat} {ft : D → Se.Env → Option Se.Env} {o : Int → Int → Int} {f s : List Int} (h : f.length = s.length) (hl : f.length ≤ 1000000) (q0 : Option D)
    (st : ∀ i (h1 : i < f.length) (h2 : i < s.length) (q : Option D), ft (.int (i : Int)) (wipeE (env q) vs) = some (env (some (.int (i : Int)))) ∧ me (env (some (.int (i : Int)))) = .ok (.int (o f[i] s[i])) (env (some (.int (i : Int))))) :
    ∃ q, compF vs ft tTrue me (rgD 0 f.length) [] (env q0) = some ((List.zipWith o f s).map D.int, env q) := by
  obtain ⟨ρ', e, q, rfl⟩ := compF_map (vs := vs) (f := ft) (me := me) (fun ρ => ∃ q, ρ = env q) (ixG o f s) (rgD 0 f.length) [] (env q0) ⟨_, rfl⟩ (by simp [szl, rgD_len]; omega) (by
    rintro d hd ρ ⟨q, rfl⟩
    obtain ⟨i, hi⟩ := List.getElem?_of_mem hd
    obtain ⟨hi2, rfl⟩ := rgD_get hi
    obtain ⟨h1, h2⟩ := st i hi2 (by omega) q
    have e0 : (0 : Int) + i = i := by omega
    rw [e0]
    refine ⟨_, env (some (.int (i : Int))), h1, ?_, _, rfl⟩
    rw [h2]
    congr 1
    simp [ixG, List.getD, hi2, show i < s.length by omega])
  have ez := rg_zip o f s [] [] rfl h
  simp only [List.nil_append, List.length_nil, Int.natCast_zero] at ez e
  rw [ez] at e
  exact ⟨q, e⟩
theorem ix_get {l : List Int} {i : Nat} (h : i < l.length) : ixD (l.map D.int) (i : Int) = some (.int l[i]) := ixI h
theorem repD_one {α : Type} (x : α) (n : Nat) : repD n [x] = List.replicate n x := by
  unfold repD
  induction n with
  | zero => rfl
  | succ n ih => rw [List.replicate_succ, List.flatten_cons, ih, List.replicate_succ]; rfl
theorem zip_nn {f s : List Int} (h1 : ∀ x ∈ f, 0 ≤ x ∧ x ≤ 500003) (h2 : ∀ x ∈ s, 0 ≤ x ∧ x ≤ 500003) : ∀ x ∈ addL f s, 0 ≤ x ∧ x ≤ 1000006 := by
  induction f generalizing s with
  | nil => intro x hx; simp [addL] at hx
  | cons a f ih =>
    cases s with
    | nil => intro x hx; simp [addL] at hx
    | cons b s =>
      intro x hx
      have hx : x ∈ (a + b) :: addL f s := hx
      rcases List.mem_cons.mp hx with rfl | hx
      · have := h1 a List.mem_cons_self
        have := h2 b List.mem_cons_self
        omega
      · exact ih (fun y hy => h1 y (List.mem_cons_of_mem _ hy)) (fun y hy => h2 y (List.mem_cons_of_mem _ hy)) x hx
theorem Pl_prs {l : List Int} (h : l.length ≤ 1000000) : Pl 2 (.tup ((fm 0 l).map prD)) := by
  have := fm_len l 0
  refine Pl.tup (by rw [List.length_map]; omega) fun x hx => ?_
  obtain ⟨p, _, rfl⟩ := List.mem_map.mp hx
  refine Pl.tup (by simp) fun y hy => ?_
  rcases List.mem_cons.mp hy with rfl | hy
  · exact Pl.int
  · cases List.mem_singleton.mp hy; exact Pl.int
theorem Pl_ints {l : List Int} (h : l.length ≤ 1000000) : Pl 1 (.tup (l.map D.int)) := by
  refine Pl.tup (by rw [List.length_map]; omega) fun x hx => ?_
  obtain ⟨p, _, rfl⟩ := List.mem_map.mp hx
  exact Pl.int
theorem less_neg (f s : List Int) (m : Nat) (h : f.length = s.length) : (lessL f s m).map (fun x => 0 - x) = lessL s f m := by
  have : ∀ f s : List Int, (List.zipWith (fun a b => a - b) f s).map (fun x => 0 - x) = List.zipWith (fun a b => a - b) s f := by
    intro f
    induction f with
    | nil => intro s; simp
    | cons a f ih =>
      intro s
      cases s with
      | nil => simp
      | cons b s =>
        simp only [List.zipWith_cons_cons, List.map_cons, ih]
        congr 1; omega
  unfold lessL
  rw [List.map_append, this, List.map_replicate, h]
  rfl
theorem less_self (f : List Int) : lessL f f f.length = List.replicate f.length 0 := by
  have : ∀ f : List Int, List.zipWith (fun a b => a - b) f f = List.replicate f.length 0 := by
    intro f
    induction f with
    | nil => rfl
    | cons a f ih => rw [List.zipWith_cons_cons, ih, List.length_cons, List.replicate_succ, Int.sub_self]
  unfold lessL
  rw [this]
  simp
end K09

namespace K09
open Se PySem
theorem worth_step (K : PySem.W.Frag) {l w : List Int} {k : Nat} (h1 : l.length = k) (h2 : w.length = k) (hk : k ≤ 30) (hn : ∀ x ∈ l, 0 ≤ x ∧ x ≤ 2000000) (a0 a2 a3 a5 a6 a7 a8 a9 a11 a12 a13 : Option D) :
    ∃ q, b__law_forms_right_5 K [a0, some (.int k), a2, a3, some (.lst true (w.map D.int)), a5, a6, a7, a8, a9, some (.lst false (l.map D.int)), a11, a12, a13] = .nx [a0, some (.int k), a2, a3, some (.lst true (w.map D.int)), a5, a6, a7, a8, a9, some (.lst false (l.map D.int)), a11, q, none] := by
  subst h1
  obtain ⟨q, e⟩ := lc_zip (me := e__law_forms_right_4 K) (env := fun q => [a0, some (.int l.length), a2, a3, some (.lst true (w.map D.int)), a5, a6, a7, a8, a9, some (.lst false (l.map D.int)), a11, a12, q]) (vs := [13]) (ft := fName 13) (o := fun a b => a * b) (f := l) (s := w) h2.symm (by omega) a13 (by
    intro i h1 h2 q
    have hc : CMulA l[i] w[i] := cm8 (by have := hn _ (List.getElem_mem h1); omega) (by have := hn _ (List.getElem_mem h1); omega)
    exact ⟨by simp, by simp [e__law_forms_right_4, ix_get h1, ix_get h2, hc]⟩)
  have b1 : -4611686018427387904 < (l.length : Int) := by omega
  have b2 : (l.length : Int) < 4611686018427387904 := by omega
  have es : gSum [.lst true ((List.zipWith (fun a b => a * b) l w).map D.int)] = some (.int (wsum w l)) := by
    show (intsD ((List.zipWith (fun a b => a * b) l w).map D.int)).map (fun ns => D.int ns.sum) = _
    rw [intsD_map]
    rfl
  have e1 := law_form_ok K (l := l) (by omega)
  have e2 := form_worth_ok K (l := l) (w := w) h2.symm (by omega) hn
  have e3 := same40 K (n := 0) (d := .int (wsum w l)) Pl.int (by omega)
  obtain ⟨g1, g2, g3⟩ := fz_prs (fm 0 l)
  have hw := fzL_ints w
  have hwn := neL_ints w
  have hl1 := fzL_ints l
  have hl2 := neL_ints l
  generalize (List.zipWith (fun a b => a * b) l w).map D.int = A at e es
  refine ⟨some (.int (wsum w l)), ?_⟩
  simp [b__law_forms_right_5, rg1_of b1 b2, e, es, e1, e2, e3, g1, g2, g3, gTup, hw, hwn, hl1, hl2]
def gN (d : D) : D := match d with
  | .int i => .int (0 - i)
  | d => d
theorem neg_ok (K : PySem.W.Frag) {l : List Int} (hl : l.length ≤ 1000) (a0 a1 a2 a3 a4 a5 a6 a7 a8 : Option D) : ∃ q, compF [13] (fName 13) tTrue (e__law_forms_right_3 K) (l.map D.int) [] [a0, a1, a2, a3, a4, a5, a6, a7, a8, some (.lst false (l.map D.int)), none, none, none, none] = some ((l.map fun x => 0 - x).map D.int, [a0, a1, a2, a3, a4, a5, a6, a7, a8, some (.lst false (l.map D.int)), none, none, none, q]) := by
  obtain ⟨ρ', e, q, rfl⟩ := compF_map (vs := [13]) (f := fName 13) (me := e__law_forms_right_3 K) (fun ρ => ∃ q, ρ = [a0, a1, a2, a3, a4, a5, a6, a7, a8, some (.lst false (l.map D.int)), none, none, none, q]) gN (l.map D.int) [] [a0, a1, a2, a3, a4, a5, a6, a7, a8, some (.lst false (l.map D.int)), none, none, none, none] ⟨_, rfl⟩ (by rw [List.length_map, szl]; simp; omega) (by
    rintro d hd ρ ⟨q, rfl⟩
    obtain ⟨i, _, rfl⟩ := List.mem_map.mp hd
    exact ⟨[a0, a1, a2, a3, a4, a5, a6, a7, a8, some (.lst false (l.map D.int)), none, none, none, some (.int i)], [a0, a1, a2, a3, a4, a5, a6, a7, a8, some (.lst false (l.map D.int)), none, none, none, some (.int i)], by simp, by simp [e__law_forms_right_3, gN], _, rfl⟩)
  refine ⟨q, ?_⟩
  rw [e, List.nil_append, List.map_map, List.map_map]
  rfl
theorem mul_z {z : Int} (h0 : 0 ≤ z) (h1 : z ≤ 1000) : gMulA (.lst true [.int 0]) (.int z) = some (.lst true (List.replicate z.toNat (.int 0))) := by
  unfold gMulA
  dsimp only
  rw [if_pos ⟨rfl, by omega, by omega, by rw [szl]; simp; omega⟩, repD_one]
theorem callP_ok {pm : List Nat} {n : Nat} {F : List D → FR} {ma : M (List AD)} {ρ ρ1 : Se.Env} {as : List AD} {d : D} {ds ds2 ds3 : List D} (h1 : ma ρ = .ok as ρ1) (h2 : frzA as = some ds) (h3 : ds.length = n) (h4 : takeAll ((pickD pm ds).map .inl) ρ1 = some (ds2, ρ1)) (h5 : ds2.length = n ∧ neL ds2 = true) (h6 : F ds2 = .rt d ds3) (h7 : putAll ((pickD pm ds).map .inl) ds3 ρ1 = some ρ1) : eCallP pm n F ma ρ = .ok d ρ1 := by
  unfold eCallP
  rw [h1]
  show (match frzA as with
  | some ds => if ds.length = n then (match takeAll ((pickD pm ds).map .inl) ρ1 with
    | some (ds2, ρ2) => if ds2.length = n ∧ neL ds2 = true then fin ((pickD pm ds).map .inl) ρ2 (F ds2) else .bad
    | none => .bad) else .bad
  | none => .bad) = _
  rw [h2]
  dsimp only
  rw [if_pos h3, h4]
  dsimp only
  rw [if_pos h5, h6, u123, h7, u125]
theorem bk_step {m n : MS} {ρ ρ' : Se.Env} {B : List Nat} {ds : List D} {R : FR} (h : m ρ = .nx ρ') (h2 : bkK (n ρ') B ds = R) : bkK (sSeq m n ρ) B ds = R := by
  rw [u2, h]; exact h2
theorem sq_step {m n : MS} {ρ ρ' : Se.Env} {R : SR} (h : m ρ = .nx ρ') (h2 : n ρ' = R) : sSeq m n ρ = R := by
  rw [u2, h]; exact h2
theorem forms_right_ok (K : PySem.W.Frag) {n : Nat} {d : D} (h : Pt n d) (hn : n + 1000 < 2 ^ 40) : ∃ d', F__law_forms_right K [d] = .rt (.bl true) [d'] ∧ Pt (n + 200) d' := by
  obtain ⟨x, d1, e1, x0, x1, s1⟩ := draw_ok K (many := 23) h (by omega) (by decide) (by decide)
  obtain ⟨k, hk⟩ : ∃ k : Nat, 2 + x = k := ⟨(2 + x).toNat, by omega⟩
  obtain ⟨f, d2, e2, ⟨lf, bf⟩, s2⟩ := numbers_ok K (k := k) s1 (by omega) (by omega) (by omega)
  obtain ⟨s, d3, e3, ⟨ls, bs⟩, s3⟩ := numbers_ok K (k := k) s2 (by omega) (by omega) (by omega)
  obtain ⟨w, d4, e4, ⟨lw, bw⟩, s4⟩ := worths_ok K (k := k) s3 (by omega) (by omega) (by omega)
  obtain ⟨y, d5, e5, y0, y1, s5⟩ := draw_ok K (many := 25 - (k : Int)) s4 (by omega) (by omega) (by omega)
  obtain ⟨j, d6, e6, j0, j1, s6⟩ := draw_ok K (many := (k : Int)) s5 (by omega) (by omega) (by omega)
  obtain ⟨m, rfl⟩ : ∃ m : Nat, y = m := ⟨y.toNat, by omega⟩
  obtain ⟨jn, rfl⟩ : ∃ jn : Nat, j = jn := ⟨j.toNat, by omega⟩
  have hfs : f.length = s.length := by omega
  have hb := zip_nn bf bs
  have bf0 : ∀ x ∈ f, 0 ≤ x := fun x hx => (bf x hx).1
  have bs0 : ∀ x ∈ s, 0 ≤ x := fun x hx => (bs x hx).1
  have lb : (addL f s).length = k := by unfold addL; rw [List.length_zipWith]; omega
  have hd1 := s1.ne
  have hd2 := s2.ne
  have hd3 := s3.ne
  have hd4 := s4.ne
  have hd5 := s5.ne
  have hd6 := s6.ne
  have b1 : -4611686018427387904 < (k : Int) := by omega
  have b2 : (k : Int) < 4611686018427387904 := by omega
  -- the sums and the differences
  obtain ⟨q7, e7⟩ := lc_zip (me := e__law_forms_right_1 K) (env := fun q => [some d4, some (.int k), some (.lst true (f.map D.int)), some (.lst true (s.map D.int)), some (.lst true (w.map D.int)), none, none, none, none, none, none, none, none, q]) (vs := [13]) (ft := fName 13) (o := fun a b => a + b) (f := f) (s := s) hfs (by omega) none (by
    intro i h1 h2 q
    exact ⟨by simp, by simp [e__law_forms_right_1, ix_get h1, ix_get h2]⟩)
  obtain ⟨q8, e8⟩ := lc_zip (me := e__law_forms_right_2 K) (env := fun q => [some d5, some (.int k), some (.lst false (f.map D.int)), some (.lst false (s.map D.int)), some (.lst true (w.map D.int)), some (.lst true ((addL f s).map D.int)), some (.int ((k : Int) + m)), some (.tup ((fm 0 f).map prD)), some (.tup ((fm 0 s).map prD)), none, none, none, none, q]) (vs := [13]) (ft := fName 13) (o := fun a b => a - b) (f := f) (s := s) hfs (by omega) none (by
    intro i h1 h2 q
    exact ⟨by simp, by simp [e__law_forms_right_2, ix_get h1, ix_get h2]⟩)
  have elk : f.length = k := lf
  rw [lf] at e7 e8
  change compF _ _ _ _ _ _ _ = some ((addL f s).map D.int, _) at e7
  change compF _ _ _ _ _ _ _ = some ((subL f s).map D.int, _) at e8
  have eF := law_form_ok K (l := f) (by omega)
  have eS := law_form_ok K (l := s) (by omega)
  have eB := law_form_ok K (l := addL f s) (by omega)
  have oF := form_of_ok K (l := f) (by omega)
  have oS := form_of_ok K (l := s) (by omega)
  have oB := form_of_ok K (l := addL f s) (by omega)
  have oZ := form_of_ok K (l := List.replicate k 0) (by simp; omega)
  rw [fm_zero] at oZ
  have pF := same40 K (Pl_prs (l := f) (by omega)) (by omega)
  have pS := same40 K (Pl_prs (l := s) (by omega)) (by omega)
  have pB := same40 K (Pl_prs (l := addL f s) (by omega)) (by omega)
  have pZ := same40 K (n := 1) (d := .tup []) (Pl.tup (by simp) (by simp)) (by omega)
  have c1 := form_sum_ok K hfs (by omega) bf0 bs0
  have c2 := form_sum_ok K hfs.symm (by omega) bs0 bf0
  have comm : List.zipWith (fun a b : Int => a + b) s f = addL f s := by
    unfold addL
    rw [List.zipWith_comm]
    congr 1
    funext a b
    omega
  rw [comm] at c2
  rw [show List.zipWith (fun a b : Int => a + b) f s = addL f s from rfl] at c1
  have l1 := form_less_ok K hfs (m := k + m) (by omega) (by omega) bf0 bs0
  have l2 := form_less_ok K hfs.symm (m := k + m) (by omega) (by omega) bs0 bf0
  rw [Int.natCast_add] at l1 l2
  have l3 := form_less_ok K (f := s) (s := s) rfl (m := k) (by omega) (by omega) bs0 bs0
  have e9 : lessL f s (k + m) = subL f s ++ List.replicate m 0 := by
    unfold lessL subL
    rw [lf, show k + m - k = m by omega]
  have hlen : (lessL f s (k + m)).length = k + m := by
    rw [e9]; unfold subL; simp; omega
  have hlen2 : (lessL s f (k + m)).length = k + m := by
    unfold lessL; simp; omega
  have pL := same40 K (Pl_ints (l := lessL f s (k + m)) (by omega)) (by omega)
  have pN := same40 K (Pl_ints (l := lessL s f (k + m)) (by omega)) (by omega)
  have l4 : lessL s s k = List.replicate k 0 := by
    have := less_self s
    rw [ls] at this
    exact this
  rw [l4] at l3
  have pR := same40 K (Pl_ints (l := List.replicate k 0) (by simp; omega)) (by omega)
  have mulZ : ∀ r : Nat, r ≤ 1000 → gMulA (.lst true [.int 0]) (.int (r : Int)) = some (.lst true (List.replicate r (.int 0))) := by
    intro r hr
    have := mul_z (z := (r : Int)) (by omega) (by omega)
    rwa [Int.toNat_natCast] at this
  have mz1 := mulZ m (by omega)
  have mz2 := mulZ k (by omega)
  have mapR : ∀ r : Nat, (List.replicate r (0 : Int)).map D.int = List.replicate r (D.int 0) := fun r => List.map_replicate
  have zR : ∀ r : Nat, fzL (List.replicate r (D.int 0)) = true := fun r => by rw [← mapR]; exact fzL_ints _
  have gA : gAdd (.lst true ((subL f s).map D.int)) (.lst true (List.replicate m (.int 0))) = some (.lst true ((lessL f s (k + m)).map D.int)) := by
    show (if _ ∧ _ ∧ _ then _ else _) = _
    rw [if_pos ⟨fzL_ints _, zR m, by rw [szl]; unfold subL; simp; omega⟩, e9, List.map_append, mapR]
  have i1 := fzL_ints f
  have i2 := fzL_ints s
  have i3 := fzL_ints (addL f s)
  have i4 := fzL_ints w
  have i5 := fzL_ints (lessL f s (k + m))
  have i6 := fzL_ints (lessL s f (k + m))
  have j1 := neL_ints f
  have j2 := neL_ints s
  have j3 := neL_ints (addL f s)
  have j4 := neL_ints w
  have j5 := neL_ints (lessL f s (k + m))
  have j6 := neL_ints (lessL s f (k + m))
  have k1 := frzL_ints f
  have k2 := frzL_ints s
  have k3 := frzL_ints (addL f s)
  have k4 := frzL_ints w
  have k5 := frzL_ints (lessL f s (k + m))
  have k6 := frzL_ints (lessL s f (k + m))
  obtain ⟨f1, f2, f3⟩ := fz_prs (fm 0 f)
  obtain ⟨g1, g2, g3⟩ := fz_prs (fm 0 s)
  obtain ⟨h1, h2, h3⟩ := fz_prs (fm 0 (addL f s))
  have hmm : (k : Int) + (m : Int) - (k : Int) = (m : Int) := by omega
  have hd := h.ne
  -- step by step
  obtain ⟨q9, eN⟩ := neg_ok K (l := lessL f s (k + m)) (by omega) (some d5) (some (.int k)) (some (.lst false (f.map D.int))) (some (.lst false (s.map D.int))) (some (.lst true (w.map D.int))) (some (.lst false ((addL f s).map D.int))) (some (.int ((k : Int) + m))) (some (.tup ((fm 0 f).map prD))) (some (.tup ((fm 0 s).map prD)))
  rw [less_neg f s (k + m) hfs] at eN
  obtain ⟨u1, w1⟩ := worth_step K (l := f) (w := w) (k := k) lf lw (by omega) (fun x hx => by have := bf x hx; omega) (some d5) (some (.lst false (f.map D.int))) (some (.lst false (s.map D.int))) (some (.lst false ((addL f s).map D.int))) (some (.int ((k : Int) + m))) (some (.tup ((fm 0 f).map prD))) (some (.tup ((fm 0 s).map prD))) (some (.lst false ((lessL f s (k + m)).map D.int))) none none none
  obtain ⟨u2, w2⟩ := worth_step K (l := s) (w := w) (k := k) ls lw (by omega) (fun x hx => by have := bs x hx; omega) (some d5) (some (.lst false (f.map D.int))) (some (.lst false (s.map D.int))) (some (.lst false ((addL f s).map D.int))) (some (.int ((k : Int) + m))) (some (.tup ((fm 0 f).map prD))) (some (.tup ((fm 0 s).map prD))) (some (.lst false ((lessL f s (k + m)).map D.int))) none u1 none
  obtain ⟨u3, w3⟩ := worth_step K (l := addL f s) (w := w) (k := k) lb lw (by omega) (fun x hx => by have := hb x hx; omega) (some d5) (some (.lst false (f.map D.int))) (some (.lst false (s.map D.int))) (some (.lst false ((addL f s).map D.int))) (some (.int ((k : Int) + m))) (some (.tup ((fm 0 f).map prD))) (some (.tup ((fm 0 s).map prD))) (some (.lst false ((lessL f s (k + m)).map D.int))) none u2 none
  have hjw : jn < w.length := by omega
  have xw := ix_get hjw
  have cm : CMulA w[jn] 3 := cm7 (by omega) (by omega)
  have one : F_form_worth K [.tup [.tup [.int jn, .int 3]], .tup (w.map D.int)] = .rt (.int (w[jn] * 3)) [.tup [.tup [.int jn, .int 3]], .tup (w.map D.int)] := by
    have c3 : CMulA 3 w[jn] := cm8 (by omega) (by omega)
    simp [F_form_worth, u131, startE, m_form_worth, itemsD, compF, fTup, fCons, fNil, e_form_worth_1, xw, c3, tTrue, szl, gSum, intsD, i4]
    omega
  have nR : ∀ r : Nat, neL (List.replicate r (D.int 0)) = true := fun r => by rw [← mapR]; exact neL_ints _
  have fR : ∀ r : Nat, frzL (List.replicate r (D.int 0)) = List.replicate r (D.int 0) := fun r => by rw [← mapR]; exact frzL_ints _
  rw [mapR] at oZ pR l3
  simp only [List.map_nil] at oZ
  have dueR := same40 K (n := 0) (d := .int (w[jn] * 3)) Pl.int (by omega)
  have cN : eCallP [0, 2, 1] 3 (F_form_less K) (bVal (eVar 8) (bVal (eVar 6) (bVal (eVar 7) (bNil)))) [some d5, some (.int k), some (.lst false (f.map D.int)), some (.lst false (s.map D.int)), some (.lst true (w.map D.int)), some (.lst false ((addL f s).map D.int)), some (.int ((k : Int) + m)), some (.tup ((fm 0 f).map prD)), some (.tup ((fm 0 s).map prD)), some (.lst false ((lessL f s (k + m)).map D.int)), none, none, none, none] = .ok (.tup ((lessL s f (k + m)).map D.int)) [some d5, some (.int k), some (.lst false (f.map D.int)), some (.lst false (s.map D.int)), some (.lst true (w.map D.int)), some (.lst false ((addL f s).map D.int)), some (.int ((k : Int) + m)), some (.tup ((fm 0 f).map prD)), some (.tup ((fm 0 s).map prD)), some (.lst false ((lessL f s (k + m)).map D.int)), none, none, none, none] :=
    callP_ok (as := [.inl (.tup ((fm 0 s).map prD)), .inl (.int ((k : Int) + m)), .inl (.tup ((fm 0 f).map prD))]) (ds := [.tup ((fm 0 s).map prD), .int ((k : Int) + m), .tup ((fm 0 f).map prD)]) (ds2 := [.tup ((fm 0 s).map prD), .tup ((fm 0 f).map prD), .int ((k : Int) + m)]) (by simp [f1, g1]) (by simp [frzA, f1, g1]) rfl (by simp [pickD]) (by simp [f2, g2]) l2 (by simp [pickD])
  have cO : eCallP [1, 0] 2 (F_form_worth K) (bVal (eV (vOpn gTup (wCons (vVar 4) wNil))) (bVal (eFz (eTup (aCons (eTup (aCons (eVar 11) (aCons (eLit (D.int 3)) aNil))) aNil))) bNil)) [some d6, some (.int k), some (.lst false (f.map D.int)), some (.lst false (s.map D.int)), some (.lst true (w.map D.int)), some (.lst false ((addL f s).map D.int)), some (.int ((k : Int) + m)), some (.tup ((fm 0 f).map prD)), some (.tup ((fm 0 s).map prD)), some (.lst false ((lessL f s (k + m)).map D.int)), some (.lst false ((addL f s).map D.int)), some (.int jn), u3, none] = .ok (.int (w[jn] * 3)) [some d6, some (.int k), some (.lst false (f.map D.int)), some (.lst false (s.map D.int)), some (.lst true (w.map D.int)), some (.lst false ((addL f s).map D.int)), some (.int ((k : Int) + m)), some (.tup ((fm 0 f).map prD)), some (.tup ((fm 0 s).map prD)), some (.lst false ((lessL f s (k + m)).map D.int)), some (.lst false ((addL f s).map D.int)), some (.int jn), u3, none] :=
    callP_ok (as := [.inl (.tup (w.map D.int)), .inl (.tup [.tup [.int jn, .int 3]])]) (ds := [.tup (w.map D.int), .tup [.tup [.int jn, .int 3]]]) (ds2 := [.tup [.tup [.int jn, .int 3]], .tup (w.map D.int)]) (by simp [gTup, i4, szl]) (by simp [frzA, i4]) rfl (by simp [pickD]) (by simp [j4]) one (by simp [pickD])
  refine ⟨d6, ?_, s6.le (by omega)⟩
  unfold F__law_forms_right
  rw [u131]
  show bkK (m__law_forms_right K [some d, none, none, none, none, none, none, none, none, none, none, none, none, none]) [0] [d] = _
  unfold m__law_forms_right
  refine bk_step (ρ' := [some d1, some (.int k), none, none, none, none, none, none, none, none, none, none, none, none]) (by simp [e1, hd, hk]) ?_
  refine bk_step (ρ' := [some d2, some (.int k), some (.lst true (f.map D.int)), none, none, none, none, none, none, none, none, none, none, none]) (by simp [e2, hd1]) ?_
  refine bk_step (ρ' := [some d3, some (.int k), some (.lst true (f.map D.int)), some (.lst true (s.map D.int)), none, none, none, none, none, none, none, none, none, none]) (by simp [e3, hd2]) ?_
  refine bk_step (ρ' := [some d4, some (.int k), some (.lst true (f.map D.int)), some (.lst true (s.map D.int)), some (.lst true (w.map D.int)), none, none, none, none, none, none, none, none, none]) (by simp [e4, hd3]) ?_
  refine bk_step (ρ' := [some d4, some (.int k), some (.lst true (f.map D.int)), some (.lst true (s.map D.int)), some (.lst true (w.map D.int)), some (.lst true ((addL f s).map D.int)), none, none, none, none, none, none, none, none]) (by simp [rg1_of b1 b2, e7]) ?_
  refine bk_step (ρ' := [some d5, some (.int k), some (.lst true (f.map D.int)), some (.lst true (s.map D.int)), some (.lst true (w.map D.int)), some (.lst true ((addL f s).map D.int)), some (.int ((k : Int) + m)), none, none, none, none, none, none, none]) (by simp [e5, hd4]) ?_
  refine bk_step (ρ' := [some d5, some (.int k), some (.lst false (f.map D.int)), some (.lst true (s.map D.int)), some (.lst true (w.map D.int)), some (.lst true ((addL f s).map D.int)), some (.int ((k : Int) + m)), some (.tup ((fm 0 f).map prD)), none, none, none, none, none, none]) (by simp [eF, i1, j1, k1]) ?_
  refine bk_step (ρ' := [some d5, some (.int k), some (.lst false (f.map D.int)), some (.lst false (s.map D.int)), some (.lst true (w.map D.int)), some (.lst true ((addL f s).map D.int)), some (.int ((k : Int) + m)), some (.tup ((fm 0 f).map prD)), some (.tup ((fm 0 s).map prD)), none, none, none, none, none]) (by simp [eS, i2, j2, k2]) ?_
  refine bk_step (ρ' := [some d5, some (.int k), some (.lst false (f.map D.int)), some (.lst false (s.map D.int)), some (.lst true (w.map D.int)), some (.lst true ((addL f s).map D.int)), some (.int ((k : Int) + m)), some (.tup ((fm 0 f).map prD)), some (.tup ((fm 0 s).map prD)), some (.lst true ((lessL f s (k + m)).map D.int)), none, none, none, none]) (by simp [rg1_of b1 b2, e8, szl, mz1, gA, hmm]) ?_
  refine bk_step (ρ' := [some d5, some (.int k), some (.lst false (f.map D.int)), some (.lst false (s.map D.int)), some (.lst true (w.map D.int)), some (.lst true ((addL f s).map D.int)), some (.int ((k : Int) + m)), some (.tup ((fm 0 f).map prD)), some (.tup ((fm 0 s).map prD)), some (.lst true ((lessL f s (k + m)).map D.int)), none, none, none, none]) (by simp [oF, oS, pF, pS, f1, f2, f3, g1, g2, g3, gTup, i1, i2, j1, j2]) ?_
  refine bk_step (ρ' := [some d5, some (.int k), some (.lst false (f.map D.int)), some (.lst false (s.map D.int)), some (.lst true (w.map D.int)), some (.lst false ((addL f s).map D.int)), some (.int ((k : Int) + m)), some (.tup ((fm 0 f).map prD)), some (.tup ((fm 0 s).map prD)), some (.lst true ((lessL f s (k + m)).map D.int)), none, none, none, none]) (by simp [eB, oB, oZ, pB, pZ, h1, h2, h3, gTup, i3, j3, k3, mz2, zR, nR, fR, mapR, szl]) ?_
  refine bk_step (ρ' := [some d5, some (.int k), some (.lst false (f.map D.int)), some (.lst false (s.map D.int)), some (.lst true (w.map D.int)), some (.lst false ((addL f s).map D.int)), some (.int ((k : Int) + m)), some (.tup ((fm 0 f).map prD)), some (.tup ((fm 0 s).map prD)), some (.lst true ((lessL f s (k + m)).map D.int)), none, none, none, none]) (by simp [eB, c1, c2, pB, f1, f2, f3, g1, g2, g3, h1, h2, h3, i3, j3, k3]) ?_
  refine bk_step (ρ' := [some d5, some (.int k), some (.lst false (f.map D.int)), some (.lst false (s.map D.int)), some (.lst true (w.map D.int)), some (.lst false ((addL f s).map D.int)), some (.int ((k : Int) + m)), some (.tup ((fm 0 f).map prD)), some (.tup ((fm 0 s).map prD)), some (.lst true ((lessL f s (k + m)).map D.int)), none, none, none, none]) (by simp [l1, pL, f1, f2, g1, g2, gTup, i5, j5, k5, i5]) ?_
  refine bk_step (ρ' := [some d5, some (.int k), some (.lst false (f.map D.int)), some (.lst false (s.map D.int)), some (.lst true (w.map D.int)), some (.lst false ((addL f s).map D.int)), some (.int ((k : Int) + m)), some (.tup ((fm 0 f).map prD)), some (.tup ((fm 0 s).map prD)), some (.lst false ((lessL f s (k + m)).map D.int)), none, none, none, none]) (by simp [l2, pN, f1, f2, g1, g2, gTup, i6, j6, k6, i5, j5, k5, eN, itemsD, cN]) ?_
  refine bk_step (ρ' := [some d5, some (.int k), some (.lst false (f.map D.int)), some (.lst false (s.map D.int)), some (.lst true (w.map D.int)), some (.lst false ((addL f s).map D.int)), some (.int ((k : Int) + m)), some (.tup ((fm 0 f).map prD)), some (.tup ((fm 0 s).map prD)), some (.lst false ((lessL f s (k + m)).map D.int)), none, none, none, none]) (by simp [l3, pR, g1, g2, gTup, zR, nR, fR, mapR, mz2, szl]) ?_
  refine bk_step (ρ' := [some d5, some (.int k), some (.lst false (f.map D.int)), some (.lst false (s.map D.int)), some (.lst true (w.map D.int)), some (.lst false ((addL f s).map D.int)), some (.int ((k : Int) + m)), some (.tup ((fm 0 f).map prD)), some (.tup ((fm 0 s).map prD)), some (.lst false ((lessL f s (k + m)).map D.int)), some (.lst false ((addL f s).map D.int)), none, u3, none]) (by
    rw [u104]
    have ei : iSq (eLst (aCons (eVar 2) (aCons (eVar 3) (aCons (eVar 5) (aNil))))) [some d5, some (.int k), some (.lst false (f.map D.int)), some (.lst false (s.map D.int)), some (.lst true (w.map D.int)), some (.lst false ((addL f s).map D.int)), some (.int ((k : Int) + m)), some (.tup ((fm 0 f).map prD)), some (.tup ((fm 0 s).map prD)), some (.lst false ((lessL f s (k + m)).map D.int)), none, none, none, none] = .ok [.lst false (f.map D.int), .lst false (s.map D.int), .lst false ((addL f s).map D.int)] [some d5, some (.int k), some (.lst false (f.map D.int)), some (.lst false (s.map D.int)), some (.lst true (w.map D.int)), some (.lst false ((addL f s).map D.int)), some (.int ((k : Int) + m)), some (.tup ((fm 0 f).map prD)), some (.tup ((fm 0 s).map prD)), some (.lst false ((lessL f s (k + m)).map D.int)), none, none, none, none] := by simp [i1, i2, i3, k1, k2, k3, szl, itemsD]
    rw [ei, u105]
    simp [forF, w1, w2, w3]) ?_
  refine bk_step (ρ' := [some d6, some (.int k), some (.lst false (f.map D.int)), some (.lst false (s.map D.int)), some (.lst true (w.map D.int)), some (.lst false ((addL f s).map D.int)), some (.int ((k : Int) + m)), some (.tup ((fm 0 f).map prD)), some (.tup ((fm 0 s).map prD)), some (.lst false ((lessL f s (k + m)).map D.int)), some (.lst false ((addL f s).map D.int)), some (.int jn), u3, none]) (by simp [e6, hd5]) ?_
  simp [xw, cm, cO, dueR]
end K09

namespace K09
open Se PySem
/-! ### the second half: what a program is -/
abbrev wCall : List Nat := [99, 97, 108, 108]
abbrev wCut : List Nat := [99, 117, 116]
abbrev wSplit : List Nat := [115, 112, 108, 105, 116]
def tx (n : Nat) : List Nat := (toString (n : Int) : Str).cps.toList
theorem tx_len {n : Nat} (h : n < 64) : (tx n).length ≤ 2 := by
  have : ∀ n : Fin 64, (tx n.val).length ≤ 2 := by decide +kernel
  exact this ⟨n, h⟩
theorem lg {n : Nat} (h : n < 64) : (n : Int).natAbs.log2 < 1920 := by
  have : ∀ n : Fin 64, (n.val : Int).natAbs.log2 < 1920 := by decide +kernel
  exact this ⟨n, h⟩
theorem gS {n : Nat} (h : n < 64) : gStr [.int (n : Int)] = some (.str (tx n)) := by
  unfold gStr
  exact if_pos (lg h)
theorem fS {n : Nat} (h : n < 64) : fmtD (.int (n : Int)) = some (.str (tx n)) := by
  unfold fmtD
  exact if_pos (lg h)
inductive S where
  | call (p : Nat) | two | one
def SD (d : D) : S → Prop
  | .call p => ∃ as : List Int, d = .tup [.str wCall, .int (p : Int), .tup (as.map .int)]
  | .two => ∃ (w : List Nat) (r : List Int), (w = wCut ∨ w = wSplit) ∧ d = .tup (.str w :: r.map .int)
  | .one => ∃ (w : List Nat) (r : List Int), w ≠ wCall ∧ w ≠ wCut ∧ w ≠ wSplit ∧ d = .tup (.str w :: r.map .int)
theorem SD.fz {d : D} {s : S} (h : SD d s) : fz d = true ∧ ne d = true := by
  cases s with
  | call p => obtain ⟨as, rfl⟩ := h; simp [fzL_ints, neL_ints]
  | two => obtain ⟨w, r, _, rfl⟩ := h; simp [fzL_ints, neL_ints]
  | one => obtain ⟨w, r, _, _, _, rfl⟩ := h; simp [fzL_ints, neL_ints]
structure Pr where
  params : Nat
  ss : List S
def SDs : List D → List S → Prop
  | [], [] => True
  | d :: ds, s :: ss => SD d s ∧ SDs ds ss
  | _, _ => False
theorem SDs.len : ∀ {ds : List D} {ss : List S}, SDs ds ss → ds.length = ss.length
  | [], [], _ => rfl
  | d :: ds, s :: ss, h => by rw [List.length_cons, List.length_cons, SDs.len h.2]
  | [], s :: ss, h => h.elim
  | d :: ds, [], h => h.elim
theorem SDs.fz : ∀ {ds : List D} {ss : List S}, SDs ds ss → fzL ds = true ∧ neL ds = true
  | [], [], _ => ⟨rfl, rfl⟩
  | d :: ds, s :: ss, h => by
    obtain ⟨h1, h2⟩ := SDs.fz h.2
    obtain ⟨h3, h4⟩ := h.1.fz
    exact ⟨by simp [h1, h3], by simp [h2, h4]⟩
  | [], s :: ss, h => h.elim
  | d :: ds, [], h => h.elim
theorem SDs.app : ∀ {ds ds' : List D} {ss ss' : List S}, SDs ds ss → SDs ds' ss' → SDs (ds ++ ds') (ss ++ ss')
  | [], _, [], _, _, h => h
  | d :: ds, _, s :: ss, _, h, h' => ⟨h.1, SDs.app h.2 h'⟩
  | [], _, s :: ss, _, h, _ => h.elim
  | d :: ds, _, [], _, h, _ => h.elim
theorem SDs.get : ∀ {ds : List D} {ss : List S}, SDs ds ss → ∀ (i : Nat) (s : S), ss[i]? = some s → ∃ d, ds[i]? = some d ∧ SD d s
  | d :: ds, s :: ss, h, 0, s', e => by cases e; exact ⟨d, rfl, h.1⟩
  | d :: ds, s :: ss, h, i + 1, s', e => SDs.get h.2 i s' e
  | [], [], _, i, s', e => by cases e
  | [], s :: ss, h, _, _, _ => h.elim
  | d :: ds, [], h, _, _, _ => h.elim
def PD (d : D) (p : Pr) : Prop := ∃ (sd : List D) (gv : List Int), d = .tup [.int (p.params : Int), .tup sd, .tup (gv.map .int)] ∧ SDs sd p.ss
theorem PD.fz {d : D} {p : Pr} (h : PD d p) : Se.fz d = true ∧ Se.ne d = true := by
  obtain ⟨sd, gv, rfl, h⟩ := h
  obtain ⟨h1, h2⟩ := h.fz
  simp [h1, h2, fzL_ints, neL_ints]
/-- how many statements are gone through -/
def tcs (T : Nat → Nat) : List S → Nat
  | [] => 0
  | .call p :: ss => 1 + T p + tcs T ss
  | _ :: ss => 1 + tcs T ss
structure WF (DS : List D) (PS : List Pr) (Ts : List Nat) : Prop where
  l1 : DS.length = PS.length
  l2 : PS.length = Ts.length
  at' : ∀ i p, PS[i]? = some p → (∃ d, DS[i]? = some d ∧ PD d p) ∧ (∀ q, S.call q ∈ p.ss → q < i) ∧ (∃ t, Ts[i]? = some t ∧ t = tcs (fun q => Ts.getD q 0) p.ss ∧ t ≤ 60) ∧ 1 ≤ p.params ∧ p.params ≤ 4
theorem tcs_len (T : Nat → Nat) : ∀ ss, ss.length ≤ tcs T ss
  | [] => Nat.le_refl _
  | .call p :: ss => by have := tcs_len T ss; simp only [List.length_cons, tcs]; omega
  | .two :: ss => by have := tcs_len T ss; simp only [List.length_cons, tcs]; omega
  | .one :: ss => by have := tcs_len T ss; simp only [List.length_cons, tcs]; omega
abbrev sAt : List Nat := [97, 116, 32]
abbrev sFst : List Nat := [32, 102, 105, 114, 115, 116]
abbrev sSnd : List Nat := [32, 115, 101, 99, 111, 110, 100]
/-- the hidden names, in order -/
def hs (sub : Nat → List Nat → List (List Nat)) : Nat → List S → List Nat → List (List Nat)
  | _, [], _ => []
  | i, .call q :: ss, pre => sub q (pre ++ tx i ++ [46]) ++ hs sub (i + 1) ss pre
  | i, .two :: ss, pre => (sAt ++ (pre ++ tx i) ++ sFst) :: (sAt ++ (pre ++ tx i) ++ sSnd) :: hs sub (i + 1) ss pre
  | i, .one :: ss, pre => hs sub (i + 1) ss pre
def HN (PS : List Pr) : Nat → Nat → List Nat → List (List Nat)
  | 0, _, _ => []
  | f + 1, p, pre => hs (HN PS f) 0 (PS.getD p ⟨0, []⟩).ss pre
/-- how many -/
def hc (sub : Nat → Nat) : List S → Nat
  | [] => 0
  | .call q :: ss => sub q + hc sub ss
  | .two :: ss => 2 + hc sub ss
  | .one :: ss => hc sub ss
def HC (PS : List Pr) : Nat → Nat → Nat
  | 0, _ => 0
  | f + 1, p => hc (HC PS f) (PS.getD p ⟨0, []⟩).ss
theorem hs_len (sub : Nat → List Nat → List (List Nat)) (c : Nat → Nat) (h : ∀ q pre, (sub q pre).length = c q) : ∀ (ss : List S) (i : Nat) (pre : List Nat), (hs sub i ss pre).length = hc c ss
  | [], _, _ => rfl
  | .call q :: ss, i, pre => by
    show (sub q _ ++ hs sub (i + 1) ss pre).length = c q + hc c ss
    rw [List.length_append, h, hs_len sub c h ss]
  | .two :: ss, i, pre => by
    show (_ :: _ :: hs sub (i + 1) ss pre).length = 2 + hc c ss
    rw [List.length_cons, List.length_cons, hs_len sub c h ss]; omega
  | .one :: ss, i, pre => hs_len sub c h ss (i + 1) pre
theorem HN_len (PS : List Pr) : ∀ (f p : Nat) (pre : List Nat), (HN PS f p pre).length = HC PS f p
  | 0, _, _ => rfl
  | f + 1, p, pre => hs_len (HN PS f) (HC PS f) (HN_len PS f) _ 0 pre
theorem hc_le {c T : Nat → Nat} : ∀ (ss : List S), (∀ q, S.call q ∈ ss → c q ≤ 2 * T q) → hc c ss ≤ 2 * tcs T ss
  | [], _ => Nat.le_refl _
  | .call q :: ss, h => by
    have h1 := h q List.mem_cons_self
    have h2 := hc_le ss fun q hq => h q (List.mem_cons_of_mem _ hq)
    show c q + hc c ss ≤ 2 * (1 + T q + tcs T ss)
    omega
  | .two :: ss, h => by
    have h2 := hc_le ss fun q hq => h q (List.mem_cons_of_mem _ hq)
    show 2 + hc c ss ≤ 2 * (1 + tcs T ss)
    omega
  | .one :: ss, h => by
    have h2 := hc_le ss fun q hq => h q (List.mem_cons_of_mem _ hq)
    show hc c ss ≤ 2 * (1 + tcs T ss)
    omega
theorem HC_le {DS : List D} {PS : List Pr} {Ts : List Nat} (w : WF DS PS Ts) : ∀ (f p : Nat), p < PS.length → HC PS f p ≤ 2 * Ts.getD p 0
  | 0, _, _ => Nat.zero_le _
  | f + 1, p, h => by
    obtain ⟨_, hq, ⟨t, ht, e, _⟩, _⟩ := w.at' p _ (List.getElem?_eq_getElem h)
    have eg : PS.getD p ⟨0, []⟩ = PS[p] := by simp [List.getD, h]
    have et : Ts.getD p 0 = t := by simp [List.getD, ht]
    show hc (HC PS f) (PS.getD p ⟨0, []⟩).ss ≤ _
    rw [eg, et, e]
    exact hc_le _ fun q hm => HC_le w f q (by have := hq q hm; omega)
end K09

namespace K09
open Se PySem
theorem made_ok (K : PySem.W.Frag) (w : List Nat) : F__law_made K [.str w] = .rt (.int (if w = [108, 105, 107, 101] ∨ w = [115, 113, 117, 97, 114, 101] then 0 else if w = wCut ∨ w = wSplit then 2 else 1)) [.str w] := by
  by_cases h1 : w = [108, 105, 107, 101]
  · subst h1; simp [F__law_made, u131, startE, m__law_made]
  by_cases h2 : w = [115, 113, 117, 97, 114, 101]
  · subst h2; simp [F__law_made, u131, startE, m__law_made]
  by_cases h3 : w = wCut
  · subst h3; simp [F__law_made, u131, startE, m__law_made]
  by_cases h4 : w = wSplit
  · subst h4; simp [F__law_made, u131, startE, m__law_made]
  · simp [F__law_made, u131, startE, m__law_made, h1, h2, h3, h4]
def frD (q : Nat × Nat × List Nat) : D := .tup [.int (q.1 : Int), .int (q.2.1 : Int), .str q.2.2]
/-- the laws' stack machine: one lap -/
def EW (DS : List D) (at' : Option D) (fd : List (List Nat)) (st : List (Nat × Nat × List Nat)) (q3 q5 q6 q7 q8 q9 q10 q11 : Option D) : Se.Env :=
  [some (.tup DS), at', some (.lst true (fd.map .str)), q3, some (.lst true (st.map frD)), q5, q6, q7, q8, q9, q10, q11]
theorem len_st (st : List (Nat × Nat × List Nat)) (x : Nat × Nat × List Nat) : ((st ++ [x]).map frD) = st.map frD ++ [frD x] := by simp
theorem asgG_ok {f : D → Se.Env → Option Se.Env} {me : M D} {ρ ρ1 ρ2 : Se.Env} {d : D} (h1 : me ρ = .ok d ρ1) (h2 : f d ρ1 = some ρ2) : sAsgG f me ρ = .nx ρ2 := by
  unfold sAsgG
  rw [h1]
  dsimp only
  rw [h2]
def lastW (K : PySem.W.Frag) : MS := (sIf (Se.tB (eV (vOp2 (gCmp fun i j => decide (i < j)) (vVar 7) (vOpn gLen (wCons (vVar 9) (wNil)))))) (sSeq (sAsg 10 (eV (vOp2 gAdd (vVar 8) (vOpn gStr (wCons (vVar 7) (wNil)))))) (sSeq (sAsg 11 (eOp2 gIx (eOp2 gIx (eVar 9) (eVar 7)) (eLit (.int 0)))) (sSeq (sExpr (eMut gmAppend (pVar 4) (aCons (eTup (aCons (eVar 6) (aCons (eV (vOp2 gAdd (vVar 7) (vLit (.int 1)))) (aCons (eVar 8) (aNil))))) (aNil)))) (sSeq (sIf (Se.tB (eV (vOp2 gEq (vVar 11) (vLit (.str [99, 97, 108, 108]))))) (sSeq (sExpr (eMut gmAppend (pVar 4) (aCons (eTup (aCons (eOp2 gIx (eOp2 gIx (eVar 9) (eVar 7)) (eLit (.int 1))) (aCons (eLit (.int 0)) (aCons (eV (vOp2 gAdd (vVar 10) (vLit (.str [46])))) (aNil))))) (aNil)))) (sNil)) (sSeq (sIf (Se.tB (eOp2 gEq (eCall 1 (F__law_made K) (bVal (eVar 11) (bNil))) (eLit (.int 2)))) (sSeq (sExpr (eMutQ gmAppend (pVar 2) (wCons (vOp2 gAdd (vOp2 gAdd (vLit (.str [97, 116, 32])) (vVar 10)) (vLit (.str [32, 102, 105, 114, 115, 116]))) (wNil)))) (sSeq (sExpr (eMutQ gmAppend (pVar 2) (wCons (vOp2 gAdd (vOp2 gAdd (vLit (.str [97, 116, 32])) (vVar 10)) (vLit (.str [32, 115, 101, 99, 111, 110, 100]))) (wNil)))) (sNil))) (sNil)) (sNil))) (sNil))))) (sNil))
theorem lw_eq (K : PySem.W.Frag) : b__law_walk_2 K = sSeq (sIf (tNotM (tV (vVar 4))) (sSeq (sBreak) (sNil)) (sNil)) (sSeq (sAsgG (fTup (fCons (fName 6) (fCons (fName 7) (fCons (fName 8) (fNil))))) (eMutQ gmPop (pVar 4) wNil)) (sSeq (sAsg 9 (eOp2 gIx (eOp2 gIx (eVar 0) (eVar 6)) (eLit (.int 1)))) (sSeq (lastW K) sNil))) := rfl
theorem lap_go (K : PySem.W.Frag) {DS : List D} {d : D} {p : Nat} {pr : Pr} {i : Nat} {pre : List Nat} (hz : fzL DS = true) (hd : DS[p]? = some d) (hp : PD d pr) (a' : Option D) (fd : List (List Nat)) (st : List (Nat × Nat × List Nat)) (q3 q5 q6 q7 q8 q9 q10 q11 : Option D) :
    ∃ (sd : List D) (gv : List Int), d = .tup [.int (pr.params : Int), .tup sd, .tup (gv.map .int)] ∧ SDs sd pr.ss ∧ ∀ R, lastW K (EW DS a' fd st q3 q5 (some (.int p)) (some (.int i)) (some (.str pre)) (some (.tup sd)) q10 q11) = .nx R → b__law_walk_2 K (EW DS a' fd (st ++ [(p, i, pre)]) q3 q5 q6 q7 q8 q9 q10 q11) = .nx R := by
  obtain ⟨sd, gv, rfl, hs⟩ := hp
  obtain ⟨z1, z2⟩ := hs.fz
  have hx : ixD DS (p : Int) = some (.tup [.int (pr.params : Int), .tup sd, .tup (gv.map .int)]) := by
    unfold ixD; rw [if_pos (by omega)]; simpa using hd
  have hgv := fzL_ints gv
  have hem : (st.map frD ++ [frD (p, i, pre)]).isEmpty = false := by simp
  refine ⟨sd, gv, rfl, hs, fun R h => ?_⟩
  rw [lw_eq]
  refine sq_step (ρ' := EW DS a' fd (st ++ [(p, i, pre)]) q3 q5 q6 q7 q8 q9 q10 q11) (by unfold EW; rw [len_st]; simp [hem]) ?_
  refine sq_step (ρ' := EW DS a' fd st q3 q5 (some (.int p)) (some (.int i)) (some (.str pre)) q9 q10 q11) (asgG_ok (ρ1 := EW DS a' fd st q3 q5 q6 q7 q8 q9 q10 q11) (d := frD (p, i, pre)) (by unfold EW; rw [len_st]; simp [gmPop, frD]) (by unfold EW; simp [fTup, fCons, fNil, frD])) ?_
  refine sq_step (ρ' := EW DS a' fd st q3 q5 (some (.int p)) (some (.int i)) (some (.str pre)) (some (.tup sd)) q10 q11) (by unfold EW; simp [hx, gIx, z1, hgv, hz, ixn1]) ?_
  exact sq_step h rfl
theorem lap_end (K : PySem.W.Frag) {DS : List D} {d : D} {p : Nat} {pr : Pr} {i : Nat} {pre : List Nat} (hz : fzL DS = true) (hd : DS[p]? = some d) (hp : PD d pr) (hi : pr.ss.length = i) (a' : Option D) (fd : List (List Nat)) (st : List (Nat × Nat × List Nat)) (q3 q5 q6 q7 q8 q9 q10 q11 : Option D) :
    ∃ r6 r7 r8 r9, b__law_walk_2 K (EW DS a' fd (st ++ [(p, i, pre)]) q3 q5 q6 q7 q8 q9 q10 q11) = .nx (EW DS a' fd st q3 q5 r6 r7 r8 r9 q10 q11) := by
  obtain ⟨sd, gv, e, hs, go⟩ := lap_go K (i := i) (pre := pre) hz hd hp a' fd st q3 q5 q6 q7 q8 q9 q10 q11
  have hl := hs.len
  have hlt : ¬ ((i : Int) < (sd.length : Int)) := by omega
  exact ⟨some (.int p), some (.int i), some (.str pre), some (.tup sd), go _ (by unfold lastW EW; simp [hlt])⟩
/-- a statement is looked at -/
theorem lap_st (K : PySem.W.Frag) {DS : List D} {d : D} {p : Nat} {pr : Pr} {i : Nat} {s : S} {pre : List Nat} (hz : fzL DS = true) (hd : DS[p]? = some d) (hp : PD d pr) (hi : pr.ss[i]? = some s) (hb : i < 64) (hpre : pre.length ≤ 1000) (a' : Option D) (fd : List (List Nat)) (hfd : fd.length ≤ 100000) (st : List (Nat × Nat × List Nat)) (hst : st.length ≤ 1000) (q3 q5 q6 q7 q8 q9 q10 q11 : Option D) :
    ∃ r6 r7 r8 r9 r10 r11, b__law_walk_2 K (EW DS a' fd (st ++ [(p, i, pre)]) q3 q5 q6 q7 q8 q9 q10 q11) = .nx (match s with
      | .call q => EW DS a' fd (st ++ [(p, i + 1, pre)] ++ [(q, 0, pre ++ tx i ++ [46])]) q3 q5 r6 r7 r8 r9 r10 r11
      | .two => EW DS a' (fd ++ [sAt ++ (pre ++ tx i) ++ sFst] ++ [sAt ++ (pre ++ tx i) ++ sSnd]) (st ++ [(p, i + 1, pre)]) q3 q5 r6 r7 r8 r9 r10 r11
      | .one => EW DS a' fd (st ++ [(p, i + 1, pre)]) q3 q5 r6 r7 r8 r9 r10 r11) := by
  obtain ⟨sd, gv, e, hs, go⟩ := lap_go K (i := i) (pre := pre) hz hd hp a' fd st q3 q5 q6 q7 q8 q9 q10 q11
  have hl := hs.len
  have hil : i < pr.ss.length := (List.getElem?_eq_some_iff.mp hi).1
  have hlt : ((i : Int) < (sd.length : Int)) := by omega
  have ht := tx_len hb
  have hg := gS hb
  obtain ⟨z1, z2⟩ := hs.fz
  obtain ⟨sdd, hsd, hS⟩ := hs.get i s hi
  have hx : ixD sd (i : Int) = some sdd := by
    unfold ixD; rw [if_pos (by omega)]; simpa using hsd
  have b1 : pre.length + (tx i).length ≤ 16777216 := by omega
  have b2 : st.length < 16777216 := by omega
  have b3 : st.length + 1 < 16777216 := by omega
  have b4 : fd.length < 16777216 := by omega
  have b5 : fd.length + 1 < 16777216 := by omega
  have b6 : pre.length + (tx i).length + 1 ≤ 16777216 := by omega
  have b7 : 3 + (pre.length + (tx i).length) ≤ 16777216 := by omega
  have b8 : 3 + (pre.length + (tx i).length) + 6 ≤ 16777216 := by omega
  have b9 : 3 + (pre.length + (tx i).length) + 7 ≤ 16777216 := by omega
  have c7 : pre.length + (tx i).length ≤ 16777207 := by omega
  have c8 : pre.length + (tx i).length ≤ 16777206 := by omega
  cases s with
  | call q =>
    obtain ⟨as, rfl⟩ := hS
    have hz2 := fzL_ints as
    refine ⟨some (.int p), some (.int i), some (.str pre), some (.tup sd), some (.str (pre ++ tx i)), some (.str wCall), go _ ?_⟩
    unfold lastW EW
    simp [hlt, hg, hx, gIx, z1, hz2, szl, ixn0, ixn1, b1, b2, b3, b6, frD]
  | two =>
    obtain ⟨w, r, hw, rfl⟩ := hS
    have hz2 := fzL_ints r
    refine ⟨some (.int p), some (.int i), some (.str pre), some (.tup sd), some (.str (pre ++ tx i)), some (.str w), go _ ?_⟩
    unfold lastW EW
    have hm := made_ok K w
    have hwc : w ≠ wCall := by rcases hw with rfl | rfl <;> decide
    have e2 : (if w = [108, 105, 107, 101] ∨ w = [115, 113, 117, 97, 114, 101] then (0 : Int) else if w = wCut ∨ w = wSplit then 2 else 1) = 2 := by rcases hw with rfl | rfl <;> decide
    rw [e2] at hm
    simp [hlt, hg, hx, gIx, z1, hz2, szl, ixn0, ixn1, b1, b2, b4, b5, b7, b8, b9, c7, c8, frD, hm, hwc]
  | one =>
    obtain ⟨w, r, w1, w2, w3, rfl⟩ := hS
    have hz2 := fzL_ints r
    have hm := made_ok K w
    have e2 : (if w = [108, 105, 107, 101] ∨ w = [115, 113, 117, 97, 114, 101] then (0 : Int) else if w = wCut ∨ w = wSplit then 2 else 1) = if w = [108, 105, 107, 101] ∨ w = [115, 113, 117, 97, 114, 101] then (0 : Int) else 1 := by
      rw [if_neg (c := w = wCut ∨ w = wSplit) (by rintro (h | h) <;> contradiction)]
    rw [e2] at hm
    have e3 : ¬ ((if w = [108, 105, 107, 101] ∨ w = [115, 113, 117, 97, 114, 101] then (0 : Int) else 1) = 2) := by split <;> decide
    generalize (if w = [108, 105, 107, 101] ∨ w = [115, 113, 117, 97, 114, 101] then (0 : Int) else 1) = v at hm e3
    refine ⟨some (.int p), some (.int i), some (.str pre), some (.tup sd), some (.str (pre ++ tx i)), some (.str w), go _ ?_⟩
    unfold lastW EW
    simp [hlt, hg, hx, gIx, z1, hz2, szl, ixn0, ixn1, b1, b2, frD, hm, w1, e3]
end K09

namespace K09
open Se PySem
theorem lap1 {b : MS} {DS : List D} {a' : Option D} {fd : List (List Nat)} {st : List (Nat × Nat × List Nat)} {q3 q5 q6 q7 q8 q9 q10 q11 : Option D} {lo : Int} {M N : Nat} {ρ' : Se.Env} (hN : N = M + 1) (h : b (EW DS a' fd st q3 (some (.int lo)) q6 q7 q8 q9 q10 q11) = .nx ρ') :
    forF (fName 5) b (rgD lo N) (EW DS a' fd st q3 q5 q6 q7 q8 q9 q10 q11) = forF (fName 5) b (rgD (lo + 1) M) ρ' := by
  subst hN
  rw [rgD_succ]
  have ef : fName 5 (.int lo) (EW DS a' fd st q3 q5 q6 q7 q8 q9 q10 q11) = some (EW DS a' fd st q3 (some (.int lo)) q6 q7 q8 q9 q10 q11) := rfl
  conv => lhs; unfold forF
  rw [ef]
  dsimp only
  rw [h]
/-- how many laps -/
def lw (c : Nat → Nat) : List S → Nat
  | [] => 1
  | .call q :: ss => 1 + c q + lw c ss
  | .two :: ss => 1 + lw c ss
  | .one :: ss => 1 + lw c ss
def LP (PS : List Pr) : Nat → Nat → Nat
  | 0, _ => 0
  | f + 1, p => lw (LP PS f) (PS.getD p ⟨0, []⟩).ss
theorem lw_le {c T : Nat → Nat} : ∀ (ss : List S), (∀ q, S.call q ∈ ss → c q ≤ 1 + 2 * T q) → lw c ss ≤ 1 + 2 * tcs T ss
  | [], _ => Nat.le_refl _
  | .call q :: ss, h => by
    have h1 := h q List.mem_cons_self
    have h2 := lw_le ss fun q hq => h q (List.mem_cons_of_mem _ hq)
    show 1 + c q + lw c ss ≤ 1 + 2 * (1 + T q + tcs T ss)
    omega
  | .two :: ss, h => by
    have h2 := lw_le ss fun q hq => h q (List.mem_cons_of_mem _ hq)
    show 1 + lw c ss ≤ 1 + 2 * (1 + tcs T ss)
    omega
  | .one :: ss, h => by
    have h2 := lw_le ss fun q hq => h q (List.mem_cons_of_mem _ hq)
    show 1 + lw c ss ≤ 1 + 2 * (1 + tcs T ss)
    omega
theorem LP_le {DS : List D} {PS : List Pr} {Ts : List Nat} (w : WF DS PS Ts) : ∀ (f p : Nat), p < PS.length → LP PS f p ≤ 1 + 2 * Ts.getD p 0
  | 0, _, _ => Nat.zero_le _
  | f + 1, p, h => by
    obtain ⟨_, hq, ⟨t, ht, e, _⟩, _⟩ := w.at' p _ (List.getElem?_eq_getElem h)
    have eg : PS.getD p ⟨0, []⟩ = PS[p] := by simp [List.getD, h]
    have et : Ts.getD p 0 = t := by simp [List.getD, ht]
    show lw (LP PS f) (PS.getD p ⟨0, []⟩).ss ≤ _
    rw [eg, et, e]
    exact lw_le _ fun q hm => LP_le w f q (by have := hq q hm; omega)
theorem run_ok (K : PySem.W.Frag) {DS : List D} {PS : List Pr} {Ts : List Nat} (w : WF DS PS Ts) (hz : fzL DS = true) (a' : Option D) : ∀ (f p : Nat), p < f + 1 → ∀ (pr : Pr), PS[p]? = some pr → ∀ (rest done : List S), done ++ rest = pr.ss → ∀ (pre : List Nat) (fd : List (List Nat)) (st : List (Nat × Nat × List Nat)) (lo : Int) (q3 q5 q6 q7 q8 q9 q10 q11 : Option D),
    pre.length + 4 * f ≤ 900 → st.length + f ≤ 900 → fd.length + 2 * tcs (fun q => Ts.getD q 0) rest ≤ 90000 →
    ∀ m, ∃ r5 r6 r7 r8 r9 r10 r11, forF (fName 5) (b__law_walk_2 K) (rgD lo (lw (LP PS f) rest + m)) (EW DS a' fd (st ++ [(p, done.length, pre)]) q3 q5 q6 q7 q8 q9 q10 q11) = forF (fName 5) (b__law_walk_2 K) (rgD (lo + (lw (LP PS f) rest : Nat)) m) (EW DS a' (fd ++ hs (HN PS f) done.length rest pre) st q3 r5 r6 r7 r8 r9 r10 r11) := by
  intro f
  induction f using Nat.strongRecOn with
  | ind f ihf =>
  intro p hp pr hpr
  obtain ⟨⟨d, hd, hPD⟩, hq, ⟨t, ht, et, ht60⟩, _⟩ := w.at' p pr hpr
  intro rest
  induction rest with
  | nil =>
    intro done hdn pre fd st lo q3 q5 q6 q7 q8 q9 q10 q11 h1 h2 h3 m
    obtain ⟨r6, r7, r8, r9, e⟩ := lap_end K (i := done.length) (pre := pre) hz hd hPD (by rw [← hdn]; simp) a' fd st q3 (some (.int lo)) q6 q7 q8 q9 q10 q11
    refine ⟨some (.int lo), r6, r7, r8, r9, q10, q11, ?_⟩
    rw [lap1 (M := m) (by show 1 + m = m + 1; omega) e]
    show _ = forF _ _ _ (EW DS a' (fd ++ []) st q3 _ r6 r7 r8 r9 q10 q11)
    rw [List.append_nil]
    rfl
  | cons s rest ih =>
    intro done hdn pre fd st lo q3 q5 q6 q7 q8 q9 q10 q11 h1 h2 h3 m
    have hsi : pr.ss[done.length]? = some s := by rw [← hdn]; simp
    have hlen : pr.ss.length ≤ 60 := by have := tcs_len (fun q => Ts.getD q 0) pr.ss; omega
    have hdl : done.length < 60 := by rw [← hdn] at hlen; simp at hlen; omega
    have hd1 : (done ++ [s]).length = done.length + 1 := by simp
    obtain ⟨r6, r7, r8, r9, r10, r11, e⟩ := lap_st K (pre := pre) hz hd hPD hsi (by omega) (by omega) a' fd (by omega) st (by omega) q3 (some (.int lo)) q6 q7 q8 q9 q10 q11
    cases s with
    | one =>
      have h3' : fd.length + 2 * (1 + tcs (fun q => Ts.getD q 0) rest) ≤ 90000 := h3
      obtain ⟨s5, s6, s7, s8, s9, s10, s11, e2⟩ := ih (done ++ [.one]) (by rw [← hdn]; simp) pre fd st (lo + 1) q3 (some (.int lo)) r6 r7 r8 r9 r10 r11 h1 h2 (by omega) m
      refine ⟨s5, s6, s7, s8, s9, s10, s11, ?_⟩
      rw [lap1 (M := lw (LP PS f) rest + m) (by show 1 + lw (LP PS f) rest + m = _; omega) e]
      rw [hd1] at e2
      rw [show lo + ((lw (LP PS f) (S.one :: rest) : Nat) : Int) = lo + 1 + ((lw (LP PS f) rest : Nat) : Int) by show lo + ((1 + lw (LP PS f) rest : Nat) : Int) = _; omega]
      exact e2
    | two =>
      have h3' : fd.length + 2 * (1 + tcs (fun q => Ts.getD q 0) rest) ≤ 90000 := h3
      obtain ⟨s5, s6, s7, s8, s9, s10, s11, e2⟩ := ih (done ++ [.two]) (by rw [← hdn]; simp) pre (fd ++ [sAt ++ (pre ++ tx done.length) ++ sFst] ++ [sAt ++ (pre ++ tx done.length) ++ sSnd]) st (lo + 1) q3 (some (.int lo)) r6 r7 r8 r9 r10 r11 h1 h2 (by simp only [List.length_append, List.length_singleton]; omega) m
      refine ⟨s5, s6, s7, s8, s9, s10, s11, ?_⟩
      rw [lap1 (M := lw (LP PS f) rest + m) (by show 1 + lw (LP PS f) rest + m = _; omega) e]
      have ea : fd ++ [sAt ++ (pre ++ tx done.length) ++ sFst] ++ [sAt ++ (pre ++ tx done.length) ++ sSnd] ++ hs (HN PS f) (done.length + 1) rest pre = fd ++ hs (HN PS f) done.length (.two :: rest) pre := by
        show _ = fd ++ (_ :: _ :: hs (HN PS f) (done.length + 1) rest pre)
        simp
      rw [hd1, ea] at e2
      rw [show lo + ((lw (LP PS f) (S.two :: rest) : Nat) : Int) = lo + 1 + ((lw (LP PS f) rest : Nat) : Int) by show lo + ((1 + lw (LP PS f) rest : Nat) : Int) = _; omega]
      exact e2
    | call q =>
      have hqp : q < p := hq q (by rw [← hdn]; simp)
      have h3' : fd.length + 2 * (1 + Ts.getD q 0 + tcs (fun q => Ts.getD q 0) rest) ≤ 90000 := h3
      have hps : p < PS.length := (List.getElem?_eq_some_iff.mp hpr).1
      obtain ⟨g, rfl⟩ : ∃ g, f = g + 1 := ⟨f - 1, by omega⟩
      have hq2 : PS[q]? = some PS[q] := List.getElem?_eq_getElem (by omega)
      obtain ⟨_, _, ⟨tq, htq, etq, _⟩, _⟩ := w.at' q _ hq2
      have eT : Ts.getD q 0 = tcs (fun q => Ts.getD q 0) PS[q].ss := by rw [← etq]; simp [List.getD, htq]
      have hl2 := tx_len (n := done.length) (by omega)
      have eg : PS.getD q ⟨0, []⟩ = PS[q] := by simp [List.getD, hq2]
      have eH : hs (HN PS g) ([] : List S).length PS[q].ss (pre ++ tx done.length ++ [46]) = HN PS (g + 1) q (pre ++ tx done.length ++ [46]) := by
        show _ = hs (HN PS g) 0 (PS.getD q ⟨0, []⟩).ss _
        rw [eg]; rfl
      have eL : lw (LP PS g) PS[q].ss = LP PS (g + 1) q := by
        show _ = lw (LP PS g) (PS.getD q ⟨0, []⟩).ss
        rw [eg]
      have eHl : (HN PS (g + 1) q (pre ++ tx done.length ++ [46])).length ≤ 2 * Ts.getD q 0 := by rw [HN_len]; exact HC_le w (g + 1) q (by omega)
      obtain ⟨s5, s6, s7, s8, s9, s10, s11, e1⟩ := ihf g (by omega) q (by omega) PS[q] hq2 PS[q].ss [] rfl (pre ++ tx done.length ++ [46]) fd (st ++ [(p, done.length + 1, pre)]) (lo + 1) q3 (some (.int lo)) r6 r7 r8 r9 r10 r11 (by simp only [List.length_append, List.length_singleton]; omega) (by simp only [List.length_append, List.length_singleton]; omega) (by rw [← eT]; omega) (lw (LP PS (g + 1)) rest + m)
      rw [eH, eL] at e1
      obtain ⟨u5, u6, u7, u8, u9, u10, u11, e2⟩ := ih (done ++ [.call q]) (by rw [← hdn]; simp) pre (fd ++ HN PS (g + 1) q (pre ++ tx done.length ++ [46])) st (lo + 1 + (LP PS (g + 1) q : Nat)) q3 s5 s6 s7 s8 s9 s10 s11 h1 h2 (by rw [List.length_append]; omega) m
      refine ⟨u5, u6, u7, u8, u9, u10, u11, ?_⟩
      rw [lap1 (M := LP PS (g + 1) q + (lw (LP PS (g + 1)) rest + m)) (by show 1 + LP PS (g + 1) q + lw (LP PS (g + 1)) rest + m = _; omega) e]
      rw [hd1] at e2
      have ea : fd ++ HN PS (g + 1) q (pre ++ tx done.length ++ [46]) ++ hs (HN PS (g + 1)) (done.length + 1) rest pre = fd ++ hs (HN PS (g + 1)) done.length (.call q :: rest) pre := by
        show _ = fd ++ (HN PS (g + 1) q (pre ++ tx done.length ++ [46]) ++ hs (HN PS (g + 1)) (done.length + 1) rest pre)
        rw [List.append_assoc]
      rw [ea] at e2
      rw [show lo + ((lw (LP PS (g + 1)) (S.call q :: rest) : Nat) : Int) = lo + 1 + ((LP PS (g + 1) q : Nat) : Int) + ((lw (LP PS (g + 1)) rest : Nat) : Int) by show lo + ((1 + LP PS (g + 1) q + lw (LP PS (g + 1)) rest : Nat) : Int) = _; omega]
      exact e1.trans e2
end K09

namespace K09
open Se PySem
abbrev sRows : List Nat := [114, 111, 119, 115, 32]
abbrev sCols : List Nat := [99, 111, 108, 117, 109, 110, 115, 32]
def rc : Nat → List (List Nat)
  | 0 => []
  | n + 1 => rc n ++ [sRows ++ tx n, sCols ++ tx n]
theorem rc_len : ∀ n, (rc n).length = 2 * n
  | 0 => rfl
  | n + 1 => by show (rc n ++ [_, _]).length = _; rw [List.length_append, rc_len n]; simp; omega
/-- all the names of a procedure's unknowns -/
def NM (PS : List Pr) (p : Nat) : List (List Nat) := rc (PS.getD p ⟨0, []⟩).params ++ HN PS 40 p []
theorem walk_ok (K : PySem.W.Frag) {DS : List D} {PS : List Pr} {Ts : List Nat} (w : WF DS PS Ts) (hz : fzL DS = true) {p : Nat} (hp : p < PS.length) (h30 : PS.length ≤ 30) :
    F__law_walk K [.tup DS, .int p] = .rt (.lst true ((NM PS p).map .str)) [.tup DS, .int p] := by
  have hpr : PS[p]? = some PS[p] := List.getElem?_eq_getElem hp
  obtain ⟨⟨d, hd, hPD⟩, hq, ⟨t, ht, et, ht60⟩, hp1, hp4⟩ := w.at' p _ hpr
  have eg : PS.getD p ⟨0, []⟩ = PS[p] := by simp [List.getD, hpr]
  generalize PS[p] = pr at *
  obtain ⟨sd, gv, ed, hs'⟩ := hPD
  have hdx : ixD DS (p : Int) = some (.tup [.int (pr.params : Int), .tup sd, .tup (gv.map .int)]) := by
    unfold ixD; rw [if_pos (by omega), ← ed]; simpa using hd
  obtain ⟨z1, z2⟩ := hs'.fz
  have hgv := fzL_ints gv
  obtain ⟨ρ', e1, q, rfl⟩ := forF_range (f := fName 3) (m := b__law_walk_1 K) (fun i ρ => ∃ q, ρ = [some (.tup DS), some (.int p), some (.lst true ((rc i).map .str)), q, none, none, none, none, none, none, none, none]) (lo := 0) (n := pr.params) (ρ := [some (.tup DS), some (.int p), some (.lst true []), none, none, none, none, none, none, none, none, none]) ⟨none, rfl⟩ (by
    rintro i ρ hi ⟨q, rfl⟩
    have e0 : (0 : Int) + i = i := by omega
    have hg := gS (n := i) (by omega)
    have hl := tx_len (n := i) (by omega)
    have hrl := rc_len i
    have c1 : 5 + (tx i).length ≤ 16777216 := by omega
    have c2 : 8 + (tx i).length ≤ 16777216 := by omega
    have c3 : (rc i).length < 16777216 := by omega
    have c4 : (rc i).length + 1 < 16777216 := by omega
    have c5 : (tx i).length ≤ 16777211 := by omega
    have c6 : (tx i).length ≤ 16777208 := by omega
    have c7 : (tx i).length + 5 ≤ 16777216 := by omega
    have c8 : (tx i).length + 8 ≤ 16777216 := by omega
    rw [e0]
    refine ⟨_, [some (.tup DS), some (.int p), some (.lst true ((rc (i + 1)).map .str)), some (.int i), none, none, none, none, none, none, none, none], rfl, .inl ?_, _, rfl⟩
    simp [b__law_walk_1, hg, szl, c1, c2, c3, c4, c5, c6, c7, c8, rc])
  have hpos : pr.params = pr.params := rfl
  obtain ⟨r5, r6, r7, r8, r9, r10, r11, e2⟩ := run_ok K w hz (some (.int p)) 39 p (by omega) pr hpr pr.ss [] rfl [] (rc pr.params) [] 0 q none none none none none none none (by simp) (by simp) (by rw [rc_len, ← et]; omega) (200 - lw (LP PS 39) pr.ss)
  have hlw : lw (LP PS 39) pr.ss ≤ 121 := by
    have := lw_le (c := LP PS 39) (T := fun q => Ts.getD q 0) pr.ss fun q hm => LP_le w 39 q (by have := hq q hm; omega)
    omega
  have e4 : rgD (0 + (lw (LP PS 39) pr.ss : Nat)) (200 - lw (LP PS 39) pr.ss) = .int (0 + (lw (LP PS 39) pr.ss : Nat)) :: rgD (0 + (lw (LP PS 39) pr.ss : Nat) + 1) (199 - lw (LP PS 39) pr.ss) := by
    rw [show 200 - lw (LP PS 39) pr.ss = (199 - lw (LP PS 39) pr.ss) + 1 by omega, rgD_succ]
  rw [show lw (LP PS 39) pr.ss + (200 - lw (LP PS 39) pr.ss) = 200 by omega, e4] at e2
  have eN : rc pr.params ++ hs (HN PS 39) ([] : List S).length pr.ss [] = NM PS p := by
    unfold NM
    rw [eg]
    show _ = rc pr.params ++ hs (HN PS 39) 0 (PS.getD p ⟨0, []⟩).ss []
    rw [eg]; rfl
  rw [eN] at e2
  have eb : ∀ (lo : D) (rest : List D), ∃ r, forF (fName 5) (b__law_walk_2 K) (lo :: rest) (EW DS (some (.int p)) (NM PS p) [] q r5 r6 r7 r8 r9 r10 r11) = .nx (EW DS (some (.int p)) (NM PS p) [] q r r6 r7 r8 r9 r10 r11) := by
    intro lo rest
    refine ⟨some lo, ?_⟩
    unfold forF
    have ef : fName 5 lo (EW DS (some (.int p)) (NM PS p) [] q r5 r6 r7 r8 r9 r10 r11) = some (EW DS (some (.int p)) (NM PS p) [] q (some lo) r6 r7 r8 r9 r10 r11) := rfl
    rw [ef]
    dsimp only
    have em : b__law_walk_2 K (EW DS (some (.int p)) (NM PS p) [] q (some lo) r6 r7 r8 r9 r10 r11) = .bk (EW DS (some (.int p)) (NM PS p) [] q (some lo) r6 r7 r8 r9 r10 r11) := by
      rw [lw_eq]
      unfold EW
      simp
    rw [em]
  obtain ⟨r, e3⟩ := eb (.int (0 + (lw (LP PS 39) pr.ss : Nat))) (rgD (0 + (lw (LP PS 39) pr.ss : Nat) + 1) (199 - lw (LP PS 39) pr.ss))
  rw [e3] at e2
  have e2 : forF (fName 5) (b__law_walk_2 K) (rgD 0 200) [some (.tup DS), some (.int p), some (.lst true ((rc pr.params).map .str)), q, some (.lst true [.tup [.int p, .int 0, .str []]]), none, none, none, none, none, none, none] = .nx (EW DS (some (.int p)) (NM PS p) [] q r r6 r7 r8 r9 r10 r11) := e2
  have b1 : -4611686018427387904 < (pr.params : Int) := by omega
  have b2 : (pr.params : Int) < 4611686018427387904 := by omega
  have rg200 : rg1 [.int 200] = some (rgD 0 200) := rfl
  unfold EW at e2
  simp [F__law_walk, u131, startE, m__law_walk, hz, hdx, gIx, z1, hgv, rg1_of b1 b2, e1, rg200, e2, szl, ixn0]
end K09

namespace K09
open Se PySem
theorem hc_congr {c c' : Nat → Nat} : ∀ (ss : List S), (∀ q, S.call q ∈ ss → c q = c' q) → hc c ss = hc c' ss
  | [], _ => rfl
  | .call q :: ss, h => by
    show c q + hc c ss = c' q + hc c' ss
    rw [h q List.mem_cons_self, hc_congr ss fun q hq => h q (List.mem_cons_of_mem _ hq)]
  | .two :: ss, h => by
    show 2 + hc c ss = 2 + hc c' ss
    rw [hc_congr ss fun q hq => h q (List.mem_cons_of_mem _ hq)]
  | .one :: ss, h => hc_congr ss fun q hq => h q (List.mem_cons_of_mem _ hq)
theorem hs_congr {c c' : Nat → List Nat → List (List Nat)} : ∀ (ss : List S) (i : Nat) (pre : List Nat), (∀ q x, S.call q ∈ ss → c q x = c' q x) → hs c i ss pre = hs c' i ss pre
  | [], _, _, _ => rfl
  | .call q :: ss, i, pre, h => by
    show c q _ ++ hs c (i + 1) ss pre = c' q _ ++ hs c' (i + 1) ss pre
    rw [h q _ List.mem_cons_self, hs_congr ss (i + 1) pre fun q x hq => h q x (List.mem_cons_of_mem _ hq)]
  | .two :: ss, i, pre, h => by
    show _ :: _ :: hs c (i + 1) ss pre = _ :: _ :: hs c' (i + 1) ss pre
    rw [hs_congr ss (i + 1) pre fun q x hq => h q x (List.mem_cons_of_mem _ hq)]
  | .one :: ss, i, pre, h => hs_congr ss (i + 1) pre fun q x hq => h q x (List.mem_cons_of_mem _ hq)
section
variable {DS : List D} {PS : List Pr} {Ts : List Nat}
theorem HC_st (w : WF DS PS Ts) : ∀ (f g p : Nat), p < PS.length → p < f → p < g → HC PS f p = HC PS g p
  | 0, _, _, _, h, _ => absurd h (Nat.not_lt_zero _)
  | _, 0, _, _, _, h => absurd h (Nat.not_lt_zero _)
  | f + 1, g + 1, p, hp, h1, h2 => by
    obtain ⟨_, hq, _, _⟩ := w.at' p _ (List.getElem?_eq_getElem hp)
    have eg : PS.getD p ⟨0, []⟩ = PS[p] := by simp [List.getD, hp]
    show hc (HC PS f) (PS.getD p ⟨0, []⟩).ss = hc (HC PS g) (PS.getD p ⟨0, []⟩).ss
    rw [eg]
    exact hc_congr _ fun q hm => HC_st w f g q (by have := hq q hm; omega) (by have := hq q hm; omega) (by have := hq q hm; omega)
theorem HN_st (w : WF DS PS Ts) : ∀ (f g p : Nat) (x : List Nat), p < PS.length → p < f → p < g → HN PS f p x = HN PS g p x
  | 0, _, _, _, _, h, _ => absurd h (Nat.not_lt_zero _)
  | _, 0, _, _, _, _, h => absurd h (Nat.not_lt_zero _)
  | f + 1, g + 1, p, x, hp, h1, h2 => by
    obtain ⟨_, hq, _, _⟩ := w.at' p _ (List.getElem?_eq_getElem hp)
    have eg : PS.getD p ⟨0, []⟩ = PS[p] := by simp [List.getD, hp]
    show hs (HN PS f) 0 (PS.getD p ⟨0, []⟩).ss x = hs (HN PS g) 0 (PS.getD p ⟨0, []⟩).ss x
    rw [eg]
    exact hs_congr _ _ _ fun q y hm => HN_st w f g q y (by have := hq q hm; omega) (by have := hq q hm; omega) (by have := hq q hm; omega)
theorem gIn_two (x : List Nat) : gIn (.str x) (.tup [.str wCut, .str wSplit]) = some (.bl (decide (x = wCut ∨ x = wSplit))) := by
  unfold gIn inD
  dsimp only
  have hb : ∀ a : List Nat, (a == x) = decide (x = a) := fun a => by
    rw [Bool.eq_iff_iff, beq_iff_eq, decide_eq_true_iff]
    exact ⟨Eq.symm, Eq.symm⟩
  rw [if_pos ⟨rfl, rfl⟩]
  simp [eqF, hb]
/-- the program -/
def prog (nm : D) (DS : List D) : D := .tup [nm, .tup DS]
def sv (c : Nat → Nat) : S → Nat
  | .call q => c q
  | .two => 2
  | .one => 0
theorem sv_sum (c : Nat → Nat) : ∀ ss : List S, ((ss.map fun s => ((sv c s : Nat) : Int))).sum = (hc c ss : Nat)
  | [] => rfl
  | .call q :: ss => by
    rw [List.map_cons, List.sum_cons, sv_sum c ss]
    show ((c q : Nat) : Int) + _ = ((c q + hc c ss : Nat) : Int)
    omega
  | .two :: ss => by
    rw [List.map_cons, List.sum_cons, sv_sum c ss]
    show ((2 : Nat) : Int) + _ = ((2 + hc c ss : Nat) : Int)
    omega
  | .one :: ss => by
    rw [List.map_cons, List.sum_cons, sv_sum c ss]
    show ((0 : Nat) : Int) + _ = ((hc c ss : Nat) : Int)
    omega
theorem by_ok (K : PySem.W.Frag) {nm : D} {DS : List D} {c : Nat → Nat} {f : Nat} {d : D} {s : S} (hn : fz nm = true) (hnn : ne nm = true) (hz : fzL DS = true) (hzn : neL DS = true) (h : SD d s) (hf : 0 < f) (hc : ∀ q, s = .call q → F_hidden_number K (f - 1) [prog nm DS, .int q] = .rt (.int (c q : Nat)) [prog nm DS, .int q]) :
    F_hidden_by K f [prog nm DS, d] = .rt (.int (sv c s : Nat)) [prog nm DS, d] := by
  obtain ⟨f, rfl⟩ : ∃ g, f = g + 1 := ⟨f - 1, by omega⟩
  rw [Nat.add_sub_cancel] at hc
  cases s with
  | call q =>
    obtain ⟨as, rfl⟩ := h
    have e := hc q rfl
    have h1 := fzL_ints as
    have h2 := neL_ints as
    unfold prog at *
    simp [F_hidden_by, u131, startE, m_hidden_by, ixn0, ixn1, gIx, e, hn, hnn, hz, hzn, sv, h1, h2]
  | two =>
    obtain ⟨x, r, hx, rfl⟩ := h
    have h1 := fzL_ints r
    have g := gIn_two x
    have hx' : decide (x = wCut ∨ x = wSplit) = true := by simpa using hx
    rw [hx'] at g
    have hxc : x ≠ wCall := by rcases hx with rfl | rfl <;> decide
    unfold prog at *
    simp [F_hidden_by, u131, startE, m_hidden_by, ixn0, ixn1, gIx, hn, hz, sv, h1, hxc, g]
  | one =>
    obtain ⟨x, r, x1, x2, x3, rfl⟩ := h
    have h1 := fzL_ints r
    have g := gIn_two x
    have hx' : decide (x = wCut ∨ x = wSplit) = false := by simpa using ⟨x2, x3⟩
    rw [hx'] at g
    unfold prog at *
    simp [F_hidden_by, u131, startE, m_hidden_by, ixn0, ixn1, gIx, hn, hz, sv, h1, x1, g]
theorem num_go (K : PySem.W.Frag) {nm : D} {c : Nat → Nat} {f : Nat} (hn : fz nm = true) (hnn : ne nm = true) (hz : fzL DS = true) (hzn : neL DS = true) (hf : 0 < f) (p : Option D) : ∀ (sd : List D) (ss : List S) (acc : List D) (q0 : Option D), SDs sd ss → acc.length + sd.length ≤ 1000 → (∀ q, S.call q ∈ ss → F_hidden_number K (f - 1) [prog nm DS, .int q] = .rt (.int (c q : Nat)) [prog nm DS, .int q]) →
    ∃ q, compF [2] (fName 2) tTrue (e_hidden_number_1 K (F_hidden_by K f) (F_hidden_number K f)) sd acc [some (prog nm DS), p, q0] = some (acc ++ (ss.map fun s => D.int ((sv c s : Nat) : Int)), [some (prog nm DS), p, q])
  | [], [], acc, q0, _, _, _ => ⟨q0, by simp [compF]⟩
  | d :: sd, s :: ss, acc, q0, h, hl, hc => by
    rw [List.length_cons] at hl
    have e := by_ok K hn hnn hz hzn h.1 hf fun q hq => hc q (by rw [hq]; exact List.mem_cons_self)
    obtain ⟨q, e2⟩ := num_go K (c := c) hn hnn hz hzn hf p sd ss (acc ++ [.int ((sv c s : Nat) : Int)]) (some d) h.2 (by rw [List.length_append, List.length_singleton]; omega) fun q hq => hc q (List.mem_cons_of_mem _ hq)
    refine ⟨q, ?_⟩
    obtain ⟨z1, z2⟩ := h.1.fz
    have ha : acc.length < 16777216 := by omega
    have hpz : fz (prog nm DS) = true := by unfold prog; simp [hn, hz]
    have hpn : ne (prog nm DS) = true := by unfold prog; simp [hnn, hzn]
    have ee : e_hidden_number_1 K (F_hidden_by K f) (F_hidden_number K f) [some (prog nm DS), p, some d] = .ok (.int ((sv c s : Nat) : Int)) [some (prog nm DS), p, some d] := by
      simp [e_hidden_number_1, hpz, hpn, z1, z2, e]
    unfold compF
    have ef : fName 2 d (wipeE [some (prog nm DS), p, q0] [2]) = some [some (prog nm DS), p, some d] := rfl
    rw [ef]
    dsimp only [tTrue]
    rw [if_pos rfl, ee]
    dsimp only
    rw [if_pos (by rw [szl]; exact ha), e2]
    simp
  | [], s :: ss, _, _, h, _, _ => h.elim
  | d :: sd, [], _, _, h, _, _ => h.elim
theorem number_ok (K : PySem.W.Frag) (w : WF DS PS Ts) {nm : D} (hn : fz nm = true) (hnn : ne nm = true) (hz : fzL DS = true) (hzn : neL DS = true) : ∀ (p f : Nat), p < PS.length → p < 39 → 2 * p + 2 ≤ f → F_hidden_number K f [prog nm DS, .int p] = .rt (.int (HC PS 40 p : Nat)) [prog nm DS, .int p] := by
  intro p
  induction p using Nat.strongRecOn with
  | ind p ih =>
  intro f hp h39 hf
  obtain ⟨f, rfl⟩ : ∃ g, f = g + 1 := ⟨f - 1, by omega⟩
  have hpr : PS[p]? = some PS[p] := List.getElem?_eq_getElem hp
  obtain ⟨⟨d, hd, hPD⟩, hq, ⟨t, ht, et, ht60⟩, hp1, hp4⟩ := w.at' p _ hpr
  have eg : PS.getD p ⟨0, []⟩ = PS[p] := by simp [List.getD, hpr]
  have eC : HC PS 40 p = hc (HC PS 40) PS[p].ss := by
    show hc (HC PS 39) (PS.getD p ⟨0, []⟩).ss = _
    rw [eg]
    exact hc_congr _ fun q hm => HC_st w 39 40 q (by have := hq q hm; omega) (by have := hq q hm; omega) (by have := hq q hm; omega)
  have hlen := tcs_len (fun q => Ts.getD q 0) PS[p].ss
  generalize PS[p] = pr at *
  obtain ⟨sd, gv, ed, hs'⟩ := hPD
  have hdx : ixD DS (p : Int) = some (.tup [.int (pr.params : Int), .tup sd, .tup (gv.map .int)]) := by
    unfold ixD; rw [if_pos (by omega), ← ed]; simpa using hd
  obtain ⟨z1, z2⟩ := hs'.fz
  have hgv := fzL_ints gv
  have hsl := hs'.len
  obtain ⟨q, e⟩ := num_go K (c := HC PS 40) (f := f) hn hnn hz hzn (by omega) (some (.int p)) sd pr.ss [] none hs' (by simp; omega) fun q hm => ih q (hq q hm) (f - 1) (by have := hq q hm; omega) (by have := hq q hm; omega) (by have := hq q hm; omega)
  rw [List.nil_append] at e
  have es : gSum [.lst true (pr.ss.map fun s => D.int ((sv (HC PS 40) s : Nat) : Int))] = some (.int (HC PS 40 p : Nat)) := by
    have e1 : (pr.ss.map fun s => D.int ((sv (HC PS 40) s : Nat) : Int)) = (pr.ss.map fun s => ((sv (HC PS 40) s : Nat) : Int)).map D.int := by rw [List.map_map]; rfl
    rw [e1]
    show (intsD _).map (fun ns => D.int ns.sum) = _
    rw [intsD_map, Option.map_some, sv_sum, eC]
  generalize (pr.ss.map fun s => D.int ((sv (HC PS 40) s : Nat) : Int)) = A at e es
  have hsf : frzL sd = sd := by
    have : ∀ (sd : List D) (ss : List S), SDs sd ss → frzL sd = sd := by
      intro sd
      induction sd with
      | nil => intro ss _; rfl
      | cons d sd ih =>
        intro ss h
        cases ss with
        | nil => exact h.elim
        | cons s ss =>
          have e1 : frz d = d := by
            have := h.1
            cases s with
            | call p => obtain ⟨as, rfl⟩ := this; simp [frzL_ints]
            | two => obtain ⟨w, r, _, rfl⟩ := this; simp [frzL_ints]
            | one => obtain ⟨w, r, _, _, _, rfl⟩ := this; simp [frzL_ints]
          show frz d :: frzL sd = _
          rw [e1, ih ss h.2]
    exact this sd pr.ss hs'
  unfold prog at *
  simp [F_hidden_number, u131, startE, m_hidden_number, hn, hz, hdx, gIx, z1, hgv, ixn0, ixn1, hsf, itemsD, e, es]
end
end K09

namespace K09
open Se PySem
def prx (l : List Nat) : List Nat := (l.map fun x => tx x ++ [46]).flatten
theorem prx_app (l : List Nat) (a : Nat) : prx (l ++ [a]) = prx l ++ tx a ++ [46] := by simp [prx]
theorem prx_len : ∀ (l : List Nat), (∀ x ∈ l, x < 64) → (prx l).length ≤ 3 * l.length
  | [], _ => Nat.le_refl _
  | a :: l, h => by
    have h1 := tx_len (h a List.mem_cons_self)
    have h2 := prx_len l fun x hx => h x (List.mem_cons_of_mem _ hx)
    show (tx a ++ [46] ++ prx l).length ≤ _
    simp only [List.length_append, List.length_cons, List.length_nil]
    omega
theorem join_prx (a : Nat) : ∀ l : List Nat, TL.joinL [46] ((l ++ [a]).map tx) = prx l ++ tx a
  | [] => by simp [TL.joinL, prx]
  | [x] => by simp [TL.joinL, prx]
  | x :: y :: l => by
    have ih := join_prx a (y :: l)
    have e : TL.joinL [46] ((x :: y :: l ++ [a]).map tx) = tx x ++ [46] ++ TL.joinL [46] ((y :: l ++ [a]).map tx) := by simp [TL.joinL]
    rw [e, ih]
    simp [prx]
def nD (l : List Nat) : D := .tup (l.map fun (x : Nat) => .int (x : Int))
theorem nD_fz (l : List Nat) : fzL (l.map fun (x : Nat) => D.int (x : Int)) = true ∧ neL (l.map fun (x : Nat) => D.int (x : Int)) = true ∧ frzL (l.map fun (x : Nat) => D.int (x : Int)) = l.map fun (x : Nat) => D.int (x : Int) := by
  have e : (l.map fun (x : Nat) => D.int (x : Int)) = (l.map fun (x : Nat) => (x : Int)).map D.int := by rw [List.map_map]; rfl
  rw [e]
  exact ⟨fzL_ints _, neL_ints _, frzL_ints _⟩
theorem dotted_ok (K : PySem.W.Frag) {l : List Nat} {a : Nat} (h : ∀ x ∈ l ++ [a], x < 64) (hl : l.length ≤ 100) : F_dotted K [nD (l ++ [a])] = .rt (.str (prx l ++ tx a)) [nD (l ++ [a])] := by
  obtain ⟨z1, z2, z3⟩ := nD_fz (l ++ [a])
  obtain ⟨ρ', e, q, rfl⟩ := compF_map (vs := [1]) (f := fName 1) (me := e_dotted_1 K) (fun ρ => ∃ q, ρ = [some (nD (l ++ [a])), q]) (fun d => match d with
    | .int i => .str (tx i.toNat)
    | d => d) ((l ++ [a]).map fun (x : Nat) => D.int (x : Int)) [] [some (nD (l ++ [a])), none] ⟨_, rfl⟩ (by rw [List.length_map, szl]; simp; omega) (by
    rintro d hd ρ ⟨q, rfl⟩
    obtain ⟨x, hx, rfl⟩ := List.mem_map.mp hd
    have := gS (h x hx)
    exact ⟨_, [some (nD (l ++ [a])), some (.int x)], rfl, by simp [e_dotted_1, this], _, rfl⟩)
  have em : ((l ++ [a]).map fun (x : Nat) => D.int (x : Int)).map (fun d => match d with
    | .int i => .str (tx i.toNat)
    | d => d) = ((l ++ [a]).map tx).map D.str := by
    rw [List.map_map, List.map_map]
    apply List.map_congr_left
    intro x _
    show D.str (tx (x : Int).toNat) = _
    rw [Int.toNat_natCast]
    rfl
  rw [List.nil_append, em] at e
  have hj : gJoin [46] (.lst true (((l ++ [a]).map tx).map D.str)) = some (.str (prx l ++ tx a)) := by
    show joinD [46] _ = _
    unfold joinD
    have hb : ∀ m : List Nat, (∀ x ∈ m, x < 64) → ((m.map tx).map (·.length)).sum ≤ 2 * m.length := by
      intro m
      induction m with
      | nil => intro _; simp
      | cons x m ih =>
        intro hm
        have h1 := tx_len (hm x List.mem_cons_self)
        have h2 := ih fun y hy => hm y (List.mem_cons_of_mem _ hy)
        simp only [List.map_cons, List.sum_cons, List.length_cons]
        omega
    have hs := hb (l ++ [a]) h
    have hll : (l ++ [a]).length ≤ 101 := by simp; omega
    rw [strsD_map, Option.bind_some, if_pos (by rw [List.length_map]; simp only [List.length_cons, List.length_nil]; omega), join_prx]
  generalize ((l ++ [a]).map tx).map D.str = A at e hj
  unfold nD at *
  simp [F_dotted, u131, startE, m_dotted, z1, z3, itemsD] at *
  simp [F_dotted, u131, startE, m_dotted, z1, z3, itemsD, e, hj]
theorem names_go (K : PySem.W.Frag) {pg : D} (hpz : fz pg = true) (hpn : ne pg = true) {c : Nat → List Nat → List (List Nat)} {r : List D → FR} (p : Option D) {path : List Nat} (hpa : ∀ x ∈ path, x < 64) (hpl : path.length ≤ 60) : ∀ (sd : List D) (ss : List S) (i : Nat) (acc : List (List Nat)) (q4 q5 q6 : Option D), SDs sd ss → i + sd.length ≤ 60 → acc.length + (hs c i ss (prx path)).length ≤ 100000 →
    (∀ q, S.call q ∈ ss → ∀ i, i < 60 → r [pg, .int q, nD (path ++ [i])] = .rt (.lst true ((c q (prx (path ++ [i]))).map .str)) [pg, .int q, nD (path ++ [i])]) →
    ∃ r4 r5 r6, forF (fTup (fCons (fName 4) (fCons (fName 5) (fNil)))) (b_hidden_names_1 K r) (enD i sd) [some pg, p, some (nD path), some (.lst true (acc.map .str)), q4, q5, q6] = .nx [some pg, p, some (nD path), some (.lst true ((acc ++ hs c i ss (prx path)).map .str)), r4, r5, r6]
  | [], [], i, acc, q4, q5, q6, _, _, _, _ => ⟨q4, q5, q6, by show SR.nx _ = _; simp [hs]⟩
  | d :: sd, s :: ss, i, acc, q4, q5, q6, h, hi, hacc, hr => by
    rw [List.length_cons] at hi
    obtain ⟨z1, z2⟩ := h.1.fz
    obtain ⟨w1, w2, w3⟩ := nD_fz path
    obtain ⟨v1, v2, v3⟩ := nD_fz (path ++ [i])
    have hall : ∀ x ∈ path ++ [i], x < 64 := fun x hx => by
      rcases List.mem_append.mp hx with q | q
      · exact hpa x q
      · cases List.mem_singleton.mp q; omega
    have hdot := dotted_ok K hall (by omega)
    have hpx := prx_len path hpa
    have htx := tx_len (n := i) (by omega)
    have gAp : gAdd (nD path) (.tup [.int (i : Int)]) = some (nD (path ++ [i])) := by
      show (if fzL (path.map fun (x : Nat) => D.int (x : Int)) = true ∧ fzL [D.int (i : Int)] = true ∧ _ ≤ sizeLine then some (D.tup _) else none) = _
      rw [if_pos ⟨w1, rfl, by rw [szl, List.length_map]; simp; omega⟩]
      unfold nD
      rw [List.map_append]
      rfl
    have hnz : fz (nD path) = true := w1
    have hnz2 : fz (nD (path ++ [i])) = true := v1
    have hnn2 : ne (nD (path ++ [i])) = true := v2
    have hnn : ne (nD path) = true := w2
    have sA := fzL_strs acc
    have sF := frzL_strs acc
    have hdn : fTup (fCons (fName 4) (fCons (fName 5) (fNil))) (.tup [.int (i : Nat), d]) [some pg, p, some (nD path), some (.lst true (acc.map .str)), q4, q5, q6] = some [some pg, p, some (nD path), some (.lst true (acc.map .str)), some (.int i), some d, q6] := by
      simp [fTup, fCons, fNil]
    have step : ∃ acc', acc' ++ hs c (i + 1) ss (prx path) = acc ++ hs c i (s :: ss) (prx path) ∧ b_hidden_names_1 K r [some pg, p, some (nD path), some (.lst true (acc.map .str)), some (.int i), some d, q6] = .nx [some pg, p, some (nD path), some (.lst true (acc'.map .str)), some (.int i), some d, some (nD (path ++ [i]))] := by
      cases s with
      | call q =>
        obtain ⟨as, rfl⟩ := h.1
        have e := hr q List.mem_cons_self i (by omega)
        have sC := fzL_strs (c q (prx (path ++ [i])))
        have hlen : acc.length + (c q (prx (path ++ [i]))).length ≤ 16777216 := by
          have : hs c i (.call q :: ss) (prx path) = c q (prx path ++ tx i ++ [46]) ++ hs c (i + 1) ss (prx path) := rfl
          rw [this, List.length_append, ← prx_app] at hacc
          omega
        have h1 := fzL_ints as
        refine ⟨acc ++ c q (prx (path ++ [i])), ?_, ?_⟩
        · show _ = acc ++ (c q (prx path ++ tx i ++ [46]) ++ hs c (i + 1) ss (prx path))
          rw [prx_app, List.append_assoc]
        · simp [b_hidden_names_1, gAp, hnz, ixn0, ixn1, gIx, h1, sA, sF, hpz, hpn, hnz2, hnn2, e, sC, szl, hlen]
      | two =>
        obtain ⟨x, y, hx, rfl⟩ := h.1
        have h1 := fzL_ints y
        have g := gIn_two x
        have hx' : decide (x = wCut ∨ x = wSplit) = true := by simpa using hx
        rw [hx'] at g
        have hxc : x ≠ wCall := by rcases hx with rfl | rfl <;> decide
        have hlen : acc.length + 2 ≤ 16777216 := by
          have : hs c i (.two :: ss) (prx path) = (sAt ++ (prx path ++ tx i) ++ sFst) :: (sAt ++ (prx path ++ tx i) ++ sSnd) :: hs c (i + 1) ss (prx path) := rfl
          rw [this, List.length_cons, List.length_cons] at hacc
          omega
        have c1 : (prx path).length + (tx i).length ≤ 16777216 := by omega
        have c2 : 3 + ((prx path).length + (tx i).length) ≤ 16777216 := by omega
        have c3 : 3 + ((prx path).length + (tx i).length) + 6 ≤ 16777216 := by omega
        have c4 : 3 + ((prx path).length + (tx i).length) + 7 ≤ 16777216 := by omega
        have c5 : (prx path).length + (tx i).length ≤ 16777207 := by omega
        have c6 : (prx path).length + (tx i).length ≤ 16777206 := by omega
        have c7 : (prx path).length + (tx i).length + 3 ≤ 16777216 := by omega
        have c8 : (prx path).length + (tx i).length + 3 + 6 ≤ 16777216 := by omega
        have c9 : (prx path).length + (tx i).length + 3 + 7 ≤ 16777216 := by omega
        refine ⟨acc ++ [sAt ++ (prx path ++ tx i) ++ sFst, sAt ++ (prx path ++ tx i) ++ sSnd], ?_, ?_⟩
        · show _ = acc ++ (_ :: _ :: hs c (i + 1) ss (prx path))
          simp
        · simp [b_hidden_names_1, gAp, hnz, ixn0, ixn1, gIx, h1, sA, sF, hxc, g, hnz2, hnn2, hdot, szl, hlen, c1, c2, c3, c4, c5, c6, c7, c8, c9]
      | one =>
        obtain ⟨x, y, x1, x2, x3, rfl⟩ := h.1
        have h1 := fzL_ints y
        have g := gIn_two x
        have hx' : decide (x = wCut ∨ x = wSplit) = false := by simpa using ⟨x2, x3⟩
        rw [hx'] at g
        refine ⟨acc, rfl, ?_⟩
        simp [b_hidden_names_1, gAp, hnz, ixn0, ixn1, gIx, h1, x1, g, szl]
    obtain ⟨acc', ea, eb⟩ := step
    obtain ⟨r4, r5, r6, e2⟩ := names_go K hpz hpn (c := c) (r := r) p hpa hpl sd ss (i + 1) acc' (some (.int i)) (some d) (some (nD (path ++ [i]))) h.2 (by omega) (by rw [← List.length_append, ea, List.length_append]; exact hacc) fun q hq => hr q (List.mem_cons_of_mem _ hq)
    refine ⟨r4, r5, r6, ?_⟩
    show forF _ _ (.tup [.int (i : Nat), d] :: enD (i + 1) sd) _ = _
    unfold forF
    rw [hdn]
    dsimp only
    rw [eb]
    dsimp only
    rw [e2, ea]
  | [], s :: ss, _, _, _, _, _, h, _, _, _ => h.elim
  | d :: sd, [], _, _, _, _, _, h, _, _, _ => h.elim
end K09

namespace K09
open Se PySem
theorem SDs.frz : ∀ {sd : List D} {ss : List S}, SDs sd ss → frzL sd = sd
  | [], [], _ => rfl
  | d :: sd, s :: ss, h => by
    have e1 : Se.frz d = d := by
      have := h.1
      cases s with
      | call p => obtain ⟨as, rfl⟩ := this; simp [frzL_ints]
      | two => obtain ⟨w, r, _, rfl⟩ := this; simp [frzL_ints]
      | one => obtain ⟨w, r, _, _, _, rfl⟩ := this; simp [frzL_ints]
    show Se.frz d :: frzL sd = _
    rw [e1, SDs.frz h.2]
  | [], s :: ss, h => h.elim
  | d :: sd, [], h => h.elim
section
variable {DS : List D} {PS : List Pr} {Ts : List Nat}
theorem hnames_ok (K : PySem.W.Frag) (w : WF DS PS Ts) {nm : D} (hn : fz nm = true) (hnn : ne nm = true) (hz : fzL DS = true) (hzn : neL DS = true) : ∀ (p f : Nat) (path : List Nat), p < PS.length → p < 39 → p + 1 ≤ f → (∀ x ∈ path, x < 64) → path.length + p ≤ 60 → F_hidden_names K f [prog nm DS, .int p, nD path] = .rt (.lst true ((HN PS 40 p (prx path)).map .str)) [prog nm DS, .int p, nD path] := by
  intro p
  induction p using Nat.strongRecOn with
  | ind p ih =>
  intro f path hp h39 hf hpa hpl
  obtain ⟨f, rfl⟩ : ∃ g, f = g + 1 := ⟨f - 1, by omega⟩
  have hpr : PS[p]? = some PS[p] := List.getElem?_eq_getElem hp
  obtain ⟨⟨d, hd, hPD⟩, hq, ⟨t, ht, et, ht60⟩, hp1, hp4⟩ := w.at' p _ hpr
  have eg : PS.getD p ⟨0, []⟩ = PS[p] := by simp [List.getD, hpr]
  have eC : HN PS 40 p (prx path) = hs (HN PS 40) 0 PS[p].ss (prx path) := by
    show hs (HN PS 39) 0 (PS.getD p ⟨0, []⟩).ss _ = _
    rw [eg]
    exact hs_congr _ _ _ fun q x hm => HN_st w 39 40 q x (by have := hq q hm; omega) (by have := hq q hm; omega) (by have := hq q hm; omega)
  have hcount : (HN PS 40 p (prx path)).length ≤ 120 := by
    rw [HN_len]
    have := HC_le w 40 p hp
    have et2 : Ts.getD p 0 = t := by simp [List.getD, ht]
    omega
  have hlen := tcs_len (fun q => Ts.getD q 0) PS[p].ss
  generalize PS[p] = pr at *
  obtain ⟨sd, gv, ed, hs'⟩ := hPD
  have hdx : ixD DS (p : Int) = some (.tup [.int (pr.params : Int), .tup sd, .tup (gv.map .int)]) := by
    unfold ixD; rw [if_pos (by omega), ← ed]; simpa using hd
  obtain ⟨z1, z2⟩ := hs'.fz
  have hgv := fzL_ints gv
  have hsl := hs'.len
  have hsf := hs'.frz
  have hpz : fz (prog nm DS) = true := by unfold prog; simp [hn, hz]
  have hpn : ne (prog nm DS) = true := by unfold prog; simp [hnn, hzn]
  obtain ⟨r4, r5, r6, e⟩ := names_go K (r := F_hidden_names K f) (c := HN PS 40) hpz hpn (some (.int p)) hpa (by omega) sd pr.ss 0 [] none none none hs' (by omega) (by rw [← eC]; simp; omega) fun q hm i hi => ih q (hq q hm) f (path ++ [i]) (by have := hq q hm; omega) (by have := hq q hm; omega) (by have := hq q hm; omega) (fun x hx => by
    rcases List.mem_append.mp hx with h | h
    · exact hpa x h
    · cases List.mem_singleton.mp h; omega) (by have := hq q hm; simp; omega)
  rw [List.nil_append, ← eC] at e
  simp only [List.map_nil] at e
  obtain ⟨w1, w2, w3⟩ := nD_fz path
  have hnz : fz (nD path) = true := w1
  generalize (HN PS 40 p (prx path)).map D.str = A at e ⊢
  generalize nD path = N at *
  unfold prog at *
  simp [F_hidden_names, u131, startE, m_hidden_names, hn, hz, hdx, gIx, z1, hgv, ixn0, ixn1, hsf, enB, e, szl, hnz]
theorem names_ok (K : PySem.W.Frag) (w : WF DS PS Ts) {nm : D} (hn : fz nm = true) (hnn : ne nm = true) (hz : fzL DS = true) (hzn : neL DS = true) {p : Nat} (hp : p < PS.length) (h39 : p < 39) : F_unknown_names K [prog nm DS, .int p] = .rt (.tup ((NM PS p).map .str)) [prog nm DS, .int p] := by
  have e0 := hnames_ok K w hn hnn hz hzn p 40 [] hp h39 (by omega) (by simp) (by simp; omega)
  have hpr : PS[p]? = some PS[p] := List.getElem?_eq_getElem hp
  obtain ⟨⟨d, hd, hPD⟩, hq, ⟨t, ht, et, ht60⟩, hp1, hp4⟩ := w.at' p _ hpr
  have eg : PS.getD p ⟨0, []⟩ = PS[p] := by simp [List.getD, hpr]
  have hcount : (HN PS 40 p []).length ≤ 120 := by
    rw [HN_len]
    have := HC_le w 40 p hp
    have et2 : Ts.getD p 0 = t := by simp [List.getD, ht]
    omega
  unfold NM
  rw [eg]
  generalize PS[p] = pr at *
  obtain ⟨sd, gv, ed, hs'⟩ := hPD
  have hdx : ixD DS (p : Int) = some (.tup [.int (pr.params : Int), .tup sd, .tup (gv.map .int)]) := by
    unfold ixD; rw [if_pos (by omega), ← ed]; simpa using hd
  obtain ⟨z1, z2⟩ := hs'.fz
  have hgv := fzL_ints gv
  have hpz : fz (prog nm DS) = true := by unfold prog; simp [hn, hz]
  have hpn : ne (prog nm DS) = true := by unfold prog; simp [hnn, hzn]
  obtain ⟨ρ', e1, q, rfl⟩ := forF_range (f := fName 3) (m := b_unknown_names_1 K) (fun i ρ => ∃ q, ρ = [some (prog nm DS), some (.int p), some (.lst true ((rc i).map .str)), q]) (lo := 0) (n := pr.params) (ρ := [some (prog nm DS), some (.int p), some (.lst true []), none]) ⟨none, rfl⟩ (by
    rintro i ρ hi ⟨q, rfl⟩
    have e0 : (0 : Int) + i = i := by omega
    have hg := fS (n := i) (by omega)
    have hl := tx_len (n := i) (by omega)
    have hrl := rc_len i
    have c1 : 5 + (tx i).length ≤ 16777216 := by omega
    have c2 : 8 + (tx i).length ≤ 16777216 := by omega
    have c3 : (rc i).length + 2 ≤ 16777216 := by omega
    have c5 : (tx i).length ≤ 16777211 := by omega
    have c6 : (tx i).length ≤ 16777208 := by omega
    have c7 : (tx i).length + 5 ≤ 16777216 := by omega
    have c8 : (tx i).length + 8 ≤ 16777216 := by omega
    have sA := fzL_strs (rc i)
    have sF := frzL_strs (rc i)
    rw [e0]
    refine ⟨_, [some (prog nm DS), some (.int p), some (.lst true ((rc (i + 1)).map .str)), some (.int i)], rfl, .inl ?_, _, rfl⟩
    simp [b_unknown_names_1, hg, szl, c1, c2, c3, c5, c6, c7, c8, rc, sA, sF])
  have b1 : -4611686018427387904 < (pr.params : Int) := by omega
  have b2 : (pr.params : Int) < 4611686018427387904 := by omega
  have s1 := fzL_strs (rc pr.params)
  have s2 := frzL_strs (rc pr.params)
  have s3 := fzL_strs (HN PS 40 p [])
  have hrl := rc_len pr.params
  have hL : (rc pr.params).length + (HN PS 40 p []).length ≤ 16777216 := by omega
  have s4 := fzL_strs (rc pr.params ++ HN PS 40 p [])
  rw [List.map_append] at s4 ⊢
  have e0 : F_hidden_names K 40 [prog nm DS, .int p, .tup []] = .rt (.lst true ((HN PS 40 p []).map .str)) [prog nm DS, .int p, .tup []] := e0
  generalize ePG : prog nm DS = PG at *
  have hx1 : ixv PG (.int 1) = some (.tup DS) := by subst ePG; unfold prog; simp [ixn1]
  simp [F_unknown_names, u131, startE, m_unknown_names, hpz, hpn, hx1, hdx, gIx, z1, hz, hgv, ixn0, ixn1, rg1_of b1 b2, e1, szl, e0, s1, s2, s3, hL, s4, gTup]
theorem unum_ok (K : PySem.W.Frag) (w : WF DS PS Ts) {nm : D} (hn : fz nm = true) (hnn : ne nm = true) (hz : fzL DS = true) (hzn : neL DS = true) {p : Nat} (hp : p < PS.length) (h15 : p < 15) : F_unknown_number K [prog nm DS, .int p] = .rt (.int ((NM PS p).length : Nat)) [prog nm DS, .int p] := by
  have e0 := number_ok K w hn hnn hz hzn p 40 hp (by omega) (by omega)
  have hpr : PS[p]? = some PS[p] := List.getElem?_eq_getElem hp
  obtain ⟨⟨d, hd, hPD⟩, hq, ⟨t, ht, et, ht60⟩, hp1, hp4⟩ := w.at' p _ hpr
  have eg : PS.getD p ⟨0, []⟩ = PS[p] := by simp [List.getD, hpr]
  have el : (NM PS p).length = 2 * PS[p].params + HC PS 40 p := by
    unfold NM
    rw [eg, List.length_append, rc_len, HN_len]
  rw [el]
  generalize PS[p] = pr at *
  obtain ⟨sd, gv, ed, hs'⟩ := hPD
  have hdx : ixD DS (p : Int) = some (.tup [.int (pr.params : Int), .tup sd, .tup (gv.map .int)]) := by
    unfold ixD; rw [if_pos (by omega), ← ed]; simpa using hd
  have hpz : fz (prog nm DS) = true := by unfold prog; simp [hn, hz]
  have hpn : ne (prog nm DS) = true := by unfold prog; simp [hnn, hzn]
  have cm : CMulA 2 (pr.params : Int) := cm8 (by decide) (by decide)
  generalize ePG : prog nm DS = PG at *
  have hx1 : ixv PG (.int 1) = some (.tup DS) := by subst ePG; unfold prog; simp [ixn1]
  simp [F_unknown_number, u131, startE, m_unknown_number, hpz, hpn, hx1, hdx, ixn0, e0, cm]
end
end K09

namespace K09
open Se PySem
/-! ### how a program is drawn -/
def BD (es : List (Int × Int)) (B : Int) : Prop := ∀ e ∈ es, 0 ≤ e.1 ∧ e.1 ≤ B ∧ 0 ≤ e.2 ∧ e.2 ≤ B
def mx (es : List (Int × Int)) : List Int := es.map fun e => max e.1 e.2
structure Kn where
  params : Nat
  hid : Int
  t : Nat
  dem : Int
  big : Int
  es : List (Int × Int)
def knD (k : Kn) : D := .tup [.int (k.params : Int), .int k.hid, .int (k.t : Int), .int k.dem, .int k.big, .lst false (k.es.map prD)]
structure KOk (k : Kn) : Prop where
  p1 : 1 ≤ k.params
  p4 : k.params ≤ 4
  b0 : 0 ≤ k.big
  b1 : k.big ≤ 500000
  bd : BD k.es k.big
  el : k.es.length ≤ 4
theorem fz_kn (ks : List Kn) : fzL (ks.map knD) = true ∧ neL (ks.map knD) = true := by
  induction ks with
  | nil => exact ⟨rfl, rfl⟩
  | cons k ks ih =>
    obtain ⟨h1, h2⟩ := ih
    obtain ⟨g1, g2, g3⟩ := fz_prs k.es
    exact ⟨by simp [h1, knD], by simp [h2, knD, g2]⟩
theorem max2_ok (e : Int × Int) : gMaxS [prD e] = some (.int (max e.1 e.2)) := by
  simp [gMaxS, prD, intsD, maxL]
theorem live_mx {i j : Nat} {me : M D} {env : Option D → Se.Env} {es : List (Int × Int)} (hl : es.length ≤ 1000000) (hi : ∀ q, ((env q)[i]?).join = some (.lst true (es.map prD))) (hw : ∀ q, wipeE (env q) [j] = env none) (hf : ∀ d, fName j d (env none) = some (env (some d))) (hm : ∀ e : Int × Int, me (env (some (prD e))) = .ok (.int (max e.1 e.2)) (env (some (prD e)))) (q0 : Option D) :
    eLcL i [j] (fName j) tTrue me (env q0) = .ok (.lst true ((mx es).map D.int)) (env none) := by
  obtain ⟨z1, z2, z3⟩ := fz_prs es
  have hz : ∀ d ∈ es.map prD, fz d = true := by
    intro d hd
    obtain ⟨e, _, rfl⟩ := List.mem_map.mp hd
    rfl
  rw [eLcL_eq (ds := es.map prD) (fun ρ => ∃ q, ρ = env q) ⟨q0, rfl⟩ (hi q0) (by rintro ρ ⟨q, rfl⟩; rw [hw]; exact hi none) hz (by
    rintro d ρ ρ1 b ρ2 hd ⟨q, rfl⟩ h1 h2
    rw [hw, hf] at h1
    cases h1
    cases h2
    refine ⟨⟨_, rfl⟩, fun y ρ3 h3 => ?_⟩
    obtain ⟨e, _, rfl⟩ := List.mem_map.mp hd
    rw [hm] at h3
    cases h3
    exact ⟨_, rfl⟩)]
  obtain ⟨ρ', e, q, rfl⟩ := compF_map (vs := [j]) (f := fName j) (me := me) (fun ρ => ∃ q, ρ = env q) (fun d => match d with
    | .tup [.int a, .int b] => .int (max a b)
    | d => d) (es.map prD) [] (env q0) ⟨q0, rfl⟩ (by rw [List.length_map, szl]; simp; omega) (by
    rintro d hd ρ ⟨q, rfl⟩
    obtain ⟨e, _, rfl⟩ := List.mem_map.mp hd
    exact ⟨_, env (some (prD e)), by rw [hw, hf], hm e, _, rfl⟩)
  have em : (es.map prD).map (fun d => match d with
    | .tup [.int a, .int b] => .int (max a b)
    | d => d) = (mx es).map D.int := by
    unfold mx
    rw [List.map_map, List.map_map]
    rfl
  rw [List.nil_append, em] at e
  rw [e, x11, hw]
theorem maxL_in {l : List Int} (h : l ≠ []) : ∃ m, maxL l = some m ∧ m ∈ l ∧ ∀ y ∈ l, y ≤ m := by
  cases l with
  | nil => exact absurd rfl h
  | cons a l =>
    obtain ⟨h1, h2⟩ := foldmax_le l a
    exact ⟨l.foldl max a, rfl, foldmax_mem l a, fun y hy => by
      rcases List.mem_cons.mp hy with rfl | hy
      · exact h1
      · exact h2 y hy⟩
theorem gMax_ints {l : List Int} {m : Int} (h : maxL l = some m) : gMaxS [.lst true (l.map D.int)] = some (.int m) := by
  show (intsD (l.map D.int)).bind _ = _
  rw [intsD_map, Option.bind_some, h]
  rfl
/-- what a call adds -/
def mulE (m : Int) (es : List (Int × Int)) : List (Int × Int) := es.map fun e => (e.1 * m, e.2 * m)
theorem adds_ok (K : PySem.W.Frag) {m : Int} (hm0 : 0 ≤ m) (hm : m ≤ 1000000) (a0 a1 a3 a4 a5 a6 a10 a11 : Option D) : ∀ (es ends : List (Int × Int)) (q8 q9 : Option D), ends.length + es.length ≤ 10000 →
    ∃ r8 r9, forF (fTup (fCons (fName 8) (fCons (fName 9) (fNil)))) (b__law_call_3 K) (es.map prD) [a0, a1, some (.lst true (ends.map prD)), a3, a4, a5, a6, some (.int m), q8, q9, a10, a11] = .nx [a0, a1, some (.lst true ((ends ++ mulE m es).map prD)), a3, a4, a5, a6, some (.int m), r8, r9, a10, a11]
  | [], ends, q8, q9, _ => ⟨q8, q9, by show SR.nx _ = _; simp [mulE]⟩
  | e :: es, ends, q8, q9, h => by
    rw [List.length_cons] at h
    obtain ⟨r8, r9, e2⟩ := adds_ok K hm0 hm a0 a1 a3 a4 a5 a6 a10 a11 es (ends ++ [(e.1 * m, e.2 * m)]) (some (.int e.1)) (some (.int e.2)) (by simp; omega)
    refine ⟨r8, r9, ?_⟩
    rw [List.map_cons]
    unfold forF
    have ef : fTup (fCons (fName 8) (fCons (fName 9) (fNil))) (prD e) [a0, a1, some (.lst true (ends.map prD)), a3, a4, a5, a6, some (.int m), q8, q9, a10, a11] = some [a0, a1, some (.lst true (ends.map prD)), a3, a4, a5, a6, some (.int m), some (.int e.1), some (.int e.2), a10, a11] := by
      simp [fTup, fCons, fNil, prD]
    have c1 : CMulA e.1 m := cm7 (by omega) (by omega)
    have c2 : CMulA e.2 m := cm7 (by omega) (by omega)
    have hl : ends.length < 16777216 := by omega
    have em : b__law_call_3 K [a0, a1, some (.lst true (ends.map prD)), a3, a4, a5, a6, some (.int m), some (.int e.1), some (.int e.2), a10, a11] = .nx [a0, a1, some (.lst true ((ends ++ [(e.1 * m, e.2 * m)]).map prD)), a3, a4, a5, a6, some (.int m), some (.int e.1), some (.int e.2), a10, a11] := by
      simp [b__law_call_3, c1, c2, szl, hl, prD]
    rw [ef]
    dsimp only
    rw [em]
    dsimp only
    rw [e2]
    simp [mulE]
end K09

namespace K09
open Se PySem
def stD (a b c e : Int) : D := .lst true [.int a, .int b, .int c, .int e]
theorem mul_bd {es : List (Int × Int)} {B m : Int} (h : BD es B) (hB : 0 ≤ B) (hm : 0 ≤ m) : BD (mulE m es) (B * m) := by
  intro e he
  obtain ⟨x, hx, rfl⟩ := List.mem_map.mp he
  obtain ⟨h1, h2, h3, h4⟩ := h x hx
  exact ⟨Int.mul_nonneg h1 hm, Int.mul_le_mul_of_nonneg_right h2 hm, Int.mul_nonneg h3 hm, Int.mul_le_mul_of_nonneg_right h4 hm⟩
theorem BD.le {es : List (Int × Int)} {B C : Int} (h : BD es B) (hl : B ≤ C) : BD es C := fun e he => by
  obtain ⟨h1, h2, h3, h4⟩ := h e he
  exact ⟨h1, by omega, h3, by omega⟩
theorem BD.app {es fs : List (Int × Int)} {B : Int} (h : BD es B) (h' : BD fs B) : BD (es ++ fs) B := fun e he => by
  rcases List.mem_append.mp he with q | q
  · exact h e q
  · exact h' e q
theorem BD.mx {es : List (Int × Int)} {B : Int} (h : BD es B) : ∀ y ∈ mx es, 0 ≤ y ∧ y ≤ B := fun y hy => by
  obtain ⟨e, he, rfl⟩ := List.mem_map.mp hy
  obtain ⟨h1, h2, h3, h4⟩ := h e he
  exact ⟨by show 0 ≤ max e.1 e.2; omega, by show max e.1 e.2 ≤ B; omega⟩
theorem ends_at {es : List (Int × Int)} {x : Int} (h0 : 0 ≤ x) (h1 : x < es.length) : ∃ e ∈ es, ixD (es.map prD) x = some (prD e) := by
  have hx : x.toNat < es.length := by omega
  refine ⟨es[x.toNat], List.getElem_mem hx, ?_⟩
  unfold ixD
  rw [if_pos h0]
  simp [hx]
def gE (ends : List (Int × Int)) (d : D) : D := match d with
  | .int a => match ixD (ends.map prD) a with
    | some (.tup [.int x, .int y]) => .int (max x y)
    | _ => d
  | d => d
theorem call_ok (K : PySem.W.Frag) {n : Nat} {d : D} {ks : List Kn} {ends : List (Int × Int)} {s0 s1 s2 s3 : Int} (h : Pt n d) (hn : n + 100 < 2 ^ 40) (hk : ∀ k ∈ ks, KOk k) (hks : ks ≠ []) (hkl : ks.length ≤ 100) (hen : ends ≠ []) (hel : ends.length ≤ 5000) (hbd : BD ends s3) (hs0 : 0 ≤ s3) (hs3 : s3 ≤ 500000) :
    ∃ d', Pt (n + 5) d' ∧ (F__law_call K [d, .lst true (ks.map knD), .lst true (ends.map prD), stD s0 s1 s2 s3] = .rt (.tup []) [d', .lst true (ks.map knD), .lst true (ends.map prD), stD s0 s1 s2 s3] ∨
      ∃ (p : Nat) (hp : p < ks.length) (as : List Int) (ends' : List (Int × Int)) (t0 t2 t3 : Int), F__law_call K [d, .lst true (ks.map knD), .lst true (ends.map prD), stD s0 s1 s2 s3] = .rt (.tup [.str wCall, .int p, .tup (as.map .int)]) [d', .lst true (ks.map knD), .lst true (ends'.map prD), stD t0 (s1 + ks[p].t + 1) t2 t3] ∧
        s1 + ks[p].t + 1 ≤ 58 ∧ BD ends' t3 ∧ s3 ≤ t3 ∧ t3 ≤ 500000 ∧ ends' ≠ [] ∧ ends'.length ≤ ends.length + 4) := by
  have hkp : 0 < ks.length := List.length_pos_iff.mpr hks
  have hep : 0 < ends.length := List.length_pos_iff.mpr hen
  obtain ⟨x, d1, e1, x0, x1, s1'⟩ := draw_ok K (many := (ks.length : Int)) h (by omega) (by omega) (by omega)
  obtain ⟨p, rfl⟩ : ∃ p : Nat, x = p := ⟨x.toNat, by omega⟩
  have hp : p < ks.length := by omega
  have ko := hk _ (List.getElem_mem hp)
  have hpx : ixD (ks.map knD) (p : Int) = some (knD ks[p]) := by
    unfold ixD; rw [if_pos (by omega)]; simp [hp]
  obtain ⟨kz1, kz2⟩ := fz_kn ks
  obtain ⟨ez1, ez2, ez3⟩ := fz_prs ends
  have hd := h.ne
  have hd1 := s1'.ne
  generalize hkk : ks[p] = k at *
  have kz : fz (knD k) = true := by obtain ⟨g1, g2, g3⟩ := fz_prs k.es; simp [knD]
  have kzn : ne (knD k) = true := by obtain ⟨g1, g2, g3⟩ := fz_prs k.es; simp [knD, g2]
  have kx0 : ixv (knD k) (.int 0) = some (.int k.params) := rfl
  have kx1 : ixv (knD k) (.int 1) = some (.int k.hid) := rfl
  have kx2 : ixv (knD k) (.int 2) = some (.int k.t) := rfl
  have kx3 : ixv (knD k) (.int 3) = some (.int k.dem) := rfl
  have kx4 : ixv (knD k) (.int 4) = some (.int k.big) := rfl
  have kx5 : ixv (knD k) (.int 5) = some (.lst false (k.es.map prD)) := rfl
  have hstn : ne (stD s0 s1 s2 s3) = true := rfl
  -- the arguments
  obtain ⟨acc, ρ', e2, hacc, d2, q, rfl, s2'⟩ := compF_inv (vs := [10]) (f := fName 10) (me := e__law_call_1 K) (fun i acc ρ => (∃ as : List Int, acc = as.map D.int ∧ as.length = i ∧ ∀ a ∈ as, 0 ≤ a ∧ a < ends.length) ∧ ∃ d' q, ρ = [some d', some (.lst true (ks.map knD)), some (.lst true (ends.map prD)), some (stD s0 s1 s2 s3), some (.int p), some (knD k), none, none, none, none, q, none] ∧ Pt (n + 1 + i) d') (rgD 0 k.params) 0 [] [some d1, some (.lst true (ks.map knD)), some (.lst true (ends.map prD)), some (stD s0 s1 s2 s3), some (.int p), some (knD k), none, none, none, none, none, none] ⟨⟨[], rfl, rfl, by simp⟩, d1, none, rfl, s1'⟩ (by simp [rgD_len, szl]; have := ko.p4; omega) (by
    rintro i dd acc ρ hd ⟨⟨as, rfl, hl, hb⟩, d', q, rfl, hs⟩
    obtain ⟨hi, rfl⟩ := rgD_get hd
    have := ko.p4
    obtain ⟨y, d2, e, y0, y1, s⟩ := draw_ok K (many := (ends.length : Int)) hs (by omega) (by omega) (by omega)
    have hdn := hs.ne
    refine ⟨_, [some d2, some (.lst true (ks.map knD)), some (.lst true (ends.map prD)), some (stD s0 s1 s2 s3), some (.int p), some (knD k), none, none, none, none, some (.int (0 + i)), none], .int y, rfl, by simp [e__law_call_1, e, hdn], ⟨as ++ [y], by simp, by simp [hl], fun a ha => ?_⟩, d2, _, rfl, s.le (by omega)⟩
    rcases List.mem_append.mp ha with q | q
    · exact hb a q
    · cases List.mem_singleton.mp q; exact ⟨y0, y1⟩)
  obtain ⟨as, rfl, hal, hab⟩ := hacc
  rw [rgD_len, Nat.zero_add] at hal s2'
  -- the greatest end
  obtain ⟨ρ', e3, q3, rfl⟩ := compF_map (vs := [11]) (f := fName 11) (me := e__law_call_2 K) (fun ρ => ∃ q, ρ = [some d2, some (.lst true (ks.map knD)), some (.lst true (ends.map prD)), some (stD s0 s1 s2 s3), some (.int p), some (knD k), some (.tup (as.map D.int)), none, none, none, none, q]) (gE ends) (as.map D.int) [] [some d2, some (.lst true (ks.map knD)), some (.lst true (ends.map prD)), some (stD s0 s1 s2 s3), some (.int p), some (knD k), some (.tup (as.map D.int)), none, none, none, none, none] ⟨none, rfl⟩ (by rw [List.length_map, szl]; have := ko.p4; simp; omega) (by
    rintro dd hdd ρ ⟨q, rfl⟩
    obtain ⟨a, ha, rfl⟩ := List.mem_map.mp hdd
    obtain ⟨a0, a1⟩ := hab a ha
    obtain ⟨e, he, hx⟩ := ends_at a0 a1
    have hg := max2_ok e
    have hge : gE ends (.int a) = .int (max e.1 e.2) := by
      unfold gE
      dsimp only
      rw [hx]
      rfl
    exact ⟨_, [some d2, some (.lst true (ks.map knD)), some (.lst true (ends.map prD)), some (stD s0 s1 s2 s3), some (.int p), some (knD k), some (.tup (as.map D.int)), none, none, none, none, some (.int a)], rfl, by rw [hge]; simp [e__law_call_2, hx, hg], _, rfl⟩)
  obtain ⟨ms, hms, hml, hmb⟩ : ∃ ms : List Int, (as.map D.int).map (gE ends) = ms.map D.int ∧ ms.length = as.length ∧ ∀ m ∈ ms, 0 ≤ m ∧ m ≤ s3 := by
    clear e2 e3 hal
    induction as with
    | nil => exact ⟨[], rfl, rfl, by simp⟩
    | cons a as ih =>
      obtain ⟨ms, h1, h2, h3⟩ := ih fun b hb => hab b (List.mem_cons_of_mem _ hb)
      obtain ⟨a0, a1⟩ := hab a List.mem_cons_self
      obtain ⟨e, he, hx⟩ := ends_at a0 a1
      have hge : gE ends (.int a) = .int (max e.1 e.2) := by
        unfold gE
        dsimp only
        rw [hx]
        rfl
      refine ⟨max e.1 e.2 :: ms, ?_, by simp [h2], fun m hm => ?_⟩
      · rw [List.map_cons, List.map_cons, h1, hge]; rfl
      · rcases List.mem_cons.mp hm with rfl | hm
        · obtain ⟨b1, b2, b3, b4⟩ := hbd e he
          omega
        · exact h3 m hm
  rw [List.nil_append, hms] at e3
  have hmne : ms ≠ [] := by
    intro z
    subst z
    have := ko.p1
    simp at hml
    omega
  obtain ⟨m, hm, hmm, _⟩ := maxL_in hmne
  have hgm := gMax_ints hm
  obtain ⟨m0, m1⟩ := hmb m hmm
  have cm : CMulA k.big m := cm7 (by omega) (by omega)
  have ko4 := ko.p4
  have b1 : -4611686018427387904 < (k.params : Int) := by omega
  have b2 : (k.params : Int) < 4611686018427387904 := by omega
  have hai := fzL_ints as
  have haf := frzL_ints as
  have e2 : compF [10] (fName 10) tTrue (e__law_call_1 K) (rgD 0 k.params) [] [some d1, some (.lst true (ks.map knD)), some (.lst true (ends.map prD)), some (stD s0 s1 s2 s3), some (.int p), some (knD k), none, none, none, none, none, none] = some (as.map D.int, [some d2, some (.lst true (ks.map knD)), some (.lst true (ends.map prD)), some (stD s0 s1 s2 s3), some (.int p), some (knD k), none, none, none, none, q, none]) := e2
  have start : ∀ R, bkK (sSeq (sIf (tOrM (Se.tB (eV (vOp2 (gCmp fun i j => decide (i > j)) (vOp2 gAdd (vOp2 ixv (vVar 3) (vLit (.int 0))) (vOp2 ixv (vVar 5) (vLit (.int 1)))) (vLit (.int 24))))) (tOrM (Se.tB (eV (vOp2 (gCmp fun i j => decide (i > j)) (vOp2 gAdd (vOp2 gAdd (vOp2 ixv (vVar 3) (vLit (.int 1))) (vOp2 ixv (vVar 5) (vLit (.int 2)))) (vLit (.int 1))) (vLit (.int 58))))) (tOrM (Se.tB (eV (vOp2 (gCmp fun i j => decide (i > j)) (vOp2 gAdd (vOp2 ixv (vVar 3) (vLit (.int 2))) (vOp2 ixv (vVar 5) (vLit (.int 3)))) (vLit (.int 58))))) (Se.tB (eV (vOp2 (gCmp fun i j => decide (i > j)) (vOp2 gMulA (vOp2 ixv (vVar 5) (vLit (.int 4))) (vVar 7)) (vLit (.int 250000)))))))) (sSeq (sRet (eTup (aNil))) (sNil)) (sNil)) (sSeq (sSet (eV (vOp2 gAdd (vOp2 ixv (vVar 3) (vLit (.int 0))) (vOp2 ixv (vVar 5) (vLit (.int 1))))) (pVar 3) (vLit (.int 0))) (sSeq (sSet (eV (vOp2 gAdd (vOp2 gAdd (vOp2 ixv (vVar 3) (vLit (.int 1))) (vOp2 ixv (vVar 5) (vLit (.int 2)))) (vLit (.int 1)))) (pVar 3) (vLit (.int 1))) (sSeq (sSet (eV (vOp2 gAdd (vOp2 ixv (vVar 3) (vLit (.int 2))) (vOp2 ixv (vVar 5) (vLit (.int 3))))) (pVar 3) (vLit (.int 2))) (sSeq (sSet (eV (vOpn gMax (wCons (vOp2 ixv (vVar 3) (vLit (.int 3))) (wCons (vOp2 gMulA (vOp2 ixv (vVar 5) (vLit (.int 4))) (vVar 7)) (wNil))))) (pVar 3) (vLit (.int 3))) (sSeq (sFor (iSq (eOp2 gIx (eVar 5) (eLit (.int 5)))) (fTup (fCons (fName 8) (fCons (fName 9) (fNil)))) (b__law_call_3 K)) (sSeq (sRet (eTup (aCons (eLit (.str [99, 97, 108, 108])) (aCons (eMove 4) (aCons (eMove 6) (aNil)))))) sNil)))))) [some d2, some (.lst true (ks.map knD)), some (.lst true (ends.map prD)), some (stD s0 s1 s2 s3), some (.int p), some (knD k), some (.tup (as.map D.int)), some (.int m), none, none, none, none]) [0, 1, 2, 3] [d, .lst true (ks.map knD), .lst true (ends.map prD), stD s0 s1 s2 s3] = R → F__law_call K [d, .lst true (ks.map knD), .lst true (ends.map prD), stD s0 s1 s2 s3] = R := by
    intro R hR
    unfold F__law_call
    rw [u131]
    show bkK (m__law_call K [some d, some (.lst true (ks.map knD)), some (.lst true (ends.map prD)), some (stD s0 s1 s2 s3), none, none, none, none, none, none, none, none]) _ _ = _
    unfold m__law_call
    refine bk_step (ρ' := [some d1, some (.lst true (ks.map knD)), some (.lst true (ends.map prD)), some (stD s0 s1 s2 s3), some (.int p), none, none, none, none, none, none, none]) (by simp [e1, hd]) ?_
    refine bk_step (ρ' := [some d1, some (.lst true (ks.map knD)), some (.lst true (ends.map prD)), some (stD s0 s1 s2 s3), some (.int p), some (knD k), none, none, none, none, none, none]) (by simp [gIx, hpx, kz]) ?_
    refine bk_step (ρ' := [some d2, some (.lst true (ks.map knD)), some (.lst true (ends.map prD)), some (stD s0 s1 s2 s3), some (.int p), some (knD k), some (.tup (as.map D.int)), none, none, none, none, none]) (by simp [kz, kx0, gIx, rg1_of b1 b2, e2, gTup, hai]) ?_
    refine bk_step (ρ' := [some d2, some (.lst true (ks.map knD)), some (.lst true (ends.map prD)), some (stD s0 s1 s2 s3), some (.int p), some (knD k), some (.tup (as.map D.int)), some (.int m), none, none, none, none]) (by simp [hai, haf, itemsD, e3, hgm]) ?_
    exact hR
  refine ⟨d2, s2'.le (by omega), ?_⟩
  by_cases c1 : s0 + k.hid > 24
  · left; refine start _ ?_; simp [stD, kx1, c1, szl, ixn0]
  by_cases c2 : s1 + k.t + 1 > 58
  · left; refine start _ ?_; simp [stD, kx1, kx2, c1, c2, szl, ixn0, ixn1]
  by_cases c3 : s2 + k.dem > 58
  · left; refine start _ ?_; simp [stD, kx1, kx2, kx3, c1, c2, c3, szl, ixn0, ixn1, ixn2]
  by_cases c4 : k.big * m > 250000
  · left; refine start _ ?_; simp [stD, kx1, kx2, kx3, kx4, c1, c2, c3, c4, cm, szl, ixn0, ixn1, ixn2]
  · right
    have kb := ko.b0
    have hbm := Int.mul_nonneg kb m0
    have kel := ko.el
    have hlen : (ends ++ mulE m k.es).length ≤ ends.length + 4 := by unfold mulE; simp; omega
    obtain ⟨r8, r9, e4⟩ := adds_ok K m0 (by omega) (some d2) (some (.lst true (ks.map knD))) (some (stD (s0 + k.hid) (s1 + k.t + 1) (s2 + k.dem) (max s3 (k.big * m)))) (some (.int p)) (some (knD k)) (some (.tup (as.map D.int))) none none k.es ends none none (by omega)
    obtain ⟨g1, g2, g3⟩ := fz_prs k.es
    refine ⟨p, hp, as, ends ++ mulE m k.es, s0 + k.hid, s2 + k.dem, max s3 (k.big * m), ?_, by rw [hkk]; omega, BD.app (hbd.le (by omega)) ((mul_bd ko.bd kb m0).le (by omega)), by omega, by omega, by simp [hen], hlen⟩
    rw [hkk]
    refine start _ ?_
    refine bk_step (ρ' := [some d2, some (.lst true (ks.map knD)), some (.lst true (ends.map prD)), some (stD s0 s1 s2 s3), some (.int p), some (knD k), some (.tup (as.map D.int)), some (.int m), none, none, none, none]) (by simp [stD, kx1, kx2, kx3, kx4, c1, c2, c3, c4, cm, szl, ixn0, ixn1, ixn2]) ?_
    refine bk_step (ρ' := [some d2, some (.lst true (ks.map knD)), some (.lst true (ends.map prD)), some (stD (s0 + k.hid) s1 s2 s3), some (.int p), some (knD k), some (.tup (as.map D.int)), some (.int m), none, none, none, none]) (by simp [stD, kx1, ixn0, nrm]) ?_
    refine bk_step (ρ' := [some d2, some (.lst true (ks.map knD)), some (.lst true (ends.map prD)), some (stD (s0 + k.hid) (s1 + k.t + 1) s2 s3), some (.int p), some (knD k), some (.tup (as.map D.int)), some (.int m), none, none, none, none]) (by simp [stD, kx2, ixn1, nrm]) ?_
    refine bk_step (ρ' := [some d2, some (.lst true (ks.map knD)), some (.lst true (ends.map prD)), some (stD (s0 + k.hid) (s1 + k.t + 1) (s2 + k.dem) s3), some (.int p), some (knD k), some (.tup (as.map D.int)), some (.int m), none, none, none, none]) (by simp [stD, kx3, ixn2, nrm]) ?_
    refine bk_step (ρ' := [some d2, some (.lst true (ks.map knD)), some (.lst true (ends.map prD)), some (stD (s0 + k.hid) (s1 + k.t + 1) (s2 + k.dem) (max s3 (k.big * m))), some (.int p), some (knD k), some (.tup (as.map D.int)), some (.int m), none, none, none, none]) (by simp [stD, kx4, ixn3, nrm, cm, gMax]; split <;> omega) ?_
    refine bk_step (ρ' := [some d2, some (.lst true (ks.map knD)), some (.lst true ((ends ++ mulE m k.es).map prD)), some (stD (s0 + k.hid) (s1 + k.t + 1) (s2 + k.dem) (max s3 (k.big * m))), some (.int p), some (knD k), some (.tup (as.map D.int)), some (.int m), r8, r9, none, none]) (by simp [kx5, gIx, kz, g1, g3, itemsD, e4]) ?_
    simp [szl]
end K09

namespace K09
open Se PySem
def wordsL : List (List Nat) := [[99, 117, 116], [115, 112, 108, 105, 116], [116, 117, 114, 110], [116, 105, 109, 101, 115], [112, 108, 117, 115], [108, 101, 115, 115], [98, 101, 115, 105, 100, 101], [97, 98, 111, 118, 101], [108, 105, 107, 101], [115, 113, 117, 97, 114, 101]]
theorem late_ok (K : PySem.W.Frag) {ends : List (Int × Int)} {s0 s1 s2 s3 : Int} {w : List Nat} {d d2 : D} {e0 : List (Int × Int)} {a b : Int} (hel : ends.length ≤ 5002) :
    bkK (sSeq (sSet (eOpn gMaxS (aCons (eOp2 gAdd (eLst (aCons (eV (vOp2 gIx (vVar 3) (vLit (.int 3)))) (aNil))) (eLcL 2 [6] (fName 6) (tTrue) (e__law_plain_1 K))) (aNil))) (pVar 3) (vLit (.int 3))) (sSeq (sRet (eTup (aCons (eMove 1) (aCons (eMove 4) (aCons (eMove 5) (aNil)))))) sNil) [some d2, some (.str w), some (.lst true (ends.map prD)), some (stD s0 s1 s2 s3), some (.int a), some (.int b), none]) [0, 2, 3] [d, .str w, .lst true (e0.map prD), stD s0 s1 s2 s3] = .rt (.tup [.str w, .int a, .int b]) [d2, .str w, .lst true (ends.map prD), stD s0 s1 s2 ((mx ends).foldl max s3)] := by
  have e := live_mx (i := 2) (j := 6) (me := e__law_plain_1 K) (env := fun q => [some d2, some (.str w), some (.lst true (ends.map prD)), some (stD s0 s1 s2 s3), some (.int a), some (.int b), q]) (es := ends) (by omega) (fun _ => rfl) (fun _ => rfl) (fun _ => rfl) (fun e => by simp [e__law_plain_1, max2_ok]) none
  have hmx := fzL_ints (mx ends)
  have hml : (mx ends).length = ends.length := by simp [mx]
  have hl : 1 + (mx ends).length ≤ 16777216 := by omega
  have hl2 : (mx ends).length + 1 ≤ 16777216 := by omega
  have hl3 : ends.length ≤ 16777215 := by omega
  have hg : gMaxS [.lst true (.int s3 :: (mx ends).map D.int)] = some (.int ((mx ends).foldl max s3)) := by
    have := gMax_ints (l := s3 :: mx ends) (m := (mx ends).foldl max s3) rfl
    simpa using this
  have hl4 : (mx ends).length < 16777216 := by omega
  have hl5 : 1 + ends.length ≤ 16777216 := by omega
  refine bk_step (ρ' := [some d2, some (.str w), some (.lst true (ends.map prD)), some (stD s0 s1 s2 ((mx ends).foldl max s3)), some (.int a), some (.int b), none]) (by
    have x3 : ixv (stD s0 s1 s2 s3) (.int 3) = some (.int s3) := rfl
    have us : updP (stD s0 s1 s2 s3) [] (leafSet 3 (.int ((mx ends).foldl max s3))) = some (stD s0 s1 s2 ((mx ends).foldl max s3)) := rfl
    simp [x3, us, gIx, e, hmx, szl, hl, hl2, hl3, hl4, hl5, hml, hg]) ?_
  simp [szl]
theorem fold_bd {es : List (Int × Int)} {s3 : Int} (h : BD es 500000) (h0 : 0 ≤ s3) (h1 : s3 ≤ 500000) : BD es ((mx es).foldl max s3) ∧ 0 ≤ (mx es).foldl max s3 ∧ (mx es).foldl max s3 ≤ 500000 := by
  obtain ⟨g1, g2⟩ := foldmax_le (mx es) s3
  have g3 := foldmax_mem (mx es) s3
  refine ⟨fun e he => ?_, by omega, ?_⟩
  · have := g2 _ (List.mem_map.mpr ⟨e, he, rfl⟩)
    obtain ⟨b1, b2, b3, b4⟩ := h e he
    have hm : max e.1 e.2 ≤ (mx es).foldl max s3 := this
    exact ⟨b1, by omega, b3, by omega⟩
  · rcases List.mem_cons.mp g3 with q | q
    · omega
    · exact (h.mx _ q).2
theorem plain_ok (K : PySem.W.Frag) {n : Nat} {d : D} {ends : List (Int × Int)} {s0 s1 s2 s3 : Int} {w : List Nat} (hw : w ∈ wordsL) (h : Pt n d) (hn : n + 100 < 2 ^ 40) (hen : ends ≠ []) (hel : ends.length ≤ 5000) (hbd : BD ends s3) (hb2 : BD ends 250000) (hs0 : 0 ≤ s3) (hs3 : s3 ≤ 500000) (hs32 : 2 ≤ s3) :
    ∃ (d' r : D) (s : S) (ends' : List (Int × Int)) (t3 : Int), F__law_plain K [d, .str w, .lst true (ends.map prD), stD s0 s1 s2 s3] = .rt r [d', .str w, .lst true (ends'.map prD), stD s0 s1 s2 t3] ∧ Pt (n + 2) d' ∧ SD r s ∧ (∀ q, s ≠ .call q) ∧ BD ends' t3 ∧ 2 ≤ t3 ∧ t3 ≤ 500000 ∧ ends' ≠ [] ∧ ends'.length ≤ ends.length + 2 := by
  have hep : 0 < ends.length := List.length_pos_iff.mpr hen
  obtain ⟨a, d1, e1, a0, a1, s1'⟩ := draw_ok K (many := (ends.length : Int)) h (by omega) (by omega) (by omega)
  obtain ⟨b, d2, e2, b0, b1, s2'⟩ := draw_ok K (many := (ends.length : Int)) s1' (by omega) (by omega) (by omega)
  obtain ⟨ea, hea, hxa⟩ := ends_at a0 a1
  obtain ⟨eb, heb, hxb⟩ := ends_at b0 b1
  have hd := h.ne
  have hd1 := s1'.ne
  obtain ⟨fa1, fa2, fa3, fa4⟩ := hbd ea hea
  obtain ⟨ga1, ga2, ga3, ga4⟩ := hb2 ea hea
  obtain ⟨gb1, gb2, gb3, gb4⟩ := hb2 eb heb
  have xa0 : ixv (prD ea) (.int 0) = some (.int ea.1) := rfl
  have xa1 : ixv (prD ea) (.int 1) = some (.int ea.2) := rfl
  have xb0 : ixv (prD eb) (.int 0) = some (.int eb.1) := rfl
  have xb1 : ixv (prD eb) (.int 1) = some (.int eb.2) := rfl
  have hl1 : ends.length < 16777216 := by omega
  have hl2 : ends.length + 1 < 16777216 := by omega
  have hpz : fz (prD ea) = true := rfl
  have hxap : ∀ y : D, ixD (ends.map prD ++ [y]) a = some (prD ea) := by
    intro y
    have ha : a.toNat < (ends.map prD).length := by rw [List.length_map]; omega
    unfold ixD at hxa ⊢
    rw [if_pos a0] at hxa ⊢
    rw [List.getElem?_append_left ha]
    exact hxa
  have start : ∀ R, bkK (sSeq (sIf (Se.tB (eV (vOp2 gEq (vVar 1) (vLit (.str [116, 117, 114, 110]))))) (sSeq (sExpr (eMutQ gmAppend (pVar 2) (wCons (vTup (wCons (vOp2 ixv (vOp2 ixv (vVar 2) (vVar 4)) (vLit (.int 1))) (wCons (vOp2 ixv (vOp2 ixv (vVar 2) (vVar 4)) (vLit (.int 0))) (wNil)))) (wNil)))) (sSeq (sRet (eTup (aCons (eMove 1) (aCons (eMove 4) (aNil))))) (sNil))) (sNil)) (sSeq (sIf (Se.tB (eV (vOp2 gEq (vVar 1) (vLit (.str [99, 117, 116]))))) (sSeq (sExpr (eMutQ gmAppend (pVar 2) (wCons (vTup (wCons (vOp2 ixv (vOp2 ixv (vVar 2) (vVar 4)) (vLit (.int 0))) (wCons (vLit (.int 1)) (wNil)))) (wNil)))) (sSeq (sExpr (eMutQ gmAppend (pVar 2) (wCons (vTup (wCons (vOp2 ixv (vOp2 ixv (vVar 2) (vVar 4)) (vLit (.int 0))) (wCons (vLit (.int 1)) (wNil)))) (wNil)))) (sSeq (sRet (eTup (aCons (eMove 1) (aCons (eMove 4) (aNil))))) (sNil)))) (sNil)) (sSeq (sIf (Se.tB (eV (vOp2 gEq (vVar 1) (vLit (.str [115, 112, 108, 105, 116]))))) (sSeq (sExpr (eMutQ gmAppend (pVar 2) (wCons (vTup (wCons (vLit (.int 1)) (wCons (vOp2 ixv (vOp2 ixv (vVar 2) (vVar 4)) (vLit (.int 1))) (wNil)))) (wNil)))) (sSeq (sExpr (eMutQ gmAppend (pVar 2) (wCons (vTup (wCons (vLit (.int 1)) (wCons (vOp2 ixv (vOp2 ixv (vVar 2) (vVar 4)) (vLit (.int 1))) (wNil)))) (wNil)))) (sSeq (sRet (eTup (aCons (eMove 1) (aCons (eMove 4) (aNil))))) (sNil)))) (sNil)) (sSeq (sIf (Se.tB (eV (vOp2 gEq (vVar 1) (vLit (.str [115, 113, 117, 97, 114, 101]))))) (sSeq (sRet (eTup (aCons (eMove 1) (aCons (eMove 4) (aNil))))) (sNil)) (sNil)) (sSeq (sIf (Se.tB (eV (vOp2 gEq (vVar 1) (vLit (.str [116, 105, 109, 101, 115]))))) (sSeq (sExpr (eMutQ gmAppend (pVar 2) (wCons (vTup (wCons (vOp2 ixv (vOp2 ixv (vVar 2) (vVar 4)) (vLit (.int 0))) (wCons (vOp2 ixv (vOp2 ixv (vVar 2) (vVar 5)) (vLit (.int 1))) (wNil)))) (wNil)))) (sNil)) (sSeq (sIf (tOrM (Se.tB (eV (vOp2 gEq (vVar 1) (vLit (.str [112, 108, 117, 115]))))) (Se.tB (eV (vOp2 gEq (vVar 1) (vLit (.str [108, 101, 115, 115])))))) (sSeq (sExpr (eMutQ gmAppend (pVar 2) (wCons (vOp2 ixv (vVar 2) (vVar 4)) (wNil)))) (sNil)) (sSeq (sIf (Se.tB (eV (vOp2 gEq (vVar 1) (vLit (.str [98, 101, 115, 105, 100, 101]))))) (sSeq (sExpr (eMutQ gmAppend (pVar 2) (wCons (vTup (wCons (vOp2 ixv (vOp2 ixv (vVar 2) (vVar 4)) (vLit (.int 0))) (wCons (vOp2 gAdd (vOp2 ixv (vOp2 ixv (vVar 2) (vVar 4)) (vLit (.int 1))) (vOp2 ixv (vOp2 ixv (vVar 2) (vVar 5)) (vLit (.int 1)))) (wNil)))) (wNil)))) (sNil)) (sSeq (sIf (Se.tB (eV (vOp2 gEq (vVar 1) (vLit (.str [97, 98, 111, 118, 101]))))) (sSeq (sExpr (eMutQ gmAppend (pVar 2) (wCons (vTup (wCons (vOp2 gAdd (vOp2 ixv (vOp2 ixv (vVar 2) (vVar 4)) (vLit (.int 0))) (vOp2 ixv (vOp2 ixv (vVar 2) (vVar 5)) (vLit (.int 0)))) (wCons (vOp2 ixv (vOp2 ixv (vVar 2) (vVar 4)) (vLit (.int 1))) (wNil)))) (wNil)))) (sNil)) (sNil)) (sNil))) (sNil))) (sNil))) (sSeq (sSet (eOpn gMaxS (aCons (eOp2 gAdd (eLst (aCons (eV (vOp2 gIx (vVar 3) (vLit (.int 3)))) (aNil))) (eLcL 2 [6] (fName 6) (tTrue) (e__law_plain_1 K))) (aNil))) (pVar 3) (vLit (.int 3))) (sSeq (sRet (eTup (aCons (eMove 1) (aCons (eMove 4) (aCons (eMove 5) (aNil)))))) sNil)))))) [some d2, some (.str w), some (.lst true (ends.map prD)), some (stD s0 s1 s2 s3), some (.int a), some (.int b), none]) [0, 2, 3] [d, .str w, .lst true (ends.map prD), stD s0 s1 s2 s3] = R → F__law_plain K [d, .str w, .lst true (ends.map prD), stD s0 s1 s2 s3] = R := by
    intro R hR
    unfold F__law_plain
    rw [u131]
    show bkK (m__law_plain K [some d, some (.str w), some (.lst true (ends.map prD)), some (stD s0 s1 s2 s3), none, none, none]) _ _ = _
    unfold m__law_plain
    refine bk_step (ρ' := [some d1, some (.str w), some (.lst true (ends.map prD)), some (stD s0 s1 s2 s3), some (.int a), none, none]) (by simp [e1, hd]) ?_
    refine bk_step (ρ' := [some d2, some (.str w), some (.lst true (ends.map prD)), some (stD s0 s1 s2 s3), some (.int a), some (.int b), none]) (by simp [e2, hd1]) ?_
    exact hR
  -- what comes late
  have late : ∀ (new : List (Int × Int)), new.length ≤ 2 → BD new 500000 → w ≠ wCall → w ≠ wCut → w ≠ wSplit →
      (bkK (sSeq (sIf (Se.tB (eV (vOp2 gEq (vVar 1) (vLit (.str [116, 117, 114, 110]))))) (sSeq (sExpr (eMutQ gmAppend (pVar 2) (wCons (vTup (wCons (vOp2 ixv (vOp2 ixv (vVar 2) (vVar 4)) (vLit (.int 1))) (wCons (vOp2 ixv (vOp2 ixv (vVar 2) (vVar 4)) (vLit (.int 0))) (wNil)))) (wNil)))) (sSeq (sRet (eTup (aCons (eMove 1) (aCons (eMove 4) (aNil))))) (sNil))) (sNil)) (sSeq (sIf (Se.tB (eV (vOp2 gEq (vVar 1) (vLit (.str [99, 117, 116]))))) (sSeq (sExpr (eMutQ gmAppend (pVar 2) (wCons (vTup (wCons (vOp2 ixv (vOp2 ixv (vVar 2) (vVar 4)) (vLit (.int 0))) (wCons (vLit (.int 1)) (wNil)))) (wNil)))) (sSeq (sExpr (eMutQ gmAppend (pVar 2) (wCons (vTup (wCons (vOp2 ixv (vOp2 ixv (vVar 2) (vVar 4)) (vLit (.int 0))) (wCons (vLit (.int 1)) (wNil)))) (wNil)))) (sSeq (sRet (eTup (aCons (eMove 1) (aCons (eMove 4) (aNil))))) (sNil)))) (sNil)) (sSeq (sIf (Se.tB (eV (vOp2 gEq (vVar 1) (vLit (.str [115, 112, 108, 105, 116]))))) (sSeq (sExpr (eMutQ gmAppend (pVar 2) (wCons (vTup (wCons (vLit (.int 1)) (wCons (vOp2 ixv (vOp2 ixv (vVar 2) (vVar 4)) (vLit (.int 1))) (wNil)))) (wNil)))) (sSeq (sExpr (eMutQ gmAppend (pVar 2) (wCons (vTup (wCons (vLit (.int 1)) (wCons (vOp2 ixv (vOp2 ixv (vVar 2) (vVar 4)) (vLit (.int 1))) (wNil)))) (wNil)))) (sSeq (sRet (eTup (aCons (eMove 1) (aCons (eMove 4) (aNil))))) (sNil)))) (sNil)) (sSeq (sIf (Se.tB (eV (vOp2 gEq (vVar 1) (vLit (.str [115, 113, 117, 97, 114, 101]))))) (sSeq (sRet (eTup (aCons (eMove 1) (aCons (eMove 4) (aNil))))) (sNil)) (sNil)) (sSeq (sIf (Se.tB (eV (vOp2 gEq (vVar 1) (vLit (.str [116, 105, 109, 101, 115]))))) (sSeq (sExpr (eMutQ gmAppend (pVar 2) (wCons (vTup (wCons (vOp2 ixv (vOp2 ixv (vVar 2) (vVar 4)) (vLit (.int 0))) (wCons (vOp2 ixv (vOp2 ixv (vVar 2) (vVar 5)) (vLit (.int 1))) (wNil)))) (wNil)))) (sNil)) (sSeq (sIf (tOrM (Se.tB (eV (vOp2 gEq (vVar 1) (vLit (.str [112, 108, 117, 115]))))) (Se.tB (eV (vOp2 gEq (vVar 1) (vLit (.str [108, 101, 115, 115])))))) (sSeq (sExpr (eMutQ gmAppend (pVar 2) (wCons (vOp2 ixv (vVar 2) (vVar 4)) (wNil)))) (sNil)) (sSeq (sIf (Se.tB (eV (vOp2 gEq (vVar 1) (vLit (.str [98, 101, 115, 105, 100, 101]))))) (sSeq (sExpr (eMutQ gmAppend (pVar 2) (wCons (vTup (wCons (vOp2 ixv (vOp2 ixv (vVar 2) (vVar 4)) (vLit (.int 0))) (wCons (vOp2 gAdd (vOp2 ixv (vOp2 ixv (vVar 2) (vVar 4)) (vLit (.int 1))) (vOp2 ixv (vOp2 ixv (vVar 2) (vVar 5)) (vLit (.int 1)))) (wNil)))) (wNil)))) (sNil)) (sSeq (sIf (Se.tB (eV (vOp2 gEq (vVar 1) (vLit (.str [97, 98, 111, 118, 101]))))) (sSeq (sExpr (eMutQ gmAppend (pVar 2) (wCons (vTup (wCons (vOp2 gAdd (vOp2 ixv (vOp2 ixv (vVar 2) (vVar 4)) (vLit (.int 0))) (vOp2 ixv (vOp2 ixv (vVar 2) (vVar 5)) (vLit (.int 0)))) (wCons (vOp2 ixv (vOp2 ixv (vVar 2) (vVar 4)) (vLit (.int 1))) (wNil)))) (wNil)))) (sNil)) (sNil)) (sNil))) (sNil))) (sNil))) (sSeq (sSet (eOpn gMaxS (aCons (eOp2 gAdd (eLst (aCons (eV (vOp2 gIx (vVar 3) (vLit (.int 3)))) (aNil))) (eLcL 2 [6] (fName 6) (tTrue) (e__law_plain_1 K))) (aNil))) (pVar 3) (vLit (.int 3))) (sSeq (sRet (eTup (aCons (eMove 1) (aCons (eMove 4) (aCons (eMove 5) (aNil)))))) sNil)))))) [some d2, some (.str w), some (.lst true (ends.map prD)), some (stD s0 s1 s2 s3), some (.int a), some (.int b), none]) [0, 2, 3] [d, .str w, .lst true (ends.map prD), stD s0 s1 s2 s3] = bkK (sSeq (sSet (eOpn gMaxS (aCons (eOp2 gAdd (eLst (aCons (eV (vOp2 gIx (vVar 3) (vLit (.int 3)))) (aNil))) (eLcL 2 [6] (fName 6) (tTrue) (e__law_plain_1 K))) (aNil))) (pVar 3) (vLit (.int 3))) (sSeq (sRet (eTup (aCons (eMove 1) (aCons (eMove 4) (aCons (eMove 5) (aNil)))))) sNil) [some d2, some (.str w), some (.lst true ((ends ++ new).map prD)), some (stD s0 s1 s2 s3), some (.int a), some (.int b), none]) [0, 2, 3] [d, .str w, .lst true (ends.map prD), stD s0 s1 s2 s3]) →
      ∃ (d' r : D) (s : S) (ends' : List (Int × Int)) (t3 : Int), F__law_plain K [d, .str w, .lst true (ends.map prD), stD s0 s1 s2 s3] = .rt r [d', .str w, .lst true (ends'.map prD), stD s0 s1 s2 t3] ∧ Pt (n + 2) d' ∧ SD r s ∧ (∀ q, s ≠ .call q) ∧ BD ends' t3 ∧ 2 ≤ t3 ∧ t3 ≤ 500000 ∧ ends' ≠ [] ∧ ends'.length ≤ ends.length + 2 := by
    intro new hnl hnb w1 w2 w3 hh
    obtain ⟨q1, q2, q3⟩ := fold_bd (es := ends ++ new) (s3 := s3) (BD.app (hb2.le (by omega)) hnb) hs0 hs3
    refine ⟨d2, .tup [.str w, .int a, .int b], .one, ends ++ new, (mx (ends ++ new)).foldl max s3, start _ (hh.trans (late_ok K (by rw [List.length_append]; omega))), s2', ⟨w, [a, b], w1, w2, w3, rfl⟩, (fun q z => by cases z), q1, ?_, q3, by simp [hen], by rw [List.length_append]; omega⟩
    have := (foldmax_le (mx (ends ++ new)) s3).1
    omega
  -- what comes early
  have early : ∀ (new : List (Int × Int)) (s : S) (r : D), new.length ≤ 2 → BD new s3 → SD r s → (∀ q, s ≠ .call q) →
      (bkK (sSeq (sIf (Se.tB (eV (vOp2 gEq (vVar 1) (vLit (.str [116, 117, 114, 110]))))) (sSeq (sExpr (eMutQ gmAppend (pVar 2) (wCons (vTup (wCons (vOp2 ixv (vOp2 ixv (vVar 2) (vVar 4)) (vLit (.int 1))) (wCons (vOp2 ixv (vOp2 ixv (vVar 2) (vVar 4)) (vLit (.int 0))) (wNil)))) (wNil)))) (sSeq (sRet (eTup (aCons (eMove 1) (aCons (eMove 4) (aNil))))) (sNil))) (sNil)) (sSeq (sIf (Se.tB (eV (vOp2 gEq (vVar 1) (vLit (.str [99, 117, 116]))))) (sSeq (sExpr (eMutQ gmAppend (pVar 2) (wCons (vTup (wCons (vOp2 ixv (vOp2 ixv (vVar 2) (vVar 4)) (vLit (.int 0))) (wCons (vLit (.int 1)) (wNil)))) (wNil)))) (sSeq (sExpr (eMutQ gmAppend (pVar 2) (wCons (vTup (wCons (vOp2 ixv (vOp2 ixv (vVar 2) (vVar 4)) (vLit (.int 0))) (wCons (vLit (.int 1)) (wNil)))) (wNil)))) (sSeq (sRet (eTup (aCons (eMove 1) (aCons (eMove 4) (aNil))))) (sNil)))) (sNil)) (sSeq (sIf (Se.tB (eV (vOp2 gEq (vVar 1) (vLit (.str [115, 112, 108, 105, 116]))))) (sSeq (sExpr (eMutQ gmAppend (pVar 2) (wCons (vTup (wCons (vLit (.int 1)) (wCons (vOp2 ixv (vOp2 ixv (vVar 2) (vVar 4)) (vLit (.int 1))) (wNil)))) (wNil)))) (sSeq (sExpr (eMutQ gmAppend (pVar 2) (wCons (vTup (wCons (vLit (.int 1)) (wCons (vOp2 ixv (vOp2 ixv (vVar 2) (vVar 4)) (vLit (.int 1))) (wNil)))) (wNil)))) (sSeq (sRet (eTup (aCons (eMove 1) (aCons (eMove 4) (aNil))))) (sNil)))) (sNil)) (sSeq (sIf (Se.tB (eV (vOp2 gEq (vVar 1) (vLit (.str [115, 113, 117, 97, 114, 101]))))) (sSeq (sRet (eTup (aCons (eMove 1) (aCons (eMove 4) (aNil))))) (sNil)) (sNil)) (sSeq (sIf (Se.tB (eV (vOp2 gEq (vVar 1) (vLit (.str [116, 105, 109, 101, 115]))))) (sSeq (sExpr (eMutQ gmAppend (pVar 2) (wCons (vTup (wCons (vOp2 ixv (vOp2 ixv (vVar 2) (vVar 4)) (vLit (.int 0))) (wCons (vOp2 ixv (vOp2 ixv (vVar 2) (vVar 5)) (vLit (.int 1))) (wNil)))) (wNil)))) (sNil)) (sSeq (sIf (tOrM (Se.tB (eV (vOp2 gEq (vVar 1) (vLit (.str [112, 108, 117, 115]))))) (Se.tB (eV (vOp2 gEq (vVar 1) (vLit (.str [108, 101, 115, 115])))))) (sSeq (sExpr (eMutQ gmAppend (pVar 2) (wCons (vOp2 ixv (vVar 2) (vVar 4)) (wNil)))) (sNil)) (sSeq (sIf (Se.tB (eV (vOp2 gEq (vVar 1) (vLit (.str [98, 101, 115, 105, 100, 101]))))) (sSeq (sExpr (eMutQ gmAppend (pVar 2) (wCons (vTup (wCons (vOp2 ixv (vOp2 ixv (vVar 2) (vVar 4)) (vLit (.int 0))) (wCons (vOp2 gAdd (vOp2 ixv (vOp2 ixv (vVar 2) (vVar 4)) (vLit (.int 1))) (vOp2 ixv (vOp2 ixv (vVar 2) (vVar 5)) (vLit (.int 1)))) (wNil)))) (wNil)))) (sNil)) (sSeq (sIf (Se.tB (eV (vOp2 gEq (vVar 1) (vLit (.str [97, 98, 111, 118, 101]))))) (sSeq (sExpr (eMutQ gmAppend (pVar 2) (wCons (vTup (wCons (vOp2 gAdd (vOp2 ixv (vOp2 ixv (vVar 2) (vVar 4)) (vLit (.int 0))) (vOp2 ixv (vOp2 ixv (vVar 2) (vVar 5)) (vLit (.int 0)))) (wCons (vOp2 ixv (vOp2 ixv (vVar 2) (vVar 4)) (vLit (.int 1))) (wNil)))) (wNil)))) (sNil)) (sNil)) (sNil))) (sNil))) (sNil))) (sSeq (sSet (eOpn gMaxS (aCons (eOp2 gAdd (eLst (aCons (eV (vOp2 gIx (vVar 3) (vLit (.int 3)))) (aNil))) (eLcL 2 [6] (fName 6) (tTrue) (e__law_plain_1 K))) (aNil))) (pVar 3) (vLit (.int 3))) (sSeq (sRet (eTup (aCons (eMove 1) (aCons (eMove 4) (aCons (eMove 5) (aNil)))))) sNil)))))) [some d2, some (.str w), some (.lst true (ends.map prD)), some (stD s0 s1 s2 s3), some (.int a), some (.int b), none]) [0, 2, 3] [d, .str w, .lst true (ends.map prD), stD s0 s1 s2 s3] = .rt r [d2, .str w, .lst true ((ends ++ new).map prD), stD s0 s1 s2 s3]) →
      ∃ (d' r : D) (s : S) (ends' : List (Int × Int)) (t3 : Int), F__law_plain K [d, .str w, .lst true (ends.map prD), stD s0 s1 s2 s3] = .rt r [d', .str w, .lst true (ends'.map prD), stD s0 s1 s2 t3] ∧ Pt (n + 2) d' ∧ SD r s ∧ (∀ q, s ≠ .call q) ∧ BD ends' t3 ∧ 2 ≤ t3 ∧ t3 ≤ 500000 ∧ ends' ≠ [] ∧ ends'.length ≤ ends.length + 2 := by
    intro new s r hnl hnb hr hs hh
    exact ⟨d2, r, s, ends ++ new, s3, start _ hh, s2', hr, hs, BD.app hbd hnb, hs32, hs3, by simp [hen], by rw [List.length_append]; omega⟩
  have one : ∀ {x y B : Int}, 0 ≤ x → x ≤ B → 0 ≤ y → y ≤ B → BD [(x, y)] B := fun h1 h2 h3 h4 e he => by
    cases List.mem_singleton.mp he
    exact ⟨h1, h2, h3, h4⟩
  have two : ∀ {x y x' y' B : Int}, 0 ≤ x → x ≤ B → 0 ≤ y → y ≤ B → 0 ≤ x' → x' ≤ B → 0 ≤ y' → y' ≤ B → BD [(x, y), (x', y')] B := fun h1 h2 h3 h4 h5 h6 h7 h8 e he => by
    rcases List.mem_cons.mp he with rfl | he
    · exact ⟨h1, h2, h3, h4⟩
    · cases List.mem_singleton.mp he
      exact ⟨h5, h6, h7, h8⟩
  unfold wordsL at hw
  simp only [List.mem_cons, List.not_mem_nil, or_false] at hw
  rcases hw with rfl | rfl | rfl | rfl | rfl | rfl | rfl | rfl | rfl | rfl
  · exact early [(ea.1, 1), (ea.1, 1)] .two (.tup [.str [99, 117, 116], .int a]) (by simp) (two fa1 fa2 (by omega) (by omega) fa1 fa2 (by omega) (by omega)) ⟨[99, 117, 116], [a], .inl rfl, rfl⟩ (fun q z => by cases z) (by simp [hxa, hxb, xa0, xa1, xb0, xb1, hxap, hl1, hl2, szl, hpz, ixn0, ixn1, prD])
  · exact early [(1, ea.2), (1, ea.2)] .two (.tup [.str [115, 112, 108, 105, 116], .int a]) (by simp) (two (by omega) (by omega) fa3 fa4 (by omega) (by omega) fa3 fa4) ⟨[115, 112, 108, 105, 116], [a], .inr rfl, rfl⟩ (fun q z => by cases z) (by simp [hxa, hxb, xa0, xa1, xb0, xb1, hxap, hl1, hl2, szl, hpz, ixn0, ixn1, prD])
  · exact early [(ea.2, ea.1)] .one (.tup [.str [116, 117, 114, 110], .int a]) (by simp) (one fa3 fa4 fa1 fa2) ⟨[116, 117, 114, 110], [a], by decide, by decide, by decide, rfl⟩ (fun q z => by cases z) (by simp [hxa, hxb, xa0, xa1, xb0, xb1, hxap, hl1, hl2, szl, hpz, ixn0, ixn1, prD])
  · exact late [(ea.1, eb.2)] (by simp) (one (by omega) (by omega) (by omega) (by omega)) (by decide) (by decide) (by decide) (by simp only [u2]; simp [hxa, hxb, xa0, xa1, xb0, xb1, hxap, hl1, hl2, szl, hpz, ixn0, ixn1, prD])
  · exact late [ea] (by simp) (one (x := ea.1) (y := ea.2) (by omega) (by omega) (by omega) (by omega)) (by decide) (by decide) (by decide) (by simp only [u2]; simp [hxa, hxb, xa0, xa1, xb0, xb1, hxap, hl1, hl2, szl, hpz, ixn0, ixn1, prD])
  · exact late [ea] (by simp) (one (x := ea.1) (y := ea.2) (by omega) (by omega) (by omega) (by omega)) (by decide) (by decide) (by decide) (by simp only [u2]; simp [hxa, hxb, xa0, xa1, xb0, xb1, hxap, hl1, hl2, szl, hpz, ixn0, ixn1, prD])
  · exact late [(ea.1, ea.2 + eb.2)] (by simp) (one (by omega) (by omega) (by omega) (by omega)) (by decide) (by decide) (by decide) (by simp only [u2]; simp [hxa, hxb, xa0, xa1, xb0, xb1, hxap, hl1, hl2, szl, hpz, ixn0, ixn1, prD])
  · exact late [(ea.1 + eb.1, ea.2)] (by simp) (one (by omega) (by omega) (by omega) (by omega)) (by decide) (by decide) (by decide) (by simp only [u2]; simp [hxa, hxb, xa0, xa1, xb0, xb1, hxap, hl1, hl2, szl, hpz, ixn0, ixn1, prD])
  · exact late [] (by simp) (by intro e he; cases he) (by decide) (by decide) (by decide) (by simp only [u2]; simp [hxa, hxb, xa0, xa1, xb0, xb1, hxap, hl1, hl2, szl, hpz, ixn0, ixn1, prD])
  · exact early [] .one (.tup [.str [115, 113, 117, 97, 114, 101], .int a]) (by simp) (by intro e he; cases he) ⟨[115, 113, 117, 97, 114, 101], [a], by decide, by decide, by decide, rfl⟩ (fun q z => by cases z) (by simp [hxa, hxb, xa0, xa1, xb0, xb1, hxap, hl1, hl2, szl, hpz, ixn0, ixn1, prD])
end K09

namespace K09
open Se PySem
def EP (d : D) (ks : List Kn) (st pa : Int) (ends : List (Int × Int)) (s0 s1 s2 s3 : Int) (sds : List D) (q8 q10 q11 q12 : Option D) : Se.Env := [some d, some (.lst true (ks.map knD)), some (.int st), some (.int pa), some (.lst true (ends.map prD)), some (stD s0 s1 s2 s3), some (.lst true (wordsL.map .str)), some (.lst true sds), q8, none, q10, q11, q12, none, none]
def restP (K : PySem.W.Frag) : MS := sSeq (sIf (Se.tB (eV (vOp2 (gCmp fun i j => decide (i > j)) (vVar 10) (vLit (.int 9))))) (sSeq (sAsg 12 (eCall 4 (F__law_call K) (bBor 0 (bBor 1 (bBor 4 (bBor 5 (bNil))))))) (sSeq (sIf (tV (vVar 12)) (sSeq (sExpr (eMut gmAppend (pVar 7) (aCons (eVar 12) (aNil)))) (sNil)) (sNil)) (sSeq (sCont) (sNil)))) (sNil)) (sSeq (sAsg 11 (eV (vOp2 gIx (vVar 6) (vVar 10)))) (sSeq (sIf (tAndM (Se.tB (eV (vOp2 (gCmp fun i j => decide (i < j)) (vVar 10) (vLit (.int 2))))) (Se.tB (eV (vOp2 (gCmp fun i j => decide (i > j)) (vOp2 gAdd (vOp2 ixv (vVar 5) (vLit (.int 0))) (vLit (.int 2))) (vLit (.int 24)))))) (sSeq (sCont) (sNil)) (sNil)) (sSeq (sIf (tOrM (Se.tB (eV (vOp2 (gCmp fun i j => decide (i > j)) (vOp2 gAdd (vOp2 ixv (vVar 5) (vLit (.int 1))) (vLit (.int 1))) (vLit (.int 60))))) (tOrM (Se.tB (eV (vOp2 (gCmp fun i j => decide (i > j)) (vOp2 gAdd (vOp2 ixv (vVar 5) (vLit (.int 2))) (vLit (.int 2))) (vLit (.int 60))))) (Se.tB (eOp2 (gCmp fun i j => decide (i > j)) (eOpn gMaxS (aCons (eLcL 4 [14] (fName 14) (tTrue) (e__law_procedure_1 K)) (aNil))) (eLit (.int 250000)))))) (sSeq (sCont) (sNil)) (sNil)) (sSeq (sExpr (eMut gmAppend (pVar 7) (aCons (eCall 4 (F__law_plain K) (bBor 0 (bVal (eVar 11) (bBor 4 (bBor 5 (bNil)))))) (aNil)))) (sSeq (sSet (eV (vOp2 gAdd (vOp2 ixv (vVar 5) (vLit (.int 0))) (vOp2 gMulA (vLit (.int 2)) (vOpn gInt (wCons (vOp2 (gCmp fun i j => decide (i < j)) (vVar 10) (vLit (.int 2))) (wNil)))))) (pVar 5) (vLit (.int 0))) (sSeq (sSet (eV (vOp2 gAdd (vOp2 ixv (vVar 5) (vLit (.int 1))) (vLit (.int 1)))) (pVar 5) (vLit (.int 1))) (sSeq (sSet (eOp2 gAdd (eV (vOp2 gIx (vVar 5) (vLit (.int 2)))) (eOp2 gIx (eLst (aCons (eLit (.int 1)) (aCons (eLit (.int 1)) (aCons (eLit (.int 0)) (aCons (eLit (.int 1)) (aCons (eLit (.int 2)) (aCons (eLit (.int 2)) (aCons (eLit (.int 1)) (aCons (eLit (.int 1)) (aCons (eLit (.int 2)) (aCons (eLit (.int 1)) (aNil)))))))))))) (eVar 10))) (pVar 5) (vLit (.int 2))) sNil)))))))
theorem bp_eq (K : PySem.W.Frag) : b__law_procedure_2 K = sSeq (sAsg 10 (eCall 2 (F__law_draw K) (bBor 0 (bVal (eV (vOp2 gAdd (vLit (.int 10)) (vOp2 gMulA (vLit (.int 3)) (vOpn gMin (wCons (vLit (.int 1)) (wCons (vOpn gLen (wCons (vVar 1) (wNil))) (wNil))))))) (bNil))))) (sSeq (sIf (tAndM (Se.tB (eV (vOp2 gEq (vVar 8) (vLit (.int 0))))) (tNotM (tV (vVar 1)))) (sSeq (sAsg 10 (eV (vOp2 gMod (vOpn gInt (wCons (vVar 10) (wNil))) (vLit (.int 2))))) (sNil)) (sSeq (sIf (tAndM (Se.tB (eV (vOp2 gEq (vVar 8) (vLit (.int 0))))) (Se.tB (eOp2 gEq (eCall 2 (F__law_draw K) (bBor 0 (bVal (eLit (.int 2)) (bNil)))) (eLit (.int 0))))) (sSeq (sAsg 10 (eLit (.int 10))) (sNil)) (sNil)) (sNil))) (restP K)) := rfl
theorem u2' {m n : MS} {ρ : Se.Env} : sSeq m n ρ = seqK (m ρ) n := (rfl)
theorem tcs_app (T : Nat → Nat) : ∀ (a b : List S), tcs T (a ++ b) = tcs T a + tcs T b
  | [], b => by simp [tcs]
  | .call q :: a, b => by
    show 1 + T q + tcs T (a ++ b) = 1 + T q + tcs T a + tcs T b
    rw [tcs_app T a b]; omega
  | .two :: a, b => by
    show 1 + tcs T (a ++ b) = 1 + tcs T a + tcs T b
    rw [tcs_app T a b]; omega
  | .one :: a, b => by
    show 1 + tcs T (a ++ b) = 1 + tcs T a + tcs T b
    rw [tcs_app T a b]; omega
theorem first_ok (K : PySem.W.Frag) {n : Nat} {d : D} {ks : List Kn} (h : Pt n d) (hn : n + 100 < 2 ^ 40) (hkl : ks.length ≤ 100) (i : Nat) (st pa : Int) (ends : List (Int × Int)) (s0 s1 s2 s3 : Int) (sds : List D) (q10 q11 q12 : Option D) :
    ∃ (d' : D) (pl : Int), Pt (n + 2) d' ∧ 0 ≤ pl ∧ pl < 13 ∧ (pl > 9 → ks ≠ []) ∧ b__law_procedure_2 K (EP d ks st pa ends s0 s1 s2 s3 sds (some (.int (i : Int))) q10 q11 q12) = restP K (EP d' ks st pa ends s0 s1 s2 s3 sds (some (.int (i : Int))) (some (.int pl)) q11 q12) := by
  have hd := h.ne
  have c3 : ∀ z : Int, CMulA 3 z := fun z => cm8 (by decide) (by decide)
  cases ks with
  | nil =>
    obtain ⟨x, d1, e1, x0, x1, s1'⟩ := draw_ok K (many := 10) h (by omega) (by omega) (by omega)
    have hd1 := s1'.ne
    have e0 : ∀ R, restP K (EP d1 [] st pa ends s0 s1 s2 s3 sds (some (.int (i : Int))) (some (.int (if i = 0 then x % 2 else x))) q11 q12) = R → b__law_procedure_2 K (EP d [] st pa ends s0 s1 s2 s3 sds (some (.int (i : Int))) q10 q11 q12) = R := by
      intro R hR
      rw [bp_eq]
      refine sq_step (ρ' := EP d1 [] st pa ends s0 s1 s2 s3 sds (some (.int (i : Int))) (some (.int x)) q11 q12) (by simp [EP, gMin, c3, e1, hd]) ?_
      refine sq_step (ρ' := EP d1 [] st pa ends s0 s1 s2 s3 sds (some (.int (i : Int))) (some (.int (if i = 0 then x % 2 else x))) q11 q12) ?_ hR
      by_cases hi : i = 0
      · subst hi; simp [EP, L2.CDiv]
      · simp [EP, hi]
    refine ⟨d1, if i = 0 then x % 2 else x, s1'.le (by omega), ?_, ?_, ?_, e0 _ rfl⟩
    · split
      · exact Int.emod_nonneg _ (by decide)
      · exact x0
    · split
      · have := Int.emod_lt_of_pos x (b := 2) (by decide); omega
      · omega
    · intro hh; exfalso
      split at hh
      · have := Int.emod_lt_of_pos x (b := 2) (by decide); omega
      · omega
  | cons k ks =>
    obtain ⟨x, d1, e1, x0, x1, s1'⟩ := draw_ok K (many := 13) h (by omega) (by omega) (by omega)
    obtain ⟨y, d2, e2, y0, y1, s2'⟩ := draw_ok K (many := 2) s1' (by omega) (by omega) (by omega)
    have hd1 := s1'.ne
    have hlk : ¬ ((ks.length : Int) + 1 < 1) := by omega
    have hlk2 : ¬ ((ks.length : Int) < 0) := by omega
    obtain ⟨z1, z2⟩ := fz_kn ks
    by_cases hi : i = 0
    · subst hi
      refine ⟨d2, if y = 0 then 10 else x, s2', by split <;> omega, by split <;> omega, fun _ => by simp, ?_⟩
      rw [bp_eq]
      refine sq_step (ρ' := EP d1 (k :: ks) st pa ends s0 s1 s2 s3 sds (some (.int ((0 : Nat) : Int))) (some (.int x)) q11 q12) (by simp [EP, gMin, c3, e1, hd, hlk, hlk2]) ?_
      refine sq_step (ρ' := EP d2 (k :: ks) st pa ends s0 s1 s2 s3 sds (some (.int ((0 : Nat) : Int))) (some (.int (if y = 0 then 10 else x))) q11 q12) ?_ rfl
      by_cases hy : y = 0
      · subst hy; simp [EP, e2, hd1]
      · simp [EP, e2, hd1, hy]
    · refine ⟨d1, x, s1'.le (by omega), x0, x1, fun _ => by simp, ?_⟩
      rw [bp_eq]
      refine sq_step (ρ' := EP d1 (k :: ks) st pa ends s0 s1 s2 s3 sds (some (.int (i : Int))) (some (.int x)) q11 q12) (by simp [EP, gMin, c3, e1, hd, hlk, hlk2]) ?_
      refine sq_step (ρ' := EP d1 (k :: ks) st pa ends s0 s1 s2 s3 sds (some (.int (i : Int))) (some (.int x)) q11 q12) ?_ rfl
      simp [EP, hi]
/-- what holds at the loop's head -/
def IP (ks : List Kn) (n : Nat) (st pa : Int) (i : Nat) (ρ : Se.Env) : Prop := ∃ (d : D) (ends : List (Int × Int)) (s0 s2 s3 : Int) (t : Nat) (sds : List D) (ss : List S) (q8 q10 q11 q12 : Option D), ρ = EP d ks st pa ends s0 (t : Int) s2 s3 sds q8 q10 q11 q12 ∧ Pt (n + 20 * i) d ∧ SDs sds ss ∧ t = tcs (fun q => (ks.map (·.t)).getD q 0) ss ∧ t ≤ 60 ∧ (∀ q, S.call q ∈ ss → q < ks.length) ∧ ends ≠ [] ∧ ends.length ≤ 10 + 4 * i ∧ BD ends s3 ∧ 2 ≤ s3 ∧ s3 ≤ 500000
theorem step_ok (K : PySem.W.Frag) {n : Nat} {ks : List Kn} (hn : n + 1000 < 2 ^ 40) (hk : ∀ k ∈ ks, KOk k) (hkl : ks.length ≤ 100) (st pa : Int) {i : Nat} (hi : i ≤ 30) {ρ : Se.Env} (h : IP ks n st pa i ρ) :
    ∃ ρ1 ρ2, fName 8 (.int ((0 : Int) + i)) ρ = some ρ1 ∧ (b__law_procedure_2 K ρ1 = .nx ρ2 ∨ b__law_procedure_2 K ρ1 = .ct ρ2) ∧ IP ks n st pa (i + 1) ρ2 := by
  obtain ⟨d, ends, s0, s2, s3, t, sds, ss, q8, q10, q11, q12, rfl, hP, hS, ht, ht60, hq, hen, hel, hbd, h2, h3⟩ := h
  have ei : (0 : Int) + i = i := by omega
  rw [ei]
  refine ⟨EP d ks st pa ends s0 t s2 s3 sds (some (.int (i : Int))) q10 q11 q12, ?_⟩
  obtain ⟨d1, pl, hP1, p0, p13, p9, e0⟩ := first_ok K hP (by omega) hkl i st pa ends s0 t s2 s3 sds q10 q11 q12
  rw [e0]
  have hsl := hS.len
  have htl := tcs_len (fun q => (ks.map (·.t)).getD q 0) ss
  have hsd : sds.length < 16777216 := by omega
  have hd1 := hP1.ne
  obtain ⟨kz1, kz2⟩ := fz_kn ks
  obtain ⟨ez1, ez2, ez3⟩ := fz_prs ends
  have hstn : ne (stD s0 t s2 s3) = true := rfl
  have again : ∀ (d' : D) (q10 q11 q12 : Option D), Pt (n + 20 * i + 10) d' → IP ks n st pa (i + 1) (EP d' ks st pa ends s0 t s2 s3 sds (some (.int (i : Int))) q10 q11 q12) := fun d' q10 q11 q12 hd' => ⟨d', ends, s0, s2, s3, t, sds, ss, _, _, _, _, rfl, hd'.le (by omega), hS, ht, ht60, hq, hen, by omega, hbd, h2, h3⟩
  have tr0 : truD (.tup []) = some false := rfl
  have tr1 : ∀ a b, truD (.tup (a :: b)) = some true := fun _ _ => rfl
  by_cases c9 : pl > 9
  · -- a call
    obtain ⟨d2, hP2, hr⟩ := call_ok K (s0 := s0) (s1 := t) (s2 := s2) hP1 (by omega) hk (p9 c9) hkl hen (by omega) hbd (by omega) h3
    rcases hr with e | ⟨p, hp, as, ends', t0, t2, t3, e, u1, u2, u3, u4, u5, u6⟩
    · refine ⟨EP d2 ks st pa ends s0 t s2 s3 sds (some (.int (i : Int))) (some (.int pl)) q11 (some (.tup [])), rfl, .inr ?_, again _ _ _ _ (hP2.le (by omega))⟩
      unfold restP
      rw [K09.u2']
      have : (sIf (Se.tB (eV (vOp2 (gCmp fun i j => decide (i > j)) (vVar 10) (vLit (.int 9))))) (sSeq (sAsg 12 (eCall 4 (F__law_call K) (bBor 0 (bBor 1 (bBor 4 (bBor 5 (bNil))))))) (sSeq (sIf (tV (vVar 12)) (sSeq (sExpr (eMut gmAppend (pVar 7) (aCons (eVar 12) (aNil)))) (sNil)) (sNil)) (sSeq (sCont) (sNil)))) (sNil)) (EP d1 ks st pa ends s0 t s2 s3 sds (some (.int (i : Int))) (some (.int pl)) q11 q12) = .ct (EP d2 ks st pa ends s0 t s2 s3 sds (some (.int (i : Int))) (some (.int pl)) q11 (some (.tup []))) := by
        simp [EP, c9, e, hd1, kz2, ez2, hstn, tr0]
      rw [this]
      rfl
    · have hz := fzL_ints as
      refine ⟨EP d2 ks st pa ends' t0 ((t + ks[p].t + 1 : Nat) : Int) t2 t3 (sds ++ [.tup [.str wCall, .int p, .tup (as.map .int)]]) (some (.int (i : Int))) (some (.int pl)) q11 (some (.tup [.str wCall, .int p, .tup (as.map .int)])), rfl, .inr ?_, d2, ends', t0, t2, t3, t + ks[p].t + 1, _, ss ++ [.call p], _, _, _, _, rfl, hP2.le (by omega), hS.app (ds' := [.tup [.str wCall, .int p, .tup (as.map .int)]]) (ss' := [.call p]) ⟨⟨as, rfl⟩, trivial⟩, ?_, by omega, fun q hm => ?_, u5, by omega, u2, by omega, u4⟩
      · unfold restP
        rw [K09.u2']
        have ec : (t : Int) + (ks[p].t : Int) + 1 = ((t + ks[p].t + 1 : Nat) : Int) := by omega
        rw [ec] at e
        have : (sIf (Se.tB (eV (vOp2 (gCmp fun i j => decide (i > j)) (vVar 10) (vLit (.int 9))))) (sSeq (sAsg 12 (eCall 4 (F__law_call K) (bBor 0 (bBor 1 (bBor 4 (bBor 5 (bNil))))))) (sSeq (sIf (tV (vVar 12)) (sSeq (sExpr (eMut gmAppend (pVar 7) (aCons (eVar 12) (aNil)))) (sNil)) (sNil)) (sSeq (sCont) (sNil)))) (sNil)) (EP d1 ks st pa ends s0 t s2 s3 sds (some (.int (i : Int))) (some (.int pl)) q11 q12) = .ct (EP d2 ks st pa ends' t0 ((t + ks[p].t + 1 : Nat) : Int) t2 t3 (sds ++ [.tup [.str wCall, .int p, .tup (as.map .int)]]) (some (.int (i : Int))) (some (.int pl)) q11 (some (.tup [.str wCall, .int p, .tup (as.map .int)]))) := by
          generalize ((t + ks[p].t + 1 : Nat) : Int) = TT at *
          simp [EP, c9, e, hd1, kz2, ez2, hstn, hz, szl, hsd, tr1]
        rw [this]
        rfl
      · rw [tcs_app, ← ht]
        show _ = t + (1 + (ks.map (·.t)).getD p 0 + 0)
        simp [List.getD, hp]
        omega
      · rcases List.mem_append.mp hm with z | z
        · exact hq q z
        · cases List.mem_singleton.mp z; exact hp
  · -- a plain one
    obtain ⟨j, rfl⟩ : ∃ j : Nat, pl = j := ⟨pl.toNat, by omega⟩
    have hj : j < wordsL.length := by show j < 10; omega
    have hw : wordsL[j] ∈ wordsL := List.getElem_mem hj
    have hwx : ixD (wordsL.map D.str) (j : Int) = some (.str wordsL[j]) := by
      unfold ixD; rw [if_pos (by omega)]; simp [hj]
    generalize wordsL[j] = w at hw hwx
    have hj2 : j < ([1, 1, 0, 1, 2, 2, 1, 1, 2, 1] : List Int).length := by show j < 10; omega
    have hv := ixI hj2
    generalize ([1, 1, 0, 1, 2, 2, 1, 1, 2, 1] : List Int)[j] = v at hv
    simp only [List.map_cons, List.map_nil] at hv
    have x0 : ∀ a b c e : Int, ixv (stD a b c e) (.int 0) = some (.int a) := fun _ _ _ _ => rfl
    have x1 : ∀ a b c e : Int, ixv (stD a b c e) (.int 1) = some (.int b) := fun _ _ _ _ => rfl
    have x2 : ∀ a b c e : Int, ixv (stD a b c e) (.int 2) = some (.int c) := fun _ _ _ _ => rfl
    have y0 : ∀ a b c e z : Int, updP (stD a b c e) [] (leafSet 0 (.int z)) = some (stD z b c e) := fun _ _ _ _ _ => rfl
    have y1 : ∀ a b c e z : Int, updP (stD a b c e) [] (leafSet 1 (.int z)) = some (stD a z c e) := fun _ _ _ _ _ => rfl
    have y2 : ∀ a b c e z : Int, updP (stD a b c e) [] (leafSet 2 (.int z)) = some (stD a b z e) := fun _ _ _ _ _ => rfl
    have wz := fzL_strs wordsL
    have s3' : (sAsg 11 (eV (vOp2 gIx (vVar 6) (vVar 10)))) (EP d1 ks st pa ends s0 t s2 s3 sds (some (.int (i : Int))) (some (.int (j : Int))) q11 q12) = .nx (EP d1 ks st pa ends s0 t s2 s3 sds (some (.int (i : Int))) (some (.int (j : Int))) (some (.str w)) q12) := by
      simp [EP, hwx, gIx]
    have skip : ∀ m2 : MS, (sIf (Se.tB (eV (vOp2 (gCmp fun i j => decide (i > j)) (vVar 10) (vLit (.int 9))))) (sSeq (sAsg 12 (eCall 4 (F__law_call K) (bBor 0 (bBor 1 (bBor 4 (bBor 5 (bNil))))))) (sSeq (sIf (tV (vVar 12)) (sSeq (sExpr (eMut gmAppend (pVar 7) (aCons (eVar 12) (aNil)))) (sNil)) (sNil)) (sSeq (sCont) (sNil)))) (sNil)) (EP d1 ks st pa ends s0 t s2 s3 sds (some (.int (i : Int))) (some (.int (j : Int))) q11 q12) = .nx (EP d1 ks st pa ends s0 t s2 s3 sds (some (.int (i : Int))) (some (.int (j : Int))) q11 q12) := by
      intro _
      simp [EP, c9]
    -- three ways to pass on
    have pass : ∀ R, sSeq (sIf (tAndM (Se.tB (eV (vOp2 (gCmp fun i j => decide (i < j)) (vVar 10) (vLit (.int 2))))) (Se.tB (eV (vOp2 (gCmp fun i j => decide (i > j)) (vOp2 gAdd (vOp2 ixv (vVar 5) (vLit (.int 0))) (vLit (.int 2))) (vLit (.int 24)))))) (sSeq (sCont) (sNil)) (sNil)) (sSeq (sIf (tOrM (Se.tB (eV (vOp2 (gCmp fun i j => decide (i > j)) (vOp2 gAdd (vOp2 ixv (vVar 5) (vLit (.int 1))) (vLit (.int 1))) (vLit (.int 60))))) (tOrM (Se.tB (eV (vOp2 (gCmp fun i j => decide (i > j)) (vOp2 gAdd (vOp2 ixv (vVar 5) (vLit (.int 2))) (vLit (.int 2))) (vLit (.int 60))))) (Se.tB (eOp2 (gCmp fun i j => decide (i > j)) (eOpn gMaxS (aCons (eLcL 4 [14] (fName 14) (tTrue) (e__law_procedure_1 K)) (aNil))) (eLit (.int 250000)))))) (sSeq (sCont) (sNil)) (sNil)) (sSeq (sExpr (eMut gmAppend (pVar 7) (aCons (eCall 4 (F__law_plain K) (bBor 0 (bVal (eVar 11) (bBor 4 (bBor 5 (bNil)))))) (aNil)))) (sSeq (sSet (eV (vOp2 gAdd (vOp2 ixv (vVar 5) (vLit (.int 0))) (vOp2 gMulA (vLit (.int 2)) (vOpn gInt (wCons (vOp2 (gCmp fun i j => decide (i < j)) (vVar 10) (vLit (.int 2))) (wNil)))))) (pVar 5) (vLit (.int 0))) (sSeq (sSet (eV (vOp2 gAdd (vOp2 ixv (vVar 5) (vLit (.int 1))) (vLit (.int 1)))) (pVar 5) (vLit (.int 1))) (sSeq (sSet (eOp2 gAdd (eV (vOp2 gIx (vVar 5) (vLit (.int 2)))) (eOp2 gIx (eLst (aCons (eLit (.int 1)) (aCons (eLit (.int 1)) (aCons (eLit (.int 0)) (aCons (eLit (.int 1)) (aCons (eLit (.int 2)) (aCons (eLit (.int 2)) (aCons (eLit (.int 1)) (aCons (eLit (.int 1)) (aCons (eLit (.int 2)) (aCons (eLit (.int 1)) (aNil)))))))))))) (eVar 10))) (pVar 5) (vLit (.int 2))) sNil))))) (EP d1 ks st pa ends s0 t s2 s3 sds (some (.int (i : Int))) (some (.int (j : Int))) (some (.str w)) q12) = R → restP K (EP d1 ks st pa ends s0 t s2 s3 sds (some (.int (i : Int))) (some (.int (j : Int))) q11 q12) = R := by
      intro R hR
      unfold restP
      refine sq_step (skip sNil) ?_
      refine sq_step s3' ?_
      exact hR
    by_cases c4 : (j : Int) < 2 ∧ s0 + 2 > 24
    · refine ⟨EP d1 ks st pa ends s0 t s2 s3 sds (some (.int (i : Int))) (some (.int (j : Int))) (some (.str w)) q12, rfl, .inr (pass _ ?_), again _ _ _ _ (hP1.le (by omega))⟩
      rw [K09.u2']
      have : (sIf (tAndM (Se.tB (eV (vOp2 (gCmp fun i j => decide (i < j)) (vVar 10) (vLit (.int 2))))) (Se.tB (eV (vOp2 (gCmp fun i j => decide (i > j)) (vOp2 gAdd (vOp2 ixv (vVar 5) (vLit (.int 0))) (vLit (.int 2))) (vLit (.int 24)))))) (sSeq (sCont) (sNil)) (sNil)) (EP d1 ks st pa ends s0 t s2 s3 sds (some (.int (i : Int))) (some (.int (j : Int))) (some (.str w)) q12) = .ct (EP d1 ks st pa ends s0 t s2 s3 sds (some (.int (i : Int))) (some (.int (j : Int))) (some (.str w)) q12) := by
        simp [EP, c4.1, c4.2, x0]
      rw [this]
      rfl
    have s4' : (sIf (tAndM (Se.tB (eV (vOp2 (gCmp fun i j => decide (i < j)) (vVar 10) (vLit (.int 2))))) (Se.tB (eV (vOp2 (gCmp fun i j => decide (i > j)) (vOp2 gAdd (vOp2 ixv (vVar 5) (vLit (.int 0))) (vLit (.int 2))) (vLit (.int 24)))))) (sSeq (sCont) (sNil)) (sNil)) (EP d1 ks st pa ends s0 t s2 s3 sds (some (.int (i : Int))) (some (.int (j : Int))) (some (.str w)) q12) = .nx (EP d1 ks st pa ends s0 t s2 s3 sds (some (.int (i : Int))) (some (.int (j : Int))) (some (.str w)) q12) := by
      by_cases ca : (j : Int) < 2
      · have cb : ¬ (s0 + 2 > 24) := fun z => c4 ⟨ca, z⟩
        simp [EP, ca, cb, x0]
      · simp [EP, ca]
    have em := live_mx (i := 4) (j := 14) (me := e__law_procedure_1 K) (env := fun q => [some d1, some (.lst true (ks.map knD)), some (.int st), some (.int pa), some (.lst true (ends.map prD)), some (stD s0 t s2 s3), some (.lst true (wordsL.map .str)), some (.lst true sds), some (.int (i : Int)), none, some (.int (j : Int)), some (.str w), q12, none, q]) (es := ends) (by omega) (fun _ => rfl) (fun _ => rfl) (fun _ => rfl) (fun e => by simp [e__law_procedure_1, max2_ok]) none
    have hmne : mx ends ≠ [] := by unfold mx; simpa using hen
    obtain ⟨m, hm, _, hmall⟩ := maxL_in hmne
    have hgm := gMax_ints hm
    have tt : (t : Int) + 1 > 60 ∨ ¬ ((t : Int) + 1 > 60) := by omega
    by_cases c5 : (t : Int) + 1 > 60 ∨ s2 + 2 > 60 ∨ m > 250000
    · refine ⟨EP d1 ks st pa ends s0 t s2 s3 sds (some (.int (i : Int))) (some (.int (j : Int))) (some (.str w)) q12, rfl, .inr (pass _ (sq_step s4' ?_)), again _ _ _ _ (hP1.le (by omega))⟩
      rw [K09.u2']
      have : (sIf (tOrM (Se.tB (eV (vOp2 (gCmp fun i j => decide (i > j)) (vOp2 gAdd (vOp2 ixv (vVar 5) (vLit (.int 1))) (vLit (.int 1))) (vLit (.int 60))))) (tOrM (Se.tB (eV (vOp2 (gCmp fun i j => decide (i > j)) (vOp2 gAdd (vOp2 ixv (vVar 5) (vLit (.int 2))) (vLit (.int 2))) (vLit (.int 60))))) (Se.tB (eOp2 (gCmp fun i j => decide (i > j)) (eOpn gMaxS (aCons (eLcL 4 [14] (fName 14) (tTrue) (e__law_procedure_1 K)) (aNil))) (eLit (.int 250000)))))) (sSeq (sCont) (sNil)) (sNil)) (EP d1 ks st pa ends s0 t s2 s3 sds (some (.int (i : Int))) (some (.int (j : Int))) (some (.str w)) q12) = .ct (EP d1 ks st pa ends s0 t s2 s3 sds (some (.int (i : Int))) (some (.int (j : Int))) (some (.str w)) q12) := by
        generalize (mx ends).map D.int = A at *
        generalize (t : Int) = TT at *
        by_cases ca : TT + 1 > 60
        · simp [EP, x1, ca]
        by_cases cb : s2 + 2 > 60
        · simp [EP, x1, x2, ca, cb]
        · have cc : m > 250000 := by rcases c5 with z | z | z <;> first | contradiction | exact z
          simp [EP, x1, x2, ca, cb, em, hgm, cc]
      rw [this]
      rfl
    · have ca : ¬ ((t : Int) + 1 > 60) := fun z => c5 (.inl z)
      have cb : ¬ (s2 + 2 > 60) := fun z => c5 (.inr (.inl z))
      have cc : ¬ (m > 250000) := fun z => c5 (.inr (.inr z))
      have s5' : (sIf (tOrM (Se.tB (eV (vOp2 (gCmp fun i j => decide (i > j)) (vOp2 gAdd (vOp2 ixv (vVar 5) (vLit (.int 1))) (vLit (.int 1))) (vLit (.int 60))))) (tOrM (Se.tB (eV (vOp2 (gCmp fun i j => decide (i > j)) (vOp2 gAdd (vOp2 ixv (vVar 5) (vLit (.int 2))) (vLit (.int 2))) (vLit (.int 60))))) (Se.tB (eOp2 (gCmp fun i j => decide (i > j)) (eOpn gMaxS (aCons (eLcL 4 [14] (fName 14) (tTrue) (e__law_procedure_1 K)) (aNil))) (eLit (.int 250000)))))) (sSeq (sCont) (sNil)) (sNil)) (EP d1 ks st pa ends s0 t s2 s3 sds (some (.int (i : Int))) (some (.int (j : Int))) (some (.str w)) q12) = .nx (EP d1 ks st pa ends s0 t s2 s3 sds (some (.int (i : Int))) (some (.int (j : Int))) (some (.str w)) q12) := by
        generalize (mx ends).map D.int = A at *
        generalize (t : Int) = TT at *
        simp [EP, x1, x2, ca, cb, em, hgm, cc]
      have hb2 : BD ends 250000 := fun e he => by
        obtain ⟨b1, b2, b3, b4⟩ := hbd e he
        have := hmall _ (List.mem_map.mpr ⟨e, he, rfl⟩)
        have hmm : max e.1 e.2 ≤ m := this
        exact ⟨b1, by omega, b3, by omega⟩
      obtain ⟨d2, r, s, ends', t3, e6, hP2, hSD, hnc, v1, v2, v3, v4, v5⟩ := plain_ok K (s0 := s0) (s1 := (t : Int)) (s2 := s2) hw hP1 (by omega) hen (by omega) hbd hb2 (by omega) h3 h2
      obtain ⟨rz1, rz2⟩ := hSD.fz
      have s6' : (sExpr (eMut gmAppend (pVar 7) (aCons (eCall 4 (F__law_plain K) (bBor 0 (bVal (eVar 11) (bBor 4 (bBor 5 (bNil)))))) (aNil)))) (EP d1 ks st pa ends s0 t s2 s3 sds (some (.int (i : Int))) (some (.int (j : Int))) (some (.str w)) q12) = .nx (EP d2 ks st pa ends' s0 t s2 t3 (sds ++ [r]) (some (.int (i : Int))) (some (.int (j : Int))) (some (.str w)) q12) := by
        generalize (t : Int) = TT at *
        simp [EP, e6, hd1, ez2, hstn, szl, hsd]
      obtain ⟨u0, s7'⟩ : ∃ u0, (sSet (eV (vOp2 gAdd (vOp2 ixv (vVar 5) (vLit (.int 0))) (vOp2 gMulA (vLit (.int 2)) (vOpn gInt (wCons (vOp2 (gCmp fun i j => decide (i < j)) (vVar 10) (vLit (.int 2))) (wNil)))))) (pVar 5) (vLit (.int 0))) (EP d2 ks st pa ends' s0 t s2 t3 (sds ++ [r]) (some (.int (i : Int))) (some (.int (j : Int))) (some (.str w)) q12) = .nx (EP d2 ks st pa ends' u0 t s2 t3 (sds ++ [r]) (some (.int (i : Int))) (some (.int (j : Int))) (some (.str w)) q12) := by
        have c2 : ∀ z : Int, CMulA 2 z := fun z => cm8 (by decide) (by decide)
        by_cases cj : (j : Int) < 2
        · exact ⟨s0 + 2, by simp [EP, x0, y0, cj, c2, gInt]⟩
        · exact ⟨s0, by simp [EP, x0, y0, cj, c2, gInt]⟩
      have s8' : (sSet (eV (vOp2 gAdd (vOp2 ixv (vVar 5) (vLit (.int 1))) (vLit (.int 1)))) (pVar 5) (vLit (.int 1))) (EP d2 ks st pa ends' u0 t s2 t3 (sds ++ [r]) (some (.int (i : Int))) (some (.int (j : Int))) (some (.str w)) q12) = .nx (EP d2 ks st pa ends' u0 ((t : Int) + 1) s2 t3 (sds ++ [r]) (some (.int (i : Int))) (some (.int (j : Int))) (some (.str w)) q12) := by
        generalize (t : Int) = TT at *
        simp [EP, x1, y1]
      have s9' : (sSet (eOp2 gAdd (eV (vOp2 gIx (vVar 5) (vLit (.int 2)))) (eOp2 gIx (eLst (aCons (eLit (.int 1)) (aCons (eLit (.int 1)) (aCons (eLit (.int 0)) (aCons (eLit (.int 1)) (aCons (eLit (.int 2)) (aCons (eLit (.int 2)) (aCons (eLit (.int 1)) (aCons (eLit (.int 1)) (aCons (eLit (.int 2)) (aCons (eLit (.int 1)) (aNil)))))))))))) (eVar 10))) (pVar 5) (vLit (.int 2))) (EP d2 ks st pa ends' u0 ((t : Int) + 1) s2 t3 (sds ++ [r]) (some (.int (i : Int))) (some (.int (j : Int))) (some (.str w)) q12) = .nx (EP d2 ks st pa ends' u0 ((t : Int) + 1) (s2 + v) t3 (sds ++ [r]) (some (.int (i : Int))) (some (.int (j : Int))) (some (.str w)) q12) := by
        generalize (t : Int) = TT at *
        simp [EP, x2, y2, gIx, hv, szl]
      refine ⟨EP d2 ks st pa ends' u0 ((t : Int) + 1) (s2 + v) t3 (sds ++ [r]) (some (.int (i : Int))) (some (.int (j : Int))) (some (.str w)) q12, rfl, .inl (pass _ (sq_step s4' (sq_step s5' (sq_step s6' (sq_step s7' (sq_step s8' (sq_step s9' rfl))))))), d2, ends', u0, s2 + v, t3, t + 1, sds ++ [r], ss ++ [s], _, _, _, _, by rw [Int.natCast_add]; rfl, hP2.le (by omega), hS.app (ds' := [r]) (ss' := [s]) ⟨hSD, trivial⟩, ?_, by omega, fun q hm => ?_, v4, by omega, v1, v2, v3⟩
      · rw [tcs_app, ← ht]
        cases s with
        | call q => exact absurd rfl (hnc q)
        | two => rfl
        | one => rfl
      · rcases List.mem_append.mp hm with z | z
        · exact hq q z
        · exact absurd (List.mem_singleton.mp z).symm (hnc q)
end K09

namespace K09
open Se PySem
theorem rep_prD (p : Int × Int) (n : Nat) : (List.replicate n p).map prD = List.replicate n (prD p) := List.map_replicate
theorem mul_p {z : Int} (h0 : 0 ≤ z) (h1 : z ≤ 1000) : gMulA (.lst true [.tup [.int 1, .int 1]]) (.int z) = some (.lst true (List.replicate z.toNat (.tup [.int 1, .int 1]))) := by
  unfold gMulA
  dsimp only
  rw [if_pos ⟨rfl, by omega, by omega, by rw [szl]; simp; omega⟩, repD_one]
def gG (ends : List (Int × Int)) (d : D) : D := match d with
  | .int a => match ixD (ends.map prD) a with
    | some (.tup [.int x, .int y]) => .tup [.int x, .int y]
    | _ => d
  | d => d
theorem procedure_ok (K : PySem.W.Frag) {n : Nat} {d : D} {ks : List Kn} {st : Nat} (h : Pt n d) (hn : n + 2000 < 2 ^ 40) (hk : ∀ k ∈ ks, KOk k) (hkl : ks.length ≤ 50) (hst : st ≤ 30) :
    ∃ (d' dd : D) (k : Kn) (pr : Pr), F__law_procedure K [d, .lst true (ks.map knD), .int (st : Int)] = .rt dd [d', .lst true ((ks ++ [k]).map knD), .int (st : Int)] ∧ Pt (n + 700) d' ∧ KOk k ∧ PD dd pr ∧ k.t = tcs (fun q => (ks.map (·.t)).getD q 0) pr.ss ∧ k.t ≤ 60 ∧ (∀ q, S.call q ∈ pr.ss → q < ks.length) ∧ 1 ≤ pr.params ∧ pr.params ≤ 4 := by
  obtain ⟨x, d1, e1, x0, x1, s1⟩ := draw_ok K (many := 4) h (by omega) (by omega) (by omega)
  obtain ⟨pa, hpa⟩ : ∃ pa : Nat, 1 + x = pa := ⟨(1 + x).toNat, by omega⟩
  have hd := h.ne
  have hd1 := s1.ne
  obtain ⟨kz1, kz2⟩ := fz_kn ks
  -- the loop
  have I0 : IP ks (n + 1) st pa 0 (EP d1 ks st pa (List.replicate pa (1, 1)) (2 * (pa : Int)) ((0 : Nat) : Int) 0 2 [] none none none none) :=
    ⟨d1, List.replicate pa (1, 1), 2 * (pa : Int), 0, 2, 0, [], [], none, none, none, none, rfl, s1, trivial, rfl, by omega, by simp, by
      intro z
      have := congrArg List.length z
      simp at this
      omega, by simp; omega, fun e he => by
      obtain ⟨_, rfl⟩ := List.mem_replicate.mp he
      exact ⟨by decide, by decide, by decide, by decide⟩, by omega, by omega⟩
  obtain ⟨ρ', e5, hI⟩ := forF_range (f := fName 8) (m := b__law_procedure_2 K) (fun i ρ => IP ks (n + 1) st pa i ρ) (lo := 0) (n := st) I0 (fun i ρ hi hI => step_ok K (by omega) hk (by omega) st pa (by omega) hI)
  obtain ⟨d2, ends, s0, s2, s3, t, sds, ss, q8, q10, q11, q12, rfl, hP, hS, ht, ht60, hq, hen, hel, hbd, h2, h3⟩ := hI
  have hep : 0 < ends.length := List.length_pos_iff.mpr hen
  -- what it gives
  obtain ⟨y, d3, e6, y0, y1, s3'⟩ := draw_ok K (many := 4) hP (by omega) (by omega) (by omega)
  obtain ⟨gn, hgn⟩ : ∃ gn : Nat, 1 + y = gn := ⟨(1 + y).toNat, by omega⟩
  have hd2 := hP.ne
  obtain ⟨acc, ρ', e7, hacc, d4, q, rfl, s4'⟩ := compF_inv (vs := [8]) (f := fName 8) (me := e__law_procedure_3 K) (fun i acc ρ => (∃ as : List Int, acc = as.map D.int ∧ as.length = i ∧ ∀ a ∈ as, 0 ≤ a ∧ a < ends.length) ∧ ∃ d' q, ρ = EP d' ks st pa ends s0 (t : Int) s2 s3 sds q q10 q11 q12 ∧ Pt (n + 1 + 20 * st + 1 + i) d') (rgD 0 gn) 0 [] (EP d3 ks st pa ends s0 (t : Int) s2 s3 sds q8 q10 q11 q12) ⟨⟨[], rfl, rfl, by simp⟩, d3, q8, rfl, s3'⟩ (by simp [rgD_len, szl]; omega) (by
    rintro i dd acc ρ hd ⟨⟨as, rfl, hl, hb⟩, d', q, rfl, hs⟩
    obtain ⟨hi, rfl⟩ := rgD_get hd
    obtain ⟨y, d2, e, y0, y1, s⟩ := draw_ok K (many := (ends.length : Int)) hs (by omega) (by omega) (by omega)
    have hdn := hs.ne
    refine ⟨EP d' ks st pa ends s0 (t : Int) s2 s3 sds (some (.int (0 + i))) q10 q11 q12, EP d2 ks st pa ends s0 (t : Int) s2 s3 sds (some (.int (0 + i))) q10 q11 q12, .int y, rfl, by simp [e__law_procedure_3, EP, e, hdn], ⟨as ++ [y], by simp, by simp [hl], fun a ha => ?_⟩, d2, _, rfl, s.le (by omega)⟩
    rcases List.mem_append.mp ha with q | q
    · exact hb a q
    · cases List.mem_singleton.mp q; exact ⟨y0, y1⟩)
  obtain ⟨as, rfl, hal, hab⟩ := hacc
  rw [rgD_len, Nat.zero_add] at hal s4'
  have hai := fzL_ints as
  have haf := frzL_ints as
  -- their ends
  obtain ⟨es, hes, hesl, hesb⟩ : ∃ es : List (Int × Int), (as.map D.int).map (gG ends) = es.map prD ∧ es.length = as.length ∧ BD es s3 := by
    clear e7 hal hai haf
    induction as with
    | nil => exact ⟨[], rfl, rfl, by intro e he; cases he⟩
    | cons a as ih =>
      obtain ⟨ms, h1, h2, h3⟩ := ih fun b hb => hab b (List.mem_cons_of_mem _ hb)
      obtain ⟨a0, a1⟩ := hab a List.mem_cons_self
      obtain ⟨e, he, hx⟩ := ends_at a0 a1
      have hge : gG ends (.int a) = prD e := by
        unfold gG
        dsimp only
        rw [hx]
        rfl
      refine ⟨e :: ms, by rw [List.map_cons, List.map_cons, h1, hge, List.map_cons], by simp [h2], fun m hm => ?_⟩
      rcases List.mem_cons.mp hm with rfl | hm
      · exact hbd _ he
      · exact h3 m hm
  have e8 : ∀ (_ : Option D), ∃ q, compF [13] (fName 13) tTrue (e__law_procedure_4 K) (as.map D.int) [] [some d4, none, some (.int (st : Int)), some (.int (pa : Int)), some (.lst true (ends.map prD)), some (stD s0 (t : Int) s2 s3), some (.lst true (wordsL.map .str)), some (.lst true sds), none, some (.tup (as.map D.int)), q10, q11, q12, none, none] = some (es.map prD, [some d4, none, some (.int (st : Int)), some (.int (pa : Int)), some (.lst true (ends.map prD)), some (stD s0 (t : Int) s2 s3), some (.lst true (wordsL.map .str)), some (.lst true sds), none, some (.tup (as.map D.int)), q10, q11, q12, q, none]) := by
    intro q13
    obtain ⟨ρ', e8, q, rfl⟩ := compF_map (vs := [13]) (f := fName 13) (me := e__law_procedure_4 K) (fun ρ => ∃ q, ρ = [some d4, none, some (.int (st : Int)), some (.int (pa : Int)), some (.lst true (ends.map prD)), some (stD s0 (t : Int) s2 s3), some (.lst true (wordsL.map .str)), some (.lst true sds), none, some (.tup (as.map D.int)), q10, q11, q12, q, none]) (gG ends) (as.map D.int) [] [some d4, none, some (.int (st : Int)), some (.int (pa : Int)), some (.lst true (ends.map prD)), some (stD s0 (t : Int) s2 s3), some (.lst true (wordsL.map .str)), some (.lst true sds), none, some (.tup (as.map D.int)), q10, q11, q12, none, none] ⟨_, rfl⟩ (by rw [List.length_map, szl]; simp; omega) (by
      rintro dd hdd ρ ⟨q, rfl⟩
      obtain ⟨a, ha, rfl⟩ := List.mem_map.mp hdd
      obtain ⟨a0, a1⟩ := hab a ha
      obtain ⟨e, he, hx⟩ := ends_at a0 a1
      have hge : gG ends (.int a) = prD e := by
        unfold gG
        dsimp only
        rw [hx]
        rfl
      exact ⟨_, [some d4, none, some (.int (st : Int)), some (.int (pa : Int)), some (.lst true (ends.map prD)), some (stD s0 (t : Int) s2 s3), some (.lst true (wordsL.map .str)), some (.lst true sds), none, some (.tup (as.map D.int)), q10, q11, q12, some (.int a), none], rfl, by rw [hge]; simp [e__law_procedure_4, hx, gIx, prD], _, rfl⟩)
    rw [List.nil_append, hes] at e8
    exact ⟨q, e8⟩
  obtain ⟨q13, e8⟩ := e8 none
  obtain ⟨fz1, fz2, fz3⟩ := fz_prs es
  have x0 : ∀ a b c e : Int, ixv (stD a b c e) (.int 0) = some (.int a) := fun _ _ _ _ => rfl
  have x1 : ∀ a b c e : Int, ixv (stD a b c e) (.int 1) = some (.int b) := fun _ _ _ _ => rfl
  have x2 : ∀ a b c e : Int, ixv (stD a b c e) (.int 2) = some (.int c) := fun _ _ _ _ => rfl
  have x3 : ∀ a b c e : Int, ixv (stD a b c e) (.int 3) = some (.int e) := fun _ _ _ _ => rfl
  have c2 : ∀ z : Int, CMulA 2 z := fun z => cm8 (by decide) (by decide)
  have hsl := hS.len
  have htl := tcs_len (fun q => (ks.map (·.t)).getD q 0) ss
  obtain ⟨sz1, sz2⟩ := hS.fz
  have hkl2 : ks.length < 16777216 := by omega
  have b1 : -4611686018427387904 < (st : Int) := by omega
  have b2 : (st : Int) < 4611686018427387904 := by omega
  have b3 : -4611686018427387904 < (gn : Int) := by omega
  have b4 : (gn : Int) < 4611686018427387904 := by omega
  have hmp : gMulA (.lst true [.tup [.int 1, .int 1]]) (.int (pa : Int)) = some (.lst true ((List.replicate pa ((1 : Int), (1 : Int))).map prD)) := by
    have := mul_p (z := (pa : Int)) (by omega) (by omega)
    rw [Int.toNat_natCast] at this
    rw [this, rep_prD]; rfl
  refine ⟨d4, .tup [.int (pa : Int), .tup sds, .tup (as.map .int)], ⟨pa, s0 - 2 * (pa : Int), t, s2, s3, es⟩, ⟨pa, ss⟩, ?_, s4'.le (by omega), ⟨by show 1 ≤ pa; omega, by show pa ≤ 4; omega, by show 0 ≤ s3; omega, h3, hesb, by show es.length ≤ 4; omega⟩, ⟨sds, as, rfl, hS⟩, ht, ht60, hq, by show 1 ≤ pa; omega, by show pa ≤ 4; omega⟩
  unfold F__law_procedure
  rw [u131]
  show bkK (m__law_procedure K [some d, some (.lst true (ks.map knD)), some (.int (st : Int)), none, none, none, none, none, none, none, none, none, none, none, none]) _ _ = _
  unfold m__law_procedure
  refine bk_step (ρ' := [some d1, some (.lst true (ks.map knD)), some (.int (st : Int)), some (.int (pa : Int)), none, none, none, none, none, none, none, none, none, none, none]) (by simp [e1, hd, hpa]) ?_
  refine bk_step (ρ' := [some d1, some (.lst true (ks.map knD)), some (.int (st : Int)), some (.int (pa : Int)), some (.lst true ((List.replicate pa ((1 : Int), (1 : Int))).map prD)), none, none, none, none, none, none, none, none, none, none]) (by simp [szl, hmp]) ?_
  refine bk_step (ρ' := [some d1, some (.lst true (ks.map knD)), some (.int (st : Int)), some (.int (pa : Int)), some (.lst true ((List.replicate pa ((1 : Int), (1 : Int))).map prD)), some (stD (2 * (pa : Int)) ((0 : Nat) : Int) 0 2), none, none, none, none, none, none, none, none, none]) (by simp [szl, c2, stD]) ?_
  refine bk_step (ρ' := [some d1, some (.lst true (ks.map knD)), some (.int (st : Int)), some (.int (pa : Int)), some (.lst true ((List.replicate pa ((1 : Int), (1 : Int))).map prD)), some (stD (2 * (pa : Int)) ((0 : Nat) : Int) 0 2), some (.lst true (wordsL.map .str)), none, none, none, none, none, none, none, none]) (by simp [szl, wordsL]) ?_
  refine bk_step (ρ' := [some d1, some (.lst true (ks.map knD)), some (.int (st : Int)), some (.int (pa : Int)), some (.lst true ((List.replicate pa ((1 : Int), (1 : Int))).map prD)), some (stD (2 * (pa : Int)) ((0 : Nat) : Int) 0 2), some (.lst true (wordsL.map .str)), some (.lst true []), none, none, none, none, none, none, none]) (by simp [szl]) ?_
  refine bk_step (ρ' := EP d2 ks st pa ends s0 (t : Int) s2 s3 sds q8 q10 q11 q12) (by
    rw [u104]
    have ei : iArgs rg1 (aCons (eVar 2) (aNil)) [some d1, some (.lst true (ks.map knD)), some (.int (st : Int)), some (.int (pa : Int)), some (.lst true ((List.replicate pa ((1 : Int), (1 : Int))).map prD)), some (stD (2 * (pa : Int)) ((0 : Nat) : Int) 0 2), some (.lst true (wordsL.map .str)), some (.lst true []), none, none, none, none, none, none, none] = .ok (rgD 0 st) [some d1, some (.lst true (ks.map knD)), some (.int (st : Int)), some (.int (pa : Int)), some (.lst true ((List.replicate pa ((1 : Int), (1 : Int))).map prD)), some (stD (2 * (pa : Int)) ((0 : Nat) : Int) 0 2), some (.lst true (wordsL.map .str)), some (.lst true []), none, none, none, none, none, none, none] := by simp [rg1_of b1 b2]
    rw [ei, u105]
    exact e5) ?_
  refine bk_step (ρ' := [some d4, some (.lst true (ks.map knD)), some (.int (st : Int)), some (.int (pa : Int)), some (.lst true (ends.map prD)), some (stD s0 (t : Int) s2 s3), some (.lst true (wordsL.map .str)), some (.lst true sds), none, some (.tup (as.map D.int)), q10, q11, q12, none, none]) (by
    have e7' := e7
    unfold EP at e7' ⊢
    simp [hd2, e6, hgn, rg1_of b3 b4, e7', gTup, hai]) ?_
  refine bk_step (ρ' := [some d4, some (.lst true ((ks ++ [Kn.mk pa (s0 - 2 * (pa : Int)) t s2 s3 es]).map knD)), some (.int (st : Int)), some (.int (pa : Int)), some (.lst true (ends.map prD)), some (stD s0 (t : Int) s2 s3), some (.lst true (wordsL.map .str)), some (.lst true sds), none, some (.tup (as.map D.int)), q10, q11, q12, none, none]) (by simp [x0, x1, x2, x3, c2, gIx, hai, haf, itemsD, e8, fz1, fz3, szl, hkl2, knD]) ?_
  simp [gTup, sz1, szl]
end K09

namespace K09
open Se PySem
theorem tcs_congr {T T' : Nat → Nat} : ∀ (ss : List S), (∀ q, S.call q ∈ ss → T q = T' q) → tcs T ss = tcs T' ss
  | [], _ => rfl
  | .call q :: ss, h => by
    show 1 + T q + tcs T ss = 1 + T' q + tcs T' ss
    rw [h q List.mem_cons_self, tcs_congr ss fun q hq => h q (List.mem_cons_of_mem _ hq)]
  | .two :: ss, h => by
    show 1 + tcs T ss = 1 + tcs T' ss
    rw [tcs_congr ss fun q hq => h q (List.mem_cons_of_mem _ hq)]
  | .one :: ss, h => by
    show 1 + tcs T ss = 1 + tcs T' ss
    rw [tcs_congr ss fun q hq => h q (List.mem_cons_of_mem _ hq)]
theorem getD_app {Ts : List Nat} {t q : Nat} (h : q < Ts.length) : (Ts ++ [t]).getD q 0 = Ts.getD q 0 := by
  simp [List.getD, List.getElem?_append_left h]
theorem WF.snoc {DS : List D} {PS : List Pr} {Ts : List Nat} (w : WF DS PS Ts) {dd : D} {pr : Pr} {t : Nat} (hp : PD dd pr) (ht : t = tcs (fun q => Ts.getD q 0) pr.ss) (h60 : t ≤ 60) (hq : ∀ q, S.call q ∈ pr.ss → q < PS.length) (h1 : 1 ≤ pr.params) (h4 : pr.params ≤ 4) : WF (DS ++ [dd]) (PS ++ [pr]) (Ts ++ [t]) := by
  have l1 := w.l1
  have l2 := w.l2
  refine ⟨by simp [l1], by simp [l2], fun i p hi => ?_⟩
  by_cases c : i < PS.length
  · rw [List.getElem?_append_left c] at hi
    obtain ⟨⟨d, hd, a⟩, b, ⟨t', e1, e2, e3⟩, e4, e5⟩ := w.at' i p hi
    refine ⟨⟨d, by rw [List.getElem?_append_left (by omega)]; exact hd, a⟩, b, ⟨t', by rw [List.getElem?_append_left (by omega)]; exact e1, ?_, e3⟩, e4, e5⟩
    rw [e2]
    exact tcs_congr _ fun q hm => (getD_app (by have := b q hm; omega)).symm
  · have hi2 : i = PS.length := by
      have := (List.getElem?_eq_some_iff.mp hi).1
      simp at this
      omega
    subst hi2
    simp at hi
    subst hi
    refine ⟨⟨dd, by rw [← l1]; simp, hp⟩, hq, ⟨t, by rw [l2]; simp, ?_, h60⟩, h1, h4⟩
    rw [ht]
    exact tcs_congr _ fun q hm => (getD_app (by have := hq q hm; omega)).symm
theorem WF.nil : WF [] [] [] := ⟨rfl, rfl, fun i p h => by cases h⟩
def az : List Nat := [97, 98, 99, 100, 101, 102, 103, 104, 105, 106, 107, 108, 109, 110, 111, 112, 113, 114, 115, 116, 117, 118, 119, 120, 121, 122]
theorem az_at {x : Int} (h0 : 0 ≤ x) (h : x < 26) : ∃ c, ixv (.str az) (.int x) = some (.str [c]) := by
  have hx : x.toNat < az.length := by show x.toNat < 26; omega
  refine ⟨az[x.toNat], ?_⟩
  show (if az.length ≤ sizeLine then (ixD az x).map fun c => D.str [c] else none) = _
  rw [if_pos (by rw [szl]; decide)]
  unfold ixD
  rw [if_pos h0, List.getElem?_eq_getElem hx]
  rfl
theorem rep_str {c : Nat} {z : Int} (h0 : 0 ≤ z) (h1 : z ≤ 1000) : gMulA (.str [c]) (.int z) = some (.str (repD z.toNat [c])) := by
  unfold gMulA
  dsimp only
  rw [if_pos ⟨by omega, by omega, by rw [szl]; simp; omega⟩]
theorem repD_len {c : Nat} (n : Nat) : (repD n [c]).length = n := by rw [repD_one]; simp
theorem neL_snoc : ∀ {ds : List D} {d : D}, neL ds = true → ne d = true → neL (ds ++ [d]) = true
  | [], d, _, h => by simp [h]
  | a :: ds, d, h, h2 => by
    have h : (ne a && neL ds) = true := h
    rw [Bool.and_eq_true] at h
    show (ne a && neL (ds ++ [d])) = true
    rw [h.1, neL_snoc h.2 h2]; rfl
theorem whole1_ok (K : PySem.W.Frag) {n : Nat} (hn : n + 100000 < 2 ^ 40) {np : Nat} (hnp : np ≤ 8) (a5 a6 a7 a8 : Option D) {d : D} (h : Pt n d) (a4 : Option D) :
    ∃ (d' : D) (DS : List D) (PS : List Pr) (ks : List Kn) (q : Option D), forF (fName 4) (b__law_whole_1 K) (rgD 0 np) [some d, some (.int (np : Int)), some (.lst true []), some (.lst true []), a4, a5, a6, a7, a8] = .nx [some d', some (.int (np : Int)), some (.lst true (ks.map knD)), some (.lst true DS), q, a5, a6, a7, a8] ∧ WF DS PS (ks.map (·.t)) ∧ Pt (n + 800 * np) d' ∧ PS.length = np ∧ fzL DS = true ∧ neL DS = true := by
  obtain ⟨ρ', e, d', DS, PS, ks, q, rfl, w, hp, hl, hk, z1, z2⟩ := forF_range (f := fName 4) (m := b__law_whole_1 K) (fun i ρ => ∃ (d' : D) (DS : List D) (PS : List Pr) (ks : List Kn) (q : Option D), ρ = [some d', some (.int (np : Int)), some (.lst true (ks.map knD)), some (.lst true DS), q, a5, a6, a7, a8] ∧ WF DS PS (ks.map (·.t)) ∧ Pt (n + 800 * i) d' ∧ PS.length = i ∧ (∀ k ∈ ks, KOk k) ∧ fzL DS = true ∧ neL DS = true) (lo := 0) (n := np) (ρ := [some d, some (.int (np : Int)), some (.lst true []), some (.lst true []), a4, a5, a6, a7, a8]) ⟨d, [], [], [], a4, rfl, WF.nil, h, rfl, by simp, rfl, rfl⟩ (by
    rintro i ρ hi ⟨d', DS, PS, ks, q, rfl, w, hp, hl, hk, z1, z2⟩
    have l2 := w.l2
    have l1 := w.l1
    rw [List.length_map] at l2
    have c14 : ∀ z : Int, CMulA 14 z := fun z => cm8 (by decide) (by decide)
    obtain ⟨x, d1, e1, x0, x1, s1⟩ := draw_ok K (many := 6 + 14 * (if (np : Int) = 8 then 1 else 0)) hp (by omega) (by split <;> omega) (by split <;> omega)
    obtain ⟨stn, hst⟩ : ∃ stn : Nat, 1 + x = stn := ⟨(1 + x).toNat, by omega⟩
    have hst2 : stn ≤ 30 := by split at x1 <;> omega
    obtain ⟨d2, dd, k, pr, e2, hp2, ko, hPD, u1, u2, u3, u4, u5⟩ := procedure_ok K (st := stn) s1 (by omega) hk (by omega) hst2
    have hd := hp.ne
    have hd1 := s1.ne
    obtain ⟨kz1, kz2⟩ := fz_kn ks
    obtain ⟨pz1, pz2⟩ := hPD.fz
    have hDl : DS.length < 16777216 := by omega
    refine ⟨_, [some d2, some (.int (np : Int)), some (.lst true ((ks ++ [k]).map knD)), some (.lst true (DS ++ [dd])), some (.int (0 + i)), a5, a6, a7, a8], rfl, .inl ?_, d2, DS ++ [dd], PS ++ [pr], ks ++ [k], _, rfl, ?_, hp2.le (by omega), by simp [hl], fun k' hk' => ?_, ?_, ?_⟩
    · simp [b__law_whole_1, c14, gInt, e1, hd, hst, kz2, hd1, e2, hDl, szl]
    · rw [List.map_append]
      exact w.snoc hPD u1 u2 (fun q hm => by have := u3 q hm; omega) u4 u5
    · rcases List.mem_append.mp hk' with z | z
      · exact hk k' z
      · cases List.mem_singleton.mp z; exact ko
    · rw [fzL_all] at z1 ⊢; simp [pz1]; simpa using z1
    · exact neL_snoc z2 pz2)
  exact ⟨d', DS, PS, ks, q, e, w, hp, hl, z1, z2⟩
end K09

namespace K09
open Se PySem
theorem whole2_ok (K : PySem.W.Frag) {n : Nat} (hn : n + 100000 < 2 ^ 40) {np : Nat} (hnp : np ≤ 8) (a1 a2 a3 a5 : Option D) {d : D} (h : Pt n d) (a4 : Option D) :
    ∃ (d' : D) (nm : List (List Nat)) (q q8 : Option D), forF (fName 4) (b__law_whole_2 K) (rgD 0 np) [some d, a1, a2, a3, a4, a5, some (.lst true []), some (.str az), none] = .nx [some d', a1, a2, a3, q, a5, some (.lst true (nm.map .str)), some (.str az), q8] ∧ Pt (n + 3 * np) d' ∧ nm.length = np := by
  obtain ⟨ρ', e, d', nm, q, q8, rfl, hp, hl⟩ := forF_range (f := fName 4) (m := b__law_whole_2 K) (fun i ρ => ∃ (d' : D) (nm : List (List Nat)) (q q8 : Option D), ρ = [some d', a1, a2, a3, q, a5, some (.lst true (nm.map .str)), some (.str az), q8] ∧ Pt (n + 3 * i) d' ∧ nm.length = i) (lo := 0) (n := np) (ρ := [some d, a1, a2, a3, a4, a5, some (.lst true []), some (.str az), none]) ⟨d, [], a4, none, rfl, h, rfl⟩ (by
    rintro i ρ hi ⟨d', nm, q, q8, rfl, hp, hl⟩
    obtain ⟨x, d1, e1, x0, x1, s1⟩ := draw_ok K (many := 26) hp (by omega) (by omega) (by omega)
    obtain ⟨y, d2, e2, y0, y1, s2⟩ := draw_ok K (many := 26) s1 (by omega) (by omega) (by omega)
    obtain ⟨z, d3, e3, z0, z1, s3⟩ := draw_ok K (many := 11) s2 (by omega) (by omega) (by omega)
    obtain ⟨c, hc⟩ := az_at x0 x1
    obtain ⟨c', hc'⟩ := az_at y0 y1
    have hr := rep_str (c := c') z0 (by omega)
    have hrl := repD_len (c := c') z.toNat
    generalize repD z.toNat [c'] = R at hr hrl
    have hd := hp.ne
    have hd1 := s1.ne
    have hd2 := s2.ne
    have e0 : (0 : Int) + i = i := by omega
    rw [e0]
    have hg := gS (n := i) (by omega)
    have ht := tx_len (n := i) (by omega)
    have hnl : nm.length < 16777216 := by omega
    have b1 : 1 + (tx i).length ≤ 16777216 := by omega
    have b2 : (tx i).length + 1 ≤ 16777216 := by omega
    have b3 : (tx i).length ≤ 16777215 := by omega
    have b4 : 1 + (tx i).length + R.length ≤ 16777216 := by omega
    have b5 : (tx i).length + 1 + R.length ≤ 16777216 := by omega
    refine ⟨_, [some d3, a1, a2, a3, some (.int i), a5, some (.lst true ((nm ++ [c :: (tx i ++ R)]).map .str)), some (.str az), some (.str (c :: (tx i ++ R)))], rfl, .inl ?_, d3, nm ++ [c :: (tx i ++ R)], _, _, rfl, s3.le (by omega), by simp [hl]⟩
    simp [b__law_whole_2, e1, e2, e3, hd, hd1, hd2, gIx, hc, hc', hg, hr, szl, hnl, b1, b2, b3, b4, b5])
  exact ⟨d', nm, q, q8, e, hp, hl⟩
theorem whole_ok (K : PySem.W.Frag) {n : Nat} (hn : n + 200000 < 2 ^ 40) {d : D} (h : Pt n d) :
    ∃ (d' nm : D) (DS : List D) (PS : List Pr) (Ts : List Nat), F__law_whole K [d] = .rt (prog nm DS) [d'] ∧ Pt (n + 7000) d' ∧ WF DS PS Ts ∧ fz nm = true ∧ ne nm = true ∧ fzL DS = true ∧ neL DS = true ∧ 1 ≤ PS.length ∧ PS.length ≤ 8 := by
  obtain ⟨x, d1, e1, x0, x1, s1⟩ := draw_ok K (many := 3) h (by omega) (by omega) (by omega)
  obtain ⟨y, d2, e2, y0, y1, s2⟩ := draw_ok K (many := 7) s1 (by omega) (by omega) (by omega)
  obtain ⟨np, hnp⟩ : ∃ np : Nat, (if y = 5 then 8 else 1 + x) = (np : Int) := ⟨(if y = 5 then 8 else 1 + x).toNat, by split <;> omega⟩
  have hn1 : 1 ≤ np := by split at hnp <;> omega
  have hn8 : np ≤ 8 := by split at hnp <;> omega
  obtain ⟨d3, DS, PS, ks, q, e3, w, s3, hl, z1, z2⟩ := whole1_ok K (n := n + 2) (by omega) hn8 none none none none s2 none
  obtain ⟨m, d4, e4, m0, m1, s4⟩ := draw_ok K (many := (np : Int)) s3 (by omega) (by omega) (by omega)
  obtain ⟨d5, nm, q', q8, e5, s5, hnl⟩ := whole2_ok K (n := n + 2 + 800 * np + 1) (by omega) hn8 (some (.int (np : Int))) (some (.lst true (ks.map knD))) (some (.lst true DS)) (some (.int m)) s4 q
  obtain ⟨mn, rfl⟩ : ∃ mn : Nat, m = mn := ⟨m.toNat, by omega⟩
  have hd := h.ne
  have hd1 := s1.ne
  have hd2 := s2.ne
  have hd3 := s3.ne
  have hd4 := s4.ne
  have b1 : -4611686018427387904 < (np : Int) := by omega
  have b2 : (np : Int) < 4611686018427387904 := by omega
  have hnm := fzL_strs (nm.set mn [109, 97, 105, 110])
  have hnn := neL_strs (nm.set mn [109, 97, 105, 110])
  have us : updP (.lst true (nm.map D.str)) [] (leafSet (mn : Int) (.str [109, 97, 105, 110])) = some (.lst true ((nm.set mn [109, 97, 105, 110]).map D.str)) := by
    show (nrm (nm.map D.str).length (mn : Int)).map (fun j => D.lst true ((nm.map D.str).set j (.str [109, 97, 105, 110]))) = _
    rw [nrm_nat (by rw [List.length_map]; omega), Option.map_some, List.map_set]
  have hDl : DS.length ≤ 16777216 := by have := w.l1; omega
  refine ⟨d5, .tup ((nm.set mn [109, 97, 105, 110]).map D.str), DS, PS, ks.map (·.t), ?_, s5.le (by omega), w, hnm, hnn, z1, z2, by omega, by omega⟩
  unfold F__law_whole
  rw [u131]
  show bkK (m__law_whole K [some d, none, none, none, none, none, none, none, none]) _ _ = _
  unfold m__law_whole
  refine bk_step (ρ' := [some d1, some (.int (1 + x)), none, none, none, none, none, none, none]) (by simp [e1, hd]) ?_
  refine bk_step (ρ' := [some d2, some (.int (np : Int)), none, none, none, none, none, none, none]) (by
    rw [← hnp]
    by_cases c : y = 5
    · subst c; simp [e2, hd1]
    · simp [e2, hd1, c]) ?_
  refine bk_step (ρ' := [some d2, some (.int (np : Int)), some (.lst true []), none, none, none, none, none, none]) (by simp [szl]) ?_
  refine bk_step (ρ' := [some d2, some (.int (np : Int)), some (.lst true []), some (.lst true []), none, none, none, none, none]) (by simp [szl]) ?_
  refine bk_step (ρ' := [some d3, some (.int (np : Int)), some (.lst true (ks.map knD)), some (.lst true DS), q, none, none, none, none]) (by simp [rg1_of b1 b2, e3]) ?_
  refine bk_step (ρ' := [some d4, some (.int (np : Int)), some (.lst true (ks.map knD)), some (.lst true DS), q, some (.int mn), none, none, none]) (by simp [e4, hd3]) ?_
  refine bk_step (ρ' := [some d4, some (.int (np : Int)), some (.lst true (ks.map knD)), some (.lst true DS), q, some (.int mn), some (.lst true []), none, none]) (by simp [szl]) ?_
  refine bk_step (ρ' := [some d4, some (.int (np : Int)), some (.lst true (ks.map knD)), some (.lst true DS), q, some (.int mn), some (.lst true []), some (.str az), none]) (by simp [az]) ?_
  refine bk_step (ρ' := [some d5, some (.int (np : Int)), some (.lst true (ks.map knD)), some (.lst true DS), q', some (.int mn), some (.lst true (nm.map .str)), some (.str az), q8]) (by simp [rg1_of b1 b2, e5]) ?_
  refine bk_step (ρ' := [some d5, some (.int (np : Int)), some (.lst true (ks.map knD)), some (.lst true DS), q', some (.int mn), some (.lst true ((nm.set mn [109, 97, 105, 110]).map .str)), some (.str az), q8]) (by
    generalize (nm.set mn [109, 97, 105, 110]).map D.str = A at *
    simp [us]) ?_
  generalize (nm.set mn [109, 97, 105, 110]).map D.str = A at *
  simp [gTup, hnm, z1, szl, prog]
end K09

namespace K09
open Se PySem
theorem Pl_strs {l : List (List Nat)} (h : l.length ≤ 1000000) : Pl 1 (.tup (l.map D.str)) := by
  refine Pl.tup (by rw [List.length_map]; omega) fun x hx => ?_
  obtain ⟨p, _, rfl⟩ := List.mem_map.mp hx
  exact Pl.str
theorem ask_ok (K : PySem.W.Frag) {DS : List D} {PS : List Pr} {Ts : List Nat} (w : WF DS PS Ts) {nm : D} (hn : fz nm = true) (hnn : ne nm = true) (hz : fzL DS = true) (hzn : neL DS = true) (h8 : PS.length ≤ 8) {st k : Nat} (h1 : 1 ≤ PS.length) (d : D) (as : Int) (q5 q6 : Option D) :
    ∃ r5 r6, b__law_unknowns_right_1 K [some d, some (prog nm DS), some (.int as), some (.int (st : Int)), some (.int (k : Int)), q5, q6] = .nx [some d, some (prog nm DS), some (.int (as + 1)), some (.int (st : Int)), some (.int (k : Int)), r5, r6] := by
  obtain ⟨p, hp⟩ : ∃ p : Nat, p = (st + k) % PS.length := ⟨_, rfl⟩
  have hpl : p < PS.length := by rw [hp]; exact Nat.mod_lt _ (by omega)
  have l1 := w.l1
  have hmod : ((st : Int) + (k : Int)) % (DS.length : Int) = (p : Int) := by
    rw [hp, l1]; simp
  have hpr : PS[p]? = some PS[p] := List.getElem?_eq_getElem hpl
  obtain ⟨⟨dd, hd, hPD⟩, hq, ⟨t, ht, et, ht60⟩, hp1, hp4⟩ := w.at' p _ hpr
  have eg : PS.getD p ⟨0, []⟩ = PS[p] := by simp [List.getD, hpr]
  have el : (NM PS p).length = 2 * PS[p].params + HC PS 40 p := by
    unfold NM
    rw [eg, List.length_append, rc_len, HN_len]
  have hcl : HC PS 40 p ≤ 120 := by
    have := HC_le w 40 p hpl
    have et2 : Ts.getD p 0 = t := by simp [List.getD, ht]
    omega
  have e1 := walk_ok K w hz hpl (by omega)
  have e2 := names_ok K w hn hnn hz hzn hpl (by omega)
  have e3 := unum_ok K w hn hnn hz hzn hpl (by omega)
  have e4 := number_ok K w hn hnn hz hzn p 40 hpl (by omega) (by omega)
  have s1 := same40 K (Pl_strs (l := NM PS p) (by omega)) (by omega)
  have s2 := same40 K (n := 0) (d := .int ((NM PS p).length : Nat)) Pl.int (by omega)
  have s3 := same40 K (n := 0) (d := .int (HC PS 40 p : Nat)) Pl.int (by omega)
  generalize PS[p] = pr at *
  obtain ⟨sd, gv, ed, hs'⟩ := hPD
  have hdx : ixD DS (p : Int) = some (.tup [.int (pr.params : Int), .tup sd, .tup (gv.map .int)]) := by
    unfold ixD; rw [if_pos (by omega), ← ed]; simpa using hd
  have hpz : fz (prog nm DS) = true := by unfold prog; simp [hn, hz]
  have hpn : ne (prog nm DS) = true := by unfold prog; simp [hnn, hzn]
  have cm : CMulA 2 (pr.params : Int) := cm8 (by decide) (by decide)
  have hsub : ((NM PS p).length : Int) - 2 * (pr.params : Int) = (HC PS 40 p : Nat) := by omega
  have hdl : (0 : Int) < (DS.length : Int) := by omega
  have hdl2 : (DS.length : Int) < 1073741824 := by omega
  have hdl3 : 0 < DS.length := by omega
  have z1 := fzL_strs (NM PS p)
  have z2 := neL_strs (NM PS p)
  have z3 := frzL_strs (NM PS p)
  have hnl : (NM PS p).length ≤ 16777216 := by omega
  generalize eL : (NM PS p).map D.str = A at *
  have hAl : (A.length : Int) = ((NM PS p).length : Nat) := by rw [← eL, List.length_map]
  generalize ((NM PS p).length : Int) = L at *
  generalize ((HC PS 40 p : Nat) : Int) = H at *
  generalize ePG : prog nm DS = PG at *
  have hx1 : ixv PG (.int 1) = some (.tup DS) := by subst ePG; unfold prog; simp [ixn1]
  refine ⟨some (.int p), some (.lst true A), ?_⟩
  unfold b__law_unknowns_right_1
  refine sq_step (ρ' := [some d, some PG, some (.int as), some (.int (st : Int)), some (.int (k : Int)), some (.int p), q6]) (by simp [hx1, hmod, L2.CDiv, hdl, hdl2, hdl3]) ?_
  refine sq_step (ρ' := [some d, some PG, some (.int as), some (.int (st : Int)), some (.int (k : Int)), some (.int p), some (.lst true A)]) (by simp [hpz, hx1, gIx, hz, hzn, e1]) ?_
  refine sq_step (ρ' := [some d, some PG, some (.int as), some (.int (st : Int)), some (.int (k : Int)), some (.int p), some (.lst true A)]) (by simp [hpz, hpn, gTup, z1, z2, z3, e2, s1]) ?_
  refine sq_step (ρ' := [some d, some PG, some (.int as), some (.int (st : Int)), some (.int (k : Int)), some (.int p), some (.lst true A)]) (by simp [hpz, hpn, hAl, e3, s2]) ?_
  have cP : eCallP [1, 0] 2 (F_hidden_number K 40) (bVal (eVar 5) (bVal (eVar 1) (bNil))) [some d, some PG, some (.int as), some (.int (st : Int)), some (.int (k : Int)), some (.int p), some (.lst true A)] = .ok (.int H) [some d, some PG, some (.int as), some (.int (st : Int)), some (.int (k : Int)), some (.int p), some (.lst true A)] :=
    callP_ok (as := [.inl (.int p), .inl PG]) (ds := [.int p, PG]) (ds2 := [PG, .int p]) (by simp [hpz]) (by simp [frzA, hpz]) rfl (by simp [pickD]) (by simp [hpn]) e4 (by simp [pickD])
  refine sq_step (ρ' := [some d, some PG, some (.int as), some (.int (st : Int)), some (.int (k : Int)), some (.int p), some (.lst true A)]) (by simp [hx1, hdx, ixn0, cm, hAl, hsub, cP, s3]) ?_
  simp
theorem unknowns_right_ok (K : PySem.W.Frag) {n : Nat} (hn' : n + 300000 < 2 ^ 40) {d : D} (h : Pt n d) : ∃ d', F__law_unknowns_right K [d] = .rt (.bl true) [d'] := by
  obtain ⟨d1, nm, DS, PS, Ts, e1, h1, w, hn, hnn, hz, hzn, l1, l8⟩ := whole_ok K (by omega) h
  have dl := w.l1
  obtain ⟨x, d2, e2, x0, x1, s2⟩ := draw_ok K (many := (DS.length : Int)) h1 (by omega) (by omega) (by omega)
  obtain ⟨st, rfl⟩ : ∃ st : Nat, x = st := ⟨x.toNat, by omega⟩
  have hd := h.ne
  have hd1 := h1.ne
  obtain ⟨ρ', e3, q4, q5, q6, rfl⟩ := forF_range (f := fName 4) (m := b__law_unknowns_right_1 K) (fun i ρ => ∃ q4 q5 q6, ρ = [some d2, some (prog nm DS), some (.int ((i : Nat) : Int)), some (.int (st : Int)), q4, q5, q6]) (lo := 0) (n := DS.length) (ρ := [some d2, some (prog nm DS), some (.int 0), some (.int (st : Int)), none, none, none]) ⟨none, none, none, rfl⟩ (by
    rintro i ρ hi ⟨q4, q5, q6, rfl⟩
    have e0 : (0 : Int) + i = i := by omega
    rw [e0]
    obtain ⟨r5, r6, e⟩ := ask_ok K w hn hnn hz hzn l8 (st := st) (k := i) l1 d2 ((i : Nat) : Int) q5 q6
    exact ⟨_, _, rfl, .inl e, _, _, _, by rw [Int.natCast_add]; rfl⟩)
  have hpz : fz (prog nm DS) = true := by unfold prog; simp [hn, hz]
  have b1 : -4611686018427387904 < (DS.length : Int) := by omega
  have b2 : (DS.length : Int) < 4611686018427387904 := by omega
  refine ⟨d2, ?_⟩
  generalize ePG : prog nm DS = PG at *
  have hx1 : ixv PG (.int 1) = some (.tup DS) := by subst ePG; unfold prog; simp [ixn1]
  simp [F__law_unknowns_right, u131, startE, m__law_unknowns_right, e1, hd, hx1, e2, hd1, rg1_of b1 b2, e3]
theorem law_ok (K : PySem.W.Frag) {ns : List Int} (h : ns.length ≤ 63) : ∃ ds, F_law K [.lst false (ns.map D.int)] = .rt (.bl true) ds := by
  obtain ⟨d, e, hp⟩ := pot_ok K h
  obtain ⟨d1, e1, hp1⟩ := forms_right_ok K hp (by omega)
  obtain ⟨d2, e2⟩ := unknowns_right_ok K (by omega) hp1
  have hd := hp.ne
  have hd1 := hp1.ne
  have z1 := fzL_ints ns
  have z2 := neL_ints ns
  refine ⟨[.lst false (ns.map .int)], ?_⟩
  simp [F_law, u131, startE, m_law, z2, e, e1, e2, hd, hd1]
end K09

theorem PySem.Challenge.cw_anysizes_k09_forms_unknowns_holds : PySem.Challenge.rw_anysizes_k09_forms_unknowns.Holds := by
  exact K09.holds fun K mg z ns hl => K09.law_ok K hl

