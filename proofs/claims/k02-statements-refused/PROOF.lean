import PyProof.Rows.All
import Wide.All
import OpenK.AllK
import Wide.FinOn
import HandS.ForMost
import HandS.Property
import HandS.IsInst
import HandS.ForExc
import HandS.TryMany
import HandS.Walk
import HandS.StrMore
import HandS.Flow
import KE.KSuper
import HandS.Wide
import HandS.Codes
import HandS.Star
import HandS.TupAny
import HandS.NoneIn
import KE.KUnpack
import PyProof.CollectIter
import HandS.RaiseMore
import KE.KExcIs
import HandS.ExcField
import HandS.Ends
import HandS.Words
import KE.KExcSuper
import KE.KTryMore
import HandS.ExcInit
import HandS.ExcSuper
import HandS.ExcValue
import HandS.Dict
import PyProof.Rows.ListMulCarried
import PyProof.StrOps2
import PySem.Challenge.RW_placedonce_k02_statements_refused
set_option Elab.async false
set_option linter.all false
set_option maxRecDepth 100000
set_option maxHeartbeats 4000000
set_option exponentiation.threshold 2000
namespace Sh
open PySem PySem.Spec L2

/-! ### values, memory, results -/
inductive W where
  | non | bl (b : Bool) | int (i : Int) | str (s : List Nat) | tup (ws : List W) | frz (ws : List W) | ref (n : Nat) | cls (c : String) | ty (c : String)

inductive O where
  | lst (ws : List W) | dK (kvs : List (Key × W)) | dT (kvs : List (List Key × W)) | ins (c : String) (fs : List (List Nat × W)) | exc (c : String) (fs : List (List Nat × W))

abbrev Mem := List O
abbrev Loc := List (Option W)

inductive R (α : Type) where
  | ok (a : α) (m : Mem) | exc (c : String) (fs : List (List Nat × W)) (m : Mem) | bad

def R.bind {α β : Type} (r : R α) (f : α → Mem → R β) : R β := match r with
  | .ok a m => f a m
  | .exc c fs m => .exc c fs m
  | .bad => .bad
@[simp] theorem R.bind_ok {α β : Type} (a : α) (m : Mem) (f : α → Mem → R β) : (R.ok a m).bind f = f a m := rfl
@[simp] theorem R.bind_exc {α β : Type} (c : String) (fs : List (List Nat × W)) (m : Mem) (f : α → Mem → R β) : (R.exc c fs m : R α).bind f = .exc c fs m := rfl
@[simp] theorem R.bind_bad {α β : Type} (f : α → Mem → R β) : (R.bad : R α).bind f = .bad := rfl

abbrev DE := Loc → Mem → R W
abbrev DL := Loc → Mem → R (List W)
abbrev DB := Loc → Mem → R Bool

inductive RS where
  | nx (σ : Loc) (m : Mem) | rt (w : W) (m : Mem) | bk (σ : Loc) (m : Mem) | ct (σ : Loc) (m : Mem) | exc (c : String) (fs : List (List Nat × W)) (σ : Loc) (m : Mem) | bad
abbrev DS := Loc → Mem → RS

/-! ### the relation to the layer's values and heap -/
structure G where
  K : PySem.W.Frag
  cl : String → Addr

abbrev S (l : List Nat) : Str := ⟨l.toArray⟩
theorem S_inj {a b : List Nat} (h : S a = S b) : a = b := by
  have := congrArg (fun x => x.cps.toList) h
  simpa using this
theorem S_cps (a : List Nat) : (S a).cps.toList = a := by simp
theorem S_len (a : List Nat) : (S a).length = a.length := by simp [Str.length]
theorem S_of (x : Str) : S x.cps.toList = x := by cases x; simp

/-- a list that nobody writes: the script, a module's own list -/
def SqF (K : PySem.W.Frag) (H : Hp) (a : Addr) (xs : List V) : Prop :=
  (∃ o, H a = some (.frz o (.lst xs))) ∨ ∃ (o : Obj) (its : Array Value) (n : Nat), K.lookup a = some o ∧ o.cls = .type "list" ∧ o.dict = none ∧ o.data = .seq its n ∧ its.size ≤ sizeLine ∧ Vals xs its.toList
theorem SqF.toL {K : PySem.W.Frag} {H : Hp} {a : Addr} {xs : List V} (h : SqF K H a xs) : SqL K H a xs := by
  rcases h with ⟨o, h⟩ | h
  · exact .inl (.inr ⟨o, h⟩)
  · exact .inr h
section
variable (g : G) (ρ : List Addr) (H : Hp)
mutual
inductive VR : W → V → Prop
  | non : VR .non .non
  | bl (b : Bool) : VR (.bl b) (.bl b)
  | int (i : Int) : VR (.int i) (.int i)
  | str (s : List Nat) : VR (.str s) (.str (S s))
  | tup {ws : List W} {vs : List V} {a : Addr} : SqT g.K H a vs → VRs ws vs → VR (.tup ws) (.ref a)
  | frz {ws : List W} {vs : List V} {a : Addr} : SqF g.K H a vs → VRs ws vs → VR (.frz ws) (.ref a)
  | ref {n : Nat} {a : Addr} : ρ[n]? = some a → VR (.ref n) (.ref a)
  | cls (c : String) : VR (.cls c) (.ref (g.cl c))
  | ty (c : String) : VR (.ty c) (.ty c)
inductive VRs : List W → List V → Prop
  | nil : VRs [] []
  | cons {w : W} {v : V} {ws : List W} {vs : List V} : VR w v → VRs ws vs → VRs (w :: ws) (v :: vs)
end
/-- the dict of an exception: none, no fields; or one -/
def XD (H : Hp) (d : Option Addr) (gs : List (Str × V)) : Prop := match d with
  | none => gs = []
  | some a => H a = some (.xd gs)
/-- fields -/
def FR (fs : List (List Nat × W)) (gs : List (Str × V)) : Prop := Paired (fun (p : List Nat × W) (q : Str × V) => q.1 = Sh.S p.1 ∧ VR g ρ H p.2 q.2) fs gs
def KR {κ : Type} (fs : List (κ × W)) (gs : List (κ × V)) : Prop := Paired (fun (p : κ × W) (q : κ × V) => p.1 = q.1 ∧ VR g ρ H p.2 q.2) fs gs
def OR : O → HO → Prop
  | .lst ws, u => ∃ vs, u = .lst vs ∧ VRs g ρ H ws vs
  | .dK kvs, u => ∃ vs, u = .dK vs ∧ KR g ρ H kvs vs
  | .dT kvs, u => ∃ vs, u = .dT vs ∧ KR g ρ H kvs vs
  | .ins c fs, u => ∃ dx gs, u = .ins (g.cl c) dx gs ∧ FR g ρ H fs gs
  | .exc c fs, u => ∃ oe vs d gs, u = .frz oe (.own 0) ∧ oe.cls = .ref (g.cl c) ∧ oe.dict = d ∧ oe.data = .fields vs ∧ XD H d gs ∧ FR g ρ H fs gs
end

structure Sim (g : G) (ρ : List Addr) (m : Mem) (H : Hp) : Prop where
  len : ρ.length = m.length
  nd : ρ.Nodup
  obj : ∀ (i : Nat) (a : Addr) (o : O), ρ[i]? = some a → m[i]? = some o → ∃ u, H a = some u ∧ OR g ρ H o u

/-- from one state to a later one -/
structure Post (ρ : List Addr) (H : Hp) (ρ' : List Addr) (H' : Hp) : Prop where
  ext : ∃ l, ρ' = ρ ++ l ∧ ∀ a ∈ l, H a = none
  keep : ∀ a o, H a = some o → a ∉ ρ → H' a = some o

theorem Post.refl {ρ : List Addr} {H : Hp} : Post ρ H ρ H := ⟨⟨[], by simp, by simp⟩, fun _ _ h _ => h⟩
theorem Post.trans {ρ ρ1 ρ2 : List Addr} {H H1 H2 : Hp} (a : Post ρ H ρ1 H1) (b : Post ρ1 H1 ρ2 H2) (hs : ∀ a ∈ ρ, H a ≠ none) (hs1 : ∀ a ∈ ρ, H1 a ≠ none) : Post ρ H ρ2 H2 := by
  obtain ⟨l, e, hl⟩ := a.ext
  obtain ⟨l1, e1, hl1⟩ := b.ext
  refine ⟨⟨l ++ l1, by rw [e1, e, List.append_assoc], fun x hx => ?_⟩, fun x o h n => ?_⟩
  · rcases List.mem_append.mp hx with h | h
    · exact hl x h
    · cases q : H x with
      | none => rfl
      | some o =>
        by_cases n : x ∈ ρ
        · exact absurd (hl1 x h) (hs1 x n)
        · have k := a.keep x o q n
          rw [hl1 x h] at k; cases k
  · have h1 := a.keep x o h n
    refine b.keep x o h1 ?_
    rw [e]
    intro hm
    rcases List.mem_append.mp hm with z | z
    · exact n z
    · rw [hl x z] at h; cases h

section
variable {g : G} {ρ ρ' : List Addr} {H H' : Hp} {m m' : Mem}
theorem Sim.there (s : Sim g ρ m H) {a : Addr} (ha : a ∈ ρ) : ∃ o u, o ∈ m ∧ H a = some u ∧ OR g ρ H o u := by
  obtain ⟨i, hi, e⟩ := List.getElem_of_mem ha
  have hi' : i < m.length := by rw [← s.len]; exact hi
  have h1 : ρ[i]? = some a := by rw [List.getElem?_eq_getElem hi, e]
  have h2 : m[i]? = some m[i] := List.getElem?_eq_getElem hi'
  obtain ⟨u, h3, h4⟩ := s.obj i a _ h1 h2
  exact ⟨_, u, List.getElem_mem hi', h3, h4⟩
theorem Sim.isSm (s : Sim g ρ m H) {a : Addr} (ha : a ∈ ρ) : H a ≠ none := by
  obtain ⟨_, u, _, h, _⟩ := s.there ha
  rw [h]; simp
theorem OR.notup {o : O} {u : HO} (h : OR g ρ H o u) : (∀ xs, u ≠ .tup xs) ∧ (∀ ob xs, u ≠ .frz ob (.tup xs)) ∧ (∀ ob xs, u ≠ .frz ob (.lst xs)) ∧ (∀ x, u ≠ .own x) ∧ (∀ fs, u ≠ .xd fs) := by
  cases o with
  | lst ws => obtain ⟨vs, e, _⟩ := h; subst e; exact ⟨fun _ z => (nomatch z), fun _ _ z => (nomatch z), fun _ _ z => (nomatch z), fun _ z => (nomatch z), fun _ z => (nomatch z)⟩
  | dK ws => obtain ⟨vs, e, _⟩ := h; subst e; exact ⟨fun _ z => (nomatch z), fun _ _ z => (nomatch z), fun _ _ z => (nomatch z), fun _ z => (nomatch z), fun _ z => (nomatch z)⟩
  | dT ws => obtain ⟨vs, e, _⟩ := h; subst e; exact ⟨fun _ z => (nomatch z), fun _ _ z => (nomatch z), fun _ _ z => (nomatch z), fun _ z => (nomatch z), fun _ z => (nomatch z)⟩
  | ins c fs => obtain ⟨dx, gs, e, _⟩ := h; subst e; exact ⟨fun _ z => (nomatch z), fun _ _ z => (nomatch z), fun _ _ z => (nomatch z), fun _ z => (nomatch z), fun _ z => (nomatch z)⟩
  | exc c fs => obtain ⟨oe, vs, d, gs, e, _⟩ := h; subst e; exact ⟨fun _ z => (nomatch z), fun _ _ z => (nomatch z), fun _ _ z => (nomatch z), fun _ z => (nomatch z), fun _ z => (nomatch z)⟩
theorem Sim.tup_out (s : Sim g ρ m H) {a : Addr} {xs : List V} (h : H a = some (.tup xs)) : a ∉ ρ := fun ha => by
  obtain ⟨o, u, _, h1, h2⟩ := s.there ha
  rw [h] at h1; cases h1
  exact h2.notup.1 xs rfl
theorem Sim.frzT_out (s : Sim g ρ m H) {a : Addr} {ob : Obj} {xs : List V} (h : H a = some (.frz ob (.tup xs))) : a ∉ ρ := fun ha => by
  obtain ⟨o, u, _, h1, h2⟩ := s.there ha
  rw [h] at h1; cases h1
  exact h2.notup.2.1 ob xs rfl
theorem Sim.frzL_out (s : Sim g ρ m H) {a : Addr} {ob : Obj} {xs : List V} (h : H a = some (.frz ob (.lst xs))) : a ∉ ρ := fun ha => by
  obtain ⟨o, u, _, h1, h2⟩ := s.there ha
  rw [h] at h1; cases h1
  exact h2.notup.2.2.1 ob xs rfl
theorem Sim.xd_out (s : Sim g ρ m H) {a : Addr} {fs : List (Str × V)} (h : H a = some (.xd fs)) : a ∉ ρ := fun ha => by
  obtain ⟨o, u, _, h1, h2⟩ := s.there ha
  rw [h] at h1; cases h1
  exact h2.notup.2.2.2.2 fs rfl
theorem Post.xd (p : Post ρ H ρ' H') (s : Sim g ρ m H) {d : Option Addr} {gs : List (Str × V)} (h : XD H d gs) : XD H' d gs := by
  cases d with
  | none => exact h
  | some a => exact p.keep _ _ h (s.xd_out h)
theorem Post.seqT (p : Post ρ H ρ' H') (s : Sim g ρ m H) {a : Addr} {xs : List V} (h : SqT g.K H a xs) : SqT g.K H' a xs := by
  rcases h with (h | ⟨o, h⟩) | h
  · exact .inl (.inl (p.keep _ _ h (s.tup_out h)))
  · exact .inl (.inr ⟨o, p.keep _ _ h (s.frzT_out h)⟩)
  · exact .inr h
theorem Post.seqF (p : Post ρ H ρ' H') (s : Sim g ρ m H) {a : Addr} {xs : List V} (h : SqF g.K H a xs) : SqF g.K H' a xs := by
  rcases h with ⟨o, h⟩ | h
  · exact .inl ⟨o, p.keep _ _ h (s.frzL_out h)⟩
  · exact .inr h
theorem Post.get (p : Post ρ H ρ' H') {n : Nat} {a : Addr} (h : ρ[n]? = some a) : ρ'[n]? = some a := by
  obtain ⟨l, e, _⟩ := p.ext
  rw [e, List.getElem?_append_left (List.getElem?_eq_some_iff.mp h).1]
  exact h
mutual
theorem VR.post (s : Sim g ρ m H) (p : Post ρ H ρ' H') : ∀ {w : W} {v : V}, VR g ρ H w v → VR g ρ' H' w v
  | _, _, .non => .non
  | _, _, .bl b => .bl b
  | _, _, .int b => .int b
  | _, _, .str b => .str b
  | _, _, .tup h r => .tup (p.seqT s h) (VRs.post s p r)
  | _, _, .frz h r => .frz (p.seqF s h) (VRs.post s p r)
  | _, _, .ref h => .ref (p.get h)
  | _, _, .cls c => .cls c
  | _, _, .ty c => .ty c
theorem VRs.post (s : Sim g ρ m H) (p : Post ρ H ρ' H') : ∀ {ws : List W} {vs : List V}, VRs g ρ H ws vs → VRs g ρ' H' ws vs
  | _, _, .nil => .nil
  | _, _, .cons h r => .cons (VR.post s p h) (VRs.post s p r)
end
theorem Paired.imp {α β : Type} {F F' : α → β → Prop} : ∀ {xs : List α} {ys : List β}, Paired F xs ys → (∀ a b, F a b → F' a b) → Paired F' xs ys
  | _, _, .nil, _ => .nil
  | _, _, .cons h r, f => .cons (f _ _ h) (Paired.imp r f)
theorem FR.post (s : Sim g ρ m H) (p : Post ρ H ρ' H') {fs : List (List Nat × W)} {gs : List (Str × V)} (h : FR g ρ H fs gs) : FR g ρ' H' fs gs :=
  Paired.imp h fun _ _ q => ⟨q.1, q.2.post s p⟩
theorem KR.post {κ : Type} (s : Sim g ρ m H) (p : Post ρ H ρ' H') {fs : List (κ × W)} {gs : List (κ × V)} (h : KR g ρ H fs gs) : KR g ρ' H' fs gs :=
  Paired.imp h fun _ _ q => ⟨q.1, q.2.post s p⟩
theorem OR.post (s : Sim g ρ m H) (p : Post ρ H ρ' H') {o : O} {u : HO} (h : OR g ρ H o u) : OR g ρ' H' o u := by
  cases o with
  | lst ws => obtain ⟨vs, e, r⟩ := h; exact ⟨vs, e, r.post s p⟩
  | dK ws => obtain ⟨vs, e, r⟩ := h; exact ⟨vs, e, r.post s p⟩
  | dT ws => obtain ⟨vs, e, r⟩ := h; exact ⟨vs, e, r.post s p⟩
  | ins c fs => obtain ⟨dx, gs, e, r⟩ := h; exact ⟨dx, gs, e, r.post s p⟩
  | exc c fs => obtain ⟨oe, vs, d, gs, e, h1, h2, h3, h4, h5⟩ := h; exact ⟨oe, vs, d, gs, e, h1, h2, h3, p.xd s h4, h5.post s p⟩
theorem Post.then {ρ2 : List Addr} {H2 : Hp} (a : Post ρ H ρ' H') (b : Post ρ' H' ρ2 H2) (s : Sim g ρ m H) (s' : Sim g ρ' m' H') : Post ρ H ρ2 H2 :=
  a.trans b (fun x hx => s.isSm hx) fun x hx => by
    obtain ⟨l, e, _⟩ := a.ext
    exact s'.isSm (by rw [e]; exact List.mem_append_left _ hx)

/-- garbage: an object that is not of the memory -/
theorem Sim.junk (s : Sim g ρ m H) {p : Addr} {u : HO} (hp : H p = none) : Post ρ H ρ (upd H p u) ∧ Sim g ρ m (upd H p u) := by
  have P : Post ρ H ρ (upd H p u) := ⟨⟨[], by simp, by simp⟩, fun a o h _ => by rw [upd_ne (ne_of_none h hp)]; exact h⟩
  refine ⟨P, s.len, s.nd, fun i a o h1 h2 => ?_⟩
  obtain ⟨v, h3, h4⟩ := s.obj i a o h1 h2
  exact ⟨v, by rw [upd_ne (ne_of_none h3 hp)]; exact h3, h4.post s P⟩
/-- a new object -/
theorem Sim.push (s : Sim g ρ m H) {p : Addr} {u : HO} {o : O} (hp : H p = none) (h : OR g ρ H o u) : Post ρ H (ρ ++ [p]) (upd H p u) ∧ Sim g (ρ ++ [p]) (m ++ [o]) (upd H p u) := by
  have P : Post ρ H (ρ ++ [p]) (upd H p u) := ⟨⟨[p], rfl, by simpa using hp⟩, fun a o h _ => by rw [upd_ne (ne_of_none h hp)]; exact h⟩
  have hn : p ∉ ρ := fun z => s.isSm z hp
  refine ⟨P, by simp [s.len], ?_, fun i a o' h1 h2 => ?_⟩
  · rw [List.nodup_append]
    refine ⟨s.nd, by simp, fun a ha b hb => ?_⟩
    have : b = p := by simpa using hb
    subst this
    rintro rfl
    exact hn ha
  · by_cases hi : i < ρ.length
    · rw [List.getElem?_append_left hi] at h1
      rw [List.getElem?_append_left (by rw [← s.len]; exact hi)] at h2
      obtain ⟨v, h3, h4⟩ := s.obj i a o' h1 h2
      exact ⟨v, by rw [upd_ne (ne_of_none h3 hp)]; exact h3, h4.post s P⟩
    · have hi' : ρ.length ≤ i := Nat.le_of_not_lt hi
      rw [List.getElem?_append_right hi'] at h1
      rw [List.getElem?_append_right (by rw [← s.len]; exact hi')] at h2
      have e0 : i - ρ.length = 0 := by
        have := (List.getElem?_eq_some_iff.mp h1).1
        simp at this; omega
      have e0' : i - m.length = 0 := by rw [← s.len]; exact e0
      rw [e0] at h1; rw [e0'] at h2
      simp at h1 h2
      subst h1; subst h2
      exact ⟨u, upd_same, h.post s P⟩
/-- an object is changed -/
theorem Sim.set (s : Sim g ρ m H) {n : Nat} {a : Addr} {u : HO} {o : O} (ha : ρ[n]? = some a) (h : OR g ρ H o u) : Post ρ H ρ (upd H a u) ∧ Sim g ρ (m.set n o) (upd H a u) := by
  have P : Post ρ H ρ (upd H a u) := ⟨⟨[], by simp, by simp⟩, fun b o h hb => by
    rw [upd_ne (fun e => hb (by rw [e]; exact List.mem_of_getElem? ha))]; exact h⟩
  refine ⟨P, by simp [s.len], s.nd, fun i b o' h1 h2 => ?_⟩
  by_cases e : i = n
  · subst e
    rw [ha] at h1; cases h1
    have hlt : i < m.length := by have := (List.getElem?_eq_some_iff.mp h2).1; simpa using this
    rw [List.getElem?_set_self hlt] at h2
    cases h2
    exact ⟨u, upd_same, h.post s P⟩
  · rw [List.getElem?_set_ne (Ne.symm e)] at h2
    obtain ⟨v, h3, h4⟩ := s.obj i b o' h1 h2
    refine ⟨v, ?_, h4.post s P⟩
    rw [upd_ne]
    · exact h3
    · rintro rfl
      exact e ((List.getElem?_inj (List.getElem?_eq_some_iff.mp h1).1 s.nd).mp (h1.trans ha.symm))
end

/-- locals -/
def LR (g : G) (ρ : List Addr) (H : Hp) (σ : Loc) (τ : St) : Prop := σ.length = τ.length ∧ ∀ (i : Nat) (w : W), σ[i]? = some (some w) → ∃ v, τ[i]? = some (some v) ∧ VR g ρ H w v
theorem LR.post {g : G} {ρ ρ' : List Addr} {H H' : Hp} {m : Mem} {σ : Loc} {τ : St} (l : LR g ρ H σ τ) (s : Sim g ρ m H) (p : Post ρ H ρ' H') : LR g ρ' H' σ τ :=
  ⟨l.1, fun i w h => let ⟨v, a, b⟩ := l.2 i w h; ⟨v, a, b.post s p⟩⟩
theorem LR.set {g : G} {ρ : List Addr} {H : Hp} {σ : Loc} {τ : St} {w : W} {v : V} (l : LR g ρ H σ τ) (i : Nat) (r : VR g ρ H w v) : LR g ρ H (σ.set i (some w)) (τ.set i (some v)) := by
  refine ⟨by simp [l.1], fun j w' h => ?_⟩
  by_cases e : j = i
  · subst e
    have hl : j < σ.length := by have := (List.getElem?_eq_some_iff.mp h).1; simpa using this
    rw [List.getElem?_set_self hl] at h
    cases h
    exact ⟨v, List.getElem?_set_self (by rw [← l.1]; exact hl), r⟩
  · rw [List.getElem?_set_ne (Ne.symm e)] at h
    obtain ⟨v', a, b⟩ := l.2 j w' h
    exact ⟨v', by rw [List.getElem?_set_ne (Ne.symm e)]; exact a, b⟩
theorem LR.forget {g : G} {ρ : List Addr} {H : Hp} {σ : Loc} {τ : St} (l : LR g ρ H σ τ) (i : Nat) : LR g ρ H (σ.set i none) (τ.set i none) := by
  refine ⟨by simp [l.1], fun j w' h => ?_⟩
  by_cases e : j = i
  · subst e
    have hl : j < σ.length := by have := (List.getElem?_eq_some_iff.mp h).1; simpa using this
    rw [List.getElem?_set_self hl] at h
    cases h
  · rw [List.getElem?_set_ne (Ne.symm e)] at h
    obtain ⟨v', a, b⟩ := l.2 j w' h
    exact ⟨v', by rw [List.getElem?_set_ne (Ne.symm e)]; exact a, b⟩
end Sh

namespace Sh
open PySem PySem.Spec L2

/-! ### argument lists without stars -/
def notStar : Expr → Bool
  | .Starred _ _ => false
  | _ => true
theorem star1 {e : Expr} {es : List Expr} {env : Env} (h : notStar e = true) : starEach (e :: es) env = (false, eval e env) :: starEach es env := by
  cases e <;> first | rfl | cases h
theorem star2 {e : Expr} {es : List Expr} {env : Env} {p : Pos} : starEach (.Starred e p :: es) env = (true, eval e env) :: starEach es env := rfl
def noStars : List Expr → Bool
  | [] => true
  | e :: es => notStar e && noStars es
theorem plain_ns {es : List Expr} {env : Env} {pos : Pos} (h : noStars es = true) : (backTo pos (starEach es env)).any (·.1) = false := by
  induction es with
  | nil => rfl
  | cons e es ih =>
    simp only [noStars, Bool.and_eq_true] at h
    rw [star1 h.1]
    show (false || (backTo pos (starEach es env)).any (·.1)) = false
    rw [ih h.2]; rfl
/-! ### judgements -/
section
variable (g : G) (X : Cx) (wx : WX)
def Out (τ : L2.St) (ρ : List Addr) (H : Hp) {β : Type} (r : R β) (Q : β → Mem → List Addr → Hp → Prop) : Prop :=
  match r with
  | .ok b m' => ∀ ρ' H', Post ρ H ρ' H' → Sim g ρ' m' H' → Q b m' ρ' H'
  | .exc c fs m' => ∀ ρ' H' d gs, Post ρ H ρ' H' → Sim g ρ' m' H' → XD H' d gs → FR g ρ' H' fs gs → wx (.ref (g.cl c)) d τ H'
  | .bad => False
/-- an expression -/
structure SE (e : Expr) (f : DE) : Prop where
  run : ∀ (pins : List (Addr × Obj)) (s : Shared) (σ : Loc) (m : Mem) (ρ : List Addr) (H : Hp) (τ : L2.St) (Q : Value → Shared → Prop),
  Inv X pins τ H s → Sim g ρ m H → LR g ρ H σ τ →
  Out g wx τ ρ H (f σ m) (fun w m' ρ' H' => ∀ v u s', Inv X pins τ H' s' → VR g ρ' H' w v → RelV v u → Q u s') →
  wpAny (model X.prog X.w) X.A (eval e X.env) Q X.xe s
/-- a fresh list -/
structure SL (e : Expr) (f : DL) : Prop where
  run : ∀ (pins : List (Addr × Obj)) (s : Shared) (σ : Loc) (m : Mem) (ρ : List Addr) (H : Hp) (τ : L2.St) (Q : Value → Shared → Prop),
  Inv X pins τ H s → Sim g ρ m H → LR g ρ H σ τ →
  Out g wx τ ρ H (f σ m) (fun ws m' ρ' H' => ∀ p vs s', Inv X pins τ H' s' → H p = none → H' p = some (.lst vs) → p ∉ ρ' → VRs g ρ' H' ws vs → Q (.ref p) s') →
  wpAny (model X.prog X.w) X.A (eval e X.env) Q X.xe s
/-- a test -/
structure ST (e : Expr) (f : DB) : Prop where
  run : ∀ (whole : Sem Value) (pins : List (Addr × Obj)) (s : Shared) (σ : Loc) (m : Mem) (ρ : List Addr) (H : Hp) (τ : L2.St) (Q : Bool → Shared → Prop),
  (whole = eval e X.env ∨ ∃ op es pos, e = .BoolOp op es pos) →
  Inv X pins τ H s → Sim g ρ m H → LR g ρ H σ τ →
  Out g wx τ ρ H (f σ m) (fun b m' ρ' H' => ∀ s', Inv X pins τ H' s' → Q b s') →
  wpAny (model X.prog X.w) X.A (isTrue e X.env whole) Q X.xe s
/-- arguments -/
structure SA (es : List Expr) (f : DL) : Prop where
  run : ∀ (pos : Pos) (pins : List (Addr × Obj)) (s : Shared) (σ : Loc) (m : Mem) (ρ : List Addr) (H : Hp) (τ : L2.St) (Q : List Value → Shared → Prop),
  Inv X pins τ H s → Sim g ρ m H → LR g ρ H σ τ →
  Out g wx τ ρ H (f σ m) (fun ws m' ρ' H' => ∀ vs us s', Inv X pins τ H' s' → VRs g ρ' H' ws vs → Vals vs us → Q us s') →
  wpAny (model X.prog X.w) X.A (spliced (backTo pos (starEach es X.env))) Q X.xe s
/-- functions of values -/
structure F1 (f : Value → Sem Value) (fn : W → Mem → R W) : Prop where
  run : ∀ (pins : List (Addr × Obj)) (s : Shared) (m : Mem) (ρ : List Addr) (H : Hp) (τ : L2.St) (x : W) (v : V) (u : Value) (Q : Value → Shared → Prop),
  Inv X pins τ H s → Sim g ρ m H → VR g ρ H x v → RelV v u →
  Out g wx τ ρ H (fn x m) (fun w m' ρ' H' => ∀ v u s', Inv X pins τ H' s' → VR g ρ' H' w v → RelV v u → Q u s') → wpAny (model X.prog X.w) X.A (f u) Q X.xe s
structure F2 (f : Value → Value → Sem Value) (fn : W → W → Mem → R W) : Prop where
  run : ∀ (pins : List (Addr × Obj)) (s : Shared) (m : Mem) (ρ : List Addr) (H : Hp) (τ : L2.St) (x y : W) (v z : V) (u t : Value) (Q : Value → Shared → Prop),
  Inv X pins τ H s → Sim g ρ m H → VR g ρ H x v → RelV v u → VR g ρ H y z → RelV z t →
  Out g wx τ ρ H (fn x y m) (fun w m' ρ' H' => ∀ v u s', Inv X pins τ H' s' → VR g ρ' H' w v → RelV v u → Q u s') → wpAny (model X.prog X.w) X.A (f u t) Q X.xe s
structure Fn (f : List Value → Sem Value) (fn : List W → Mem → R W) : Prop where
  run : ∀ (pins : List (Addr × Obj)) (s : Shared) (m : Mem) (ρ : List Addr) (H : Hp) (τ : L2.St) (xs : List W) (vs : List V) (us : List Value) (Q : Value → Shared → Prop),
  Inv X pins τ H s → Sim g ρ m H → VRs g ρ H xs vs → Vals vs us →
  Out g wx τ ρ H (fn xs m) (fun w m' ρ' H' => ∀ v u s', Inv X pins τ H' s' → VR g ρ' H' w v → RelV v u → Q u s') → wpAny (model X.prog X.w) X.A (f us) Q X.xe s
end

section
variable {g : G} {X : Cx} {wx : WX} {τ : L2.St} {ρ ρ' : List Addr} {H H' : Hp} {m m' : Mem} {pins : List (Addr × Obj)} {s : Shared} {σ : Loc}
theorem Out.imp {β : Type} {r : R β} {Q Q' : β → Mem → List Addr → Hp → Prop} (h : Out g wx τ ρ H r Q) (k : ∀ b m' ρ' H', Post ρ H ρ' H' → Sim g ρ' m' H' → Q b m' ρ' H' → Q' b m' ρ' H') : Out g wx τ ρ H r Q' := by
  cases r with
  | ok b m' => exact fun ρ' H' P S => k b m' ρ' H' P S (h ρ' H' P S)
  | exc c fs m' => exact h
  | bad => exact h
theorem Out.from {β : Type} {r : R β} {Q : β → Mem → List Addr → Hp → Prop} (h : Out g wx τ ρ H r Q) (P : Post ρ H ρ' H') (S : Sim g ρ m H) (S' : Sim g ρ' m' H') : Out g wx τ ρ' H' r Q := by
  cases r with
  | ok b m' => exact fun ρ2 H2 P2 S2 => h ρ2 H2 (P.then P2 S S') S2
  | exc c fs m' => exact fun ρ2 H2 d gs P2 S2 => h ρ2 H2 d gs (P.then P2 S S') S2
  | bad => exact h
theorem Out.bind {α β : Type} {r : R α} {k : α → Mem → R β} {Q : β → Mem → List Addr → Hp → Prop} (S : Sim g ρ m H) (h : Out g wx τ ρ H (r.bind k) Q) :
    Out g wx τ ρ H r (fun b m1 ρ1 H1 => Out g wx τ ρ1 H1 (k b m1) Q) := by
  cases r with
  | ok b m1 => exact fun ρ1 H1 P1 S1 => Out.from (r := k b m1) h P1 S S1
  | exc c fs m1 => exact h
  | bad => exact h
theorem Out.here {β : Type} {b : β} {Q : β → Mem → List Addr → Hp → Prop} (h : Out g wx τ ρ H (.ok b m) Q) (S : Sim g ρ m H) : Q b m ρ H := h ρ H Post.refl S
theorem Post.back (P : Post ρ H ρ' H') (S : Sim g ρ m H) (S' : Sim g ρ' m' H') {p : Addr} (h : H' p = none) : H p = none := by
  cases q : H p with
  | none => rfl
  | some o =>
    by_cases n : p ∈ ρ
    · obtain ⟨l, e, _⟩ := P.ext
      exact absurd h (S'.isSm (by rw [e]; exact List.mem_append_left _ n))
    · rw [P.keep p o q n] at h; cases h

theorem VRs.length : ∀ {ws : List W} {vs : List V}, VRs g ρ H ws vs → ws.length = vs.length
  | _, _, .nil => rfl
  | _, _, .cons _ r => by simp [VRs.length r]
theorem VRs.get : ∀ {ws : List W} {vs : List V} {i : Nat} {w : W}, VRs g ρ H ws vs → ws[i]? = some w → ∃ v, vs[i]? = some v ∧ VR g ρ H w v
  | _, _, i, w, .nil, h => by simp at h
  | _, _, 0, w, .cons h _, e => by simp at e; subst e; exact ⟨_, rfl, h⟩
  | _, _, i + 1, w, .cons _ r, e => by simpa using VRs.get r (by simpa using e)
theorem VRs.append : ∀ {ws ws' : List W} {vs vs' : List V}, VRs g ρ H ws vs → VRs g ρ H ws' vs' → VRs g ρ H (ws ++ ws') (vs ++ vs')
  | _, _, _, _, .nil, r => r
  | _, _, _, _, .cons h t, r => .cons h (VRs.append t r)
theorem VRs.set {w : W} {v : V} (h : VR g ρ H w v) : ∀ {ws : List W} {vs : List V} (i : Nat), VRs g ρ H ws vs → VRs g ρ H (ws.set i w) (vs.set i v)
  | _, _, _, .nil => .nil
  | _, _, 0, .cons _ t => .cons h t
  | _, _, i + 1, .cons q t => .cons q (VRs.set h i t)
theorem VRs.take : ∀ {ws : List W} {vs : List V} (n : Nat), VRs g ρ H ws vs → VRs g ρ H (ws.take n) (vs.take n)
  | _, _, 0, _ => .nil
  | _, _, _ + 1, .nil => .nil
  | _, _, n + 1, .cons h t => .cons h (VRs.take n t)
theorem VRs.drop : ∀ {ws : List W} {vs : List V} (n : Nat), VRs g ρ H ws vs → VRs g ρ H (ws.drop n) (vs.drop n)
  | _, _, 0, r => r
  | _, _, _ + 1, .nil => .nil
  | _, _, n + 1, .cons _ t => VRs.drop n t
theorem VRs.one {w : W} {v : V} (h : VR g ρ H w v) : VRs g ρ H [w] [v] := .cons h .nil

/-- from the layer's own expression rules -/
theorem SE.ofPE {e : Expr} {t : TE} {f : DE} (he : PE X e t)
    (h : ∀ (σ : Loc) (m : Mem) (ρ : List Addr) (H : Hp) (τ : L2.St) (Q : VK), Sim g ρ m H → LR g ρ H σ τ → Out g wx τ ρ H (f σ m) (fun w m' ρ' H' => ∀ v, VR g ρ' H' w v → Q v H') → t τ H Q) : SE g X wx e f := by
  refine ⟨fun pins s σ m ρ H τ Q I S L o => ?_⟩
  refine thn (he.run pins s τ H (fun v H' => ∀ u s', Inv X pins τ H' s' → RelV v u → Q u s') I (h σ m ρ H τ _ S L ?_)) fun u s1 ⟨v, H1, I1, r1, q⟩ => q u s1 I1 r1
  exact o.imp fun w m' ρ' H' _ _ k v r u s' I' ru => k v u s' I' r ru
theorem F2.ofR {f : Value → Value → Sem Value} {fn : W → W → Mem → R W}
    (h : ∀ (m : Mem) (ρ : List Addr) (H : Hp) (τ : L2.St) (x y : W) (v z : V) (Q : VK), Sim g ρ m H → VR g ρ H x v → VR g ρ H y z → Out g wx τ ρ H (fn x y m) (fun w m' ρ' H' => ∀ v, VR g ρ' H' w v → Q v H') → ∃ r, OpR X f r ∧ r v z H Q) : F2 g X wx f fn := by
  refine ⟨fun pins s m ρ H τ x y v z u t Q I S rx ru ry rt o => ?_⟩
  obtain ⟨r, hr, hq⟩ := h m ρ H τ x y v z (fun v H' => ∀ u s', Inv X pins τ H' s' → RelV v u → Q u s') S rx ry (o.imp fun w m' ρ' H' _ _ k v r u s' I' ru => k v u s' I' r ru)
  exact thn (hr pins s τ H v z u t _ I ru rt hq) fun u1 s1 ⟨v1, H1, I1, r1, q⟩ => q u1 s1 I1 r1
theorem Fn.ofR {f : Value} {fn : List W → Mem → R W}
    (h : ∀ (m : Mem) (ρ : List Addr) (H : Hp) (τ : L2.St) (xs : List W) (vs : List V) (Q : VK), Sim g ρ m H → VRs g ρ H xs vs → Out g wx τ ρ H (fn xs m) (fun w m' ρ' H' => ∀ v, VR g ρ' H' w v → Q v H') → ∃ r, CallR X f r ∧ r vs H Q) : Fn g X wx (fun us => call f us) fn := by
  refine ⟨fun pins s m ρ H τ xs vs us Q I S rx ru o => ?_⟩
  obtain ⟨r, hr, hq⟩ := h m ρ H τ xs vs (fun v H' => ∀ u s', Inv X pins τ H' s' → RelV v u → Q u s') S rx (o.imp fun w m' ρ' H' _ _ k v r u s' I' ru => k v u s' I' r ru)
  exact thn (hr pins s τ H vs us _ I ru hq) fun u1 s1 ⟨v1, H1, I1, r1, q⟩ => q u1 s1 I1 r1
end

/-! ### names, constants -/
def eVar (i : Nat) : DE := fun σ m => match σ[i]? with | some (some w) => .ok w m | _ => .bad
def eC (w : W) : DE := fun _ m => .ok w m
section
variable {g : G} {X : Cx} {wx : WX}
theorem se_var {i : Nat} {x : Str} {pos : Pos} (hN : X.N[i]? = some x) (hv : Vis X.env.scope x) (hd : (x == ("__debug__" : Str)) = false := by decide) (hcd : (x == ("__classdict__" : Str)) = false := by decide) : SE g X wx (.Name x pos) (eVar i) := by
  refine SE.ofPE (pe_var hN hv hd hcd) fun σ m ρ H τ Q S L o => ?_
  unfold eVar at o
  split at o
  · rename_i w h
    obtain ⟨v, h1, h2⟩ := L.2 i w h
    exact ⟨v, h1, (Out.here o S) v h2⟩
  · exact o.elim
theorem se_int {i j pos} : SE g X wx (.Constant (.int i) j pos) (eC (.int i)) := SE.ofPE pe_int fun σ m ρ H τ Q S L o => (Out.here o S) _ (.int i)
theorem se_bl {b j pos} : SE g X wx (.Constant (.bool b) j pos) (eC (.bl b)) := SE.ofPE pe_bl fun σ m ρ H τ Q S L o => (Out.here o S) _ (.bl b)
theorem se_non {j pos} : SE g X wx (.Constant .none j pos) (eC .non) := SE.ofPE pe_non fun σ m ρ H τ Q S L o => (Out.here o S) _ .non
theorem se_str {x : Str} {l : List Nat} {j pos} (h : x = S l) : SE g X wx (.Constant (.str x) j pos) (eC (.str l)) := SE.ofPE pe_str fun σ m ρ H τ Q S L o => by
  subst h
  exact (Out.here o S) _ (.str l)
theorem se_glob {x : Str} {w : W} {u : Value} {pos : Pos} (hg : Gl X x) (hm : X.mg x = some u) (hr : ∃ v, RelV v u ∧ ∀ ρ H, VR g ρ H w v) (hd : (x == ("__debug__" : Str)) = false := by decide) : SE g X wx (.Name x pos) (eC w) := by
  obtain ⟨v, r, q⟩ := hr
  exact SE.ofPE (pe_glob hg hm r hd) fun σ m ρ H τ Q S L o => (Out.here o S) _ (q ρ H)
theorem se_bltn {x : Str} {c : String} {pos : Pos} (hg : Gl X x) (hm : X.mg x = none) (hv : bootBuiltins x = some (.type c)) (hn : x ≠ "__name__" := by decide) (hd : (x == ("__debug__" : Str)) = false := by decide) : SE g X wx (.Name x pos) (eC (.ty c)) :=
  SE.ofPE (pe_bltn (v := .ty c) hg hm hv rfl hn hd) fun σ m ρ H τ Q S L o => (Out.here o S) _ (.ty c)

/-! ### operators -/
def eBin (fn : W → W → Mem → R W) (a b : DE) : DE := fun σ m => (a σ m).bind fun x m1 => (b σ m1).bind fun y m2 => fn x y m2
def eUn (fn : W → Mem → R W) (a : DE) : DE := fun σ m => (a σ m).bind fun x m1 => fn x m1
variable {a b c : Expr} {fa fb fc : DE} {pos : Pos}
theorem bin2 (ha : SE g X wx a fa) (hb : SE g X wx b fb) {fn : W → W → Mem → R W} {f : Value → Value → Sem Value} (hf : F2 g X wx f fn)
    {pins : List (Addr × Obj)} {s : Shared} {σ : Loc} {m : Mem} {ρ : List Addr} {H : Hp} {τ : L2.St} {Q : Value → Shared → Prop} (I : Inv X pins τ H s) (S : Sim g ρ m H) (L : LR g ρ H σ τ)
    (o : Out g wx τ ρ H (eBin fn fa fb σ m) (fun w m' ρ' H' => ∀ v u s', Inv X pins τ H' s' → VR g ρ' H' w v → RelV v u → Q u s')) :
    wpAny (model X.prog X.w) X.A (eval a X.env) (fun v s₁ => wpAny (model X.prog X.w) X.A (eval b X.env) (fun u s₂ => wpAny (model X.prog X.w) X.A (f v u) Q X.xe s₂) X.xe s₁) X.xe s := by
  refine ha.run pins s σ m ρ H τ _ I S L ((o.bind S).imp fun x m1 ρ1 H1 P1 S1 o1 v u s1 I1 rv ru => ?_)
  refine hb.run pins s1 σ m1 ρ1 H1 τ _ I1 S1 (L.post S P1) ((o1.bind S1).imp fun y m2 ρ2 H2 P2 S2 o2 z t s2 I2 rz rt => ?_)
  exact hf.run pins s2 m2 ρ2 H2 τ x y v z u t Q I2 S2 (rv.post S1 P2) ru rz rt o2
theorem se_bin {op : Operator} {fn : W → W → Mem → R W} (hf : F2 g X wx (binaryOp op) fn) (ha : SE g X wx a fa) (hb : SE g X wx b fb) : SE g X wx (.BinOp a op b pos) (eBin fn fa fb) := by
  refine ⟨fun pins s σ m ρ H τ Q I S L o => ?_⟩
  exact wpAny_BinOp (bin2 ha hb hf I S L o)
theorem se_cmp {op : CmpOp} {fn : W → W → Mem → R W} (hf : F2 g X wx (compareOp op) fn) (ha : SE g X wx a fa) (hb : SE g X wx b fb)
    (h1 : behindInMarks op b = false := by first | exact nobehind _ (by decide) (by decide) | rfl) : SE g X wx (.Compare a [op] [b] pos) (eBin fn fa fb) := by
  refine ⟨fun pins s σ m ρ H τ Q I S L o => ?_⟩
  exact wpAny_Compare1 (bin2 ha hb hf I S L o) h1
theorem se_un {op : UnaryOp} {fn : W → Mem → R W} (hf : F1 g X wx (unaryOp op) fn) (ha : SE g X wx a fa) : SE g X wx (.UnaryOp op a pos) (eUn fn fa) := by
  refine ⟨fun pins s σ m ρ H τ Q I S L o => ?_⟩
  exact PyProof.Rows.UnaryOp_ (ha.run pins s σ m ρ H τ _ I S L ((o.bind S).imp fun x m1 ρ1 H1 P1 S1 o1 v u s1 I1 rv ru => hf.run pins s1 m1 ρ1 H1 τ x v u Q I1 S1 rv ru o1))

/-! ### tests -/
def tVal (a : DE) : DB := fun σ m => (a σ m).bind fun x m1 => match x with | .bl b => .ok b m1 | _ => .bad
def tNot (a : DB) : DB := fun σ m => (a σ m).bind fun x m1 => .ok (!x) m1
def tAnd (a b : DB) : DB := fun σ m => (a σ m).bind fun x m1 => if x = true then b σ m1 else .ok false m1
def tOr (a b : DB) : DB := fun σ m => (a σ m).bind fun x m1 => if x = true then .ok true m1 else b σ m1
/-- truth of a value: None, bool, int, text, list -/
def truth (x : W) (m : Mem) : R Bool := match x with
  | .non => .ok false m
  | .bl b => .ok b m
  | .int i => .ok (i != 0) m
  | .str l => if l.length ≤ 1000000 then .ok (l.length != 0) m else .bad
  | .ref n => match m[n]? with
    | some (.lst xs) => .ok (!xs.isEmpty) m
    | _ => .bad
  | _ => .bad
def tTru (a : DE) : DB := fun σ m => (a σ m).bind truth
theorem st_val (ha : SE g X wx a fa) (he : ∀ whole, isTrue a X.env whole = (do let v ← whole; standAt a.pos; holding [v] (truthy v)) := by intro _; rfl) (hn : ∀ op es pos, a ≠ .BoolOp op es pos := by intro _ _ _ z; cases z) : ST g X wx a (tVal fa) := by
  refine ⟨fun whole pins s σ m ρ H τ Q hw I S L o => ?_⟩
  rcases hw with rfl | ⟨op, es, pos, e⟩
  · refine PyProof.Rows.isTrue_plain (ha.run pins s σ m ρ H τ _ I S L ((o.bind S).imp fun x m1 ρ1 H1 P1 S1 o1 v u s1 I1 rv ru => ?_)) (he _)
    cases x with
    | bl b =>
      cases rv; cases ru
      exact wpAny_truthy_bool (Out.here o1 S1 s1 I1)
    | _ => exact o1.elim
  · exact absurd e (hn _ _ _)
theorem st_tru (ha : SE g X wx a fa) (he : ∀ whole, isTrue a X.env whole = (do let v ← whole; standAt a.pos; holding [v] (truthy v)) := by intro _; rfl) (hn : ∀ op es pos, a ≠ .BoolOp op es pos := by intro _ _ _ z; cases z) : ST g X wx a (tTru fa) := by
  refine ⟨fun whole pins s σ m ρ H τ Q hw I S L o => ?_⟩
  rcases hw with rfl | ⟨op, es, pos, e⟩
  · refine PyProof.Rows.isTrue_plain (ha.run pins s σ m ρ H τ _ I S L ((o.bind S).imp fun x m1 ρ1 H1 P1 S1 o1 v u s1 I1 rv ru => ?_)) (he _)
    have go : ∀ k, TruV X.K v H1 k → (∀ s', Inv X pins τ H1 s' → Q k s') → wpAny (model X.prog X.w) X.A (truthy u) Q X.xe s1 := fun k tv hq =>
      thn (tru_ok pins s1 τ H1 v u (fun k' H' => k' = k ∧ H' = H1) I1 ru ⟨k, tv, rfl, rfl⟩) fun k' s' ⟨H', I', e1, e2⟩ => by subst e1; subst e2; exact hq s' I'
    cases rv with
    | non => exact go false rfl (Out.here o1 S1)
    | bl b => exact go b rfl (Out.here o1 S1)
    | int i => exact go (i != 0) rfl (Out.here o1 S1)
    | str l =>
      simp only [truth] at o1
      split at o1
      · rename_i hl
        refine go (l.length != 0) ⟨?_, ?_⟩ (Out.here o1 S1)
        · rw [S_len, sizeLine_eq]; omega
        · rw [S_len, Bool.eq_iff_iff]; simp
      · exact o1.elim
    | @ref n a h =>
      simp only [truth] at o1
      split at o1
      · rename_i xs hx
        obtain ⟨u1, h1, vs, e1, r1⟩ := S1.obj n a _ h hx
        subst e1
        refine go (!xs.isEmpty) (.inl ⟨vs, SqL.of h1, ?_⟩) (Out.here o1 S1)
        cases r1 <;> rfl
      · exact o1.elim
    | _ => exact o1.elim
  · exact absurd e (hn _ _ _)
theorem st_not {t : DB} (h : ST g X wx a t) (hw : True := trivial) : ST g X wx (.UnaryOp .Not a pos) (tNot t) := by
  refine ⟨fun whole pins s σ m ρ H τ Q hw I S L o => ?_⟩
  rcases hw with rfl | ⟨op, es, pos, e⟩
  · exact PyProof.Rows.isTrue_not (h.run _ pins s σ m ρ H τ (fun c s' => Q (!c) s') (.inl rfl) I S L ((o.bind S).imp fun x m1 ρ1 H1 P1 S1 o1 s1 I1 => Out.here o1 S1 s1 I1))
  · cases e
theorem st_and1 {t : DB} (h : ST g X wx a t) : ST g X wx (.BoolOp .And [a] pos) t := by
  refine ⟨fun whole pins s σ m ρ H τ Q hw I S L o => ?_⟩
  refine PyProof.Rows.isTrue_and (h.run _ pins s σ m ρ H τ _ (.inl rfl) I S L (o.imp fun x m1 ρ1 H1 P1 S1 o1 s1 I1 => ?_))
  cases x with
  | true => exact PyProof.Rows.isTrue_and_nil (o1 s1 I1)
  | false => exact o1 s1 I1
theorem st_or1 {t : DB} (h : ST g X wx a t) : ST g X wx (.BoolOp .Or [a] pos) t := by
  refine ⟨fun whole pins s σ m ρ H τ Q hw I S L o => ?_⟩
  refine PyProof.Rows.isTrue_or (h.run _ pins s σ m ρ H τ _ (.inl rfl) I S L (o.imp fun x m1 ρ1 H1 P1 S1 o1 s1 I1 => ?_))
  cases x with
  | false => exact PyProof.Rows.isTrue_or_nil (o1 s1 I1)
  | true => exact o1 s1 I1
variable {rest : List Expr}
theorem st_and {t t' : DB} (h : ST g X wx a t) (h' : ST g X wx (.BoolOp .And (b :: rest) pos) t') : ST g X wx (.BoolOp .And (a :: b :: rest) pos) (tAnd t t') := by
  refine ⟨fun whole pins s σ m ρ H τ Q hw I S L o => ?_⟩
  refine PyProof.Rows.isTrue_and (h.run _ pins s σ m ρ H τ _ (.inl rfl) I S L ((o.bind S).imp fun x m1 ρ1 H1 P1 S1 o1 s1 I1 => ?_))
  cases x with
  | true => exact h'.run whole pins s1 σ m1 ρ1 H1 τ Q (.inr ⟨_, _, _, rfl⟩) I1 S1 (L.post S P1) o1
  | false => exact Out.here o1 S1 s1 I1
theorem st_or {t t' : DB} (h : ST g X wx a t) (h' : ST g X wx (.BoolOp .Or (b :: rest) pos) t') : ST g X wx (.BoolOp .Or (a :: b :: rest) pos) (tOr t t') := by
  refine ⟨fun whole pins s σ m ρ H τ Q hw I S L o => ?_⟩
  refine PyProof.Rows.isTrue_or (h.run _ pins s σ m ρ H τ _ (.inl rfl) I S L ((o.bind S).imp fun x m1 ρ1 H1 P1 S1 o1 s1 I1 => ?_))
  cases x with
  | false => exact h'.run whole pins s1 σ m1 ρ1 H1 τ Q (.inr ⟨_, _, _, rfl⟩) I1 S1 (L.post S P1) o1
  | true => exact Out.here o1 S1 s1 I1
/-! .. as values -/
def eIf (t : DB) (a b : DE) : DE := fun σ m => (t σ m).bind fun x m1 => if x = true then a σ m1 else b σ m1
def eAnd (a b : DE) : DE := fun σ m => (a σ m).bind fun x m1 => match x with | .bl true => b σ m1 | .bl false => .ok (.bl false) m1 | _ => .bad
def eOr (a b : DE) : DE := fun σ m => (a σ m).bind fun x m1 => match x with | .bl true => .ok (.bl true) m1 | .bl false => b σ m1 | _ => .bad
def eNot (a : DE) : DE := fun σ m => (a σ m).bind fun x m1 => match x with | .bl b => .ok (.bl (!b)) m1 | _ => .bad
theorem se_if {t : DB} (h : ST g X wx c t) (ha : SE g X wx a fa) (hb : SE g X wx b fb) : SE g X wx (.IfExp c a b pos) (eIf t fa fb) := by
  refine ⟨fun pins s σ m ρ H τ Q I S L o => ?_⟩
  refine wpAny_IfExp (h.run _ pins s σ m ρ H τ _ (.inl rfl) I S L ((o.bind S).imp fun x m1 ρ1 H1 P1 S1 o1 s1 I1 => ?_))
  cases x with
  | true => exact ha.run pins s1 σ m1 ρ1 H1 τ Q I1 S1 (L.post S P1) o1
  | false => exact hb.run pins s1 σ m1 ρ1 H1 τ Q I1 S1 (L.post S P1) o1
theorem se_one {op} (h : SE g X wx a fa) : SE g X wx (.BoolOp op [a] pos) fa := ⟨fun pins s σ m ρ H τ Q I S L o => PyProof.Rows.BoolOp_one (h.run pins s σ m ρ H τ Q I S L o)⟩
theorem se_and (ha : SE g X wx a fa) (hb : SE g X wx (.BoolOp .And (b :: rest) pos) fb) : SE g X wx (.BoolOp .And (a :: b :: rest) pos) (eAnd fa fb) := by
  refine ⟨fun pins s σ m ρ H τ Q I S L o => ?_⟩
  refine PyProof.Rows.BoolOp_and (ha.run pins s σ m ρ H τ _ I S L ((o.bind S).imp fun x m1 ρ1 H1 P1 S1 o1 v u s1 I1 rv ru => ?_))
  cases x with
  | bl k =>
    cases rv; cases ru
    refine wpAny_truthy_bool ?_
    cases k with
    | true => exact hb.run pins s1 σ m1 ρ1 H1 τ Q I1 S1 (L.post S P1) o1
    | false => exact Out.here o1 S1 _ _ s1 I1 (.bl false) rfl
  | _ => exact o1.elim
theorem se_or (ha : SE g X wx a fa) (hb : SE g X wx (.BoolOp .Or (b :: rest) pos) fb) : SE g X wx (.BoolOp .Or (a :: b :: rest) pos) (eOr fa fb) := by
  refine ⟨fun pins s σ m ρ H τ Q I S L o => ?_⟩
  refine PyProof.Rows.BoolOp_or (ha.run pins s σ m ρ H τ _ I S L ((o.bind S).imp fun x m1 ρ1 H1 P1 S1 o1 v u s1 I1 rv ru => ?_))
  cases x with
  | bl k =>
    cases rv; cases ru
    refine wpAny_truthy_bool ?_
    cases k with
    | false => exact hb.run pins s1 σ m1 ρ1 H1 τ Q I1 S1 (L.post S P1) o1
    | true => exact Out.here o1 S1 _ _ s1 I1 (.bl true) rfl
  | _ => exact o1.elim
theorem se_not (ha : SE g X wx a fa) : SE g X wx (.UnaryOp .Not a pos) (eNot fa) := by
  refine ⟨fun pins s σ m ρ H τ Q I S L o => ?_⟩
  refine PyProof.Rows.UnaryOp_ (ha.run pins s σ m ρ H τ _ I S L ((o.bind S).imp fun x m1 ρ1 H1 P1 S1 o1 v u s1 I1 rv ru => ?_))
  cases x with
  | bl k =>
    cases rv; cases ru
    exact PyProof.Rows.not_of (wpAny_truthy_bool (Out.here o1 S1 _ _ s1 I1 (.bl (!k)) rfl))
  | _ => exact o1.elim

/-! ### arguments, displays -/
def aNil : DL := fun _ m => .ok [] m
def aCons (a : DE) (r : DL) : DL := fun σ m => (a σ m).bind fun x m1 => (r σ m1).bind fun xs m2 => .ok (x :: xs) m2
theorem sa_nil : SA g X wx [] aNil := ⟨fun pos pins s σ m ρ H τ Q I S L o => Calls.spliced_nil (Out.here o S [] [] s I .nil .nil)⟩
theorem sa_cons {e : Expr} {es : List Expr} {fe : DE} {fs : DL} (he : SE g X wx e fe) (hr : SA g X wx es fs) (hs : starEach (e :: es) X.env = (false, eval e X.env) :: starEach es X.env := by exact star1 rfl) : SA g X wx (e :: es) (aCons fe fs) := by
  refine ⟨fun pos pins s σ m ρ H τ Q I S L o => ?_⟩
  rw [hs]
  show wpAny _ _ (spliced ((false, eval e X.env) :: backTo pos (starEach es X.env))) _ _ s
  refine Calls.spliced_cons (he.run pins s σ m ρ H τ _ I S L ((o.bind S).imp fun x m1 ρ1 H1 P1 S1 o1 v u s1 I1 rv ru => ?_))
  refine hr.run pos pins s1 σ m1 ρ1 H1 τ _ I1 S1 (L.post S P1) ((o1.bind S1).imp fun xs m2 ρ2 H2 P2 S2 o2 vs us s2 I2 rvs rus => ?_)
  exact Out.here o2 S2 (v :: vs) (u :: us) s2 I2 (.cons (rv.post S1 P2) rvs) (.cons ru rus)
/-- a display's items are few -/
def few (ws : List W) (m : Mem) : R (List W) := if ws.length ≤ 1000000 then .ok ws m else .bad
def eTup (f : DL) : DE := fun σ m => (f σ m).bind fun ws m1 => (few ws m1).bind fun ws m2 => .ok (.tup ws) m2
def lDisp (f : DL) : DL := fun σ m => (f σ m).bind few
/-- a fresh list becomes an object -/
def eNew (f : DL) : DE := fun σ m => (f σ m).bind fun ws m1 => .ok (.ref m1.length) (m1 ++ [.lst ws])
theorem sizeM {n : Nat} (h : n ≤ 1000000) : n ≤ sizeLine := by rw [sizeLine_eq]; omega
theorem sizeM' {n : Nat} (h : n ≤ 1000000) : n < sizeLine := by rw [sizeLine_eq]; omega
theorem se_tup {es : List Expr} {f : DL} {x1} (h : SA g X wx es f) : SE g X wx (.Tuple es x1 pos) (eTup f) := by
  refine ⟨fun pins s σ m ρ H τ Q I S L o => ?_⟩
  refine wpAny_Tuple_spliced (h.run pos pins s σ m ρ H τ _ I S L ((o.bind S).imp fun ws m1 ρ1 H1 P1 S1 o1 vs us s1 I1 rv ru => ?_))
  unfold few at o1
  split at o1
  · rename_i hl
    have hlu : us.length ≤ sizeLine := by rw [← ru.length, ← rv.length]; exact sizeM hl
    refine ⟨hlu, ?_⟩
    have hf : H1 s1.heap.objs.size = none := I1.hok.fresh (Nat.le_refl _)
    have I2 : Inv X pins τ (upd H1 s1.heap.objs.size (.tup vs)) { s1 with heap := s1.heap.push { cls := .type "tuple", data := .seq us.toArray } } :=
      I1.laid (t' := s1.toks) (fun b u e => Heap.get?_push_of_some _ e) (Nat.le_refl _) ⟨by rw [← rv.length]; exact sizeM hl, us, ru, ⟨_, Heap.get?_push_size _ rfl, rfl, _, rfl⟩⟩
    obtain ⟨P2, S2⟩ := S1.junk (u := .tup vs) hf
    exact (o1 : Out g wx τ ρ1 H1 (R.ok (W.tup ws) m1) _) ρ1 _ P2 S2 _ _ _ I2 (.tup (SqT.of upd_same) (rv.post S1 P2)) rfl
  · exact o1.elim
theorem sl_disp {es : List Expr} {f : DL} (h : SA g X wx es f) : SL g X wx (.List es pos) (lDisp f) := by
  refine ⟨fun pins s σ m ρ H τ Q I S L o => ?_⟩
  refine wpAny_List_spliced (h.run pos pins s σ m ρ H τ _ I S L ((o.bind S).imp fun ws m1 ρ1 H1 P1 S1 o1 vs us s1 I1 rv ru => ?_))
  unfold few at o1
  split at o1
  · rename_i hl
    have hlu : us.length ≤ sizeLine := by rw [← ru.length, ← rv.length]; exact sizeM hl
    refine ⟨hlu, ?_⟩
    have hf : H1 s1.heap.objs.size = none := I1.hok.fresh (Nat.le_refl _)
    have I2 : Inv X pins τ (upd H1 s1.heap.objs.size (.lst vs)) { s1 with heap := s1.heap.push { cls := .type "list", data := .seq us.toArray } } :=
      I1.laid (t' := s1.toks) (fun b u e => Heap.get?_push_of_some _ e) (Nat.le_refl _) ⟨by rw [← rv.length]; exact sizeM hl, us, 0, ru, Heap.get?_push_size _ rfl⟩
    obtain ⟨P2, S2⟩ := S1.junk (u := .lst vs) hf
    exact (o1 : Out g wx τ ρ1 H1 (R.ok ws m1) _) ρ1 _ P2 S2 _ _ _ I2 (P1.back S S1 hf) upd_same (fun z => S1.isSm z hf) (rv.post S1 P2)
  · exact o1.elim
mutual
theorem VR.grow {ρ : List Addr} {H : Hp} (p : Addr) : ∀ {w : W} {v : V}, VR g ρ H w v → VR g (ρ ++ [p]) H w v
  | _, _, .non => .non
  | _, _, .bl b => .bl b
  | _, _, .int b => .int b
  | _, _, .str b => .str b
  | _, _, .tup h r => .tup h (VRs.grow p r)
  | _, _, .frz h r => .frz h (VRs.grow p r)
  | _, _, .ref h => .ref (by rw [List.getElem?_append_left (List.getElem?_eq_some_iff.mp h).1]; exact h)
  | _, _, .cls c => .cls c
  | _, _, .ty c => .ty c
theorem VRs.grow {ρ : List Addr} {H : Hp} (p : Addr) : ∀ {ws : List W} {vs : List V}, VRs g ρ H ws vs → VRs g (ρ ++ [p]) H ws vs
  | _, _, .nil => .nil
  | _, _, .cons h r => .cons (VR.grow p h) (VRs.grow p r)
end
theorem Sim.adopt {ρ : List Addr} {m : Mem} {H : Hp} {p : Addr} {u : HO} {o : O} (s : Sim g ρ m H) (hp : H p = some u) (hn : p ∉ ρ) (h : OR g ρ H o u) {ρ0 : List Addr} {H0 : Hp} (P : Post ρ0 H0 ρ H) (h0 : H0 p = none) :
    Post ρ0 H0 (ρ ++ [p]) H ∧ Sim g (ρ ++ [p]) (m ++ [o]) H := by
  obtain ⟨l, e, hl⟩ := P.ext
  have P0 : Post ρ H (ρ ++ [p]) H → True := fun _ => trivial
  refine ⟨⟨⟨l ++ [p], by rw [e, List.append_assoc], fun a ha => ?_⟩, P.keep⟩, by simp [s.len], ?_, fun i a o' h1 h2 => ?_⟩
  · rcases List.mem_append.mp ha with z | z
    · exact hl a z
    · have : a = p := by simpa using z
      subst this; exact h0
  · rw [List.nodup_append]
    refine ⟨s.nd, by simp, fun a ha b hb => ?_⟩
    have : b = p := by simpa using hb
    subst this
    rintro rfl
    exact hn ha
  · -- relations survive a longer ρ
    have mono : ∀ {o : O} {v : HO}, OR g ρ H o v → OR g (ρ ++ [p]) H o v := fun {o v} r => by
      -- Post with p free would want H p = none; do it by hand
      have vr : ∀ {w : W} {x : V}, VR g ρ H w x → VR g (ρ ++ [p]) H w x := fun r => r.grow p
      have vrs : ∀ {ws : List W} {xs : List V}, VRs g ρ H ws xs → VRs g (ρ ++ [p]) H ws xs := fun r => r.grow p
      cases o with
      | lst ws => obtain ⟨vs, e, r⟩ := r; exact ⟨vs, e, vrs r⟩
      | dK ws => obtain ⟨vs, e, r⟩ := r; exact ⟨vs, e, Paired.imp r fun _ _ q => ⟨q.1, vr q.2⟩⟩
      | dT ws => obtain ⟨vs, e, r⟩ := r; exact ⟨vs, e, Paired.imp r fun _ _ q => ⟨q.1, vr q.2⟩⟩
      | ins c fs => obtain ⟨dx, gs, e, r⟩ := r; exact ⟨dx, gs, e, Paired.imp r fun _ _ q => ⟨q.1, vr q.2⟩⟩
      | exc c fs => obtain ⟨oe, vs, d, gs, e, h1, h2, h3, h4, h5⟩ := r; exact ⟨oe, vs, d, gs, e, h1, h2, h3, h4, Paired.imp h5 fun _ _ q => ⟨q.1, vr q.2⟩⟩
    by_cases hi : i < ρ.length
    · rw [List.getElem?_append_left hi] at h1
      rw [List.getElem?_append_left (by rw [← s.len]; exact hi)] at h2
      obtain ⟨v, h3, h4⟩ := s.obj i a o' h1 h2
      exact ⟨v, h3, mono h4⟩
    · have hi' : ρ.length ≤ i := Nat.le_of_not_lt hi
      rw [List.getElem?_append_right hi'] at h1
      rw [List.getElem?_append_right (by rw [← s.len]; exact hi')] at h2
      have e0 : i - ρ.length = 0 := by
        have := (List.getElem?_eq_some_iff.mp h1).1
        simp at this; omega
      have e0' : i - m.length = 0 := by rw [← s.len]; exact e0
      rw [e0] at h1; rw [e0'] at h2
      simp at h1 h2
      subst h1; subst h2
      exact ⟨u, hp, mono h⟩
theorem se_new {e : Expr} {f : DL} (h : SL g X wx e f) : SE g X wx e (eNew f) := by
  refine ⟨fun pins s σ m ρ H τ Q I S L o => ?_⟩
  refine h.run pins s σ m ρ H τ Q I S L ?_
  have o' := o
  unfold eNew at o'
  cases hr : f σ m with
  | ok ws m1 =>
    rw [hr] at o'
    intro ρ1 H1 P1 S1 p vs s1 I1 h0 hp hn rv
    obtain ⟨P2, S2⟩ := S1.adopt (o := .lst ws) hp hn ⟨vs, rfl, rv⟩ P1 h0
    have hl : (ρ1 ++ [p])[m1.length]? = some p := by rw [← S1.len]; simp
    exact o' (ρ1 ++ [p]) H1 P2 S2 (.ref p) (.ref p) s1 I1 (.ref hl) rfl
  | exc c fs m1 => rw [hr] at o'; exact o'
  | bad => rw [hr] at o'; exact o'
end
end Sh

namespace Sh
open PySem PySem.Spec L2

/-! ### as the layer's readings -/
section
variable (g : G) (X : Cx) (wx : WX)
def teOf (f : DE) : TE := fun τ H Q => ∃ (σ : Loc) (m : Mem) (ρ : List Addr), Sim g ρ m H ∧ LR g ρ H σ τ ∧ Out g wx τ ρ H (f σ m) fun w m' ρ' H' => ∀ v, VR g ρ' H' w v → Q v H'
def tlOf (f : DL) : TE := fun τ H Q => ∃ (σ : Loc) (m : Mem) (ρ : List Addr), Sim g ρ m H ∧ LR g ρ H σ τ ∧ Out g wx τ ρ H (f σ m) fun ws m' ρ' H' => ∀ p vs, H p = none → H' p = some (.lst vs) → p ∉ ρ' → VRs g ρ' H' ws vs → Q (.ref p) H'
def ttOf (f : DB) : TT := fun τ H Q => ∃ (σ : Loc) (m : Mem) (ρ : List Addr), Sim g ρ m H ∧ LR g ρ H σ τ ∧ Out g wx τ ρ H (f σ m) fun b m' ρ' H' => Q b H'
def taOf (f : DL) : TA := fun τ H Q => ∃ (σ : Loc) (m : Mem) (ρ : List Addr), Sim g ρ m H ∧ LR g ρ H σ τ ∧ Out g wx τ ρ H (f σ m) fun ws m' ρ' H' => ∀ vs, VRs g ρ' H' ws vs → Q vs H'
/-- what a statement leaves -/
def OutT (ρ : List Addr) (H : Hp) (r : RS) (D : Ends) : Prop := match r with
  | .nx σ' m' => ∀ ρ' H' τ', Post ρ H ρ' H' → Sim g ρ' m' H' → LR g ρ' H' σ' τ' → D.nx τ' H'
  | .rt w m' => ∀ ρ' H' v, Post ρ H ρ' H' → Sim g ρ' m' H' → VR g ρ' H' w v → D.rt v H'
  | .bk σ' m' => ∀ ρ' H' τ', Post ρ H ρ' H' → Sim g ρ' m' H' → LR g ρ' H' σ' τ' → D.bk τ' H'
  | .ct σ' m' => ∀ ρ' H' τ', Post ρ H ρ' H' → Sim g ρ' m' H' → LR g ρ' H' σ' τ' → D.ct τ' H'
  | .exc c fs σ' m' => ∀ ρ' H' τ' d gs, Post ρ H ρ' H' → Sim g ρ' m' H' → LR g ρ' H' σ' τ' → XD H' d gs → FR g ρ' H' fs gs → wx (.ref (g.cl c)) d τ' H'
  | .bad => False
def tsOf (f : DS) : TS := fun D τ H => ∃ (σ : Loc) (m : Mem) (ρ : List Addr), Sim g ρ m H ∧ LR g ρ H σ τ ∧ OutT g wx ρ H (f σ m) D
def SS (st : Stmt) (f : DS) : Prop := PS X st (tsOf g wx f)
def SSs (st : List Stmt) (f : DS) : Prop := PSs X st (tsOf g wx f)
end
section
variable {g : G} {X : Cx} {wx : WX} {τ : L2.St} {ρ ρ' : List Addr} {H H' : Hp} {m m' : Mem} {e : Expr}
theorem SE.pe {f : DE} (h : SE g X wx e f) : PE X e (teOf g wx f) := ⟨fun pins s τ H Q I ⟨σ, m, ρ, S, L, o⟩ =>
  h.run pins s σ m ρ H τ _ I S L (o.imp fun w m' ρ' H' P S' k v u s' I' r ru => ⟨v, H', I', ru, k v r⟩)⟩
theorem SL.pe {f : DL} (h : SL g X wx e f) : PE X e (tlOf g wx f) := ⟨fun pins s τ H Q I ⟨σ, m, ρ, S, L, o⟩ =>
  h.run pins s σ m ρ H τ _ I S L (o.imp fun w m' ρ' H' P S' k p vs s' I' h0 hp hn r => ⟨.ref p, H', I', rfl, k p vs h0 hp hn r⟩)⟩
theorem ST.pt {f : DB} (h : ST g X wx e f) : PT X e (ttOf g wx f) := ⟨fun pins s τ H Q I ⟨σ, m, ρ, S, L, o⟩ =>
  h.run _ pins s σ m ρ H τ _ (.inl rfl) I S L (o.imp fun b m' ρ' H' P S' k s' I' => ⟨H', I', k⟩)⟩
theorem SA.pa {es : List Expr} {f : DL} (h : SA g X wx es f) : PA X es (taOf g wx f) := ⟨fun pos pins s τ H Q I ⟨σ, m, ρ, S, L, o⟩ =>
  h.run pos pins s σ m ρ H τ _ I S L (o.imp fun b m' ρ' H' P S' k vs us s' I' r ru => ⟨vs, H', I', ru, k vs r⟩)⟩
theorem PS.conv {st : Stmt} {t t' : TS} (h : PS X st t) (k : ∀ D τ H, t' D τ H → t D τ H) : PS X st t' := ⟨fun pins s σ H D I q => h.run pins s σ H D I (k _ _ _ q)⟩
theorem PSs.conv {st : List Stmt} {t t' : TS} (h : PSs X st t) (k : ∀ D τ H, t' D τ H → t D τ H) : PSs X st t' := ⟨fun pins s σ H D I q => h.run pins s σ H D I (k _ _ _ q)⟩
theorem OutT.from {r : RS} {D : Ends} (h : OutT g wx ρ H r D) (P : Post ρ H ρ' H') (S : Sim g ρ m H) (S' : Sim g ρ' m' H') : OutT g wx ρ' H' r D := by
  cases r with
  | nx σ' m' => exact fun ρ2 H2 τ2 P2 S2 => h ρ2 H2 τ2 (P.then P2 S S') S2
  | rt w m' => exact fun ρ2 H2 v P2 S2 => h ρ2 H2 v (P.then P2 S S') S2
  | bk σ' m' => exact fun ρ2 H2 τ2 P2 S2 => h ρ2 H2 τ2 (P.then P2 S S') S2
  | ct σ' m' => exact fun ρ2 H2 τ2 P2 S2 => h ρ2 H2 τ2 (P.then P2 S S') S2
  | exc c fs σ' m' => exact fun ρ2 H2 τ2 d gs P2 S2 => h ρ2 H2 τ2 d gs (P.then P2 S S') S2
  | bad => exact h

/-- an expression's result, then a statement's -/
def RS.of {β : Type} (σ : Loc) (r : R β) (k : β → Mem → RS) : RS := match r with
  | .ok b m => k b m
  | .exc c fs m => .exc c fs σ m
  | .bad => .bad
@[simp] theorem RS.of_ok {β : Type} (σ : Loc) (b : β) (m : Mem) (k : β → Mem → RS) : RS.of σ (.ok b m) k = k b m := rfl
@[simp] theorem RS.of_exc {β : Type} (σ : Loc) (c : String) (fs : List (List Nat × W)) (m : Mem) (k : β → Mem → RS) : RS.of σ (.exc c fs m) k = .exc c fs σ m := rfl
@[simp] theorem RS.of_bad {β : Type} (σ : Loc) (k : β → Mem → RS) : RS.of σ .bad k = .bad := rfl
theorem OutT.of {β : Type} {σ : Loc} {r : R β} {k : β → Mem → RS} {D : Ends} (S : Sim g ρ m H) (L : LR g ρ H σ τ) (h : OutT g wx ρ H (RS.of σ r k) D) :
    Out g wx τ ρ H r (fun b m1 ρ1 H1 => OutT g wx ρ1 H1 (k b m1) D) := by
  cases r with
  | ok b m1 => exact fun ρ1 H1 P1 S1 => OutT.from h P1 S S1
  | exc c fs m1 => exact fun ρ1 H1 d gs P1 S1 h1 h2 => h ρ1 H1 τ d gs P1 S1 (L.post S P1) h1 h2
  | bad => exact h

/-! ### statements -/
def sSeq (a b : DS) : DS := fun σ m => match a σ m with
  | .nx σ' m' => b σ' m'
  | r => r
def sNil : DS := fun σ m => .nx σ m
def sExpr (f : DE) : DS := fun σ m => RS.of σ (f σ m) fun _ m1 => .nx σ m1
def sExprL (f : DL) : DS := fun σ m => RS.of σ (f σ m) fun _ m1 => .nx σ m1
def sRet (f : DE) : DS := fun σ m => RS.of σ (f σ m) fun w m1 => .rt w m1
def sRetN : DS := fun _ m => .rt .non m
def sIf (t : DB) (a b : DS) : DS := fun σ m => RS.of σ (t σ m) fun k m1 => if k = true then a σ m1 else b σ m1
def sSet (i : Nat) (f : DE) : DS := fun σ m => RS.of σ (f σ m) fun w m1 => .nx (σ.set i (some w)) m1
def sBreak : DS := fun σ m => .bk σ m
def sCont : DS := fun σ m => .ct σ m
theorem OutT.seq {a b : DS} {σ : Loc} {D : Ends} (S : Sim g ρ m H) (h : OutT g wx ρ H (sSeq a b σ m) D) : OutT g wx ρ H (a σ m) { D with nx := tsOf g wx b D } := by
  unfold sSeq at h
  cases ha : a σ m with
  | nx σ' m' => rw [ha] at h; exact fun ρ1 H1 τ1 P1 S1 L1 => ⟨σ', m', ρ1, S1, L1, OutT.from h P1 S S1⟩
  | rt w m' => rw [ha] at h; exact h
  | bk σ' m' => rw [ha] at h; exact h
  | ct σ' m' => rw [ha] at h; exact h
  | exc c fs σ' m' => rw [ha] at h; exact h
  | bad => rw [ha] at h; exact h
theorem ss_nil : SSs g X wx [] sNil := PSs.conv pss_nil fun D τ H ⟨σ, m, ρ, S, L, o⟩ => o ρ H τ Post.refl S L
theorem ss_cons {st : Stmt} {rest : List Stmt} {a b : DS} (h1 : SS g X wx st a) (h2 : SSs g X wx rest b) : SSs g X wx (st :: rest) (sSeq a b) :=
  PSs.conv (pss_cons h1 h2) fun D τ H ⟨σ, m, ρ, S, L, o⟩ => ⟨σ, m, ρ, S, L, o.seq S⟩
theorem ss_one {st : Stmt} {a : DS} (h1 : SS g X wx st a) : SSs g X wx [st] a := pss_one h1
theorem ss_pass {pos} : SS g X wx (.Pass pos) sNil := PS.conv ps_pass fun D τ H ⟨σ, m, ρ, S, L, o⟩ => o ρ H τ Post.refl S L
theorem ss_break {pos} : SS g X wx (.Break pos) sBreak := PS.conv ps_break fun D τ H ⟨σ, m, ρ, S, L, o⟩ => o ρ H τ Post.refl S L
theorem ss_cont {pos} : SS g X wx (.Continue pos) sCont := PS.conv ps_continue fun D τ H ⟨σ, m, ρ, S, L, o⟩ => o ρ H τ Post.refl S L
theorem ss_doc {x j pos pos'} : SS g X wx (.Expr (.Constant (.str x) j pos) pos') sNil := PS.conv ps_doc fun D τ H ⟨σ, m, ρ, S, L, o⟩ => o ρ H τ Post.refl S L
theorem ss_expr {f : DE} {pos : Pos} (he : SE g X wx e f) (hs : swapsWith e none pos.line X.env = pure false := by rfl) : SS g X wx (.Expr e pos) (sExpr f) :=
  PS.conv (ps_expr he.pe hs) fun D τ H ⟨σ, m, ρ, S, L, o⟩ => ⟨σ, m, ρ, S, L, (o.of S L).imp fun w m1 ρ1 H1 P1 S1 o1 v r => o1 ρ1 H1 τ Post.refl S1 (L.post S P1)⟩
theorem ss_ret {f : DE} {pos : Pos} (he : SE g X wx e f) : SS g X wx (.Return (some e) pos) (sRet f) :=
  PS.conv (ps_ret he.pe) fun D τ H ⟨σ, m, ρ, S, L, o⟩ => ⟨σ, m, ρ, S, L, (o.of S L).imp fun w m1 ρ1 H1 P1 S1 o1 v r => o1 ρ1 H1 v Post.refl S1 r⟩
theorem ss_retN {pos : Pos} : SS g X wx (.Return none pos) sRetN := PS.conv ps_retN fun D τ H ⟨σ, m, ρ, S, L, o⟩ => o ρ H .non Post.refl S .non
theorem ss_if {t : DB} {a b : List Stmt} {fa fb : DS} {pos : Pos} (h : ST g X wx e t) (ha : SSs g X wx a fa) (hb : SSs g X wx b fb) : SS g X wx (.If e a b pos) (sIf t fa fb) :=
  PS.conv (ps_if h.pt ha hb) fun D τ H ⟨σ, m, ρ, S, L, o⟩ => ⟨σ, m, ρ, S, L, (o.of S L).imp fun k m1 ρ1 H1 P1 S1 o1 => by
    cases k with
    | true => exact ⟨σ, m1, ρ1, S1, L.post S P1, o1⟩
    | false => exact ⟨σ, m1, ρ1, S1, L.post S P1, o1⟩⟩
theorem ss_set {i : Nat} {x : Str} {f : DE} {pos pos' : Pos} (hN : X.N.Nodup) (hi : X.N[i]? = some x) (hx : L2.Loc X.env.scope x) (he : SE g X wx e f) (hs : swapsWith e (some (.Name x pos')) pos.line X.env = pure false := by rfl)
    (hf : X.fn x = true ∨ X.env.scope.names.lookup x = some .local := by first | exact .inl rfl | exact .inr rfl | assumption) : SS g X wx (.Assign [.Name x pos'] e pos) (sSet i f) :=
  PS.conv (ps_set hN hi hx he.pe hs hf) fun D τ H ⟨σ, m, ρ, S, L, o⟩ => ⟨σ, m, ρ, S, L, (o.of S L).imp fun w m1 ρ1 H1 P1 S1 o1 v r => o1 ρ1 H1 _ Post.refl S1 ((L.post S P1).set i r)⟩

/-! ### targets -/
/-- the places js alone are touched -/
def Agree (js : List Nat) (τ τ' : L2.St) : Prop := τ'.length = τ.length ∧ ∀ j, j ∉ js → τ'[j]? = τ[j]?
theorem Agree.refl {js : List Nat} {τ : L2.St} : Agree js τ τ := ⟨rfl, fun _ _ => rfl⟩
theorem Agree.trans {js : List Nat} {τ τ1 τ2 : L2.St} (a : Agree js τ τ1) (b : Agree js τ1 τ2) : Agree js τ τ2 := ⟨b.1.trans a.1, fun j h => (b.2 j h).trans (a.2 j h)⟩
theorem Agree.mono {js ks : List Nat} {τ τ1 : L2.St} (a : Agree js τ τ1) (h : ∀ j ∈ js, j ∈ ks) : Agree ks τ τ1 := ⟨a.1, fun j hj => a.2 j fun z => hj (h j z)⟩
theorem Agree.wipe {js : List Nat} {τ τ1 : L2.St} (a : Agree js τ τ1) : L2.wipe τ1 js = L2.wipe τ js := by
  have key : ∀ (js : List Nat) (τ : L2.St) (i : Nat), (L2.wipe τ js)[i]? = if i ∈ js ∧ i < τ.length then some none else τ[i]? := by
    intro js τ i
    induction js with
    | nil => simp [L2.wipe]
    | cons v vs ih =>
      unfold L2.wipe
      by_cases h : i = v
      · subst h
        by_cases hl : i < τ.length
        · rw [List.getElem?_set_self (by rw [wipe_length]; exact hl)]; simp [hl]
        · rw [List.getElem?_eq_none (by rw [List.length_set, wipe_length]; omega)]
          simp [hl]
      · rw [List.getElem?_set_ne (Ne.symm h), ih]
        simp [h]
  refine List.ext_getElem? fun i => ?_
  rw [key, key, a.1]
  by_cases h : i ∈ js
  · by_cases hl : i < τ.length
    · simp [h, hl]
    · have h1 : τ1[i]? = none := List.getElem?_eq_none (by rw [a.1]; omega)
      have h2 : τ[i]? = none := List.getElem?_eq_none (by omega)
      simp [hl, h1, h2]
  · simp [h, a.2 i h]
def tgOf (g : G) (wx : WX) (h : W → Loc → Mem → R Loc) (js : List Nat) : TG := fun v τ H Q => ∃ (w : W) (σ : Loc) (m : Mem) (ρ : List Addr), Sim g ρ m H ∧ LR g ρ H σ τ ∧ VR g ρ H w v ∧
  Out g wx τ ρ H (h w σ m) fun σ' m' ρ' H' => ∀ τ', LR g ρ' H' σ' τ' → Agree js τ τ' → Q τ' H'
/-- a target; js: the places that it stores to -/
def SG (g : G) (X : Cx) (wx : WX) (tg : Expr) (h : W → Loc → Mem → R Loc) (js : List Nat) : Prop := PG X tg (tgOf g wx h js)
def gSet (i : Nat) : W → Loc → Mem → R Loc := fun w σ m => .ok (σ.set i (some w)) m
theorem PG.conv {tg : Expr} {t t' : TG} (h : PG X tg t) (k : ∀ v τ H Q, t' v τ H Q → t v τ H Q) : PG X tg t' := ⟨fun pins s σ H v u Q I r q => h.run pins s σ H v u Q I r (k _ _ _ _ q)⟩
theorem sg_name {i : Nat} {x : Str} {pos : Pos} (hN : X.N.Nodup) (hi : X.N[i]? = some x) (hx : L2.Loc X.env.scope x) (hf : X.fn x = true ∨ X.env.scope.names.lookup x = some .local := by first | exact .inl rfl | exact .inr rfl | assumption) : SG g X wx (.Name x pos) (gSet i) [i] :=
  PG.conv (pg_name hN hi hx hf) fun v τ H Q ⟨w, σ, m, ρ, S, L, r, o⟩ => (Out.here o S) _ (L.set i r) ⟨by simp, fun j hj => by
    have : j ≠ i := by simpa using hj
    exact List.getElem?_set_ne (Ne.symm this)⟩
/-- several names: (a, b, ..) = a tuple -/
def gTups : List (W → Loc → Mem → R Loc) → List W → Loc → Mem → R Loc
  | [], [], σ, m => .ok σ m
  | h :: hs, w :: ws, σ, m => (h w σ m).bind fun σ1 m1 => gTups hs ws σ1 m1
  | _, _, _, _ => .bad
def gTup (hs : List (W → Loc → Mem → R Loc)) : W → Loc → Mem → R Loc := fun w σ m => match w with
  | .tup ws => if ws.length = hs.length then gTups hs ws σ m else .bad
  | _ => .bad
def tgsOf (g : G) (wx : WX) (hs : List (W → Loc → Mem → R Loc)) (js : List Nat) : TGs := fun vs τ H Q => ∃ (ws : List W) (σ : Loc) (m : Mem) (ρ : List Addr), Sim g ρ m H ∧ LR g ρ H σ τ ∧ VRs g ρ H ws vs ∧
  Out g wx τ ρ H (gTups hs ws σ m) fun σ' m' ρ' H' => ∀ τ', LR g ρ' H' σ' τ' → Agree js τ τ' → Q τ' H'
def SGs (g : G) (X : Cx) (wx : WX) (tgs : List Expr) (hs : List (W → Loc → Mem → R Loc)) (js : List Nat) : Prop := PGs X tgs (tgsOf g wx hs js)
theorem PGs.conv {tg : List Expr} {t t' : TGs} (h : PGs X tg t) (k : ∀ v τ H Q, t' v τ H Q → t v τ H Q) : PGs X tg t' := ⟨fun pins s σ H v u Q I r q => h.run pins s σ H v u Q I r (k _ _ _ _ q)⟩
theorem sgs_nil : SGs g X wx [] [] [] := PGs.conv pgs_nil fun vs τ H Q ⟨ws, σ, m, ρ, S, L, r, o⟩ => by
  cases r with
  | nil => exact ⟨rfl, (Out.here o S) τ L Agree.refl⟩
  | cons a b => exact o.elim
theorem Out.slots {τ' : L2.St} {js : List Nat} {β : Type} {r : R β} {Q : β → Mem → List Addr → Hp → Prop} (hw : ∀ c d H, wx c d τ H → wx c d τ' H) (h : Out g wx τ ρ H r Q) : Out g wx τ' ρ H r Q := by
  cases r with
  | ok b m1 => exact h
  | exc c fs m1 => exact fun ρ1 H1 d gs P1 S1 h1 h2 => hw _ _ _ (h ρ1 H1 d gs P1 S1 h1 h2)
  | bad => exact h
/-- targets raise nothing -/
def Quiet (h : W → Loc → Mem → R Loc) : Prop := ∀ w σ m c fs m', h w σ m ≠ .exc c fs m'
theorem quiet_set {i : Nat} : Quiet (gSet i) := fun w σ m c fs m' z => nomatch z
theorem gTups_quiet : ∀ {hs : List (W → Loc → Mem → R Loc)}, (∀ h ∈ hs, Quiet h) → ∀ ws σ m c fs m', gTups hs ws σ m ≠ .exc c fs m'
  | [], _, [], σ, m, c, fs, m', z => nomatch z
  | [], _, _ :: _, σ, m, c, fs, m', z => nomatch z
  | _ :: _, _, [], σ, m, c, fs, m', z => nomatch z
  | h :: hs, k, w :: ws, σ, m, c, fs, m', z => by
    unfold gTups at z
    cases q : h w σ m with
    | ok σ1 m1 => rw [q] at z; exact gTups_quiet (fun h hh => k h (List.mem_cons_of_mem _ hh)) ws σ1 m1 c fs m' z
    | exc c1 fs1 m1 => exact k h List.mem_cons_self w σ m c1 fs1 m1 q
    | bad => rw [q] at z; cases z
theorem Out.quiet {τ' : L2.St} {β : Type} {r : R β} {Q : β → Mem → List Addr → Hp → Prop} (hq : ∀ c fs m', r ≠ .exc c fs m') (h : Out g wx τ ρ H r Q) : Out g wx τ' ρ H r Q := by
  cases r with
  | ok b m1 => exact h
  | exc c fs m1 => exact absurd rfl (hq c fs m1)
  | bad => exact h
theorem sgs_cons {t : Expr} {ts : List Expr} {h : W → Loc → Mem → R Loc} {hs : List (W → Loc → Mem → R Loc)} {js ks : List Nat} (h1 : SG g X wx t h js) (h2 : SGs g X wx ts hs ks) (hq : ∀ h ∈ hs, Quiet h := by first | (intro h hh; simp only [List.mem_cons, List.not_mem_nil, or_false] at hh; rcases hh with rfl | rfl | rfl | rfl | rfl <;> exact quiet_set) | (intro h hh; cases hh))
    (hst : (assignEach (t :: ts) X.env).map (·.2) = assign t X.env :: (assignEach ts X.env).map (·.2) := by rfl) : SGs g X wx (t :: ts) (h :: hs) (js ++ ks) :=
  PGs.conv (pgs_cons h1 h2 hst) fun vs τ H Q ⟨ws, σ, m, ρ, S, L, r, o⟩ => by
    cases r with
    | nil => exact o.elim
    | @cons w v ws vs rv rr =>
      refine ⟨_, _, rfl, w, σ, m, ρ, S, L, rv, ((show Out g wx τ ρ H ((h w σ m).bind fun σ1 m1 => gTups hs ws σ1 m1) _ from o).bind S).imp fun σ1 m1 ρ1 H1 P1 S1 o1 τ1 L1 A1 => ?_⟩
      refine ⟨ws, σ1, m1, ρ1, S1, L1, rr.post S P1, (o1.quiet (gTups_quiet hq ws σ1 m1)).imp fun σ2 m2 ρ2 H2 P2 S2 o2 τ2 L2 A2 => o2 τ2 L2 ((A1.mono fun j hj => List.mem_append_left _ hj).trans (A2.mono fun j hj => List.mem_append_right _ hj))⟩
theorem sg_tup {es : List Expr} {k : Nat} {hs : List (W → Loc → Mem → R Loc)} {js : List Nat} {pos : Pos} (hK : X.K = g.K) (hc : X.calm = true) (h : SGs g X wx es hs js) (hl : hs.length = es.length := by rfl) (hn : (assignEach es X.env).length = es.length := by rfl)
    (hst : (assignEach es X.env).findIdx? (·.1) = none := by rfl) : SG g X wx (.Tuple es k pos) (gTup hs) js :=
  PG.conv (pg_tup (n := es.length) hc h hn hst) fun v τ H Q ⟨w, σ, m, ρ, S, L, r, o⟩ => by
    cases r with
    | @tup ws vs a hs' rv =>
      have o' : Out g wx τ ρ H (if ws.length = hs.length then gTups hs ws σ m else .bad) _ := o
      by_cases he : ws.length = hs.length
      · rw [if_pos he] at o'
        exact ⟨a, vs, rfl, by rw [hK]; exact hs', by rw [← rv.length, he, hl], ws, σ, m, ρ, S, L, rv, o'⟩
      · rw [if_neg he] at o'
        exact o'.elim
    | _ => exact o.elim
end
end Sh

namespace Sh
open PySem PySem.Spec L2

/-! ### what is walked -/
abbrev Src := Nat → Mem → Option (Option W)
structure Plan where
  n : Nat
  src : Src
abbrev DP := Loc → Mem → R Plan
def Wk (g : G) (J : It) (src : Src) (ρ0 : List Addr) (H0 : Hp) : Prop := ∀ (ρ : List Addr) (H : Hp) (m : Mem) (i : Nat), Post ρ0 H0 ρ H → Sim g ρ m H →
  match src i m with
  | some (some w) => J.go i H ∧ ∀ x H', J.yld i H x H' → Post ρ H ρ H' ∧ Sim g ρ m H' ∧ VR g ρ H' w x
  | some none => J.stop i H
  | none => True
def tiOf (g : G) (wx : WX) (f : DP) : TI := fun τ H R => ∃ (σ : Loc) (m : Mem) (ρ : List Addr), Sim g ρ m H ∧ LR g ρ H σ τ ∧ Out g wx τ ρ H (f σ m) fun pl m' ρ' H' => ∀ J, Wk g J pl.src ρ' H' → R J H'
def SI (g : G) (X : Cx) (wx : WX) (tg iter : Expr) (f : DP) : Prop := PI X tg iter (tiOf g wx f)
def srcFix (ws : List W) : Src := fun i _ => some ws[i]?
def srcLive (a : Nat) : Src := fun i m => match m[a]? with | some (.lst xs) => some xs[i]? | _ => none
def srcRange (lo : Int) (n : Nat) : Src := fun i _ => some (if i < n then some (.int (lo + (i : Int))) else none)
def srcStr (l : List Nat) : Src := fun i _ => some (l[i]?.map fun c => .str [c])
def srcEnum (s : Src) : Src := fun i m => (s i m).map fun o => o.map fun w => .tup [.int (i : Nat), w]
def srcZip (s t : Src) : Src := fun i m => match s i m, t i m with
  | some (some x), some (some y) => some (some (.tup [x, y]))
  | some none, some _ => some none
  | some _, some none => some none
  | _, _ => none
section
variable {g : G} {X : Cx} {wx : WX} {τ : L2.St} {ρ ρ' : List Addr} {H H' : Hp} {m m' : Mem} {e tg : Expr}
theorem PI.conv {iter : Expr} {t t' : TI} (h : PI X tg iter t) (k : ∀ τ H R, t' τ H R → t τ H R) : PI X tg iter t' := ⟨fun pins s σ H R I q => h.run pins s σ H R I (k _ _ _ q)⟩
theorem PI.union {iter : Expr} {ι : Type} {t : ι → TI} {t' : TI} (h : ∀ i, PI X tg iter (t i)) (k : ∀ τ H R, t' τ H R → ∃ i, t i τ H R) : PI X tg iter t' := ⟨fun pins s σ H R I q => let ⟨i, q'⟩ := k _ _ _ q; (h i).run pins s σ H R I q'⟩
/-- a fresh list stays -/
theorem fresh_stay {p : Addr} {o : HO} (S : Sim g ρ m H) (hp : H p = some o) (hn : p ∉ ρ) {ρ1 : List Addr} {H1 : Hp} (P : Post ρ H ρ1 H1) : H1 p = some o ∧ p ∉ ρ1 := by
  refine ⟨P.keep p o hp hn, fun z => ?_⟩
  obtain ⟨l, e, hl⟩ := P.ext
  rw [e] at z
  rcases List.mem_append.mp z with z | z
  · exact hn z
  · rw [hl p z] at hp; cases hp

theorem VRs.at_none : ∀ {ws : List W} {vs : List V} {i : Nat}, VRs g ρ H ws vs → ws[i]? = none → vs.length ≤ i := fun {ws vs i} r h => by
  rw [← r.length]; exact List.getElem?_eq_none_iff.mp h
theorem wk_fix {p : Addr} {vs : List V} {ws : List W} (hK : X.K = g.K) (S : Sim g ρ m H) (hp : H p = some (.lst vs)) (hn : p ∉ ρ) (r : VRs g ρ H ws vs) : Wk g (Itl X.K p) (srcFix ws) ρ H := by
  intro ρ1 H1 m1 i P1 S1
  obtain ⟨hp1, hn1⟩ := fresh_stay S hp hn P1
  have r1 := r.post S P1
  cases q : ws[i]? with
  | some w =>
    obtain ⟨v, hv, rv⟩ := r1.get q
    simp only [srcFix, q]
    refine ⟨⟨vs, v, SqL.of hp1, hv⟩, fun x H' ⟨e, hx⟩ => ?_⟩
    subst e
    have := hx vs (SqL.of hp1)
    rw [hv] at this; cases this
    exact ⟨Post.refl, S1, rv⟩
  | none =>
    simp only [srcFix, q]
    exact ⟨vs, SqL.of hp1, r1.at_none q⟩
theorem wk_live {n : Nat} {a : Addr} (hK : X.K = g.K) (S : Sim g ρ m H) (ha : ρ[n]? = some a) : Wk g (Itl X.K a) (srcLive n) ρ H := by
  intro ρ1 H1 m1 i P1 S1
  have ha1 := P1.get ha
  unfold srcLive
  split
  · rename_i x w hw
    split at hw
    · rename_i xs hxs
      obtain ⟨u, h1, vs, e1, r1⟩ := S1.obj n a _ ha1 hxs
      subst e1
      have hw' : xs[i]? = some w := Option.some.inj hw
      obtain ⟨v, hv, rv⟩ := r1.get hw'
      refine ⟨⟨vs, v, SqL.of h1, hv⟩, fun x H' ⟨e, hx⟩ => ?_⟩
      subst e
      have := hx vs (SqL.of h1)
      rw [hv] at this; cases this
      exact ⟨Post.refl, S1, rv⟩
    · cases hw
  · rename_i x hw
    split at hw
    · rename_i xs hxs
      obtain ⟨u, h1, vs, e1, r1⟩ := S1.obj n a _ ha1 hxs
      subst e1
      exact ⟨vs, SqL.of h1, r1.at_none (Option.some.inj hw)⟩
    · cases hw
  · trivial
theorem wk_tup {a : Addr} {vs : List V} {ws : List W} (hK : X.K = g.K) (S : Sim g ρ m H) (hp : SqT X.K H a vs) (r : VRs g ρ H ws vs) : Wk g (Itt X.K a) (srcFix ws) ρ H := by
  intro ρ1 H1 m1 i P1 S1
  have hp1 : SqT X.K H1 a vs := by rw [hK] at hp ⊢; exact P1.seqT S hp
  have r1 := r.post S P1
  cases q : ws[i]? with
  | some w =>
    obtain ⟨v, hv, rv⟩ := r1.get q
    simp only [srcFix, q]
    refine ⟨⟨vs, v, hp1, hv⟩, fun x H' ⟨e, hx⟩ => ?_⟩
    subst e
    have := hx vs hp1
    rw [hv] at this; cases this
    exact ⟨Post.refl, S1, rv⟩
  | none =>
    simp only [srcFix, q]
    exact ⟨vs, hp1, r1.at_none q⟩
theorem wk_range {lo : Int} {n : Nat} : Wk g (Itr lo n) (srcRange lo n) ρ H := by
  intro ρ1 H1 m1 i P1 S1
  unfold srcRange
  by_cases h : i < n
  · simp only [if_pos h]
    refine ⟨h, fun x H' ⟨e, hx⟩ => ?_⟩
    subst e; subst hx
    exact ⟨Post.refl, S1, .int _⟩
  · simp only [if_neg h]
    exact Nat.le_of_not_lt h
theorem wk_str {l : List Nat} : Wk g (Its (Sh.S l)) (srcStr l) ρ H := by
  intro ρ1 H1 m1 i P1 S1
  unfold srcStr
  have hg : (Sh.S l).cps[i]? = l[i]? := by simp
  have hs : (Sh.S l).cps.size = l.length := by simp
  cases q : l[i]? with
  | some c =>
    simp only [Option.map_some]
    refine ⟨by show i < (Sh.S l).cps.size; rw [hs]; exact (List.getElem?_eq_some_iff.mp q).1, fun x H' ⟨e, c', hc, hx⟩ => ?_⟩
    subst e; subst hx
    rw [hg, q] at hc; cases hc
    exact ⟨Post.refl, S1, .str [c]⟩
  | none =>
    simp only [Option.map_none]
    show (Sh.S l).cps.size ≤ i
    rw [hs]; exact List.getElem?_eq_none_iff.mp q

/-- iterables -/
def pList (f : DL) : DP := fun σ m => (f σ m).bind fun ws m1 => .ok ⟨ws.length, srcFix ws⟩ m1
def planOf (w : W) (m : Mem) : R Plan := match w with
  | .ref n => match m[n]? with
    | some (.lst xs) => .ok ⟨xs.length, srcLive n⟩ m
    | _ => .bad
  | .tup ws => .ok ⟨ws.length, srcFix ws⟩ m
  | .str l => .ok ⟨l.length, srcStr l⟩ m
  | _ => .bad
def pVal (f : DE) : DP := fun σ m => (f σ m).bind planOf
theorem si_list {f : DL} (hK : X.K = g.K) (h : SL g X wx e f) : SI g X wx tg e (pList f) :=
  PI.conv (pi_list h.pe) fun τ H R ⟨σ, m, ρ, S, L, o⟩ => ⟨σ, m, ρ, S, L, (o.bind S).imp fun ws m1 ρ1 H1 P1 S1 o1 p vs h0 hp hn r =>
    ⟨p, rfl, ⟨vs, SqL.of hp⟩, Out.here o1 S1 _ (wk_fix hK S1 hp hn r)⟩⟩
theorem si_val {f : DE} (hK : X.K = g.K) (h : SE g X wx e f) : SI g X wx tg e (pVal f) := by
  -- list, tuple or text
  have hl : PI X tg e (iList X.K (teOf g wx f)) := pi_list h.pe
  have ht : PI X tg e (iTup X.K (teOf g wx f)) := pi_tup h.pe
  have hs : PI X tg e (iStr (teOf g wx f)) := pi_str h.pe
  refine PI.union (ι := Fin 3) (t := fun i => match i with | 0 => iList X.K (teOf g wx f) | 1 => iTup X.K (teOf g wx f) | 2 => iStr (teOf g wx f)) (fun i => match i with | 0 => hl | 1 => ht | 2 => hs) fun τ H R ⟨σ, m, ρ, S, L, o⟩ => ?_
  have o' := o.bind S
  cases hr : f σ m with
  | ok w m1 =>
    have hbad : (∀ ρ1 H1, Post ρ H ρ1 H1 → Sim g ρ1 m1 H1 → ∀ v, VR g ρ1 H1 w v → Out g wx τ ρ1 H1 (planOf w m1) fun pl m' ρ' H' => ∀ J, Wk g J pl.src ρ' H' → R J H') := fun ρ1 H1 P1 S1 v r => by
      rw [hr] at o'; exact o' ρ1 H1 P1 S1
    cases w with
    | ref n =>
      refine ⟨0, σ, m, ρ, S, L, ?_⟩
      rw [hr]
      intro ρ1 H1 P1 S1 v r
      have o1 := hbad ρ1 H1 P1 S1 v r
      cases r with
      | @ref n a ha =>
        simp only [planOf] at o1
        split at o1
        · rename_i xs hx
          obtain ⟨u, h1, vs, e1, r1⟩ := S1.obj n a _ ha hx
          subst e1
          exact ⟨a, rfl, ⟨vs, SqL.of h1⟩, Out.here o1 S1 _ (wk_live hK S1 ha)⟩
        · exact o1.elim
    | tup ws =>
      refine ⟨1, σ, m, ρ, S, L, ?_⟩
      rw [hr]
      intro ρ1 H1 P1 S1 v r
      have o1 := hbad ρ1 H1 P1 S1 v r
      cases r with
      | @tup ws vs a hs rv =>
        have hs' : SqT X.K H1 a vs := by rw [hK]; exact hs
        exact ⟨a, rfl, ⟨vs, hs'⟩, Out.here o1 S1 _ (wk_tup hK S1 hs' rv)⟩
    | str l =>
      refine ⟨2, σ, m, ρ, S, L, ?_⟩
      rw [hr]
      intro ρ1 H1 P1 S1 v r
      have o1 := hbad ρ1 H1 P1 S1 v r
      cases r
      exact ⟨_, rfl, Out.here o1 S1 _ wk_str⟩
    | _ =>
      refine ⟨0, σ, m, ρ, S, L, ?_⟩
      rw [hr]
      intro ρ1 H1 P1 S1 v r
      exact (hbad ρ1 H1 P1 S1 v r).elim
  | exc c fs m1 =>
    rw [hr] at o'
    refine ⟨0, σ, m, ρ, S, L, ?_⟩
    rw [hr]; exact o'
  | bad => rw [hr] at o'; exact o'.elim
def pRange1 (f : DL) : DP := fun σ m => (f σ m).bind fun ws m1 => match ws with
  | [.int n] => if -1000000000 ≤ n ∧ n ≤ 1000000000 then .ok ⟨n.toNat, srcRange 0 n.toNat⟩ m1 else .bad
  | _ => .bad
def pRange2 (f : DL) : DP := fun σ m => (f σ m).bind fun ws m1 => match ws with
  | [.int a, .int n] => if (-1000000000 ≤ n ∧ n ≤ 1000000000) ∧ -1000000000 ≤ a ∧ a ≤ 1000000000 then .ok ⟨(n - a).toNat, srcRange a (n - a).toNat⟩ m1 else .bad
  | _ => .bad
theorem VRs.inv1 {w : W} {vs : List V} (h : VRs g ρ H [w] vs) : ∃ v, vs = [v] ∧ VR g ρ H w v := by
  cases h with | cons a b => cases b; exact ⟨_, rfl, a⟩
theorem VRs.inv2 {w x : W} {vs : List V} (h : VRs g ρ H [w, x] vs) : ∃ v u, vs = [v, u] ∧ VR g ρ H w v ∧ VR g ρ H x u := by
  cases h with | cons a b => cases b with | cons c d => cases d; exact ⟨_, _, rfl, a, c⟩
theorem si_range1 {a : Expr} {f : DL} {p pos : Pos} (hg : Gl X "range") (hm : X.mg "range" = none) (ha : SA g X wx [a] f) (hs : starEach [a] X.env = [(false, eval a X.env)] := by rfl) : SI g X wx tg (.Call (.Name "range" p) [a] [] pos) (pRange1 f) :=
  PI.conv (pi_range1 hg hm ha.pa hs) fun τ H R ⟨σ, m, ρ, S, L, o⟩ => ⟨σ, m, ρ, S, L, (o.bind S).imp fun ws m1 ρ1 H1 P1 S1 o1 vs r => by
    split at o1
    · rename_i n
      obtain ⟨v, rfl, rv⟩ := r.inv1
      cases rv
      split at o1
      · rename_i hb
        exact ⟨n, rfl, by omega, by omega, Out.here o1 S1 _ wk_range⟩
      · exact o1.elim
    · exact o1.elim⟩
theorem si_range2 {a b : Expr} {f : DL} {p pos : Pos} (hg : Gl X "range") (hm : X.mg "range" = none) (ha : SA g X wx [a, b] f) (hs : starEach [a, b] X.env = [(false, eval a X.env), (false, eval b X.env)] := by rfl) (hs2 : starEach [b] X.env = [(false, eval b X.env)] := by rfl) :
    SI g X wx tg (.Call (.Name "range" p) [a, b] [] pos) (pRange2 f) :=
  PI.conv (pi_range2 hg hm ha.pa hs hs2) fun τ H R ⟨σ, m, ρ, S, L, o⟩ => ⟨σ, m, ρ, S, L, (o.bind S).imp fun ws m1 ρ1 H1 P1 S1 o1 vs r => by
    split at o1
    · rename_i k n
      obtain ⟨v, u, rfl, rv, ru⟩ := r.inv2
      cases rv; cases ru
      split at o1
      · rename_i hb
        exact ⟨k, n, rfl, ⟨by omega, by omega, by omega, by omega⟩, Out.here o1 S1 _ wk_range⟩
      · exact o1.elim
    · exact o1.elim⟩
/-! enumerate, zip of lists: each argument a fresh list or a list that stands -/
/-- an argument that is a list: what is walked -/
def SQ (g : G) (X : Cx) (wx : WX) (e : Expr) (f : DP) : Prop := PE X e (fun τ H Q => ∃ (σ : Loc) (m : Mem) (ρ : List Addr), Sim g ρ m H ∧ LR g ρ H σ τ ∧ Out g wx τ ρ H (f σ m) fun pl m' ρ' H' => ∀ a, (∃ xs, SqL X.K H' a xs) → (∀ ρ1 H1 m1 i, Post ρ' H' ρ1 H1 → Sim g ρ1 m1 H1 → pl.src i m1 ≠ none → ∃ xs, SqL X.K H1 a xs) → Wk g (Itl X.K a) pl.src ρ' H' → Q (.ref a) H')
def planL (w : W) (m : Mem) : R Plan := match w with
  | .ref n => match m[n]? with
    | some (.lst xs) => .ok ⟨xs.length, srcLive n⟩ m
    | _ => .bad
  | _ => .bad
def pSeq (f : DE) : DP := fun σ m => (f σ m).bind planL
theorem PE.conv {t t' : TE} (h : PE X e t) (k : ∀ τ H Q, t' τ H Q → t τ H Q) : PE X e t' := ⟨fun pins s σ H Q I q => h.run pins s σ H Q I (k _ _ _ q)⟩
def enumPlan (pl : Plan) (m : Mem) : R Plan := .ok ⟨pl.n, srcEnum pl.src⟩ m
def pEnum (f : DP) : DP := fun σ m => (f σ m).bind enumPlan
def zipPlan (pl pl' : Plan) (m : Mem) : R Plan := match pl.src 0 m with
  | some _ => .ok ⟨min pl.n pl'.n, srcZip pl.src pl'.src⟩ m
  | none => .bad
def pZip (f f' : DP) : DP := fun σ m => (f σ m).bind fun pl m1 => (f' σ m1).bind fun pl' m2 => zipPlan pl pl' m2
theorem wk_enum {a : Addr} {src : Src} (S : Sim g ρ m H) (h : Wk g (Itl X.K a) src ρ H) : Wk g (Ite X.K a) (srcEnum src) ρ H := by
  intro ρ1 H1 m1 i P1 S1
  have k := h ρ1 H1 m1 i P1 S1
  unfold srcEnum
  cases q : src i m1 with
  | none => trivial
  | some o =>
    rw [q] at k
    cases o with
    | none => exact k
    | some w =>
      obtain ⟨⟨xs, x, hx, hi⟩, ky⟩ := k
      refine ⟨⟨xs, x, hx, hi⟩, fun v H' ⟨T, y, ev, hT, eH, hy⟩ => ?_⟩
      subst ev; subst eH
      obtain ⟨_, _, r⟩ := ky y H1 ⟨rfl, hy⟩
      obtain ⟨P2, S2⟩ := S1.junk (u := .tup [.int (i : Nat), y]) hT
      exact ⟨P2, S2, .tup (SqT.of upd_same) (.cons (.int _) (.cons (r.post S1 P2) .nil))⟩
theorem wk_zip {a b : Addr} {src src' : Src} (S : Sim g ρ m H) (h : Wk g (Itl X.K a) src ρ H) (h' : Wk g (Itl X.K b) src' ρ H)
    (k1 : ∀ ρ1 H1 m1 i, Post ρ H ρ1 H1 → Sim g ρ1 m1 H1 → src i m1 ≠ none → ∃ xs, SqL X.K H1 a xs) (k2 : ∀ ρ1 H1 m1 i, Post ρ H ρ1 H1 → Sim g ρ1 m1 H1 → src' i m1 ≠ none → ∃ xs, SqL X.K H1 b xs) : Wk g (Itz X.K a b) (srcZip src src') ρ H := by
  intro ρ1 H1 m1 i P1 S1
  have k := h ρ1 H1 m1 i P1 S1
  have k' := h' ρ1 H1 m1 i P1 S1
  unfold srcZip
  cases q : src i m1 with
  | none => cases src' i m1 with
    | none => trivial
    | some o' =>
      cases o' with
      | none => trivial
      | some w' => trivial
  | some o =>
    rw [q] at k
    cases q' : src' i m1 with
    | none => cases o <;> trivial
    | some o' =>
      rw [q'] at k'
      cases o with
      | none =>
        obtain ⟨xs, hx, hl⟩ := k
        obtain ⟨ys, hy⟩ := k2 ρ1 H1 m1 i P1 S1 (by rw [q']; simp)
        exact ⟨xs, ys, hx, hy, .inl hl⟩
      | some w =>
        cases o' with
        | none =>
          obtain ⟨ys, hy, hl⟩ := k'
          obtain ⟨xs, hx⟩ := k1 ρ1 H1 m1 i P1 S1 (by rw [q]; simp)
          exact ⟨xs, ys, hx, hy, .inr hl⟩
        | some w' =>
          obtain ⟨⟨xs, x, hx, hi⟩, ky⟩ := k
          obtain ⟨⟨ys, y, hy, hj⟩, ky'⟩ := k'
          refine ⟨⟨xs, ys, x, y, hx, hy, hi, hj⟩, fun v H' ⟨T, x', y', ev, hT, eH, hx', hy'⟩ => ?_⟩
          subst ev; subst eH
          obtain ⟨_, _, r⟩ := ky x' H1 ⟨rfl, hx'⟩
          obtain ⟨_, _, r'⟩ := ky' y' H1 ⟨rfl, hy'⟩
          obtain ⟨P2, S2⟩ := S1.junk (u := .tup [x', y']) hT
          exact ⟨P2, S2, .tup (SqT.of upd_same) (.cons (r.post S1 P2) (.cons (r'.post S1 P2) .nil))⟩
theorem Wk.post {J : It} {src : Src} (h : Wk g J src ρ H) (S : Sim g ρ m H) (P : Post ρ H ρ' H') (S' : Sim g ρ' m' H') : Wk g J src ρ' H' := fun ρ1 H1 m1 i P1 S1 => h ρ1 H1 m1 i (P.then P1 S S') S1
theorem sq_list {f : DL} (hK : X.K = g.K) (h : SL g X wx e f) : SQ g X wx e (pList f) :=
  PE.conv h.pe fun τ H Q ⟨σ, m, ρ, S, L, o⟩ => ⟨σ, m, ρ, S, L, (o.bind S).imp fun ws m1 ρ1 H1 P1 S1 o1 p vs h0 hp hn r =>
    Out.here o1 S1 p ⟨vs, SqL.of hp⟩ (fun ρ2 H2 m2 i P2 S2 _ => ⟨vs, SqL.of (fresh_stay S1 hp hn P2).1⟩) (wk_fix hK S1 hp hn r)⟩
theorem sq_val {f : DE} (hK : X.K = g.K) (h : SE g X wx e f) : SQ g X wx e (pSeq f) :=
  PE.conv h.pe fun τ H Q ⟨σ, m, ρ, S, L, o⟩ => ⟨σ, m, ρ, S, L, (o.bind S).imp fun w m1 ρ1 H1 P1 S1 o1 v r => by
    cases r with
    | @ref n a ha =>
      simp only [planL] at o1
      split at o1
      · rename_i xs hx
        obtain ⟨u, h1, vs, e1, r1⟩ := S1.obj n a _ ha hx
        subst e1
        refine Out.here o1 S1 a ⟨vs, SqL.of h1⟩ (fun ρ2 H2 m2 i P2 S2 hne => ?_) (wk_live hK S1 ha)
        simp only [srcLive] at hne
        split at hne
        · rename_i ys hy
          obtain ⟨u, h2, vs2, e2, _⟩ := S2.obj n a _ (P2.get ha) hy
          subst e2
          exact ⟨vs2, SqL.of h2⟩
        · exact absurd rfl hne
      · exact o1.elim
    | _ => exact o1.elim⟩

theorem si_enum {f : DP} {elts : List Expr} {kk : Nat} {p pos tpos : Pos} (hg : Gl X "enumerate") (hm : X.mg "enumerate" = none) (h : SQ g X wx e f) (hs : starEach [e] X.env = [(false, eval e X.env)] := by rfl) :
    SI g X wx (.Tuple elts kk tpos) (.Call (.Name "enumerate" p) [e] [] pos) (pEnum f) :=
  PI.conv (pi_enum hg hm (pa_cons h pa_nil hs) hs) fun τ H R ⟨σ, m, ρ, S, L, o⟩ => ⟨σ, m, ρ, S, L, (o.bind S).imp fun pl m1 ρ1 H1 P1 S1 o1 a ⟨xs, hx⟩ _ wk =>
    ⟨a, xs, rfl, hx, Out.here o1 S1 _ (wk_enum S1 wk)⟩⟩
theorem si_zip {e2 : Expr} {f f' : DP} {elts : List Expr} {kk : Nat} {p pos tpos : Pos} (hg : Gl X "zip") (hm : X.mg "zip" = none) (h : SQ g X wx e f) (h' : SQ g X wx e2 f')
    (hs : starEach [e, e2] X.env = (false, eval e X.env) :: starEach [e2] X.env := by rfl) (hpl : (backTo pos (starEach [e2] X.env)).any (·.1) = false := by rfl) (hs2 : starEach [e2] X.env = (false, eval e2 X.env) :: starEach [] X.env := by rfl) :
    SI g X wx (.Tuple elts kk tpos) (.Call (.Name "zip" p) [e, e2] [] pos) (pZip f f') :=
  PI.conv (pi_zip hg hm (pa_cons h (pa_cons h' pa_nil hs2) hs) hs hpl) fun τ H R ⟨σ, m, ρ, S, L, o⟩ => ⟨σ, m, ρ, S, L, (o.bind S).imp fun pl m1 ρ1 H1 P1 S1 o1 a ⟨xs, hx⟩ ka wk =>
    ⟨σ, m1, ρ1, S1, L.post S P1, (o1.bind S1).imp fun pl' m2 ρ2 H2 P2 S2 o2 b ⟨ys, hy⟩ kb wk' => by
      unfold zipPlan at o2
      split at o2
      · rename_i o hq
        obtain ⟨xs2, hx2⟩ := ka ρ2 H2 m2 0 P2 S2 (by rw [hq]; simp)
        exact ⟨a, b, xs2, ys, rfl, hx2, hy, Out.here o2 S2 _ (wk_zip S2 (wk.post S1 P2 S2) wk' (fun ρ3 H3 m3 i P3 S3 hne => ka ρ3 H3 m3 i (P2.then P3 S1 S2) S3 hne) kb)⟩
      · exact o2.elim⟩⟩
end
end Sh

namespace Sh
open PySem PySem.Spec L2

/-! ### loops -/
def forLoop (src : Src) (h : W → Loc → Mem → R Loc) (b : DS) : Nat → Nat → DS
  | 0, _, _, _ => .bad
  | n + 1, i, σ, m => match src i m with
    | some (some w) => RS.of σ (h w σ m) fun σ1 m1 => match b σ1 m1 with
      | .nx σ2 m2 => forLoop src h b n (i + 1) σ2 m2
      | .ct σ2 m2 => forLoop src h b n (i + 1) σ2 m2
      | .bk σ2 m2 => .nx σ2 m2
      | r => r
    | some none => .nx σ m
    | none => .bad
def sFor (p : DP) (h : W → Loc → Mem → R Loc) (b : DS) : DS := fun σ m => RS.of σ (p σ m) fun pl m1 => forLoop pl.src h b (pl.n + 1) 0 σ m1
def whileLoop (t : DB) (b : DS) : Nat → DS
  | 0, _, _ => .bad
  | n + 1, σ, m => RS.of σ (t σ m) fun k m1 => if k = true then (match b σ m1 with
      | .nx σ2 m2 => whileLoop t b n σ2 m2
      | .ct σ2 m2 => whileLoop t b n σ2 m2
      | .bk σ2 m2 => .nx σ2 m2
      | r => r) else .nx σ m1
def sWhile (n : Nat) (t : DB) (b : DS) : DS := whileLoop t b n

section
variable {g : G} {X : Cx} {wx : WX} {τ : L2.St} {ρ ρ' : List Addr} {H H' : Hp} {m m' : Mem} {e tg : Expr}
theorem ss_for {iter : Expr} {body : List Stmt} {p : DP} {h : W → Loc → Mem → R Loc} {js : List Nat} {b : DS} {pos : Pos} (hp : PassesOwn (model X.prog X.w) X.A X.env X.xe) (hc : X.calm = true) (hi : SI g X wx tg iter p) (hg : SG g X wx tg h js) (hb : SSs g X wx body b)
    (hs : ∀ x, foldedSetIterable iter X.env x = pure x := by intro _; rfl) : SS g X wx (.For tg iter body [] pos) (sFor p h b) := by
  refine PS.conv (ps_for hp hc hi hg hb hs) fun D τ H ⟨σ, m, ρ, S, L, o⟩ => ?_
  refine ⟨σ, m, ρ, S, L, (o.of S L).imp fun pl m1 ρ1 H1 P1 S1 o1 J wk => ?_⟩
  refine ⟨fun i n τ' H' => ∃ (σ' : Loc) (m' : Mem) (ρ' : List Addr), Post ρ1 H1 ρ' H' ∧ Sim g ρ' m' H' ∧ LR g ρ' H' σ' τ' ∧ OutT g wx ρ' H' (forLoop pl.src h b n i σ' m') D, ⟨pl.n + 1, σ, m1, ρ1, Post.refl, S1, L.post S P1, o1⟩, ?_⟩
  rintro i n τ2 H2 ⟨σ2, m2, ρ2, P2, S2, L2, o2⟩
  cases n with
  | zero => exact o2.elim
  | succ n =>
    have k := wk ρ2 H2 m2 i P2 S2
    unfold forLoop at o2
    cases q : pl.src i m2 with
    | none => rw [q] at o2; exact o2.elim
    | some oo =>
      rw [q] at o2 k
      cases oo with
      | none => exact .inl ⟨k, o2 ρ2 H2 τ2 Post.refl S2 L2⟩
      | some w =>
        refine .inr ⟨k.1, fun τ' H' => ∃ (σ' : Loc) (m' : Mem) (ρ' : List Addr), Post ρ1 H1 ρ' H' ∧ Sim g ρ' m' H' ∧ LR g ρ' H' σ' τ' ∧ OutT g wx ρ' H' (forLoop pl.src h b n (i + 1) σ' m') D,
          fun τ' H' q' => ⟨n, Nat.lt_succ_self n, q'⟩, fun x H3 hy => ?_⟩
        obtain ⟨P3, S3, r3⟩ := k.2 x H3 hy
        have L3 := L2.post S2 P3
        refine ⟨w, σ2, m2, ρ2, S3, L3, r3, ((OutT.from o2 P3 S2 S3).of S3 L3).imp fun σ4 m4 ρ4 H4 P4 S4 o4 τ4 L4 A4 => ?_⟩
        have P14 := (P2.then P3 S1 S2).then P4 S1 S3
        refine ⟨σ4, m4, ρ4, S4, L4, ?_⟩
        cases hb' : b σ4 m4 with
        | nx σ5 m5 => rw [hb'] at o4; exact fun ρ5 H5 τ5 P5 S5 L5 => ⟨σ5, m5, ρ5, P14.then P5 S1 S4, S5, L5, OutT.from o4 P5 S4 S5⟩
        | ct σ5 m5 => rw [hb'] at o4; exact fun ρ5 H5 τ5 P5 S5 L5 => ⟨σ5, m5, ρ5, P14.then P5 S1 S4, S5, L5, OutT.from o4 P5 S4 S5⟩
        | bk σ5 m5 => rw [hb'] at o4; exact o4
        | rt w5 m5 => rw [hb'] at o4; exact o4
        | exc c fs σ5 m5 => rw [hb'] at o4; exact o4
        | bad => rw [hb'] at o4; exact o4
theorem ss_while {c : Expr} {body : List Stmt} {t : DB} {b : DS} {pos : Pos} (n : Nat) (hp : PassesOwn (model X.prog X.w) X.A X.env X.xe) (hc : ST g X wx c t) (hb : SSs g X wx body b) : SS g X wx (.While c body [] pos) (sWhile n t b) := by
  refine PS.conv (ps_while hp hc.pt hb) fun D τ H ⟨σ, m, ρ, S, L, o⟩ => ?_
  refine ⟨fun n τ' H' => ∃ (σ' : Loc) (m' : Mem) (ρ' : List Addr), Sim g ρ' m' H' ∧ LR g ρ' H' σ' τ' ∧ OutT g wx ρ' H' (whileLoop t b n σ' m') D, ⟨n, σ, m, ρ, S, L, o⟩, ?_⟩
  rintro n τ2 H2 ⟨σ2, m2, ρ2, S2, L2, o2⟩
  cases n with
  | zero => exact o2.elim
  | succ n =>
    unfold whileLoop at o2
    refine ⟨σ2, m2, ρ2, S2, L2, (o2.of S2 L2).imp fun k m3 ρ3 H3 P3 S3 o3 => ?_⟩
    cases k with
    | false => exact o3 ρ3 H3 τ2 Post.refl S3 (L2.post S2 P3)
    | true =>
      refine ⟨fun τ' H' => ∃ (σ' : Loc) (m' : Mem) (ρ' : List Addr), Sim g ρ' m' H' ∧ LR g ρ' H' σ' τ' ∧ OutT g wx ρ' H' (whileLoop t b n σ' m') D, fun τ' H' q' => ⟨n, Nat.lt_succ_self n, q'⟩, ?_⟩
      refine ⟨σ2, m3, ρ3, S3, L2.post S2 P3, ?_⟩
      have o3 : OutT g wx ρ3 H3 (match b σ2 m3 with
        | .nx σ2 m2 => whileLoop t b n σ2 m2
        | .ct σ2 m2 => whileLoop t b n σ2 m2
        | .bk σ2 m2 => .nx σ2 m2
        | r => r) D := o3
      cases hb' : b σ2 m3 with
      | nx σ5 m5 => rw [hb'] at o3; exact fun ρ5 H5 τ5 P5 S5 L5 => ⟨σ5, m5, ρ5, S5, L5, OutT.from o3 P5 S3 S5⟩
      | ct σ5 m5 => rw [hb'] at o3; exact fun ρ5 H5 τ5 P5 S5 L5 => ⟨σ5, m5, ρ5, S5, L5, OutT.from o3 P5 S3 S5⟩
      | bk σ5 m5 => rw [hb'] at o3; exact o3
      | rt w5 m5 => rw [hb'] at o3; exact o3
      | exc c fs σ5 m5 => rw [hb'] at o3; exact o3
      | bad => rw [hb'] at o3; exact o3

/-! ### list comprehensions -/
def R.nox {β : Type} (r : R β) : R β := match r with
  | .exc _ _ _ => .bad
  | r => r
@[simp] theorem R.nox_ok {β : Type} (b : β) (m : Mem) : (R.ok b m).nox = .ok b m := rfl
@[simp] theorem R.nox_bad {β : Type} : (R.bad : R β).nox = .bad := rfl
abbrev wx0 : WX := fun _ _ _ _ => False
theorem Out.nox {β : Type} {r : R β} {Q : β → Mem → List Addr → Hp → Prop} {τ' : L2.St} (h : Out g wx τ ρ H r.nox Q) : Out g wx0 τ' ρ H r Q := by
  cases r with
  | ok b m1 => exact h
  | exc c fs m1 => exact h.elim
  | bad => exact h
def wipeW (σ : Loc) : List Nat → Loc
  | [] => σ
  | v :: vs => (wipeW σ vs).set v none
theorem LR.wipe {σ : Loc} (L : LR g ρ H σ τ) : ∀ vs : List Nat, LR g ρ H (wipeW σ vs) (L2.wipe τ vs)
  | [] => L
  | v :: vs => (LR.wipe L vs).forget v
def compLoop (src : Src) (h : W → Loc → Mem → R Loc) (t : DB) (e : DE) (σ : Loc) : Nat → Nat → List W → Mem → R (List W)
  | 0, _, _, _ => .bad
  | n + 1, i, acc, m => match src i m with
    | some (some w) => (h w σ m).nox.bind fun σ1 m1 => (t σ1 m1).nox.bind fun k m2 =>
      if k = true then (e σ1 m2).nox.bind fun y m3 => if acc.length < 1000000 then compLoop src h t e σ n (i + 1) (acc ++ [y]) m3 else .bad
      else compLoop src h t e σ n (i + 1) acc m2
    | some none => .ok acc m
    | none => .bad
def lComp (p : DP) (h : W → Loc → Mem → R Loc) (t : DB) (e : DE) (vs : List Nat) : DL := fun σ m => (p σ m).bind fun pl m1 => compLoop pl.src h t e (wipeW σ vs) (pl.n + 1) 0 [] m1
def tYesB : DB := fun _ m => .ok true m
def STs (g : G) (X : Cx) (wx : WX) (ifs : List Expr) (t : DB) : Prop := PTs X ifs (ttOf g wx t)
theorem sts_nil : STs g X wx [] tYesB := ⟨fun pins s τ H Q I ⟨σ, m, ρ, S, L, o⟩ => pts_nil.run pins s τ H Q I (Out.here o S)⟩
theorem sts_one {c : Expr} {t : DB} (h : ST g X wx c t) : STs g X wx [c] t := pts_one h.pt

theorem SqT.swap {K : PySem.W.Frag} {D a : Addr} {vs us xs : List V} (hD : H D = some (.lst vs)) (h : SqT K H a xs) : SqT K (upd H D (.lst us)) a xs := by
  rcases h with (h | ⟨o, h⟩) | h
  · exact .inl (.inl (by rw [upd_ne (ne_of h hD (by intro z; cases z))]; exact h))
  · exact .inl (.inr ⟨o, by rw [upd_ne (ne_of h hD (by intro z; cases z))]; exact h⟩)
  · exact .inr h
theorem SqF.swap {K : PySem.W.Frag} {D a : Addr} {vs us xs : List V} {H : Hp} (hD : H D = some (.lst vs)) (h : SqF K H a xs) : SqF K (upd H D (.lst us)) a xs := by
  rcases h with ⟨o, h⟩ | h
  · refine .inl ⟨o, ?_⟩
    rw [upd_ne (fun e => by subst e; rw [hD] at h; cases h)]; exact h
  · exact .inr h
mutual
theorem VR.swap {D : Addr} {vs us : List V} (hD : H D = some (.lst vs)) : ∀ {w : W} {v : V}, VR g ρ H w v → VR g ρ (upd H D (.lst us)) w v
  | _, _, .non => .non
  | _, _, .bl b => .bl b
  | _, _, .int b => .int b
  | _, _, .str b => .str b
  | _, _, .tup h r => .tup (SqT.swap hD h) (VRs.swap hD r)
  | _, _, .frz h r => .frz (SqF.swap hD h) (VRs.swap hD r)
  | _, _, .ref h => .ref h
  | _, _, .cls c => .cls c
  | _, _, .ty c => .ty c
theorem VRs.swap {D : Addr} {vs us : List V} (hD : H D = some (.lst vs)) : ∀ {ws : List W} {xs : List V}, VRs g ρ H ws xs → VRs g ρ (upd H D (.lst us)) ws xs
  | _, _, .nil => .nil
  | _, _, .cons h r => .cons (VR.swap hD h) (VRs.swap hD r)
end
theorem OR.swap {D : Addr} {vs us : List V} (hD : H D = some (.lst vs)) {o : O} {u : HO} (h : OR g ρ H o u) : OR g ρ (upd H D (.lst us)) o u := by
  cases o with
  | lst ws => obtain ⟨vs, e, r⟩ := h; exact ⟨vs, e, r.swap hD⟩
  | dK ws => obtain ⟨vs, e, r⟩ := h; exact ⟨vs, e, Paired.imp r fun _ _ q => ⟨q.1, q.2.swap hD⟩⟩
  | dT ws => obtain ⟨vs, e, r⟩ := h; exact ⟨vs, e, Paired.imp r fun _ _ q => ⟨q.1, q.2.swap hD⟩⟩
  | ins c fs => obtain ⟨dx, gs, e, r⟩ := h; exact ⟨dx, gs, e, Paired.imp r fun _ _ q => ⟨q.1, q.2.swap hD⟩⟩
  | exc c fs =>
    obtain ⟨oe, vs, d, gs, e, h1, h2, h3, h4, h5⟩ := h
    refine ⟨oe, vs, d, gs, e, h1, h2, h3, ?_, Paired.imp h5 fun _ _ q => ⟨q.1, q.2.swap hD⟩⟩
    cases d with
    | none => exact h4
    | some a =>
      show upd H D (.lst us) a = some (.xd gs)
      rw [upd_ne (fun z => by subst z; have h4' : H a = some (.xd gs) := h4; rw [hD] at h4'; cases h4')]
      exact h4
theorem Sim.swap (S : Sim g ρ m H) {D : Addr} {vs us : List V} (hD : H D = some (.lst vs)) (hn : D ∉ ρ) : Sim g ρ m (upd H D (.lst us)) := by
  refine ⟨S.len, S.nd, fun i a o h1 h2 => ?_⟩
  obtain ⟨u, h3, h4⟩ := S.obj i a o h1 h2
  refine ⟨u, ?_, h4.swap hD⟩
  rw [upd_ne]
  · exact h3
  · rintro rfl
    exact hn (List.mem_of_getElem? h1)
theorem Post.out (P : Post ρ H ρ' H') {D : Addr} {u : HO} (hD : H D = none) : Post ρ H ρ' (upd H' D u) := ⟨P.ext, fun a o h n => by rw [upd_ne (ne_of_none h hD)]; exact P.keep a o h n⟩
theorem VRs.snoc {w : W} {v : V} {ws : List W} {vs : List V} (r : VRs g ρ H ws vs) (q : VR g ρ H w v) : VRs g ρ H (ws ++ [w]) (vs ++ [v]) := r.append (.cons q .nil)

theorem comp_turns {J : It} {src : Src} {h : W → Loc → Mem → R Loc} {js : List Nat} {t : DB} {fe : DE} {σ : Loc} {Q : VK} {ρ1 : List Addr} {H0 H1 : Hp} {m1 : Mem} {ρ0 : List Addr} {m0 : Mem}
    (S0 : Sim g ρ0 m0 H0) (P0 : Post ρ0 H0 ρ1 H1) (S1 : Sim g ρ1 m1 H1) (L1 : LR g ρ1 H1 σ τ) (wk : Wk g J src ρ1 H1) (n0 : Nat)
    (o : Out g wx τ ρ1 H1 (compLoop src h t fe (wipeW σ js) n0 0 [] m1) (fun ws m' ρ' H' => ∀ p vs, H0 p = none → H' p = some (.lst vs) → p ∉ ρ' → VRs g ρ' H' ws vs → Q (.ref p) H')) :
    ∀ D, H1 D = none → ∃ Wv : Nat → Nat → Hp → Prop, (∃ n, Wv 0 n (upd H1 D (.lst []))) ∧ ∀ i n H, Wv i n H →
      (J.stop i H ∧ Q (.ref D) H) ∨ (J.go i H ∧ ∃ Nx : Hp → Prop, (∀ H', Nx H' → ∃ m', m' < n ∧ Wv (i + 1) m' H') ∧ ∀ x H', J.yld i H x H' → tgOf g wx0 h js x (L2.wipe τ js) H' fun σ2 H2 => L2.wipe σ2 js = L2.wipe τ js ∧ ttOf g wx0 t σ2 H2 fun b H3 =>
        if b = true then teOf g wx0 fe σ2 H3 fun y H4 => ∃ acc, H4 D = some (.lst acc) ∧ acc.length < sizeLine ∧ Nx (upd H4 D (.lst (acc ++ [y]))) else Nx H3) := by
  intro D hD
  refine ⟨fun i n H => ∃ (acc : List W) (m : Mem) (ρ : List Addr) (vs : List V), Post ρ1 H1 ρ H ∧ Sim g ρ m H ∧ H D = some (.lst vs) ∧ D ∉ ρ ∧ VRs g ρ H acc vs ∧
    Out g wx τ ρ1 H1 (compLoop src h t fe (wipeW σ js) n i acc m) (fun ws m' ρ' H' => ∀ p vs, H0 p = none → H' p = some (.lst vs) → p ∉ ρ' → VRs g ρ' H' ws vs → Q (.ref p) H'), ⟨n0, [], m1, ρ1, [], ?_⟩, ?_⟩
  · exact ⟨Post.refl.out hD, (S1.junk hD).2, upd_same, fun z => S1.isSm z hD, .nil, o⟩
  · rintro i n H ⟨acc, m, ρ, vs, P, S, hDv, hDn, rv, o⟩
    cases n with
    | zero => exact o.elim
    | succ n =>
      have k := wk ρ H m i P S
      unfold compLoop at o
      cases q : src i m with
      | none => rw [q] at o; exact o.elim
      | some oo =>
        rw [q] at o k
        cases oo with
        | none => exact .inl ⟨k, o ρ H P S D vs (P0.back S0 S1 hD) hDv hDn rv⟩
        | some w =>
          refine .inr ⟨k.1, fun H => ∃ (acc : List W) (m : Mem) (ρ : List Addr) (vs : List V), Post ρ1 H1 ρ H ∧ Sim g ρ m H ∧ H D = some (.lst vs) ∧ D ∉ ρ ∧ VRs g ρ H acc vs ∧
            Out g wx τ ρ1 H1 (compLoop src h t fe (wipeW σ js) n (i + 1) acc m) (fun ws m' ρ' H' => ∀ p vs, H0 p = none → H' p = some (.lst vs) → p ∉ ρ' → VRs g ρ' H' ws vs → Q (.ref p) H'),
            fun H' q' => ⟨n, Nat.lt_succ_self n, q'⟩, fun x H2 hy => ?_⟩
          obtain ⟨P2, S2, r2⟩ := k.2 x H2 hy
          have P12 := P.then P2 S1 S
          have Lb : LR g ρ H2 (wipeW σ js) (L2.wipe τ js) := (L1.wipe js).post S1 P12
          have f2 := fresh_stay S hDv hDn P2
          refine ⟨w, wipeW σ js, m, ρ, S2, Lb, r2, ?_⟩
          have o : Out g wx τ ρ1 H1 ((h w (wipeW σ js) m).nox.bind fun σ1 m1 => (t σ1 m1).nox.bind fun k m2 =>
            if k = true then (fe σ1 m2).nox.bind fun y m3 => if acc.length < 1000000 then compLoop src h t fe (wipeW σ js) n (i + 1) (acc ++ [y]) m3 else .bad
            else compLoop src h t fe (wipeW σ js) n (i + 1) acc m2) _ := o
          cases q1 : h w (wipeW σ js) m with
          | exc c fs m3 => rw [q1] at o; exact o.elim
          | bad => rw [q1] at o; exact o.elim
          | ok σ3 m3 =>
            rw [q1] at o
            simp only [R.nox_ok, R.bind_ok] at o
            intro ρ3 H3 P3 S3 τ3 L3 A3
            have P13 := P12.then P3 S1 S2
            have f3 := fresh_stay S2 f2.1 f2.2 P3
            refine ⟨A3.wipe.trans ?_, σ3, m3, ρ3, S3, L3, ?_⟩
            · exact (Agree.wipe (js := js) ⟨by rw [wipe_length], fun j hj => by
                have key : ∀ (js : List Nat), j ∉ js → (L2.wipe τ js)[j]? = τ[j]? := by
                  intro js
                  induction js with
                  | nil => intro _; rfl
                  | cons v vs ih =>
                    intro hv
                    simp only [List.mem_cons, not_or] at hv
                    unfold L2.wipe
                    rw [List.getElem?_set_ne (Ne.symm hv.1)]
                    exact ih hv.2
                exact key js hj⟩)
            · cases q2 : t σ3 m3 with
              | exc c fs m4 => rw [q2] at o; exact o.elim
              | bad => rw [q2] at o; exact o.elim
              | ok b m4 =>
                rw [q2] at o
                simp only [R.nox_ok, R.bind_ok] at o
                intro ρ4 H4 P4 S4
                have P14 := P13.then P4 S1 S3
                have f4 := fresh_stay S3 f3.1 f3.2 P4
                have rv4 := ((rv.post S P2).post S2 P3).post S3 P4
                cases b with
                | false => exact ⟨acc, m4, ρ4, vs, P14, S4, f4.1, f4.2, rv4, o⟩
                | true =>
                  refine ⟨σ3, m4, ρ4, S4, L3.post S3 P4, ?_⟩
                  simp only [if_true] at o
                  cases q3 : fe σ3 m4 with
                  | exc c fs m5 => rw [q3] at o; exact o.elim
                  | bad => rw [q3] at o; exact o.elim
                  | ok y m5 =>
                    rw [q3] at o
                    simp only [R.nox_ok, R.bind_ok] at o
                    intro ρ5 H5 P5 S5 v r5
                    have P15 := P14.then P5 S1 S4
                    have f5 := fresh_stay S4 f4.1 f4.2 P5
                    by_cases hl : acc.length < 1000000
                    · rw [if_pos hl] at o
                      have rv5 := rv4.post S4 P5
                      refine ⟨vs, f5.1, by rw [← rv.length, sizeLine_eq]; omega, acc ++ [y], m5, ρ5, vs ++ [v], P15.out hD, S5.swap f5.1 f5.2, upd_same, f5.2, (rv5.snoc r5).swap f5.1, o⟩
                    · rw [if_neg hl] at o; exact o.elim
theorem sl_comp {elt iter : Expr} {ifs : List Expr} {scope : Scope} {own : List (Str × Nat)} {pos : Pos} {p : DP} {h : W → Loc → Mem → R Loc} {t : DB} {fe : DE} (hc : X.calm = true) (hN : X.N.Nodup) (hi : SI g X wx tg iter p) (ok : BlkOk X.N X.env.scope scope own)
    (hg : ∀ (s : Shared) (H : Hp) (C : Addr) (cl : List (Str × Addr)) (fp : List Addr), SG g (X.blk s H scope (compEnvC scope cl C X.env) fp) wx0 tg h (own.map (·.2)))
    (ht : ∀ (s : Shared) (H : Hp) (C : Addr) (cl : List (Str × Addr)) (fp : List Addr), STs g (X.blk s H scope (compEnvC scope cl C X.env) fp) wx0 ifs t)
    (he : ∀ (s : Shared) (H : Hp) (C : Addr) (cl : List (Str × Addr)) (fp : List Addr), SE g (X.blk s H scope (compEnvC scope cl C X.env) fp) wx0 elt fe) (hs : ∀ x, foldedSetIterable iter X.env x = pure x := by intro _; rfl) :
    SL g X wx (.ListComp elt [⟨tg, iter, ifs, 0⟩] scope pos) (lComp p h t fe (own.map (·.2))) := by
  refine ⟨fun pins s σ m ρ H τ Q I S L o => ?_⟩
  refine thn ((pe_lc hc hN hi ok hg ht (fun a b c d e => (he a b c d e).pe) hs).run pins s τ H (fun v H' => ∃ a : Addr, v = .ref a ∧ ∀ s', Inv X pins τ H' s' → Q (.ref a) s') I ?_) fun u s1 ⟨v, H1, I1, r1, a, e1, q⟩ => by
    subst e1
    cases r1
    exact q s1 I1
  refine ⟨σ, m, ρ, S, L, (o.bind S).imp fun pl m1 ρ1 H1 P1 S1 o1 J wk => ?_⟩
  exact comp_turns (Q := fun v H' => ∃ a : Addr, v = .ref a ∧ ∀ s', Inv X pins τ H' s' → Q (.ref a) s') S P1 S1 (L.post S P1) wk _ (o1.imp fun ws m' ρ' H' P' S' k p vs h0 hp hn r => ⟨p, rfl, fun s' I' => k p vs s' I' h0 hp hn r⟩)
/-- name = [.. for ..] -/
theorem ss_setLc {i : Nat} {y : Str} {py : Pos} {elt iter : Expr} {ifs : List Expr} {scope : Scope} {own : List (Str × Nat)} {pos spos : Pos} {p : DP} {h : W → Loc → Mem → R Loc} {t : DB} {fe : DE} (hc : X.calm = true) (hN : X.N.Nodup) (hy : X.N[i]? = some y) (hyl : X.env.scope.names.lookup y = some .local)
    (hsw : swapsWith (.ListComp elt [⟨tg, iter, ifs, 0⟩] scope pos) (some (.Name y py)) spos.line X.env = pure true) (hi : SI g X wx tg iter p) (ok : BlkOk X.N X.env.scope scope own)
    (hg : ∀ (s : Shared) (H : Hp) (C : Addr) (cl : List (Str × Addr)) (fp : List Addr), SG g (X.blk s H scope (compEnvC scope cl C X.env) fp) wx0 tg h (own.map (·.2)))
    (ht : ∀ (s : Shared) (H : Hp) (C : Addr) (cl : List (Str × Addr)) (fp : List Addr), STs g (X.blk s H scope (compEnvC scope cl C X.env) fp) wx0 ifs t)
    (he : ∀ (s : Shared) (H : Hp) (C : Addr) (cl : List (Str × Addr)) (fp : List Addr), SE g (X.blk s H scope (compEnvC scope cl C X.env) fp) wx0 elt fe) (hs : ∀ x, foldedSetIterable iter X.env x = pure x := by intro _; rfl) :
    SS g X wx (.Assign [.Name y py] (.ListComp elt [⟨tg, iter, ifs, 0⟩] scope pos) spos) (sSet i (eNew (lComp p h t fe (own.map (·.2))))) :=
  PS.conv (ps_setLc hc hN hy hyl hsw hi ok hg ht (fun a b c d e => (he a b c d e).pe) hs) fun D τ H ⟨σ, m, ρ, S, L, o⟩ => by
    have o1 := o.of S L
    have o2 : Out g wx τ ρ H (lComp p h t fe (own.map (·.2)) σ m) (fun ws m' ρ' H' => ∀ p vs, H p = none → H' p = some (.lst vs) → p ∉ ρ' → VRs g ρ' H' ws vs → D.nx (τ.set i (some (.ref p))) H') := by
      cases hr : lComp p h t fe (own.map (·.2)) σ m with
      | ok ws m1 =>
        unfold eNew at o1
        rw [hr] at o1
        intro ρ' H' P' S' p vs h0 hp hn r
        obtain ⟨P2, S2⟩ := S'.adopt (o := .lst ws) hp hn ⟨vs, rfl, r⟩ P' h0
        have hl : (ρ' ++ [p])[m1.length]? = some p := by rw [← S'.len]; simp
        exact o1 (ρ' ++ [p]) H' P2 S2 (ρ' ++ [p]) H' _ Post.refl S2 ((L.post S P2).set i (.ref hl))
      | exc c fs m1 => unfold eNew at o1; rw [hr] at o1; exact o1
      | bad => unfold eNew at o1; rw [hr] at o1; exact o1
    refine ⟨σ, m, ρ, S, L, (o2.bind S).imp fun pl m1 ρ1 H1 P1 S1 o3 J wk => ?_⟩
    exact comp_turns (Q := fun v H' => L2.gName i v τ H' D.nx) S P1 S1 (L.post S P1) wk _ (o3.imp fun ws m' ρ' H' P' S' k p vs h0 hp hn r => k p vs h0 hp hn r)
end
end Sh

namespace Sh
open PySem PySem.Spec L2
open PyProof.Rows (envOfC)

/-! ### room, with no repr under way -/
structure Rm (k : Nat) (A : Around) : Prop where
  r : Room k A
  g : A.guards = some []
theorem Rm.mono {j k : Nat} {A : Around} (r : Rm k A) (h : j ≤ k) : Rm j A := ⟨r.r.mono h, r.g⟩
theorem Rm.deeper {k : Nat} {A : Around} (r : Rm (k + 1) A) (env : Env) : Rm k (A.deeper env) := ⟨r.r.deeper env, r.g⟩
theorem Rm.in1 {k : Nat} {A : Around} (r : Rm (k + 1) A) : Rm k A.in1 := ⟨r.r.in1, r.g⟩
theorem Rm.make {k : Nat} {A : Around} (r : Rm (k + 1) A) (C : Addr) (us : List Value) (kw : List (Str × Value)) : Rm k (A.under (.builtin "type.__call__" ⟨.ref C :: us, kw⟩)) := by
  refine ⟨r.r.make C us kw, ?_⟩
  have : (Code.builtin "type.__call__" ⟨.ref C :: us, kw⟩).guards = [] := by
    simp [Code.guards, Code.isGuard, guardIds]
  unfold Around.under
  simp only [this, pushGuards]
  exact r.g
theorem Rm.caller {k : Nat} (h : Room k callerA) : Rm k callerA := ⟨h, rfl⟩

structure FnG (P : Program) (w : World) (K : PySem.W.Frag) (mg : Str → Option Value) (base : Heap) (k : Nat) (f : Addr) (fd : FuncData) (ps : List Str) (sp : Sp) : Prop where
  len : ∀ vs H Q E, sp vs H Q E → vs.length = ps.length
  run : ∀ (A : Around) (outer : List Env) (s : Shared) (H : Hp) (args : Args) (us : List Value) (vs : List V) (Q : VK) (E : XK), Rm k A → Env0 P w K mg base A outer s H → BindsTo s fd args (ps.zip us) → Vals vs us → sp vs H Q E →
    codeAny (model P w) A (.call (.ref f) args) (CR (CX P w) outer P w H s Q E) s
theorem FnG.mono {P : Program} {w : World} {K : PySem.W.Frag} {mg : Str → Option Value} {base : Heap} {j k : Nat} {f : Addr} {fd : FuncData} {ps : List Str} {sp : Sp} (F : FnG P w K mg base j f fd ps sp) (h : j ≤ k) :
    FnG P w K mg base k f fd ps sp := ⟨F.len, fun A outer s H args us vs Q E hr => F.run A outer s H args us vs Q E (hr.mono h)⟩

/-- a def of the text, by its body -/
theorem fnG_of {P : Program} {w : World} {K : PySem.W.Frag} {mg : Str → Option Value} {base : Heap} {k : Nat} {f : Addr} {name qual : Str} {params : Arguments} {body : List Stmt} {scope : Scope} {dV kV doc pm cdv ct oc : Value} {an od : Option Addr}
    {osl : Array (Option Value)} {N ps : List Str} {sp : Sp} (lk : K.lookup f = some ⟨oc, od, .func (PySem.W.fnOf name qual params body scope dV kV doc pm an cdv ct), osl⟩) (hcd : PySem.W.codeIn K cdv qual = true) (S : FnScope N ps scope)
    (len : ∀ vs H Q E, sp vs H Q E → vs.length = ps.length)
    (hbody : ∀ (A : Around) (outer : List Env) (s : Shared) (H : Hp) (vs : List V) (Q : VK) (E : XK), Rm k (A.deeper (envOfC qual scope s.heap.objs.size f cdv)) → sp vs H Q E →
      ∃ t, PSs (cxOf (CX P w) P w K mg base N qual scope f cdv A outer s H E) body t ∧ t { nx := fun _ H' => Q .non H', rt := Q } (L2.start N vs) H) :
    FnG P w K mg base (k + 1) f (PySem.W.fnOf name qual params body scope dV kV doc pm an cdv ct) ps sp := by
  refine ⟨len, fun A outer s H args us vs Q E hr e0 hb r hsp => ?_⟩
  have hl := len _ _ _ _ hsp
  have KX : K.In s.heap := e0.mod.kin.keeps fun b o e => (e0.bs b o e).1
  have lim : s.heap.NoLimit := e0.mod.nolimit.keeps fun b o e => (e0.bs b o e).1
  have hkind : ∀ y ∈ ps.zip us, scope.names.lookup y.1 = some .local ∨ (scope.names.lookup y.1 = some .cell ∧ ((cellsFrom (s.heap.objs.size + 1) scope.names []).lookup y.1).isSome = true) := fun ⟨n, v⟩ hy => by
    rcases S.par n (List.of_mem_zip hy).1 with q | q
    · exact .inl q
    · exact .inr ⟨q, PySem.W.cellsFrom_some _ _ _ (.inl q)⟩
  refine codeAny_call_function hr.r.depth (KX _ _ lk) rfl S.co S.gen rfl (PySem.W.codeRec_of KX hcd) (hb _ _ _ _ ?_)
  refine wpAny_newFunctionEnv_cells S.kind hkind fun env he s1 x => ?_
  subst he
  refine ⟨lim.keeps x.toInCall.keep, codeAny_func ?_⟩
  obtain ⟨t, ht, hq⟩ := hbody A outer s H vs Q E (hr.deeper _) hsp
  have I : Inv (cxOf (CX P w) P w K mg base N qual scope f cdv A outer s H E) [] (L2.start N vs) H s1 := inv_start S hr.r.hd e0 hl r x
  refine wpAny_mono (ht.run [] s1 (L2.start N vs) H _ I hq) (fun fl s' hs => ?_) fun e s' hs => hs
  have fin : ∀ {σ' : L2.St} {H' : Hp} {v : V} {u : Value}, Inv (cxOf (CX P w) P w K mg base N qual scope f cdv A outer s H E) [] σ' H' s' → RelV v u → Q v H' → CE outer P w H s Q u s' :=
    fun {σ' H' v u} J rv q => ⟨v, H', J.os, J.bare, J.base, J.hok, rv, q⟩
  cases fl with
  | ret u =>
    obtain ⟨v, σ', H', J, rv, q⟩ := hs
    exact fin J rv q
  | next =>
    obtain ⟨σ', H', J, q⟩ := hs
    exact fin (v := V.non) (u := Value.none) J rfl q
  | brk =>
    obtain ⟨_, _, _, q⟩ := hs
    exact False.elim q
  | cont =>
    obtain ⟨_, _, _, q⟩ := hs
    exact False.elim q

/-! ### an __init__ whose first statement is super().__init__(..) -/
/-- the context of its body: one cell, __class__'s, older than the call -/
def cxS (P : Program) (w : World) (K : PySem.W.Frag) (mg : Str → Option Value) (base : Heap) (N : List Str) (qual : Str) (scope : Scope) (f : Addr) (cda cc : Addr) (A : Around) (outer : List Env) (s : Shared) (H : Hp) (E : XK) : Cx where
  prog := P
  w := w
  K := K
  mg := mg
  base := base
  A := A.deeper (PySem.W.ksEnv qual scope s.heap.objs.size f (.ref cda) cc)
  N := N
  s_0 := s
  H_0 := H
  env := PySem.W.ksEnv qual scope s.heap.objs.size f (.ref cda) cc
  outer := outer
  stack := PySem.W.ksEnv qual scope s.heap.objs.size f (.ref cda) cc :: outer
  ex := []
  calm := true
  fn := fun _ => false
  pn := []
  xe := fun e s' => wpAny (model P w) (A.deeper (PySem.W.ksEnv qual scope s.heap.objs.size f (.ref cda) cc)) (leaving (PySem.W.ksEnv qual scope s.heap.objs.size f (.ref cda) cc) e) (fun _ s'' => CX P w outer H s E e s'') (fun e' s'' => CX P w outer H s E e' s'') s'
structure ScopeS (N P : List Str) (sc : Scope) : Prop where
  kind : sc.kind = .function
  co : sc.isCoroutine = false
  gen : sc.isGenerator = false
  nd : N.Nodup
  pre : N.take P.length = P
  par : ∀ x ∈ P, sc.names.lookup x = some .local
  nocell : ∀ y ∈ sc.names, y.2 ≠ .cell
  free1 : ∀ y ∈ sc.names, y.2 = .free → y.1 = ("__class__" : Str)
theorem lookup_rev {P : List Str} {us : List Value} {x : Str} {v : Value} (nd : P.Nodup) (hl : P.length = us.length) {i : Nat} (h1 : P[i]? = some x) (h2 : us[i]? = some v) : (P.zip us).reverse.lookup x = some v := by
  have key : ∀ (l : List (Str × Value)), (l.map (·.1)).Nodup → (x, v) ∈ l → l.lookup x = some v := by
    intro l
    induction l with
    | nil => intro _ h; cases h
    | cons p l ih =>
      obtain ⟨a, b⟩ := p
      intro hn hm
      rw [List.map_cons, List.nodup_cons] at hn
      rcases List.mem_cons.mp hm with e | hm'
      · cases e; simp [List.lookup]
      · have ne : x ≠ a := by
          intro e
          rw [← e] at hn
          exact hn.1 (List.mem_map.mpr ⟨(x, v), hm', rfl⟩)
        have : (x == a) = false := beq_eq_false_iff_ne.mpr ne
        simp only [List.lookup, this]
        exact ih hn.2 hm'
  refine key _ ?_ ?_
  · have e : (P.zip us).map (·.1) = P := by rw [List.map_fst_zip]; omega
    rw [List.map_reverse, e]
    exact (List.reverse_perm P).nodup_iff.mpr nd
  · rw [List.mem_reverse]
    refine List.mem_of_getElem? (i := i) ?_
    exact List.getElem?_zip_eq_some.mpr ⟨h1, h2⟩
theorem inv_startS {P : Program} {w : World} {K : PySem.W.Frag} {mg : Str → Option Value} {base : Heap} {N ps : List Str} {qual : Str} {scope : Scope} {f cda cc : Addr} {A : Around} {outer : List Env} {s : Shared} {h0 : Heap} {tk : Nat} {H : Hp} {E : XK} {us : List Value} {vs : List V} {occ : Obj} {D : Value}
    (S : ScopeS N ps scope) (hd : A.handled = none) (e0 : Env0 P w K mg base A outer s H) (hl : vs.length = ps.length) (r : Vals vs us) (hcc : K.lookup cc = some occ) (hoc : occ.data = .cell (some D))
    (hns : h0.Ns s.heap.objs.size (fun x => (ps.zip us).reverse.lookup x)) (hk : ∀ b o, s.heap.get? b = some o → h0.get? b = some o) :
    Inv (cxS P w K mg base N qual scope f cda cc A outer s H E) [] (L2.start N vs) H { s with heap := h0, toks := tk } := by
  have hpl : ps.length ≤ N.length := by have := congrArg List.length S.pre; rw [List.length_take] at this; omega
  have noA : ∀ b : Addr, b ∉ (cxS P w K mg base N qual scope f cda cc A outer s H E).ex := fun b z => absurd (show b ∈ ([] : List Addr) from z) (by simp)
  have KXb := e0.mod.kin cc occ hcc
  have hcs := e0.bs cc occ KXb
  have cellOf : ∀ {x : Str} {c : Addr}, List.lookup x [(("__class__" : Str), cc)] = some c → x = "__class__" ∧ c = cc := fun {x c} h => by
    simp only [List.lookup] at h
    split at h
    · rename_i hb; cases h; exact ⟨beq_iff_eq.mp hb, rfl⟩
    · cases h
  refine ⟨⟨e0.mod, S.kind, rfl, rfl, Nat.le_refl _, fun y z c h1 h2 => ?_, fun y hy => ?_, fun y c hf _ => ?_, fun _ => hd, Around.frames_deeper e0.frames, .inr ⟨rfl, rfl⟩, fun b z => absurd z (noA b), e0.bs, e0.bsz, fun b _ _ => noA b, fun b z => absurd z (noA b), e0.funs, e0.frf⟩,
    rfl, e0.bare, Un.kept hk, ⟨_, hns, fun i y v h1 h2 h3 => ?_⟩, fun y c h => ?_, e0.hok.fresh (Nat.le_refl _), fun y c h => ?_, fun p hp => absurd (show p ∈ ([] : List (Addr × Obj)) from hp) (by simp), e0.hok.kept hk, ?_⟩
  · exact (cellOf h1).1.trans (cellOf h2).1.symm
  · have hy : scope.names.lookup y = some .cell ∨ scope.names.lookup y = some .free := hy
    rcases hy with hy | hy
    · exact absurd rfl (S.nocell _ (PySem.mem_of_lookup hy))
    · have := S.free1 _ (PySem.mem_of_lookup hy) rfl
      have this : y = "__class__" := this
      subst this
      exact ⟨cc, by show List.lookup _ [(("__class__" : Str), cc)] = _; simp [List.lookup]⟩
  · exact absurd (show false = true from hf) Bool.false_ne_true
  · have hi : i < vs.length := by
      unfold L2.start at h2
      by_cases hi : i < vs.length
      · exact hi
      · rw [List.getElem?_append_right (by simpa using hi)] at h2
        rw [List.getElem?_replicate] at h2
        split at h2 <;> cases h2
    have ha : vs[i]? = some v := by
      unfold L2.start at h2
      rw [List.getElem?_append_left (by simpa using hi), List.getElem?_map] at h2
      cases e : vs[i]? with
      | none => rw [e] at h2; cases h2
      | some a => rw [e] at h2; cases h2; rfl
    obtain ⟨u, hu, rv⟩ := r.get ha
    have hp : ps[i]? = some y := by
      rw [← S.pre, List.getElem?_take_of_lt (by omega)]; exact h1
    have ndP : ps.Nodup := by rw [← S.pre]; exact S.nd.sublist (List.take_sublist _ _)
    exact ⟨u, rv, .inl ⟨S.par y (List.mem_of_getElem? hp), lookup_rev ndP (by rw [← hl]; exact r.length) hp hu⟩⟩
  · obtain ⟨_, rfl⟩ := cellOf (show List.lookup y [(("__class__" : Str), cc)] = some c from h)
    exact ⟨some D, ⟨occ, hk _ _ hcs.1, hoc⟩⟩
  · obtain ⟨_, rfl⟩ := cellOf (show List.lookup y [(("__class__" : Str), cc)] = some c from h)
    exact hcs.2
  · unfold L2.start
    show _ = N.length
    rw [List.length_append, List.length_map, List.length_replicate]
    omega
end Sh

namespace Sh
open PySem PySem.Spec L2
open PyProof.Rows (envOfC)

/-! ### defs and calls -/
abbrev DF := List W → Mem → R W
def defn (n N : Nat) (b : DS) : DF := fun ws m => if ws.length = n then (match b (ws.map some ++ List.replicate (N - n) none) m with
  | .rt w m' => .ok w m'
  | .nx _ m' => .ok .non m'
  | .exc c fs _ m' => .exc c fs m'
  | _ => .bad) else .bad
/-- the wish of a call -/
def OutC (g : G) (ρ : List Addr) (H : Hp) (r : R W) (Q : VK) (E : XK) : Prop := match r with
  | .ok w m' => ∀ ρ' H' v, Post ρ H ρ' H' → Sim g ρ' m' H' → VR g ρ' H' w v → Q v H'
  | .exc c fs m' => ∀ ρ' H' d gs, Post ρ H ρ' H' → Sim g ρ' m' H' → XD H' d gs → FR g ρ' H' fs gs → E (.ref (g.cl c)) d H'
  | .bad => False
/-- a def's promise -/
def spOf (g : G) (F : DF) (n : Nat) : Sp := fun vs H Q E => vs.length = n ∧ ∃ (ws : List W) (m : Mem) (ρ : List Addr), Sim g ρ m H ∧ VRs g ρ H ws vs ∧ OutC g ρ H (F ws m) Q E
/-- a def of the module: where it stands, what it promises -/
structure Def (P : Program) (w : World) (K : PySem.W.Frag) (mg : Str → Option Value) (base : Heap) (g : G) (x : Str) (k : Nat) (ps : List Str) (F : DF) : Prop where
  ex : ∃ (f : Addr) (fd : FuncData), mg x = some (.ref f) ∧ PySem.W.keepIn K (.ref f) = true ∧ Binds K fd ps [] ∧ FnG P w K mg base k f fd ps (spOf g F ps.length)
section
variable {g : G} {X : Cx} {wx : WX} {τ : L2.St} {ρ ρ' : List Addr} {H H' : Hp} {m m' : Mem} {e : Expr} {pins : List (Addr × Obj)} {s : Shared}
theorem LR.start {N : List Str} {n : Nat} {ws : List W} {vs : List V} (r : VRs g ρ H ws vs) (hl : ws.length = n) (hn : n ≤ N.length) : LR g ρ H (ws.map some ++ List.replicate (N.length - n) none) (L2.start N vs) := by
  have hv : vs.length = n := by rw [← r.length]; exact hl
  refine ⟨by simp [L2.start, hl, hv], fun i w h => ?_⟩
  by_cases hi : i < ws.length
  · rw [List.getElem?_append_left (by simpa using hi), List.getElem?_map] at h
    cases q : ws[i]? with
    | none => rw [q] at h; cases h
    | some w' =>
      rw [q] at h; cases h
      obtain ⟨v, hv', rv⟩ := r.get q
      refine ⟨v, ?_, rv⟩
      unfold L2.start
      rw [List.getElem?_append_left (by rw [List.length_map]; exact (List.getElem?_eq_some_iff.mp hv').1), List.getElem?_map, hv']
      rfl
  · rw [List.getElem?_append_right (by simpa using Nat.le_of_not_lt hi), List.getElem?_replicate] at h
    split at h <;> cases h
/-- a def of the text keeps the promise of its denotation -/
theorem fn_ok {P : Program} {w : World} {K : PySem.W.Frag} {mg : Str → Option Value} {base : Heap} {k : Nat} {x qual : Str} {st : Stmt} {f : Addr} {fd : FuncData} {N ps : List Str} {b : DS} (F : Fun K x qual st f fd) (S : FnScope N ps (defScope st))
    (hb : ∀ (cdv : Value) (A : Around) (outer : List Env) (s : Shared) (H : Hp) (E : XK), Rm k (A.deeper (envOfC qual (defScope st) s.heap.objs.size f cdv)) →
      Takes (cxOf (CX P w) P w K mg base N qual (defScope st) f cdv A outer s H E) (fun cls d _ H => E cls d H) →
      PassesOwn (model P w) (A.deeper (envOfC qual (defScope st) s.heap.objs.size f cdv)) (envOfC qual (defScope st) s.heap.objs.size f cdv) (cxOf (CX P w) P w K mg base N qual (defScope st) f cdv A outer s H E).xe →
      SSs g (cxOf (CX P w) P w K mg base N qual (defScope st) f cdv A outer s H E) (fun cls d _ H => E cls d H) (defBody st) b) :
    FnG P w K mg base (k + 1) f fd ps (spOf g (defn ps.length N.length b) ps.length) := by
  obtain ⟨oc, od, kV, doc, pm, an, cdv, ct, osl, rfl, lk, hcd⟩ := F.ex
  refine fnG_of lk hcd S (fun vs H Q E h => h.1) fun A outer s H vs Q E hr h => ?_
  obtain ⟨hl, ws, m, ρ, S0, r, o⟩ := h
  have hpl : ps.length ≤ N.length := by have := congrArg List.length S.pre; rw [List.length_take] at this; omega
  refine ⟨_, hb cdv A outer s H E hr (takes_of rfl rfl rfl rfl) (passes_of rfl), ws.map some ++ List.replicate (N.length - ps.length) none, m, ρ, S0, LR.start r (by rw [r.length]; exact hl) hpl, ?_⟩
  unfold defn at o
  rw [if_pos (by rw [r.length]; exact hl)] at o
  cases hr' : b (ws.map some ++ List.replicate (N.length - ps.length) none) m with
  | nx σ' m' => rw [hr'] at o; exact fun ρ' H' τ' P' S' L' => o ρ' H' .non P' S' .non
  | rt w m' => rw [hr'] at o; exact fun ρ' H' v P' S' r => o ρ' H' v P' S' r
  | bk σ' m' => rw [hr'] at o; exact o.elim
  | ct σ' m' => rw [hr'] at o; exact o.elim
  | exc c fs σ' m' => rw [hr'] at o; exact fun ρ' H' τ' d gs P' S' L' h1 h2 => o ρ' H' d gs P' S' h1 h2
  | bad => rw [hr'] at o; exact o.elim

/-- the callee runs -/
theorem run_def {k : Nat} {f : Addr} {fd : FuncData} {ps : List Str} {F : DF} {ws : List W} {vs : List V} {us : List Value} {Q : Value → Shared → Prop} (tk : Takes X wx) (FO : FnG X.prog X.w X.K X.mg X.base k f fd ps (spOf g F ps.length)) (hr : Rm k X.A)
    (hb : Binds X.K fd ps []) (hl : ws.length = ps.length ∨ F ws m = .bad) (I : Inv X pins τ H s) (S : Sim g ρ m H) (r : VRs g ρ H ws vs) (ru : Vals vs us)
    (o : Out g wx τ ρ H (F ws m) (fun w m' ρ' H' => ∀ v u s', Inv X pins τ H' s' → VR g ρ' H' w v → RelV v u → Q u s')) : wpAny (model X.prog X.w) X.A (call (.ref f) us) Q X.xe s := by
  have hl : ws.length = ps.length := by
    rcases hl with h | h
    · exact h
    · rw [h] at o; exact o.elim
  have hlv : vs.length = ps.length := by rw [← r.length]; exact hl
  have hlu : us.length = ps.length := by rw [← ru.length]; exact hlv
  have hbind := hb s us I.kIn (by rw [List.append_nil]; exact hlu)
  rw [List.append_nil] at hbind
  refine wpAny_call (codeAny_mono (FO.run X.A X.stack s H ⟨us, []⟩ us vs (fun v H' => ∀ u s', Inv X pins τ H' s' → RelV v u → Q u s') (fun c d H' => wx c d τ H') hr I.env0 hbind ru ⟨hlv, ws, m, ρ, S, r, ?_⟩) fun r' s' hq => ?_)
  · cases hF : F ws m with
    | ok w m1 => rw [hF] at o; exact fun ρ' H' v P' S' rv u s' I' ru => o ρ' H' P' S' v u s' I' rv ru
    | exc c fs m1 => rw [hF] at o; exact fun ρ' H' d gs P' S' h1 h2 => o ρ' H' d gs P' S' h1 h2
    | bad => rw [hF] at o; exact o
  · cases r' with
    | error e => exact tk e s' (XE.of_call I (fun cls d H' h => h) hq)
    | ok fl =>
      cases fl with
      | ret u =>
        obtain ⟨v, H', I', rv, q⟩ := I.after hq
        exact q u s' I' rv
      | next => exact False.elim hq
      | brk => exact False.elim hq
      | cont => exact False.elim hq
/-- a denotation that takes n arguments -/
def Arity (n : Nat) (F : DF) : Prop := ∀ ws m, ws.length ≠ n → F ws m = .bad
theorem arity_defn {n N : Nat} {b : DS} : Arity n (defn n N b) := fun ws m h => by unfold defn; rw [if_neg h]
theorem Arity.or {n : Nat} {F : DF} (a : Arity n F) (ws : List W) (m : Mem) : ws.length = n ∨ F ws m = .bad := by
  by_cases h : ws.length = n
  · exact .inl h
  · exact .inr (a ws m h)
def eCall (F : DF) (a : DL) : DE := fun σ m => (a σ m).bind F
theorem se_call {x : Str} {k : Nat} {ps : List Str} {F : DF} {es : List Expr} {f : DL} {p pos : Pos} (tk : Takes X wx) (D : Def X.prog X.w X.K X.mg X.base g x k ps F) (ar : Arity ps.length F) (hr : Rm k X.A) (hg : Gl X x) (ha : SA g X wx (e :: es) f)
    (hdb : (x == ("__debug__" : Str)) = false := by decide) (he : starEach (e :: es) X.env = (false, eval e X.env) :: starEach es X.env := by exact star1 rfl) (hpl : (backTo pos (starEach es X.env)).any (·.1) = false := by exact plain_ns rfl) :
    SE g X wx (.Call (.Name x p) (e :: es) [] pos) (eCall F f) := by
  obtain ⟨fa, fd, hm, hk, hb, FO⟩ := D.ex
  refine ⟨fun pins s σ m ρ H τ Q I S L o => ?_⟩
  refine wpAny_Call_Name_kw (ld_glob I hg hm ?_ hdb)
  refine PySem.W.callWith_K (h₀ := X.base) I.ok.mod.kin hk (ha.run pos pins s σ m ρ H τ _ I S L ((o.bind S).imp fun ws m1 ρ1 H1 P1 S1 o1 vs us s1 I1 rv ru => ⟨I1.kIn, ?_⟩)) he hpl
  exact run_def tk FO hr hb (ar.or ws m1) I1 S1 rv ru o1
theorem se_call0 {x : Str} {k : Nat} {ps : List Str} {F : DF} {p pos : Pos} (tk : Takes X wx) (D : Def X.prog X.w X.K X.mg X.base g x k ps F) (ar : Arity ps.length F) (hr : Rm k X.A) (hg : Gl X x) (hdb : (x == ("__debug__" : Str)) = false := by decide) :
    SE g X wx (.Call (.Name x p) [] [] pos) (eCall F aNil) := by
  obtain ⟨fa, fd, hm, hk, hb, FO⟩ := D.ex
  refine ⟨fun pins s σ m ρ H τ Q I S L o => ?_⟩
  refine wpAny_Call_Name_kw (ld_glob I hg hm ?_ hdb)
  exact PySem.W.callWith_K0 I.kIn hk (run_def (us := []) tk FO hr hb (ar.or [] m) I S .nil .nil o)
theorem takes0 : Takes X wx0 := fun u s' ⟨_, _, _, _, _, _, _, _, _, _, _, _, _, _, _, _, h⟩ => h.elim

/-! ### built-ins by name -/
def eFn (fn : List W → Mem → R W) (a : DL) : DE := fun σ m => (a σ m).bind fn
theorem se_blt {x : Str} {id : String} {fn : List W → Mem → R W} {es : List Expr} {f : DL} {p pos : Pos} (hf : Fn g X wx (fun us => call (.builtin id) us) fn) (hg : Gl X x) (hm : X.mg x = none) (hv : bootBuiltins x = some (.builtin id)) (ha : SA g X wx (e :: es) f) (hn : x ≠ "__name__" := by decide) (hdb : (x == ("__debug__" : Str)) = false := by decide)
    (he : starEach (e :: es) X.env = (false, eval e X.env) :: starEach es X.env := by exact star1 rfl) (hpl : (backTo pos (starEach es X.env)).any (·.1) = false := by exact plain_ns rfl) : SE g X wx (.Call (.Name x p) (e :: es) [] pos) (eFn fn f) := by
  refine ⟨fun pins s σ m ρ H τ Q I S L o => ?_⟩
  refine wpAny_Call_Name_kw (ld_blt I hg hm hv ?_ hn hdb)
  exact PyProof.Rows.callWith_builtin1 (ha.run pos pins s σ m ρ H τ _ I S L ((o.bind S).imp fun ws m1 ρ1 H1 P1 S1 o1 vs us s1 I1 rv ru => hf.run pins s1 m1 ρ1 H1 τ ws vs us Q I1 S1 rv ru o1)) he hpl
theorem se_typ {x : Str} {T : String} {fn : List W → Mem → R W} {es : List Expr} {f : DL} {p pos : Pos} (hf : Fn g X wx (fun us => call (.type T) us) fn) (hg : Gl X x) (hm : X.mg x = none) (hv : bootBuiltins x = some (.type T)) (ha : SA g X wx (e :: es) f) (hn : x ≠ "__name__" := by decide) (hdb : (x == ("__debug__" : Str)) = false := by decide)
    (he : starEach (e :: es) X.env = (false, eval e X.env) :: starEach es X.env := by exact star1 rfl) (hpl : (backTo pos (starEach es X.env)).any (·.1) = false := by exact plain_ns rfl) : SE g X wx (.Call (.Name x p) (e :: es) [] pos) (eFn fn f) := by
  refine ⟨fun pins s σ m ρ H τ Q I S L o => ?_⟩
  refine wpAny_Call_Name_kw (ld_blt I hg hm hv ?_ hn hdb)
  exact PyProof.Rows.callWith_type1 (ha.run pos pins s σ m ρ H τ _ I S L ((o.bind S).imp fun ws m1 ρ1 H1 P1 S1 o1 vs us s1 I1 rv ru => hf.run pins s1 m1 ρ1 H1 τ ws vs us Q I1 S1 rv ru o1)) he hpl
/-- a built-in of one fresh list: all([..]), sum([..]), tuple([..]) -/
def eFnL (fn : List W → Mem → R W) (a : DL) : DE := fun σ m => (a σ m).bind fn
/-- by its items: a fresh list stands at p -/
structure FnL (g : G) (X : Cx) (wx : WX) (f : Value → Sem Value) (fn : List W → Mem → R W) : Prop where
  run : ∀ (pins : List (Addr × Obj)) (s : Shared) (m : Mem) (ρ : List Addr) (H : Hp) (τ : L2.St) (p : Addr) (ws : List W) (vs : List V) (Q : Value → Shared → Prop),
  Inv X pins τ H s → Sim g ρ m H → H p = some (.lst vs) → p ∉ ρ → VRs g ρ H ws vs →
  Out g wx τ ρ H (fn ws m) (fun w m' ρ' H' => ∀ v u s', Inv X pins τ H' s' → VR g ρ' H' w v → RelV v u → Q u s') → wpAny (model X.prog X.w) X.A (f (.ref p)) Q X.xe s
theorem FnL.ofR {f : Value} {fn : List W → Mem → R W}
    (h : ∀ (m : Mem) (ρ : List Addr) (H : Hp) (τ : L2.St) (p : Addr) (ws : List W) (vs : List V) (Q : VK), Sim g ρ m H → H p = some (.lst vs) → p ∉ ρ → VRs g ρ H ws vs → Out g wx τ ρ H (fn ws m) (fun w m' ρ' H' => ∀ v, VR g ρ' H' w v → Q v H') → ∃ r, CallR X f r ∧ r [.ref p] H Q) : FnL g X wx (fun u => call f [u]) fn := by
  refine ⟨fun pins s m ρ H τ p ws vs Q I S hp hn rx o => ?_⟩
  obtain ⟨r, hr, hq⟩ := h m ρ H τ p ws vs (fun v H' => ∀ u s', Inv X pins τ H' s' → RelV v u → Q u s') S hp hn rx (o.imp fun w m' ρ' H' _ _ k v r u s' I' ru => k v u s' I' r ru)
  exact thn (hr pins s τ H [.ref p] [.ref p] _ I (.cons rfl .nil) hq) fun u1 s1 ⟨v1, H1, I1, r1, q⟩ => q u1 s1 I1 r1
theorem se_bltL {x : Str} {id : String} {fn : List W → Mem → R W} {f : DL} {p pos : Pos} (hf : FnL g X wx (fun u => call (.builtin id) [u]) fn) (hg : Gl X x) (hm : X.mg x = none) (hv : bootBuiltins x = some (.builtin id)) (ha : SL g X wx e f) (hn : x ≠ "__name__" := by decide) (hdb : (x == ("__debug__" : Str)) = false := by decide)
    (he : starEach [e] X.env = (false, eval e X.env) :: starEach [] X.env := by exact star1 rfl) (hpl : (backTo pos (starEach [] X.env)).any (·.1) = false := by rfl) : SE g X wx (.Call (.Name x p) [e] [] pos) (eFnL fn f) := by
  refine ⟨fun pins s σ m ρ H τ Q I S L o => ?_⟩
  refine wpAny_Call_Name_kw (ld_blt I hg hm hv ?_ hn hdb)
  refine PyProof.Rows.callWith_builtin1 ?_ he hpl
  rw [he]
  show wpAny _ _ (spliced ((false, eval e X.env) :: backTo pos (starEach [] X.env))) _ _ s
  refine Calls.spliced_cons (ha.run pins s σ m ρ H τ _ I S L ((o.bind S).imp fun ws m1 ρ1 H1 P1 S1 o1 p vs s1 I1 h0 hp hn rv => ?_))
  exact Calls.spliced_nil (hf.run pins s1 m1 ρ1 H1 τ p ws vs Q I1 S1 hp hn rv o1)
theorem se_typL {x : Str} {T : String} {fn : List W → Mem → R W} {f : DL} {p pos : Pos} (hf : FnL g X wx (fun u => call (.type T) [u]) fn) (hg : Gl X x) (hm : X.mg x = none) (hv : bootBuiltins x = some (.type T)) (ha : SL g X wx e f) (hn : x ≠ "__name__" := by decide) (hdb : (x == ("__debug__" : Str)) = false := by decide)
    (he : starEach [e] X.env = (false, eval e X.env) :: starEach [] X.env := by exact star1 rfl) (hpl : (backTo pos (starEach [] X.env)).any (·.1) = false := by rfl) : SE g X wx (.Call (.Name x p) [e] [] pos) (eFnL fn f) := by
  refine ⟨fun pins s σ m ρ H τ Q I S L o => ?_⟩
  refine wpAny_Call_Name_kw (ld_blt I hg hm hv ?_ hn hdb)
  refine PyProof.Rows.callWith_type1 ?_ he hpl
  rw [he]
  show wpAny _ _ (spliced ((false, eval e X.env) :: backTo pos (starEach [] X.env))) _ _ s
  refine Calls.spliced_cons (ha.run pins s σ m ρ H τ _ I S L ((o.bind S).imp fun ws m1 ρ1 H1 P1 S1 o1 p vs s1 I1 h0 hp hn rv => ?_))
  exact Calls.spliced_nil (hf.run pins s1 m1 ρ1 H1 τ p ws vs Q I1 S1 hp hn rv o1)

/-! ### instances -/
def insOf (m : Mem) (w : W) : Option (String × List (List Nat × W)) := match w with
  | .ref n => match m[n]? with
    | some (.ins c fs) => some (c, fs)
    | _ => none
  | _ => none
theorem FR.lookup {fs : List (List Nat × W)} {gs : List (Str × V)} (h : FR g ρ H fs gs) (f : List Nat) :
    (∀ w, fs.lookup f = some w → ∃ v, gs.lookup (Sh.S f) = some v ∧ VR g ρ H w v) ∧ (fs.lookup f = none → gs.lookup (Sh.S f) = none) := by
  induction fs generalizing gs with
  | nil => cases h; exact ⟨fun w z => (by cases z), fun _ => rfl⟩
  | cons p fs ih =>
    cases h with
    | @cons _ q _ gs hq hr =>
      obtain ⟨a, w0⟩ := p
      obtain ⟨b, v0⟩ := q
      obtain ⟨e, rv⟩ := hq
      have e' : b = Sh.S a := e
      subst e'
      obtain ⟨i1, i2⟩ := ih hr
      simp only [List.lookup_cons]
      by_cases hc : f = a
      · subst hc
        simp only [beq_self_eq_true]
        exact ⟨fun w z => ⟨v0, rfl, (by cases z; exact rv)⟩, fun z => (by cases z)⟩
      · have h1 : (f == a) = false := beq_eq_false_iff_ne.mpr hc
        have h2 : (Sh.S f == Sh.S a) = false := beq_eq_false_iff_ne.mpr fun z => hc (S_inj z)
        simp only [h1, h2]
        exact ⟨i1, i2⟩
/-- a field is put -/
def putW (f : List Nat) (w : W) : List (List Nat × W) → List (List Nat × W)
  | [] => [(f, w)]
  | (k, x) :: r => if k = f then (k, w) :: r else (k, x) :: putW f w r
theorem FR.put {fs : List (List Nat × W)} {gs : List (Str × V)} (h : FR g ρ H fs gs) (f : List Nat) {w : W} {v : V} (r : VR g ρ H w v) : FR g ρ H (putW f w fs) (putF (Sh.S f) v gs) := by
  induction fs generalizing gs with
  | nil => cases h; exact .cons ⟨rfl, r⟩ .nil
  | cons p fs ih =>
    cases h with
    | @cons _ q _ gs hq hr =>
      obtain ⟨a, w0⟩ := p
      obtain ⟨b, v0⟩ := q
      obtain ⟨e, rv⟩ := hq
      have e' : b = Sh.S a := e
      subst e'
      show FR g ρ H (if a = f then (a, w) :: fs else (a, w0) :: putW f w fs) (if Sh.S a = Sh.S f then (Sh.S a, v) :: gs else (Sh.S a, v0) :: putF (Sh.S f) v gs)
      by_cases hc : a = f
      · subst hc
        rw [if_pos rfl, if_pos rfl]
        exact .cons ⟨rfl, r⟩ hr
      · rw [if_neg hc, if_neg fun z => hc (S_inj z)]
        exact .cons ⟨rfl, rv⟩ (ih hr)
theorem FR.length {fs : List (List Nat × W)} {gs : List (Str × V)} (h : FR g ρ H fs gs) : fs.length = gs.length := Paired.length h

/-- the facts of an own class at the address g.cl c -/
structure ClsOk (K : PySem.W.Frag) (g : G) (c : String) : Prop where
  cl : Cls K (g.cl c)
/-- how an attribute stands in a class -/
inductive AttK (P : Program) (w : World) (K : PySem.W.Frag) (mg : Str → Option Value) (base : Heap) (g : G) (f : List Nat) (c : String) (k : Nat) : Option (DF ⊕ W) → Prop
  | fld (cl : Cls K (g.cl c)) (n : NoAttr K (g.cl c) (Sh.S f)) : AttK P w K mg base g f c k none
  | prop {p ga : Addr} {fd : FuncData} {F : DF} (cl : Cls K (g.cl c)) (hp : PropOf K (g.cl c) (Sh.S f) p ga) (hb : Binds K fd ["self"] []) (FO : FnG P w K mg base k ga fd ["self"] (spOf g F 1)) : AttK P w K mg base g f c k (some (.inl F))
  | con {v : V} {u : Value} {x : W} (cl : Cls K (g.cl c)) (h : Con K (g.cl c) (Sh.S f) v u) (r : ∀ ρ H, VR g ρ H x v) : AttK P w K mg base g f c k (some (.inr x))
/-- e.f; tbl tells the classes that have f, and how -/
def attr (f : List Nat) (tbl : String → Option (Option (DF ⊕ W))) (x : W) (m : Mem) : R W := match insOf m x with
  | some (c, fs) => match tbl c with
    | some none => match fs.lookup f with
      | some w => .ok w m
      | none => .bad
    | some (some (.inl F)) => (F [x] m).nox
    | some (some (.inr w)) => match fs.lookup f with
      | some _ => .bad
      | none => .ok w m
    | none => .bad
  | none => .bad
def eAttr (f : List Nat) (tbl : String → Option (Option (DF ⊕ W))) (o : DE) : DE := fun σ m => (o σ m).bind (attr f tbl)
theorem insOf_some {w : W} {c : String} {fs : List (List Nat × W)} (h : insOf m w = some (c, fs)) : ∃ n, w = .ref n ∧ m[n]? = some (.ins c fs) := by
  unfold insOf at h
  split at h
  · rename_i n
    split at h
    · rename_i c' fs' hm
      cases h
      exact ⟨n, rfl, hm⟩
    · cases h
  · cases h
theorem getpropG {C p ga a dx : Addr} {fs : List (Str × V)} {f : Str} {fd : FuncData} {k : Nat} {sp : Sp} {Q : Value → Shared → Prop} {b : Bool} {E' : Value → Shared → Prop} (I : Inv X pins τ H s) (ea : H a = some (.ins C dx fs)) (c : Cls X.K C) (hp : PropOf X.K C f p ga)
    (F : FnG X.prog X.w X.K X.mg X.base k ga fd ["self"] sp) (hr : Rm (k + 1) X.A) (hb : Binds X.K fd ["self"] []) (h : sp [.ref a] H (fun v H' => ∀ u s', Inv X pins τ H' s' → RelV v u → Q u s') (fun _ _ _ => False)) :
    wpAny (model X.prog X.w) X.A (getAttr (.ref a) f b) Q E' s := by
  obtain ⟨mA, O, _, _, _, _⟩ := ins_get I.hok ea
  obtain ⟨od, J, _⟩ := O.look
  obtain ⟨rest, hrec⟩ := hp.rec_
  have I1 := I.tok (s.toks + 1)
  have hc : (PySem.W.clsIn X.K C).isSome = true := by
    obtain ⟨cd, hc, _⟩ := PySem.W.any_some c.hd
    rw [hc]
    rfl
  refine PySem.W.get_bind I.kIn J (PySem.W.plainGet_of (c.get f)).1 (PySem.W.findObj_data hc hp.at_ hp.get hp.tak) (PySem.W.plainGet_of (c.get f)).2 (wpAny_call (PySem.W.prop_get (s := { s with toks := s.toks + 1 }) I.kIn hrec ?_))
  refine codeAny_mono (F.run X.A.in1 X.stack { s with toks := s.toks + 1 } H ⟨[.ref a], []⟩ [.ref a] [.ref a] _ _ hr.in1 I1.env0.in1 (hb _ [.ref a] I1.kIn rfl) (.cons rfl .nil) h) fun r s' hq => ?_
  cases r with
  | error er =>
    obtain ⟨_, _, _, _, _, _, _, _, _, _, _, _, z⟩ := hq
    exact z.elim
  | ok fl =>
    cases fl with
    | ret u =>
      obtain ⟨v, H', I3, rv, q3⟩ := I1.after hq
      show wpAny _ _ (handedOut u) _ _ _
      rw [PySem.W.handedOut_of (handed_of rv)]
      exact wpAny_pure (q3 u s' I3 rv)
    | next => exact False.elim hq
    | brk => exact False.elim hq
    | cont => exact False.elim hq
theorem attr_ok {f : List Nat} {tbl : String → Option (Option (DF ⊕ W))} {k : Nat} (ht : ∀ c x, tbl c = some x → AttK X.prog X.w X.K X.mg X.base g f c k x) (hr : Rm (k + 1) X.A) {b : Bool} {x : W} {v : V} {u : Value} {Q : Value → Shared → Prop}
    (I : Inv X pins τ H s) (S : Sim g ρ m H) (rv : VR g ρ H x v) (ru : RelV v u) (o : Out g wx τ ρ H (attr f tbl x m) (fun w m' ρ' H' => ∀ v u s', Inv X pins τ H' s' → VR g ρ' H' w v → RelV v u → Q u s')) :
    wpAny (model X.prog X.w) X.A (getAttr u (Sh.S f) b) Q X.xe s := by
  unfold attr at o
  split at o
  · rename_i c fs hins
    obtain ⟨n, rfl, hm⟩ := insOf_some hins
    cases rv with
    | @ref n a ha =>
      obtain rfl : u = Value.ref a := ru
      obtain ⟨u1, h1, dx, gs, e1, rf⟩ := S.obj n a _ ha hm
      subst e1
      obtain ⟨lk1, lk2⟩ := rf.lookup f
      split at o
      · rename_i hc
        have hcc := ht c none hc
        cases hcc with
        | fld cl n =>
          split at o
          · rename_i w hw
            obtain ⟨v', h2, r2⟩ := lk1 w hw
            exact getattr_ok I h1 cl n h2 fun u' s' I' ru' => Out.here o S v' u' s' I' r2 ru'
          · exact o.elim
      · rename_i F hc
        have hcc := ht c _ hc
        cases hcc with
        | prop cl hp hb FO =>
          refine getpropG I h1 cl hp FO hr hb ⟨rfl, [.ref n], m, ρ, S, .cons (.ref ha) .nil, ?_⟩
          · cases hF : F [.ref n] m with
            | ok w m1 => rw [hF] at o; exact fun ρ' H' v P' S' rv u s' I' ru => o ρ' H' P' S' v u s' I' rv ru
            | exc c fs m1 => rw [hF] at o; exact o.elim
            | bad => rw [hF] at o; exact o.elim
      · rename_i w hc
        have hcc := ht c _ hc
        cases hcc with
        | con cl hcon r =>
          split at o
          · exact o.elim
          · rename_i hn
            exact getcon_ok I h1 cl hcon (lk2 hn) fun s' I' => Out.here o S _ _ s' I' (r _ _) hcon.rel
      · exact o.elim
  · exact o.elim
theorem se_attr {o : Expr} {fo : DE} {f : List Nat} {fn : Str} {tbl : String → Option (Option (DF ⊕ W))} {k : Nat} {pos : Pos} (ho : SE g X wx o fo) (ht : ∀ c x, tbl c = some x → AttK X.prog X.w X.K X.mg X.base g f c k x) (hr : Rm (k + 1) X.A) (hf : fn = Sh.S f)
    (hb : attributeBase o fn X.env (eval o X.env) = eval o X.env := by rfl) : SE g X wx (.Attribute o fn pos) (eAttr f tbl fo) := by
  subst hf
  refine ⟨fun pins s σ m ρ H τ Q I S L oo => ?_⟩
  refine attr_of hb (ho.run pins s σ m ρ H τ _ I S L ((oo.bind S).imp fun x m1 ρ1 H1 P1 S1 o1 v u s1 I1 rv ru => ?_))
  exact attr_ok ht hr I1 S1 rv ru o1
/-- o.f = e -/
def sAttr (f : List Nat) (ok : String → Bool) (fo fe : DE) : DS := fun σ m => RS.of σ (fe σ m) fun w m1 => RS.of σ (fo σ m1) fun x m2 => match x with
  | .ref n => match m2[n]? with
    | some (.ins c fs) => if ok c = true ∧ fs.length < 100 then .nx σ (m2.set n (.ins c (putW f w fs))) else .bad
    | _ => .bad
  | _ => .bad
theorem ss_attr {o e : Expr} {fo fe : DE} {f : List Nat} {fn : Str} {okc : String → Bool} {pos pos' : Pos} (ho : SE g X wx o fo) (he : SE g X wx e fe) (ht : ∀ c, okc c = true → Cls X.K (g.cl c) ∧ NoAttr X.K (g.cl c) (Sh.S f)) (hf : fn = Sh.S f)
    (hs : swapsWith e (some (.Attribute o fn pos')) pos.line X.env = pure false := by rfl) : SS g X wx (.Assign [.Attribute o fn pos'] e pos) (sAttr f okc fo fe) := by
  subst hf
  exact PS.conv (ps_fld ho.pe he.pe hs) fun D τ H ⟨σ, m, ρ, S, L, oo⟩ => ⟨σ, m, ρ, S, L, (oo.of S L).imp fun w m1 ρ1 H1 P1 S1 o1 v r => ⟨σ, m1, ρ1, S1, L.post S P1, (o1.of S1 (L.post S P1)).imp fun x m2 ρ2 H2 P2 S2 o2 v2 r2 => by
    cases r2 with
    | @ref n a ha =>
      simp only at o2
      split at o2
      · rename_i c fs hm
        split at o2
        · rename_i hc
          obtain ⟨u1, h1, dx, gs, e1, rf⟩ := S2.obj n a _ ha hm
          subst e1
          obtain ⟨hcl, hna⟩ := ht c hc.1
          refine ⟨a, g.cl c, dx, gs, rfl, h1, hcl, hna, by rw [← rf.length]; omega, ?_⟩
          obtain ⟨P3, S3⟩ := S2.set (u := .ins (g.cl c) dx (putF (Sh.S f) v gs)) (o := .ins c (putW f w fs)) ha ⟨dx, _, rfl, rf.put f (r.post S1 P2)⟩
          exact o2 _ _ _ P3 S3 (((L.post S P1).post S1 P2).post S2 P3)
        · exact o2.elim
      · exact o2.elim
    | _ => exact o2.elim⟩⟩

/-- o.m(e, ..) -/
structure MethK (P : Program) (w : World) (K : PySem.W.Frag) (mg : Str → Option Value) (base : Heap) (g : G) (f : List Nat) (c : String) (k : Nat) (F : DF) : Prop where
  ex : ∃ (ga : Addr) (fd : FuncData) (ps : List Str), Cls K (g.cl c) ∧ Meth K (g.cl c) (Sh.S f) ga ∧ Binds K fd ps [] ∧ Arity ps.length F ∧ FnG P w K mg base k ga fd ps (spOf g F ps.length)
def eMeth (f : List Nat) (tbl : String → Option DF) (o : DE) (a : DL) : DE := fun σ m => (o σ m).bind fun x m1 => match insOf m1 x with
  | some (c, fs) => match tbl c, fs.lookup f with
    | some F, none => (a σ m1).bind fun ws m2 => F (x :: ws) m2
    | _, _ => .bad
  | none => .bad
theorem se_meth {o : Expr} {fo : DE} {f : List Nat} {fn : Str} {tbl : String → Option DF} {k : Nat} {es : List Expr} {fa : DL} {pos apos : Pos} {pl : Sem Bool} (tk : Takes X wx) (ho : SE g X wx o fo) (ht : ∀ c F, tbl c = some F → MethK X.prog X.w X.K X.mg X.base g f c k F) (hr : Rm k X.A) (hf : fn = Sh.S f) (ha : SA g X wx (e :: es) fa)
    (hst : starEach (e :: es) X.env = (false, eval e X.env) :: starEach es X.env := by exact star1 rfl) (hpl : (backTo pos (starEach es X.env)).any (·.1) = false := by exact plain_ns rfl)
    (hev : eval (.Call (.Attribute o fn apos) (e :: es) [] pos) X.env = (do
      let ov ← eval o X.env
      standAt apos.atName
      let (f, first) ← holding [ov] (getMethod ov fn pl)
      callWith pos f first (backTo pos (starEach (e :: es) X.env)) (backToKw pos (keywordEach [] X.env))) := by rfl) : SE g X wx (.Call (.Attribute o fn apos) (e :: es) [] pos) (eMeth f tbl fo fa) := by
  subst hf
  refine ⟨fun pins s σ m ρ H τ Q I S L oo => ?_⟩
  refine PySem.W.methodCall_KW (pl := pl) (ho.run pins s σ m ρ H τ _ I S L ((oo.bind S).imp fun x m1 ρ1 H1 P1 S1 o1 v u s1 I1 rv ru => ?_)) hev
  split at o1
  · rename_i c fs hins
    obtain ⟨n, rfl, hm⟩ := insOf_some hins
    cases rv with
    | @ref n a hra =>
      obtain rfl : u = Value.ref a := ru
      obtain ⟨u1, h1, dx, gs, e1, rf⟩ := S1.obj n a _ hra hm
      subst e1
      split at o1
      · rename_i F hF hn
        obtain ⟨ga, fd, ps, cl, hmt, hb, ar, FO⟩ := (ht c F hF).ex
        refine getmeth_ok I1 h1 cl hmt ((rf.lookup f).2 hn) ?_
        refine PySem.W.callWith_K (first := [.ref a]) (h₀ := X.base) I.ok.mod.kin hmt.kp (ha.run pos pins s1 σ m1 ρ1 H1 τ _ I1 S1 (L.post S P1) ((o1.bind S1).imp fun ws m2 ρ2 H2 P2 S2 o2 vs us s2 I2 rvs rus => ⟨I2.kIn, ?_⟩)) hst hpl
        exact run_def (us := .ref a :: us) tk FO hr hb (ar.or _ m2) I2 S2 (.cons (.ref (P2.get hra)) rvs) (.cons rfl rus) o2
      · exact o1.elim
  · exact o1.elim
theorem se_meth0 {o : Expr} {fo : DE} {f : List Nat} {fn : Str} {tbl : String → Option DF} {k : Nat} {pos apos : Pos} {pl : Sem Bool} (tk : Takes X wx) (ho : SE g X wx o fo) (ht : ∀ c F, tbl c = some F → MethK X.prog X.w X.K X.mg X.base g f c k F) (hr : Rm k X.A) (hf : fn = Sh.S f)
    (hev : eval (.Call (.Attribute o fn apos) [] [] pos) X.env = (do
      let ov ← eval o X.env
      standAt apos.atName
      let (f, first) ← holding [ov] (getMethod ov fn pl)
      callWith pos f first (backTo pos (starEach [] X.env)) (backToKw pos (keywordEach [] X.env))) := by rfl) : SE g X wx (.Call (.Attribute o fn apos) [] [] pos) (eMeth f tbl fo aNil) := by
  subst hf
  refine ⟨fun pins s σ m ρ H τ Q I S L oo => ?_⟩
  refine PySem.W.methodCall_KW (pl := pl) (ho.run pins s σ m ρ H τ _ I S L ((oo.bind S).imp fun x m1 ρ1 H1 P1 S1 o1 v u s1 I1 rv ru => ?_)) hev
  split at o1
  · rename_i c fs hins
    obtain ⟨n, rfl, hm⟩ := insOf_some hins
    cases rv with
    | @ref n a hra =>
      obtain rfl : u = Value.ref a := ru
      obtain ⟨u1, h1, dx, gs, e1, rf⟩ := S1.obj n a _ hra hm
      subst e1
      split at o1
      · rename_i F hF hn
        obtain ⟨ga, fd, ps, cl, hmt, hb, ar, FO⟩ := (ht c F hF).ex
        refine getmeth_ok I1 h1 cl hmt ((rf.lookup f).2 hn) ?_
        exact PySem.W.callWith_K0 (first := [.ref a]) I1.kIn hmt.kp (run_def (us := [.ref a]) tk FO hr hb (ar.or _ m1) I1 S1 (.cons (.ref hra) .nil) (.cons rfl .nil) o1)
      · exact o1.elim
  · exact o1.elim

/-- C(e, ..) -/
structure MakeK (P : Program) (w : World) (K : PySem.W.Frag) (mg : Str → Option Value) (base : Heap) (g : G) (x : Str) (c : String) (k : Nat) (F : DF) : Prop where
  ex : ∃ (fi : Addr) (fd : FuncData) (ps : List Str), mg x = some (.ref (g.cl c)) ∧ Mk K (g.cl c) fi ∧ Binds K fd ps [] ∧ Arity ps.length F ∧ FnG P w K mg base k fi fd ps (spOf g F ps.length)
def make (c : String) (F : DF) (ws : List W) (m : Mem) : R W := (F (.ref m.length :: ws) (m ++ [.ins c []])).bind fun r m2 => match r with
  | .non => .ok (.ref m.length) m2
  | _ => .bad
def eMake (c : String) (F : DF) (a : DL) : DE := fun σ m => (a σ m).bind (make c F)
theorem make_ok {x : Str} {c : String} {k : Nat} {F : DF} {ws : List W} {vs : List V} {us : List Value} {Q : Value → Shared → Prop} (tk : Takes X wx) (D : MakeK X.prog X.w X.K X.mg X.base g x c k F) (hr : Rm (k + 1) X.A) (I : Inv X pins τ H s) (S : Sim g ρ m H) (r : VRs g ρ H ws vs) (ru : Vals vs us)
    (o : Out g wx τ ρ H (make c F ws m) (fun w m' ρ' H' => ∀ v u s', Inv X pins τ H' s' → VR g ρ' H' w v → RelV v u → Q u s')) : wpAny (model X.prog X.w) X.A (call (.ref (g.cl c)) us) Q X.xe s := by
  obtain ⟨fi, fd, ps, _, mk, hb, ar, FO⟩ := D.ex
  have hx : H (s.heap.objs.size + 1) = none := I.hok.fresh (Nat.le_succ _)
  have hdx : H s.heap.objs.size = none := I.hok.fresh (Nat.le_refl _)
  have hne : s.heap.objs.size ≠ s.heap.objs.size + 1 := Nat.ne_of_lt (Nat.lt_succ_self _)
  have I2 := Inv.made (C := g.cl c) I
  obtain ⟨Pa, Sa⟩ := S.junk (u := .own (s.heap.objs.size + 1)) hdx
  have hx2 : upd H s.heap.objs.size (.own (s.heap.objs.size + 1)) (s.heap.objs.size + 1) = none := by rw [upd_ne (Ne.symm hne)]; exact hx
  obtain ⟨Pb, Sb⟩ := Sa.push (o := .ins c []) (u := .ins (g.cl c) s.heap.objs.size []) hx2 ⟨_, _, rfl, .nil⟩
  have Pab := Pa.then Pb S Sa
  have hn : (ρ ++ [s.heap.objs.size + 1])[m.length]? = some (s.heap.objs.size + 1) := by rw [← S.len]; simp
  unfold make at o
  have o' : Out g wx τ (ρ ++ [s.heap.objs.size + 1]) (upd (upd H s.heap.objs.size (.own (s.heap.objs.size + 1))) (s.heap.objs.size + 1) (.ins (g.cl c) s.heap.objs.size [])) _ _ := o.from Pab S Sb
  have rs : VRs g (ρ ++ [s.heap.objs.size + 1]) (upd (upd H s.heap.objs.size (.own (s.heap.objs.size + 1))) (s.heap.objs.size + 1) (.ins (g.cl c) s.heap.objs.size [])) (.ref m.length :: ws) (.ref (s.heap.objs.size + 1) :: vs) := .cons (.ref hn) (r.post S Pab)
  have hl : (W.ref m.length :: ws).length = ps.length := by
    rcases ar.or (.ref m.length :: ws) (m ++ [.ins c []]) with h | h
    · exact h
    · rw [h] at o'; exact o'.elim
  have hlv : (V.ref (s.heap.objs.size + 1) :: vs).length = ps.length := by rw [← rs.length]; exact hl
  have hlu : ((Value.ref (s.heap.objs.size + 1) :: us) ++ []).length = ps.length := by rw [List.append_nil, ← hlv]; simp [ru.length]
  have hbind := hb { s with heap := (s.heap.push PySem.W.emptyDict).push (PySem.W.instObj (g.cl c) s.heap.objs.size) } (Value.ref (s.heap.objs.size + 1) :: us) I2.kIn hlu
  rw [List.append_nil] at hbind
  refine wpAny_call (make_map (f := fi) I.kIn mk.makes mk.init (beq_iff_eq.mp mk.fn) (codeAny_mono (FO.run _ X.stack _ _ ⟨Value.ref (s.heap.objs.size + 1) :: us, []⟩ (Value.ref (s.heap.objs.size + 1) :: us) (V.ref (s.heap.objs.size + 1) :: vs)
    (fun v H' => v = .non ∧ ∀ u s', Inv X pins τ H' s' → RelV (.ref (s.heap.objs.size + 1)) u → Q u s') (fun c d H' => wx c d τ H') (Rm.make hr (g.cl c) us []) (I2.env0.make (g.cl c) us []) hbind (.cons rfl ru) ⟨hlv, _, _, _, Sb, rs, ?_⟩) fun r' s' hq => ?_))
  · cases hF : F (.ref m.length :: ws) (m ++ [.ins c []]) with
    | ok w m1 =>
      rw [hF] at o'
      cases w with
      | non =>
        intro ρ' H' v P' S' rv
        cases rv
        exact ⟨rfl, fun u s' I' ru => o' ρ' H' P' S' (.ref (s.heap.objs.size + 1)) u s' I' (.ref (P'.get hn)) ru⟩
      | _ => exact o'.elim
    | exc c fs m1 => rw [hF] at o'; exact fun ρ' H' d gs P' S' h1 h2 => o' ρ' H' d gs P' S' h1 h2
    | bad => rw [hF] at o'; exact o'
  · cases r' with
    | error e => exact tk e s' (XE.of_call I2 (fun cls d H' h => h) hq)
    | ok fl =>
      cases fl with
      | ret u =>
        obtain ⟨v, H', I3, rv, ev, q3⟩ := I2.after hq
        subst ev
        exact ⟨rv, q3 _ s' I3 rfl⟩
      | next => exact False.elim hq
      | brk => exact False.elim hq
      | cont => exact False.elim hq
theorem se_make {x : Str} {c : String} {k : Nat} {F : DF} {es : List Expr} {f : DL} {p pos : Pos} (tk : Takes X wx) (D : MakeK X.prog X.w X.K X.mg X.base g x c k F) (hr : Rm (k + 1) X.A) (hg : Gl X x) (ha : SA g X wx (e :: es) f)
    (hdb : (x == ("__debug__" : Str)) = false := by decide) (he : starEach (e :: es) X.env = (false, eval e X.env) :: starEach es X.env := by exact star1 rfl) (hpl : (backTo pos (starEach es X.env)).any (·.1) = false := by exact plain_ns rfl) :
    SE g X wx (.Call (.Name x p) (e :: es) [] pos) (eMake c F f) := by
  obtain ⟨fi, fd, ps, hm, mk, hb, ar, FO⟩ := D.ex
  refine ⟨fun pins s σ m ρ H τ Q I S L o => ?_⟩
  refine wpAny_Call_Name_kw (ld_glob I hg hm ?_ hdb)
  refine PySem.W.callWith_K (h₀ := X.base) I.ok.mod.kin mk.kp (ha.run pos pins s σ m ρ H τ _ I S L ((o.bind S).imp fun ws m1 ρ1 H1 P1 S1 o1 vs us s1 I1 rv ru => ⟨I1.kIn, ?_⟩)) he hpl
  exact make_ok tk D hr I1 S1 rv ru o1
end
end Sh

namespace Sh
open PySem PySem.Spec L2
open PyProof.Rows (envOfC)

/-! ### super().__init__(..) as the first statement of an __init__ -/
def sSuper (cs : String) (F : DF) (fa : DL) : DS := fun σ m => match σ[0]? with
  | some (some (W.ref n)) => match m[n]? with
    | some (.ins c fs) => if c = cs then RS.of σ (fa σ m) fun ws m1 => RS.of σ (F (.ref n :: ws) m1) fun _ m2 => .nx σ m2 else .bad
    | _ => .bad
  | _ => .bad
/-- what of the text stands around such a def: D its class, cs the class of the receiver, F the next __init__ -/
structure SupK (P : Program) (w : World) (K : PySem.W.Frag) (mg : Str → Option Value) (base : Heap) (g : G) (cda cc D : Addr) (cs : String) (k : Nat) (F : DF) : Prop where
  code : ∃ (ccl : Value) (cdd : Option Addr) (vs : Array Value) (ccs : Array (Option Value)) (file : Str) (tf : Tok), K.lookup cda = some ⟨ccl, cdd, .fields vs, ccs⟩ ∧ vs[2]? = some (.str file tf) ∧ ((P.main.file : Str) == file) = true
  cell : ∃ (cl : Value) (cld : Option Addr) (csl : Array (Option Value)), K.lookup cc = some ⟨cl, cld, .cell (some (.ref D)), csl⟩
  cls : ∃ cdD, PySem.W.clsIn K D = some cdD
  sup : mg "super" = none
  stat : PySem.W.nsIn K PySem.cStatics "thirdparty.any" = some none
  top : (P.main.scope.names.lookup ("super" : Str)).isSome = false
  ccl : Cls K (g.cl cs)
  sub : PySem.W.mroIn K (g.cl cs) (.ref D) = some true
  nxt : ∃ (f2 : Addr) (fd2 : FuncData) (ps2 : List Str), PySem.W.ks_superIn K (g.cl cs) D "__init__" = some (some (.ref f2)) ∧ PySem.W.typeIn K (.ref f2) = some (.type "function") ∧ PySem.W.fnIn K f2 = true ∧ Binds K fd2 ps2 [] ∧ Arity ps2.length F ∧ FnG P w K mg base k f2 fd2 ps2 (spOf g F ps2.length)

section
variable {g : G} {P : Program} {w : World} {K : PySem.W.Frag} {mg : Str → Option Value} {base : Heap} {k : Nat} {f cda cc D : Addr} {name qual : Str} {params : Arguments} {rest : List Stmt} {scope : Scope} {doc pm ct oc : Value} {an od : Option Addr}
  {osl : Array (Option Value)} {N ps : List Str} {p0 p1 apos cpos epos : Pos} {e : Expr} {es : List Expr} {fa : DL} {b : DS} {cs : String} {F : DF} {ar : Arg} {pl : Sem Bool}
theorem superG (lk : K.lookup f = some ⟨oc, od, .func (PySem.W.ksFn name qual params (.Expr (.Call (.Attribute (.Call (.Name "super" p0) [] [] p1) "__init__" apos) (e :: es) [] cpos) epos :: rest) scope .none .none doc pm an (.ref cda) ct cc), osl⟩)
    (hcd : PySem.W.codeIn K (.ref cda) qual = true) (S : ScopeS N ps scope) (hps : ps[0]? = some ar.arg) (hpar : (params.posonlyargs ++ params.args).head? = some ar)
    (hks : scope.names.lookup ("super" : Str) = some .globalImplicit) (hkc : scope.names.lookup ("__class__" : Str) = some .free)
    (U : SupK P w K mg base g cda cc D cs k F)
    (hev : ∀ env, eval (.Call (.Attribute (.Call (.Name "super" p0) [] [] p1) "__init__" apos) (e :: es) [] cpos) env = (do
      let ov ← attributeBase (.Call (.Name "super" p0) [] [] p1) "__init__" env (eval (.Call (.Name "super" p0) [] [] p1) env)
      standAt apos.atName
      let (f, first) ← holding [ov] (getMethod ov "__init__" pl)
      callWith cpos f first (backTo cpos (starEach (e :: es) env)) []))
    (hsw : ∀ env, swapsWith (.Call (.Attribute (.Call (.Name "super" p0) [] [] p1) "__init__" apos) (e :: es) [] cpos) none epos.line env = pure false)
    (hb : ∀ (A : Around) (outer : List Env) (s : Shared) (H : Hp) (E : XK), Rm k (A.deeper (PySem.W.ksEnv qual scope s.heap.objs.size f (.ref cda) cc)) →
      Takes (cxS P w K mg base N qual scope f cda cc A outer s H E) (fun cls d _ H => E cls d H) →
      PassesOwn (model P w) (A.deeper (PySem.W.ksEnv qual scope s.heap.objs.size f (.ref cda) cc)) (PySem.W.ksEnv qual scope s.heap.objs.size f (.ref cda) cc) (cxS P w K mg base N qual scope f cda cc A outer s H E).xe →
      SA g (cxS P w K mg base N qual scope f cda cc A outer s H E) (fun cls d _ H => E cls d H) (e :: es) fa ∧
      SSs g (cxS P w K mg base N qual scope f cda cc A outer s H E) (fun cls d _ H => E cls d H) rest b)
    (hst : ∀ env, starEach (e :: es) env = (false, eval e env) :: starEach es env) (hpl : ∀ env, (backTo cpos (starEach es env)).any (·.1) = false) :
    FnG P w K mg base (k + 1) f (PySem.W.ksFn name qual params (.Expr (.Call (.Attribute (.Call (.Name "super" p0) [] [] p1) "__init__" apos) (e :: es) [] cpos) epos :: rest) scope .none .none doc pm an (.ref cda) ct cc) ps (spOf g (defn ps.length N.length (sSeq (sSuper cs F fa) b)) ps.length) := by
  refine ⟨fun vs H Q E h => h.1, fun A outer s H args us vs Q E hr e0 hbd r hsp => ?_⟩
  obtain ⟨hl, ws, m, ρ, S0, rv, o⟩ := hsp
  obtain ⟨f2, fd2, ps2, hnx, hty, hfn, hb2, ari, FO⟩ := U.nxt
  obtain ⟨ccl, cdd, cvs, ccs, file, tf, hcode, hvs, hfile⟩ := U.code
  obtain ⟨ocl, ocd, ocs, hcell⟩ := U.cell
  obtain ⟨cdD, hD⟩ := U.cls
  have hlw : ws.length = ps.length := by rw [rv.length]; exact hl
  have hlu : us.length = ps.length := by rw [← r.length]; exact hl
  have KX : K.In s.heap := e0.mod.kin.keeps fun b o e => (e0.bs b o e).1
  have lim : s.heap.NoLimit := e0.mod.nolimit.keeps fun b o e => (e0.bs b o e).1
  have hloc : ∀ y ∈ ps.zip us, scope.names.lookup y.1 = some .local := fun ⟨n, v⟩ hy => S.par n (List.of_mem_zip hy).1
  refine ks_codeAny_call_defAt (fd := PySem.W.ksFn name qual params (.Expr (.Call (.Attribute (.Call (.Name "super" p0) [] [] p1) "__init__" apos) (e :: es) [] cpos) epos :: rest) scope .none .none doc pm an (.ref cda) ct cc) (binds := ps.zip us) hr.r.depth (KX _ _ lk) rfl lim
    (PySem.W.codeRec_of KX hcd) rfl hbd S.nocell hloc (fun h0 hns hk => ?_) S.co S.gen S.kind
  show _root_.PySem.wpAt (model P w) (A.deeper (PySem.W.ksEnv qual scope s.heap.objs.size f (.ref cda) cc)) (.func (.Expr (.Call (.Attribute (.Call (.Name "super" p0) [] [] p1) "__init__" apos) (e :: es) [] cpos) epos :: rest) (PySem.W.ksEnv qual scope s.heap.objs.size f (.ref cda) cc))
    (execs (.Expr (.Call (.Attribute (.Call (.Name "super" p0) [] [] p1) "__init__" apos) (e :: es) [] cpos) epos :: rest) (PySem.W.ksEnv qual scope s.heap.objs.size f (.ref cda) cc)) _ _ _
  have hrd : Rm k (A.deeper (PySem.W.ksEnv qual scope s.heap.objs.size f (.ref cda) cc)) := hr.deeper _
  have I : Inv (cxS P w K mg base N qual scope f cda cc A outer s H E) [] (L2.start N vs) H { s with heap := h0, toks := s.toks + (ps.zip us).length } := inv_startS S hr.r.hd e0 hl r hcell rfl hns hk
  have tk : Takes (cxS P w K mg base N qual scope f cda cc A outer s H E) (fun cls d _ H => E cls d H) := takes_of rfl rfl rfl rfl
  obtain ⟨hSA, hSS⟩ := hb A outer s H E hrd tk (passes_of rfl)
  have KX0 : K.In h0 := I.kIn
  have L : LR g ρ H (ws.map some ++ List.replicate (N.length - ps.length) none) (L2.start N vs) := LR.start rv hlw (by have := congrArg List.length S.pre; rw [List.length_take] at this; omega)
  unfold defn at o
  rw [if_pos hlw] at o
  -- the receiver
  obtain ⟨hp0, _⟩ := List.getElem?_eq_some_iff.mp hps
  have hw0 : 0 < ws.length := by omega
  obtain ⟨w0, hw⟩ : ∃ w0, ws[0]? = some w0 := ⟨_, List.getElem?_eq_getElem hw0⟩
  have hσ0 : (ws.map some ++ List.replicate (N.length - ps.length) none)[0]? = some (some w0) := by
    rw [List.getElem?_append_left (by simpa using hw0), List.getElem?_map, hw]; rfl
  obtain ⟨v0, hv0, rv0⟩ := rv.get hw
  obtain ⟨u0, hu0, ru0⟩ := r.get hv0
  have o : OutC g ρ H (match sSeq (sSuper cs F fa) b (ws.map some ++ List.replicate (N.length - ps.length) none) m with
    | .rt w m' => .ok w m'
    | .nx _ m' => .ok .non m'
    | .exc c fs _ m' => .exc c fs m'
    | _ => .bad) Q E := o
  have hsup : ∃ n x dx gs fs, w0 = .ref n ∧ v0 = .ref x ∧ ρ[n]? = some x ∧ m[n]? = some (.ins cs fs) ∧ H x = some (.ins (g.cl cs) dx gs) := by
    unfold sSeq sSuper at o
    rw [hσ0] at o
    cases w0 with
    | ref n =>
      cases rv0 with
      | @ref n x hx =>
        cases hm : m[n]? with
        | none => simp only [hm] at o; exact o.elim
        | some ob =>
          cases ob with
          | ins c fs =>
            simp only [hm] at o
            by_cases hc : c = cs
            · subst hc
              obtain ⟨u1, h1, dx, gs, e1, _⟩ := S0.obj n x _ hx hm
              subst e1
              exact ⟨n, x, dx, gs, fs, rfl, rfl, hx, hm, h1⟩
            · rw [if_neg hc] at o; exact o.elim
          | _ => simp only [hm] at o; exact o.elim
    | _ => exact o.elim
  obtain ⟨n, x, dx, gs, fs, rfl, rfl, hx, hm, hHx⟩ := hsup
  obtain rfl : u0 = Value.ref x := ru0
  have oS : OutT g (fun cls d _ H => E cls d H) ρ H (sSeq (sSuper cs F fa) b (ws.map some ++ List.replicate (N.length - ps.length) none) m) { nx := fun _ H' => Q .non H', rt := Q } := by
    cases hrs : sSeq (sSuper cs F fa) b (ws.map some ++ List.replicate (N.length - ps.length) none) m with
    | nx σ' m' => rw [hrs] at o; exact fun ρ' H' τ' P' S' L' => o ρ' H' .non P' S' .non
    | rt w m' => rw [hrs] at o; exact fun ρ' H' v P' S' r => o ρ' H' v P' S' r
    | bk σ' m' => rw [hrs] at o; exact o.elim
    | ct σ' m' => rw [hrs] at o; exact o.elim
    | exc c fs σ' m' => rw [hrs] at o; exact fun ρ' H' τ' d gs P' S' L' h1 h2 => o ρ' H' d gs P' S' h1 h2
    | bad => rw [hrs] at o; exact o.elim
  have oS1 := oS.seq S0
  have oS2 : OutT g (fun cls d _ H => E cls d H) ρ H (RS.of (ws.map some ++ List.replicate (N.length - ps.length) none) (fa (ws.map some ++ List.replicate (N.length - ps.length) none) m) fun ws' m1 => RS.of (ws.map some ++ List.replicate (N.length - ps.length) none) (F (.ref n :: ws') m1) fun _ m2 => .nx (ws.map some ++ List.replicate (N.length - ps.length) none) m2) { ({ nx := fun _ H' => Q .non H', rt := Q } : Ends) with nx := tsOf g (fun cls d _ H => E cls d H) b { nx := fun _ H' => Q .non H', rt := Q } } := by
    have e1 : sSuper cs F fa (ws.map some ++ List.replicate (N.length - ps.length) none) m = RS.of (ws.map some ++ List.replicate (N.length - ps.length) none) (fa (ws.map some ++ List.replicate (N.length - ps.length) none) m) fun ws' m1 => RS.of (ws.map some ++ List.replicate (N.length - ps.length) none) (F (.ref n :: ws') m1) fun _ m2 => .nx (ws.map some ++ List.replicate (N.length - ps.length) none) m2 := by
      unfold sSuper
      rw [hσ0]
      simp only [hm, if_true]
    rw [← e1]; exact oS1
  have oA := oS2.of S0 L
  obtain ⟨mA, O, _, _, _, _⟩ := ins_get I.hok hHx
  obtain ⟨od', J, _⟩ := O.look
  obtain ⟨oD, hD1, hD2⟩ : ∃ oD, h0.get? D = some oD ∧ oD.data = .cls cdD := by
    unfold PySem.W.clsIn at hD
    split at hD
    · rename_i c d cd' sl ho
      cases hD
      exact ⟨_, KX0 _ _ ho, rfl⟩
    · cases hD
  refine ks_wpAt_execs_cons (ks_wpAt_Expr_any (ks_wpAt_MethodCall (pl := pl) ?_ (hev _)) (by have := I.quiet; exact this) (hsw _))
  refine ks_wpAt_super_base (env := PySem.W.ksEnv qual scope s.heap.objs.size f (.ref cda) cc) hks hkc (by decide +kernel) rfl (KX0 _ _ lk) rfl hpar rfl (KX0 _ _ hcode) rfl hvs hfile U.top ?_
  obtain ⟨mb, hbn, hbv⟩ := I.mod.blt
  refine PySem.W.ks_loadName_global S.kind hks (Calls.loadGlobal_builtin (env := PySem.W.ksEnv qual scope s.heap.objs.size f (.ref cda) cc) (I.mod.glob.keeps I.bk) U.sup (hbn.keeps I.bk) ((hbv ("super" : Str) (by decide +kernel)).trans (show bootBuiltins ("super" : Str) = some (Value.type "super") by first | rfl | decide +kernel | kernel_rfl)) ⟨rfl, ?_⟩)
  refine wpAny_loadName_free S.kind hkc rfl ⟨_, KX0 _ _ hcell, rfl⟩ ?_
  have hself : (ps.zip us).reverse.lookup ar.arg = some (Value.ref x) := lookup_rev (by rw [← S.pre]; exact S.nd.sublist (List.take_sublist _ _)) hlu.symm hps hu0
  refine wpAny_loadName_local S.kind (S.par _ (List.mem_of_getElem? hps)) hns hself ?_
  refine ks_wpAny_isType_cls hD1 hD2 ⟨rfl, ?_⟩
  refine ks_wpAny_call_super hD1 hD2 J.at_ J.cls (fun c e => ?_) (PySem.W.looks_mroIn KX0 U.sub) (fun h' e1 k1 => ?_)
  · have := J.no
    unfold PySem.W.notCls at this
    rw [e] at this
    exact Bool.noConfusion this
  have I2 : Inv (cxS P w K mg base N qual scope f cda cc A outer s H E) [] (L2.start N vs) H { s with heap := h', toks := s.toks + (ps.zip us).length } := I.kept (t' := s.toks + (ps.zip us).length) k1
  have KX2 : K.In h' := I2.kIn
  obtain ⟨of, hof, hofc⟩ : ∃ of, h'.get? f2 = some of ∧ of.cls = .type "function" := by
    have ht' : (K.lookup f2).map (·.cls) = some (.type "function") := hty
    cases z : K.lookup f2 with
    | none => rw [z] at ht'; cases ht'
    | some of => rw [z] at ht'; exact ⟨of, KX2 _ _ z, Option.some.inj ht'⟩
  obtain ⟨cdc, hcc, hal⟩ : ∃ cdc, PySem.W.clsIn K (g.cl cs) = some cdc ∧ PySem.W.alongIn K "__init__" ((cdc.mro.dropWhile (· != .ref D)).drop 1) = some (some (.ref f2)) := by
    have h2 := hnx
    unfold PySem.W.ks_superIn at h2
    cases z : PySem.W.clsIn K (g.cl cs) with
    | none => rw [z] at h2; cases h2
    | some cd => rw [z] at h2; exact ⟨cd, rfl, h2⟩
  obtain ⟨mA2, O2, _, _, _, _⟩ := ins_get I2.hok hHx
  obtain ⟨od2, J2, _⟩ := O2.look
  refine ks_wpAny_getMethod_super e1 (PySem.W.looks_opaque KX2 U.stat) (l₀ := cdc.mro) (fun A Q E s k q => wpAny_bind ((PySem.W.looks_clsIn KX2 hcc) A _ E s k (wpAny_pure q))) rfl KX2 hal hof hofc (PySem.W.ks_ne KX2 J2 hcc) (by decide +kernel) ?_
  -- the bound method stands at the heap's end
  have hq0 : H h'.objs.size = none := I2.hok.fresh (Nat.le_refl _)
  have I3a : Inv (cxS P w K mg base N qual scope f cda cc A outer s H E) [] (L2.start N vs) H { s with heap := h'.push { cls := .type "method", data := .fields #[.ref f2, .ref x] }, toks := s.toks + (ps.zip us).length + 1 } := I2.kept (t' := s.toks + (ps.zip us).length + 1) fun b u q => Heap.get?_push_of_some _ q
  have hq1 : (h'.push { cls := .type "method", data := .fields #[.ref f2, .ref x] }).get? h'.objs.size = some (PySem.W.methodObj (.ref f2) (.ref x)) := Heap.get?_push_size h' rfl
  have I3 : Inv (cxS P w K mg base N qual scope f cda cc A outer s H E) [(h'.objs.size, PySem.W.methodObj (.ref f2) (.ref x))] (L2.start N vs) H { s with heap := h'.push { cls := .type "method", data := .fields #[.ref f2, .ref x] }, toks := s.toks + (ps.zip us).length + 1 } :=
    I3a.pins_of fun p hp => by
      have hp : p = (h'.objs.size, PySem.W.methodObj (.ref f2) (.ref x)) := by simpa using hp
      subst hp
      have fo := I2.fpOk (H' := H) (b := h'.objs.size) (Nat.le_refl _) hq0
      exact ⟨hq1, hq0, fo.2.1, fo.2.2.1, fun v z => by cases z⟩
  show wpAny _ _ (callWith cpos (.ref h'.objs.size) [] (backTo cpos (starEach (e :: es) (PySem.W.ksEnv qual scope s.heap.objs.size f (.ref cda) cc))) []) _ _ _
  rw [hst]
  refine PySem.W.callWith_of (P := PySem.W.MethP K h'.objs.size f2 (.ref x)) (by show ((false || (backTo cpos (starEach es _)).any (·.1)) || false) = false; rw [hpl]; rfl) (PySem.W.keeps_M hfn) (Calls.evalArgs_plain ?_)
  have key := fun Q' ho => (hst (PySem.W.ksEnv qual scope s.heap.objs.size f (.ref cda) cc)) ▸ (show wpAny (model P w) (A.deeper (PySem.W.ksEnv qual scope s.heap.objs.size f (.ref cda) cc)) (spliced (backTo cpos (starEach (e :: es) (PySem.W.ksEnv qual scope s.heap.objs.size f (.ref cda) cc)))) Q' (cxS P w K mg base N qual scope f cda cc A outer s H E).xe _ from
    hSA.run cpos [(h'.objs.size, PySem.W.methodObj (.ref f2) (.ref x))] _ (ws.map some ++ List.replicate (N.length - ps.length) none) m ρ H (L2.start N vs) Q' I3 S0 L ho)
  refine key _ (oA.imp fun ws' m1 ρ1 H1 P1 S1 o1 vs' us' s4 I4 rv' ru' => ?_)
  have pin := I4.pin (h'.objs.size, PySem.W.methodObj (.ref f2) (.ref x)) (List.mem_append_right _ (List.mem_singleton.mpr rfl))
  refine ⟨⟨pin.1, I4.kIn⟩, ?_⟩
  have L1 := L.post S0 P1
  have oF := o1.of S1 L1
  have hlF : (W.ref n :: ws').length = ps2.length := by
    rcases ari.or (.ref n :: ws') m1 with h | h
    · exact h
    · rw [h] at oF; exact oF.elim
  have rs : VRs g ρ1 H1 (.ref n :: ws') (.ref x :: vs') := .cons (.ref (P1.get hx)) rv'
  have hlV : (V.ref x :: vs').length = ps2.length := by rw [← rs.length]; exact hlF
  have hlU : (Value.ref x :: us').length = ps2.length := by rw [← hlV]; simp [ru'.length]
  have hbd2 := hb2 s4 (.ref x :: us') I4.kIn (by rw [List.append_nil]; exact hlU)
  rw [List.append_nil] at hbd2
  have fin : ∀ {pins : List (Addr × Obj)} {σ' : L2.St} {H' : Hp} {s' : Shared} {v : V} {u : Value}, Inv (cxS P w K mg base N qual scope f cda cc A outer s H E) pins σ' H' s' → RelV v u → Q v H' → CE outer P w H s Q u s' :=
    fun {pins σ' H' s' v u} J rv q => ⟨v, H', J.os, J.bare, J.base, J.hok, rv, q⟩
  refine wpAny_call (PySem.W.method_call pin.1 (codeAny_mono (FO.run (cxS P w K mg base N qual scope f cda cc A outer s H E).A (cxS P w K mg base N qual scope f cda cc A outer s H E).stack s4 H1 ⟨.ref x :: us', []⟩ (.ref x :: us') (.ref x :: vs')
    (fun v H' => tsOf g (fun cls d _ H => E cls d H) b { nx := fun _ H' => Q .non H', rt := Q } (L2.start N vs) H') (fun c d H' => E c d H') hrd I4.env0 hbd2 (.cons rfl ru') ⟨hlV, .ref n :: ws', m1, ρ1, S1, rs, ?_⟩) fun r' s' hq => ?_))
  · cases hF : F (.ref n :: ws') m1 with
    | ok w m2 => rw [hF] at oF; exact fun ρ' H' v P' S' rv => oF ρ' H' P' S' ρ' H' (L2.start N vs) Post.refl S' (L1.post S1 P')
    | exc c fs m2 => rw [hF] at oF; exact fun ρ' H' d gs P' S' h1 h2 => oF ρ' H' d gs P' S' h1 h2
    | bad => rw [hF] at oF; exact oF
  · cases r' with
    | error e => exact tk e s' (XE.of_call I4 (fun cls d H' h => h) hq)
    | ok fl =>
      cases fl with
      | ret u =>
        obtain ⟨v, H', I5, rv5, q⟩ := I4.after hq
        refine wpAt_of_wpAny (wpAny_mono (hSS.run _ s' (L2.start N vs) H' _ I5 q) (fun fl s6 hs => ?_) fun e s6 hs => hs)
        cases fl with
        | ret u =>
          obtain ⟨v, σ', H', J, rv, q⟩ := hs
          exact fin J rv q
        | next =>
          obtain ⟨σ', H', J, q⟩ := hs
          exact fin (v := V.non) (u := Value.none) J rfl q
        | brk =>
          obtain ⟨_, _, _, q⟩ := hs
          exact False.elim q
        | cont =>
          obtain ⟨_, _, _, q⟩ := hs
          exact False.elim q
      | next => exact False.elim hq
      | brk => exact False.elim hq
      | cont => exact False.elim hq
end
end Sh

namespace Sh
open PySem PySem.Spec L2
open PyProof.Rows (envOfC)

/-! ### numbers -/
/-- a bound for factors -/
def big : Nat := 2 ^ 20000
def wAdd (x y : W) (m : Mem) : R W := match x, y with
  | .int i, .int j => .ok (.int (i + j)) m
  | .str a, .str b => if a.length + b.length ≤ 1000000 then .ok (.str (a ++ b)) m else .bad
  | .ref a, .ref b => match m[a]?, m[b]? with
    | some (.lst xs), some (.lst ys) => if xs.length + ys.length ≤ 1000000 then .ok (.ref m.length) (m ++ [.lst (xs ++ ys)]) else .bad
    | _, _ => .bad
  | .tup (a :: as), .tup (b :: bs) => if (a :: as).length + (b :: bs).length ≤ 1000000 then .ok (.tup ((a :: as) ++ (b :: bs))) m else .bad
  | _, _ => .bad
def wSub (x y : W) (m : Mem) : R W := match x, y with
  | .int i, .int j => .ok (.int (i - j)) m
  | _, _ => .bad
def wMul (x y : W) (m : Mem) : R W := match x, y with
  | .int i, .int j => if i.natAbs < big ∧ j.natAbs < big then .ok (.int (i * j)) m else .bad
  | _, _ => .bad
def wMod (x y : W) (m : Mem) : R W := match x, y with
  | .int i, .int j => if 0 < j then .ok (.int (i % j)) m else .bad
  | _, _ => .bad
def wDiv (x y : W) (m : Mem) : R W := match x, y with
  | .int i, .int j => if 0 < j ∧ j < 1073741824 then .ok (.int (i / j)) m else .bad
  | _, _ => .bad
def wPow (x y : W) (m : Mem) : R W := match x, y with
  | .int i, .int j => if 0 ≤ j ∧ j ≤ 1000 ∧ i.natAbs < 1000000 then .ok (.int (i ^ j.toNat)) m else .bad
  | _, _ => .bad
def wNeg (x : W) (m : Mem) : R W := match x with
  | .int i => .ok (.int (-i)) m
  | _ => .bad
def wLt (x y : W) (m : Mem) : R W := match x, y with
  | .int i, .int j => .ok (.bl (decide (i < j))) m
  | _, _ => .bad
def wLe (x y : W) (m : Mem) : R W := match x, y with
  | .int i, .int j => .ok (.bl (decide (i ≤ j))) m
  | _, _ => .bad
def wGt (x y : W) (m : Mem) : R W := match x, y with
  | .int i, .int j => .ok (.bl (decide (j < i))) m
  | _, _ => .bad
def wGe (x y : W) (m : Mem) : R W := match x, y with
  | .int i, .int j => .ok (.bl (decide (j ≤ i))) m
  | _, _ => .bad
def isNon : W → Bool | .non => true | _ => false
def wIsN (x y : W) (m : Mem) : R W := match y with
  | .non => .ok (.bl (isNon x)) m
  | _ => .bad
def wNotN (x y : W) (m : Mem) : R W := match y with
  | .non => .ok (.bl (!isNon x)) m
  | _ => .bad
section
variable {g : G} {X : Cx} {wx : WX} {τ : L2.St} {ρ ρ' : List Addr} {H H' : Hp} {m m' : Mem} {e : Expr} {pins : List (Addr × Obj)} {s : Shared}
theorem big_log {n : Nat} (h : n < big) : n.log2 < 20000 := PySem.Flt.log2_lt_of (by decide) h
theorem Out.ok0 {τ : L2.St} {b : W} {Q : VK} (S : Sim g ρ m H) (o : Out g wx τ ρ H (.ok b m) (fun w m' ρ' H' => ∀ v, VR g ρ' H' w v → Q v H')) {v : V} (r : VR g ρ H b v) : Q v H := Out.here o S v r
theorem f_sub : F2 g X wx (binaryOp .Sub) wSub := F2.ofR fun m ρ H τ x y v z Q S rx ry o => by
  unfold wSub at o
  split at o
  · cases rx; cases ry; exact ⟨_, op_sub, _, _, rfl, rfl, Out.ok0 S o (.int _)⟩
  · exact o.elim
theorem f_mul : F2 g X wx (binaryOp .Mult) wMul := F2.ofR fun m ρ H τ x y v z Q S rx ry o => by
  unfold wMul at o
  split at o
  · split at o
    · rename_i h
      cases rx; cases ry
      refine ⟨_, op_mulW, _, _, rfl, rfl, ?_, Out.ok0 S o (.int _)⟩
      have h1 := big_log h.1
      have h2 := big_log h.2
      show _ + _ < 1000000
      omega
    · exact o.elim
  · exact o.elim
theorem f_mod : F2 g X wx (binaryOp .Mod) wMod := F2.ofR fun m ρ H τ x y v z Q S rx ry o => by
  unfold wMod at o
  split at o
  · split at o
    · rename_i h
      cases rx; cases ry
      exact ⟨_, op_mod, _, _, rfl, rfl, h, Out.ok0 S o (.int _)⟩
    · exact o.elim
  · exact o.elim
theorem f_div : F2 g X wx (binaryOp .FloorDiv) wDiv := F2.ofR fun m ρ H τ x y v z Q S rx ry o => by
  unfold wDiv at o
  split at o
  · split at o
    · rename_i h
      cases rx; cases ry
      exact ⟨_, op_fdiv, _, _, rfl, rfl, h, Out.ok0 S o (.int _)⟩
    · exact o.elim
  · exact o.elim
theorem f_pow : F2 g X wx (binaryOp .Pow) wPow := F2.ofR fun m ρ H τ x y v z Q S rx ry o => by
  unfold wPow at o
  split at o
  · split at o
    · rename_i h
      cases rx; cases ry
      refine ⟨_, op_pow, _, _, rfl, rfl, ⟨h.1, by omega, ?_⟩, Out.ok0 S o (.int _)⟩
      have : (1000000 : Nat) < 2 ^ 64 := by decide
      omega
    · exact o.elim
  · exact o.elim
theorem f_lt : F2 g X wx (compareOp .Lt) wLt := F2.ofR fun m ρ H τ x y v z Q S rx ry o => by
  unfold wLt at o
  split at o
  · cases rx; cases ry; exact ⟨_, op_lt, _, _, rfl, rfl, Out.ok0 S o (.bl _)⟩
  · exact o.elim
theorem f_le : F2 g X wx (compareOp .LtE) wLe := F2.ofR fun m ρ H τ x y v z Q S rx ry o => by
  unfold wLe at o
  split at o
  · cases rx; cases ry; exact ⟨_, op_le, _, _, rfl, rfl, Out.ok0 S o (.bl _)⟩
  · exact o.elim
theorem f_gt : F2 g X wx (compareOp .Gt) wGt := F2.ofR fun m ρ H τ x y v z Q S rx ry o => by
  unfold wGt at o
  split at o
  · cases rx; cases ry; exact ⟨_, op_gt, _, _, rfl, rfl, Out.ok0 S o (.bl _)⟩
  · exact o.elim
theorem f_ge : F2 g X wx (compareOp .GtE) wGe := F2.ofR fun m ρ H τ x y v z Q S rx ry o => by
  unfold wGe at o
  split at o
  · cases rx; cases ry; exact ⟨_, op_ge, _, _, rfl, rfl, Out.ok0 S o (.bl _)⟩
  · exact o.elim
theorem f_isN : F2 g X wx (compareOp .Is) wIsN := F2.ofR fun m ρ H τ x y v z Q S rx ry o => by
  unfold wIsN at o
  split at o
  · cases ry
    have e : decide (v = V.non) = isNon x := by cases rx <;> rfl
    exact ⟨_, op_isN, rfl, by rw [e]; exact Out.ok0 S o (.bl _)⟩
  · exact o.elim
theorem f_notN : F2 g X wx (compareOp .IsNot) wNotN := F2.ofR fun m ρ H τ x y v z Q S rx ry o => by
  unfold wNotN at o
  split at o
  · cases ry
    have e : (!decide (v = V.non)) = !isNon x := by cases rx <;> rfl
    exact ⟨_, op_notN, rfl, by rw [e]; exact Out.ok0 S o (.bl _)⟩
  · exact o.elim
theorem f_neg : F1 g X wx (unaryOp .USub) wNeg := by
  refine ⟨fun pins s m ρ H τ x v u Q I S rx ru o => ?_⟩
  unfold wNeg at o
  split at o
  · cases rx
    exact thn (un_neg pins s τ H _ _ (fun v H' => ∀ u s', Inv X pins τ H' s' → RelV v u → Q u s') I ru ⟨_, rfl, fun u s' I' ru' => Out.here o S _ u s' I' (.int _) ru'⟩) fun u1 s1 ⟨v1, H1, I1, r1, q⟩ => q u1 s1 I1 r1
  · exact o.elim
/-- lists joined: both stand in H -/
theorem obj_lst {n : Nat} {a : Addr} {xs : List W} (S : Sim g ρ m H) (ha : ρ[n]? = some a) (hm : m[n]? = some (.lst xs)) : ∃ vs, H a = some (.lst vs) ∧ VRs g ρ H xs vs := by
  obtain ⟨u, h1, vs, e1, r1⟩ := S.obj n a _ ha hm
  subst e1
  exact ⟨vs, h1, r1⟩
theorem f_add (hK : X.K = g.K) : F2 g X wx (binaryOp .Add) wAdd := F2.ofR fun m ρ H τ x y v z Q S rx ry o => by
  unfold wAdd at o
  split at o
  · cases rx; cases ry; exact ⟨_, op_add, _, _, rfl, rfl, Out.ok0 S o (.int _)⟩
  · split at o
    · rename_i a b h
      cases rx; cases ry
      refine ⟨_, op_add_str, _, _, rfl, rfl, by rw [S_len, S_len, sizeLine_eq]; omega, ?_⟩
      have e : (Sh.S a ++ Sh.S b : Str) = Sh.S (a ++ b) := by
        show Str.mk _ = Str.mk _
        simp
      rw [e]
      exact Out.ok0 S o (.str _)
    · exact o.elim
  · rename_i a b
    cases rx with
    | @ref _ p hp =>
      cases ry with
      | @ref _ q hq =>
        split at o
        · rename_i xs ys hx hy
          split at o
          · rename_i hl
            obtain ⟨vs, h1, r1⟩ := obj_lst S hp hx
            obtain ⟨us, h2, r2⟩ := obj_lst S hq hy
            refine ⟨_, op_cat, p, q, vs, us, rfl, rfl, h1, h2, by rw [← r1.length, ← r2.length, sizeLine_eq]; omega, fun d hd => ?_⟩
            obtain ⟨P2, S2⟩ := S.push (o := .lst (xs ++ ys)) (u := .lst (vs ++ us)) hd ⟨_, rfl, r1.append r2⟩
            exact o _ _ P2 S2 _ (.ref (by rw [← S.len]; simp))
          · exact o.elim
        · exact o.elim
  · rename_i a as b bs
    split at o
    · rename_i hl
      cases rx with
      | @tup _ vs p hp r1 =>
        cases ry with
        | @tup _ us q hq r2 =>
          have hp' : SqT X.K H p vs := by rw [hK]; exact hp
          have hq' : SqT X.K H q us := by rw [hK]; exact hq
          refine ⟨_, op_catT, p, q, vs, us, rfl, rfl, hp', hq', ?_, by rw [← r1.length, ← r2.length, sizeLine_eq]; simp only [List.length_cons] at hl ⊢; omega, fun z => ?_, fun z d hd => ?_⟩
          · intro z; rw [z] at r1; cases r1
          · rw [z] at r2; cases r2
          · obtain ⟨P2, S2⟩ := S.junk (u := .tup (vs ++ us)) hd
            exact o _ _ P2 S2 _ (.tup (SqT.of upd_same) ((r1.append r2).post S P2))
    · exact o.elim
  · exact o.elim

/-! ### equality of data -/
mutual
def dat (m : Mem) : Nat → W → Option PyData
  | _, .non => some .none
  | _, .bl b => some (.bool b)
  | _, .int i => some (.int i)
  | _, .str l => some (.str (Sh.S l))
  | 0, _ => none
  | d + 1, .tup ws => (dats m d ws).map .tuple
  | d + 1, .ref n => match m[n]? with
    | some (.lst ws) => (dats m d ws).map .list
    | _ => none
  | _ + 1, _ => none
def dats (m : Mem) : Nat → List W → Option (List PyData)
  | _, [] => some []
  | d, w :: ws => match dat m d w, dats m d ws with
    | some x, some xs => some (x :: xs)
    | _, _ => none
end
mutual
theorem dat_ok (hK : X.K = g.K) (S : Sim g ρ m H) : ∀ (d : Nat) (w : W) (v : V) (x : PyData), VR g ρ H w v → dat m d w = some x → Dp X.K H v x
  | d, .non, v, x, r, e => by
    cases r
    have e : some PyData.none = some x := by cases d <;> (simp only [dat] at e; exact e)
    cases e; exact .non
  | d, .bl b, v, x, r, e => by
    cases r
    have e : some (PyData.bool b) = some x := by cases d <;> (simp only [dat] at e; exact e)
    cases e; exact .bl b
  | d, .int i, v, x, r, e => by
    cases r
    have e : some (PyData.int i) = some x := by cases d <;> (simp only [dat] at e; exact e)
    cases e; exact .int i
  | d, .str l, v, x, r, e => by
    cases r
    have e : some (PyData.str (Sh.S l)) = some x := by cases d <;> (simp only [dat] at e; exact e)
    cases e; exact .str _
  | 0, .tup ws, v, x, r, e => by simp [dat] at e
  | 0, .ref n, v, x, r, e => by simp [dat] at e
  | d + 1, .tup ws, v, x, r, e => by
    simp only [dat] at e
    cases q : dats m d ws with
    | none => rw [q] at e; cases e
    | some xs =>
      rw [q] at e; cases e
      cases r with
      | tup h rv => exact .tup (by rw [hK]; exact h) (dats_ok hK S d ws _ xs rv q)
  | d + 1, .ref n, v, x, r, e => by
    simp only [dat] at e
    split at e
    · rename_i ws hm
      cases q : dats m d ws with
      | none => rw [q] at e; cases e
      | some xs =>
        rw [q] at e; cases e
        cases r with
        | ref h =>
          obtain ⟨vs, h1, r1⟩ := obj_lst S h hm
          exact .lst (SqL.of h1) (dats_ok hK S d ws vs xs r1 q)
    · cases e
  | d, .frz ws, v, x, r, e => by cases d <;> simp [dat] at e
  | d, .cls c, v, x, r, e => by cases d <;> simp [dat] at e
  | d, .ty c, v, x, r, e => by cases d <;> simp [dat] at e
theorem dats_ok (hK : X.K = g.K) (S : Sim g ρ m H) : ∀ (d : Nat) (ws : List W) (vs : List V) (xs : List PyData), VRs g ρ H ws vs → dats m d ws = some xs → DpAll X.K H vs xs
  | d, [], vs, xs, r, e => by
    cases r
    have e : some ([] : List PyData) = some xs := by cases d <;> (simp only [dats] at e; exact e)
    cases e; exact .nil
  | d, w :: ws, vs, xs, r, e => by
    cases r with
    | cons h rv =>
      have e : (match dat m d w, dats m d ws with | some x, some xs => some (x :: xs) | _, _ => none) = some xs := by cases d <;> (simp only [dats] at e; exact e)
      split at e
      · rename_i x xs' h1 h2
        cases e
        exact .cons (dat_ok hK S d w _ x h h1) (dats_ok hK S d ws _ xs' rv h2)
      · cases e
end
/-- == of data -/
def eqD (x y : W) (m : Mem) : R Bool := match dat m 30 x, dat m 30 y with
  | some a, some b => if SeqAt.shaped a = true ∧ SeqAt.shaped b = true then .ok (PyData.eqv a b) m else .bad
  | _, _ => .bad
def scalW : W → W → Bool
  | .non, .non => true | .non, .int _ => true | .int _, .non => true | .non, .bl _ => true | .bl _, .non => true | .non, .str _ => true | .str _, .non => true
  | .int _, .int _ => true | .bl _, .bl _ => true | .str _, .str _ => true
  | .int _, .str _ => true | .str _, .int _ => true | .bl _, .str _ => true | .str _, .bl _ => true
  | _, _ => false
def eqS : W → W → Bool
  | .non, .non => true
  | .int i, .int j => decide (i = j)
  | .bl i, .bl j => i == j
  | .str a, .str b => decide (a = b)
  | _, _ => false
theorem scal_V {x y : W} {v z : V} (rx : VR g ρ H x v) (ry : VR g ρ H y z) (h : scalW x y = true) : L2.scal v z = true ∧ decide (v = z) = eqS x y := by
  cases x <;> cases y <;> simp [scalW] at h <;> cases rx <;> cases ry <;> refine ⟨rfl, ?_⟩ <;> simp [eqS]
  · rename_i a b
    cases a <;> cases b <;> rfl
/-- == of scalars, of data -/
def eqB0 (x y : W) (m : Mem) : R Bool := if scalW x y = true then .ok (eqS x y) m else eqD x y m
def wEq0 (x y : W) (m : Mem) : R W := (eqB0 x y m).bind fun b m1 => .ok (.bl b) m1
def wNe0 (x y : W) (m : Mem) : R W := (eqB0 x y m).bind fun b m1 => .ok (.bl (!b)) m1
theorem eqD_cases {x y : W} {m : Mem} : (∃ a b, dat m 30 x = some a ∧ dat m 30 y = some b ∧ SeqAt.shaped a = true ∧ SeqAt.shaped b = true ∧ eqD x y m = .ok (PyData.eqv a b) m) ∨ eqD x y m = .bad := by
  unfold eqD
  split
  · rename_i a b h1 h2
    split
    · rename_i h; exact .inl ⟨a, b, h1, h2, h.1, h.2, rfl⟩
    · exact .inr rfl
  · exact .inr rfl
theorem f_eq0 {k : Nat} (hK : X.K = g.K) (hr : Rm k X.A) : F2 g X wx (compareOp .Eq) wEq0 := F2.ofR fun m ρ H τ x y v z Q S rx ry o => by
  unfold wEq0 eqB0 at o
  split at o
  · rename_i hs
    obtain ⟨h1, h2⟩ := scal_V rx ry hs
    exact ⟨_, op_eq, h1, by rw [h2]; exact Out.ok0 S o (.bl _)⟩
  rcases eqD_cases (x := x) (y := y) (m := m) with ⟨a, b, h1, h2, h3, h4, h5⟩ | h
  · rw [h5] at o
    exact ⟨_, op_eqD hr.r.units, a, b, dat_ok hK S 30 x v a rx h1, dat_ok hK S 30 y z b ry h2, h3, h4, Out.ok0 S o (.bl _)⟩
  · rw [h] at o; exact o.elim
theorem f_ne0 {k : Nat} (hK : X.K = g.K) (hr : Rm k X.A) : F2 g X wx (compareOp .NotEq) wNe0 := F2.ofR fun m ρ H τ x y v z Q S rx ry o => by
  unfold wNe0 eqB0 at o
  split at o
  · rename_i hs
    obtain ⟨h1, h2⟩ := scal_V rx ry hs
    exact ⟨_, op_ne, h1, by rw [h2]; exact Out.ok0 S o (.bl _)⟩
  rcases eqD_cases (x := x) (y := y) (m := m) with ⟨a, b, h1, h2, h3, h4, h5⟩ | h
  · rw [h5] at o
    exact ⟨_, op_neD hr.r.units, a, b, dat_ok hK S 30 x v a rx h1, dat_ok hK S 30 y z b ry h2, h3, h4, Out.ok0 S o (.bl _)⟩
  · rw [h] at o; exact o.elim
end
end Sh

namespace Sh
open PySem PySem.Spec L2
open PyProof.Rows (envOfC)

section
variable {g : G} {X : Cx} {wx : WX} {τ : L2.St} {ρ ρ' : List Addr} {H H' : Hp} {m m' : Mem} {e a b c o : Expr} {fa fb fc fo : DE} {pos : Pos} {pins : List (Addr × Obj)} {s : Shared}
/-! ### from the layer's rules over values -/
def R1 (g : G) (wx : WX) (r : V → Hp → VK → Prop) (fn : W → Mem → R W) : Prop := ∀ (m : Mem) (ρ : List Addr) (H : Hp) (τ : L2.St) (x : W) (v : V) (Q : VK), Sim g ρ m H → VR g ρ H x v → Out g wx τ ρ H (fn x m) (fun w m' ρ' H' => ∀ v, VR g ρ' H' w v → Q v H') → r v H Q
def Rr2 (g : G) (wx : WX) (r : V → V → Hp → VK → Prop) (fn : W → W → Mem → R W) : Prop := ∀ (m : Mem) (ρ : List Addr) (H : Hp) (τ : L2.St) (x y : W) (v z : V) (Q : VK), Sim g ρ m H → VR g ρ H x v → VR g ρ H y z → Out g wx τ ρ H (fn x y m) (fun w m' ρ' H' => ∀ v, VR g ρ' H' w v → Q v H') → r v z H Q
theorem SE.un1 {r : V → Hp → VK → Prop} {fn : W → Mem → R W} (h : PE X e (fun τ H Q => teOf g wx fa τ H fun v H1 => r v H1 Q)) (hr : R1 g wx r fn) : SE g X wx e (eUn fn fa) :=
  SE.ofPE h fun σ m ρ H τ Q S L o => ⟨σ, m, ρ, S, L, (o.bind S).imp fun x m1 ρ1 H1 P1 S1 o1 v rv => hr m1 ρ1 H1 τ x v Q S1 rv o1⟩
theorem SE.bin2 {r : V → V → Hp → VK → Prop} {fn : W → W → Mem → R W} (h : PE X e (fun τ H Q => teOf g wx fa τ H fun v H1 => teOf g wx fb τ H1 fun z H2 => r v z H2 Q)) (hr : Rr2 g wx r fn) : SE g X wx e (eBin fn fa fb) :=
  SE.ofPE h fun σ m ρ H τ Q S L o => ⟨σ, m, ρ, S, L, (o.bind S).imp fun x m1 ρ1 H1 P1 S1 o1 v rv => ⟨σ, m1, ρ1, S1, L.post S P1, (o1.bind S1).imp fun y m2 ρ2 H2 P2 S2 o2 z rz => hr m2 ρ2 H2 τ x y v z Q S2 (rv.post S1 P2) rz o2⟩⟩
theorem F2.toR {f : Value → Value → Sem Value} {fn : W → W → Mem → R W} {r : R2} (h : OpR X f r) (hr : Rr2 g wx r fn) : F2 g X wx f fn := F2.ofR fun m ρ H τ x y v z Q S rx ry o => ⟨r, h, hr m ρ H τ x y v z Q S rx ry o⟩

/-! ### subscripts -/
def atW (ws : List W) (i : Int) (m : Mem) : R W := match atI ws i with | some w => .ok w m | none => .bad
def wIx (x y : W) (m : Mem) : R W := match x, y with
  | .tup ws, .int i => atW ws i m
  | .frz ws, .int i => atW ws i m
  | .str l, .int i => if l.length ≤ 1000000 then (match atI l i with | some c => .ok (.str [c]) m | none => .bad) else .bad
  | .ref n, .int i => match m[n]? with
    | some (.lst ws) => atW ws i m
    | _ => .bad
  | _, _ => .bad
theorem VRs.at_ {ws : List W} {vs : List V} {i : Int} {w : W} (r : VRs g ρ H ws vs) (h : atI ws i = some w) : ∃ v, atI vs i = some v ∧ VR g ρ H w v := by
  unfold atI at h ⊢
  rw [← r.length]
  cases q : ixN ws.length i with
  | none => rw [q] at h; cases h
  | some j => rw [q] at h; exact r.get h
theorem atW_out {ws : List W} {vs : List V} {i : Int} {Q : VK} (S : Sim g ρ m H) (r : VRs g ρ H ws vs) (o : Out g wx τ ρ H (atW ws i m) (fun w m' ρ' H' => ∀ v, VR g ρ' H' w v → Q v H')) : ∃ v, atI vs i = some v ∧ Q v H := by
  unfold atW at o
  split at o
  · rename_i w h
    obtain ⟨v, h1, h2⟩ := r.at_ h
    exact ⟨v, h1, Out.ok0 S o h2⟩
  · exact o.elim
theorem ix_ok (hK : X.K = g.K) : Rr2 g wx (rIx X.K) wIx := by
  intro m ρ H τ x y v z Q S rx ry o
  rw [hK]
  unfold wIx at o
  split at o
  · rename_i ws i
    cases ry
    cases rx with
    | tup h r => obtain ⟨v, h1, h2⟩ := atW_out S r o; exact .inr (.inl ⟨_, _, i, v, rfl, rfl, h, h1, h2⟩)
  · rename_i ws i
    cases ry
    cases rx with
    | frz h r => obtain ⟨v, h1, h2⟩ := atW_out S r o; exact .inl ⟨_, _, i, v, rfl, rfl, h.toL, h1, h2⟩
  · rename_i l i
    cases ry; cases rx
    split at o
    · rename_i hl
      split at o
      · rename_i c h
        refine .inr (.inr ⟨_, i, c, rfl, rfl, by rw [S_len]; exact sizeM hl, ?_, ?_⟩)
        · rw [S_cps]; exact h
        · exact Out.ok0 S o (.str [c])
      · exact o.elim
    · exact o.elim
  · rename_i n i
    cases ry
    cases rx with
    | @ref _ p hp =>
      split at o
      · rename_i ws hm
        obtain ⟨vs, h1, r1⟩ := obj_lst S hp hm
        obtain ⟨v, h2, h3⟩ := atW_out S r1 o
        exact .inl ⟨_, _, i, v, rfl, rfl, SqL.of h1, h2, h3⟩
      · exact o.elim
  · exact o.elim
theorem se_ix (hK : X.K = g.K) (ha : SE g X wx a fa) (hb : SE g X wx b fb) (hs : PlainIx b := by intro _ _; rfl) : SE g X wx (.Subscript a b pos) (eBin wIx fa fb) := SE.bin2 (pe_ix ix_seq ha.pe hb.pe hs) (ix_ok hK)
/-- of a fresh list -/
def eIxL (fl : DL) (fb : DE) : DE := fun σ m => (fl σ m).bind fun ws m1 => (fb σ m1).bind fun y m2 => match y with | .int i => atW ws i m2 | _ => .bad
theorem se_ixL {fl : DL} (hK : X.K = g.K) (ha : SL g X wx a fl) (hb : SE g X wx b fb) (hs : PlainIx b := by intro _ _; rfl) : SE g X wx (.Subscript a b pos) (eIxL fl fb) :=
  SE.ofPE (pe_ix ix_list ha.pe hb.pe hs) fun σ m ρ H τ Q S L o => ⟨σ, m, ρ, S, L, (o.bind S).imp fun ws m1 ρ1 H1 P1 S1 o1 p vs h0 hp hn rv => ⟨σ, m1, ρ1, S1, L.post S P1, (o1.bind S1).imp fun y m2 ρ2 H2 P2 S2 o2 z rz => by
    split at o2
    · rename_i i
      cases rz
      obtain ⟨h1, _⟩ := fresh_stay S1 hp hn P2
      obtain ⟨v, h2, h3⟩ := atW_out S2 (rv.post S1 P2) o2
      exact ⟨p, vs, i, v, rfl, rfl, SqL.of h1, h2, h3⟩
    · exact o2.elim⟩⟩

/-! ### slices -/
abbrev DO := Loc → Mem → R (Option Int)
def toOf (g : G) (wx : WX) (f : DO) : TO := fun τ H Q => ∃ (σ : Loc) (m : Mem) (ρ : List Addr), Sim g ρ m H ∧ LR g ρ H σ τ ∧ Out g wx τ ρ H (f σ m) fun b m' ρ' H' => Q b H'
def SO (g : G) (X : Cx) (wx : WX) (e : Option Expr) (f : DO) : Prop := PO X e (toOf g wx f)
def pNo : DO := fun _ m => .ok none m
def pAt (f : DE) : DO := fun σ m => (f σ m).bind fun w m1 => match w with | .int i => .ok (some i) m1 | _ => .bad
theorem so_none : SO g X wx none pNo := ⟨fun pins s τ H Q I ⟨σ, m, ρ, S, L, o⟩ => po_none.run pins s τ H Q I (Out.here o S)⟩
theorem so_some (he : SE g X wx e fa) : SO g X wx (some e) (pAt fa) := ⟨fun pins s τ H Q I ⟨σ, m, ρ, S, L, o⟩ => (po_some he.pe).run pins s τ H Q I ⟨σ, m, ρ, S, L, (o.bind S).imp fun x m1 ρ1 H1 P1 S1 o1 v r => by
  cases r with
  | int i => exact ⟨_, rfl, Out.here o1 S1⟩
  | _ => exact o1.elim⟩⟩
def cutW {α : Type} (xs : List α) (lo hi : Option Int) : List α := (xs.drop (HT.sIx xs.length 0 lo)).take (HT.sIx xs.length xs.length hi - HT.sIx xs.length 0 lo)
theorem VRs.cut {ws : List W} {vs : List V} (r : VRs g ρ H ws vs) (lo hi : Option Int) : VRs g ρ H (cutW ws lo hi) (cutV vs lo hi) := by
  unfold cutW cutV
  rw [← r.length]
  exact (r.drop _).take _
def wSl (x : W) (lo hi : Option Int) (m : Mem) : R W := match x with
  | .tup ws => .ok (.tup (cutW ws lo hi)) m
  | .str l => if l.length ≤ 1000000 then .ok (.str (cutW l lo hi)) m else .bad
  | .ref n => match m[n]? with
    | some (.lst ws) => .ok (.ref m.length) (m ++ [.lst (cutW ws lo hi)])
    | _ => .bad
  | _ => .bad
def eSl (f : DE) (fl fh : DO) : DE := fun σ m => (f σ m).bind fun x m1 => (fl σ m1).bind fun l m2 => (fh σ m2).bind fun h m3 => wSl x l h m3
theorem cutW_all {α : Type} {ws : List α} {lo hi : Option Int} (h : HT.sIx ws.length 0 lo = 0 ∧ HT.sIx ws.length ws.length hi = ws.length) : cutW ws lo hi = ws := by
  unfold cutW
  rw [h.1, h.2]
  simp
theorem se_sl {lo hi : Option Expr} {fl fh : DO} {p2 : Pos} (hK : X.K = g.K) (ha : SE g X wx a fa) (hl : SO g X wx lo fl) (hh : SO g X wx hi fh) : SE g X wx (.Subscript a (.Slice lo hi none p2) pos) (eSl fa fl fh) :=
  SE.ofPE (pe_slice (sl_list.or (sl_tupA.or sl_str)) ha.pe hl hh) fun σ m ρ H τ Q S L o => ⟨σ, m, ρ, S, L, (o.bind S).imp fun x m1 ρ1 H1 P1 S1 o1 v rv => ⟨σ, m1, ρ1, S1, L.post S P1, (o1.bind S1).imp fun l m2 ρ2 H2 P2 S2 o2 => ⟨σ, m2, ρ2, S2, (L.post S P1).post S1 P2, (o2.bind S2).imp fun h m3 ρ3 H3 P3 S3 o3 => by
    have rv3 := (rv.post S1 P2).post S2 P3
    unfold wSl at o3
    split at o3
    · rename_i ws
      cases rv3 with
      | tup hs r =>
        refine .inr (.inl ⟨_, _, rfl, by rw [hK]; exact hs, fun hw => ?_, fun hw p hp => ?_⟩)
        · rw [← r.length] at hw
          rw [cutW_all hw] at o3
          exact Out.ok0 S3 o3 (.tup hs r)
        · obtain ⟨P4, S4⟩ := S3.junk (u := .tup (cutV _ l h)) hp
          exact o3 _ _ P4 S4 _ (.tup (SqT.of upd_same) ((r.cut l h).post S3 P4))
    · rename_i z
      cases rv3
      split at o3
      · rename_i hz
        refine .inr (.inr ⟨_, rfl, by rw [S_len]; exact sizeM hz, ?_⟩)
        have : cutS (Sh.S z) l h = Sh.S (cutW z l h) := by
          unfold cutS cutW
          rw [S_cps, S_len]
        rw [this]
        exact Out.ok0 S3 o3 (.str _)
      · exact o3.elim
    · rename_i n
      cases rv3 with
      | @ref _ p hp =>
        split at o3
        · rename_i ws hm
          obtain ⟨vs, h1, r1⟩ := obj_lst S3 hp hm
          refine .inl ⟨_, _, rfl, SqL.of h1, fun d hd => ?_⟩
          obtain ⟨P4, S4⟩ := S3.push (o := .lst (cutW ws l h)) (u := .lst (cutV vs l h)) hd ⟨_, rfl, r1.cut l h⟩
          exact o3 _ _ P4 S4 _ (.ref (by rw [← S3.len]; simp))
        · exact o3.elim
    · exact o3.elim⟩⟩⟩

/-! ### in, not in -/
def flatW : W → Bool
  | .non => true | .bl _ => true | .int _ => true | .str _ => true | _ => false
def eqW : W → W → Bool
  | .non, .non => true
  | .bl a, .bl b => a == b
  | .bl a, .int b => (if a then 1 else 0) == b
  | .int a, .bl b => a == (if b then 1 else 0)
  | .int a, .int b => a == b
  | .str a, .str b => a == b
  | _, _ => false
theorem eqW_V {x y : W} {v z : V} (rx : VR g ρ H x v) (ry : VR g ρ H y z) (fx : flatW x = true) (fy : flatW y = true) : eqV v z = eqW x y := by
  cases x <;> simp [flatW] at fx <;> cases rx <;> cases y <;> simp [flatW] at fy <;> cases ry <;> try rfl
  exact SX.S_beq _ _
theorem flat_V {x : W} {v : V} (rx : VR g ρ H x v) (fx : flatW x = true) : flatV v = true := by
  cases x <;> simp [flatW] at fx <;> cases rx <;> rfl
theorem flats_V : ∀ {ws : List W} {vs : List V}, VRs g ρ H ws vs → ws.all flatW = true → vs.all flatV = true
  | _, _, .nil, _ => rfl
  | _, _, .cons h r, e => by
    simp only [List.all_cons, Bool.and_eq_true] at e ⊢
    exact ⟨flat_V h e.1, flats_V r e.2⟩
def inW (x : W) (ws : List W) : Bool := ws.any fun y => eqW y x
theorem inW_V {x : W} {v : V} (rx : VR g ρ H x v) (fx : flatW x = true) : ∀ {ws : List W} {vs : List V}, VRs g ρ H ws vs → ws.all flatW = true → inV v vs = inW x ws
  | _, _, .nil, _ => rfl
  | _, _, .cons h r, e => by
    simp only [List.all_cons, Bool.and_eq_true] at e
    have ih := inW_V rx fx r e.2
    unfold inV inW at ih ⊢
    simp only [List.any_cons]
    rw [ih, eqW_V h rx e.1 fx]
def inD (x : W) (ws : List W) (m : Mem) : R Bool := if flatW x = true ∧ ws.all flatW = true then .ok (inW x ws) m else .bad
def inB (x y : W) (m : Mem) : R Bool := match y with
  | .tup ws => inD x ws m
  | .str l => match x with
    | .str [c] => .ok (decide (c ∈ l)) m
    | _ => .bad
  | .ref n => match m[n]? with
    | some (.lst ws) => inD x ws m
    | _ => .bad
  | _ => .bad
def wIn (x y : W) (m : Mem) : R W := (inB x y m).bind fun b m1 => .ok (.bl b) m1
def wNotIn (x y : W) (m : Mem) : R W := (inB x y m).bind fun b m1 => .ok (.bl (!b)) m1
theorem inD_cases {x : W} {ws : List W} {m : Mem} : (flatW x = true ∧ ws.all flatW = true ∧ inD x ws m = .ok (inW x ws) m) ∨ inD x ws m = .bad := by
  unfold inD
  split
  · rename_i h; exact .inl ⟨h.1, h.2, rfl⟩
  · exact .inr rfl
theorem in_ok (neg : Bool) (hK : X.K = g.K) {op : CmpOp} (h1 : OpR X (compareOp op) (rIn X.K neg)) (h2 : OpR X (compareOp op) (fun x y H Q => ∃ (c : Nat) (z : Str), x = .str ⟨#[c]⟩ ∧ y = .str z ∧ Q (.bl (if neg then !decide (c ∈ z.cps.toList) else decide (c ∈ z.cps.toList))) H)) :
    F2 g X wx (compareOp op) (fun x y m => (inB x y m).bind fun b m1 => .ok (.bl (if neg then !b else b)) m1) := F2.ofR fun m ρ H τ x y v z Q S rx ry o => by
  unfold inB at o
  split at o
  · rename_i ws
    rcases inD_cases (x := x) (ws := ws) (m := m) with ⟨e1, e2, e3⟩ | e
    · rw [e3] at o
      cases ry with
      | tup hs r => exact ⟨_, h1, _, _, rfl, .inr (by rw [hK]; exact hs), flat_V rx e1, flats_V r e2, by rw [inW_V rx e1 r e2]; exact Out.ok0 S o (.bl _)⟩
    · rw [e] at o; exact o.elim
  · rename_i l
    split at o
    · rename_i c
      cases ry; cases rx
      refine ⟨_, h2, c, _, rfl, rfl, ?_⟩
      rw [S_cps]
      exact Out.ok0 S o (.bl _)
    · exact o.elim
  · rename_i n
    cases ry with
    | @ref _ p hp =>
      split at o
      · rename_i ws hm
        rcases inD_cases (x := x) (ws := ws) (m := m) with ⟨e1, e2, e3⟩ | e
        · rw [e3] at o
          obtain ⟨vs, hv, r⟩ := obj_lst S hp hm
          exact ⟨_, h1, _, _, rfl, .inl (SqL.of hv), flat_V rx e1, flats_V r e2, by rw [inW_V rx e1 r e2]; exact Out.ok0 S o (.bl _)⟩
        · rw [e] at o; exact o.elim
      · exact o.elim
  · exact o.elim
theorem f_in (hK : X.K = g.K) : F2 g X wx (compareOp .In) wIn := in_ok (g := g) (wx := wx) false hK op_in_seq op_in_sign
theorem f_notIn (hK : X.K = g.K) : F2 g X wx (compareOp .NotIn) wNotIn := in_ok (g := g) (wx := wx) true hK op_notIn_seq op_notIn_sign
/-- in a fresh list -/
def eInL (neg : Bool) (fa : DE) (fl : DL) : DE := fun σ m => (fa σ m).bind fun x m1 => (fl σ m1).bind fun ws m2 => (inD x ws m2).bind fun b m3 => .ok (.bl (if neg then !b else b)) m3
theorem inL_ok {neg : Bool} {op : CmpOp} {fl : DL} (hK : X.K = g.K) (h1 : OpR X (compareOp op) (rIn X.K neg)) (ha : SE g X wx a fa) (hb : SL g X wx b fl) (hm : behindInMarks op b = false) : SE g X wx (.Compare a [op] [b] pos) (eInL neg fa fl) :=
  SE.ofPE (pe_cmpR h1 ha.pe hb.pe hm) fun σ m ρ H τ Q S L o => ⟨σ, m, ρ, S, L, (o.bind S).imp fun x m1 ρ1 H1 P1 S1 o1 v rv => ⟨σ, m1, ρ1, S1, L.post S P1, (o1.bind S1).imp fun ws m2 ρ2 H2 P2 S2 o2 p vs h0 hp hn r => by
    rcases inD_cases (x := x) (ws := ws) (m := m2) with ⟨e1, e2, e3⟩ | e
    · rw [e3] at o2
      have rv2 := rv.post S1 P2
      exact ⟨p, vs, rfl, .inl (SqL.of hp), flat_V rv2 e1, flats_V r e2, by rw [inW_V rv2 e1 r e2]; exact Out.ok0 S2 o2 (.bl _)⟩
    · rw [e] at o2; exact o2.elim⟩⟩
theorem se_inL {fl : DL} (hK : X.K = g.K) (ha : SE g X wx a fa) (hb : SL g X wx b fl) (hm : behindInMarks .In b = false := by first | exact nobehind _ (by decide) (by decide) | rfl) : SE g X wx (.Compare a [.In] [b] pos) (eInL false fa fl) := inL_ok hK op_in_seq ha hb hm
theorem se_notInL {fl : DL} (hK : X.K = g.K) (ha : SE g X wx a fa) (hb : SL g X wx b fl) (hm : behindInMarks .NotIn b = false := by first | exact nobehind _ (by decide) (by decide) | rfl) : SE g X wx (.Compare a [.NotIn] [b] pos) (eInL true fa fl) := inL_ok hK op_notIn_seq ha hb hm

/-! ### a < b < c -/
def eChain (f1 f2 : W → W → Mem → R W) (fa fb fc : DE) : DE := fun σ m => (fa σ m).bind fun x m1 => (fb σ m1).bind fun y m2 => (f1 x y m2).bind fun t m3 => match t with
  | .bl true => (fc σ m3).bind fun z m4 => f2 y z m4
  | .bl false => .ok (.bl false) m3
  | _ => .bad
theorem se_chain {op op' : CmpOp} {f1 f2 : W → W → Mem → R W} (h1 : F2 g X wx (compareOp op) f1) (h2 : F2 g X wx (compareOp op') f2) (ha : SE g X wx a fa) (hb : SE g X wx b fb) (hc : SE g X wx c fc)
    (hm : lastMarks [op, op'] [b, c] = false := by with_unfolding_all rfl) : SE g X wx (.Compare a [op, op'] [b, c] pos) (eChain f1 f2 fa fb fc) := by
  refine ⟨fun pins s σ m ρ H τ Q I S L o => ?_⟩
  refine PyProof.Rows.Compare_chain (ha.run pins s σ m ρ H τ _ I S L ((o.bind S).imp fun x m1 ρ1 H1 P1 S1 o1 v u s1 I1 rv ru => PyProof.Rows.chain_link (hb.run pins s1 σ m1 ρ1 H1 τ _ I1 S1 (L.post S P1) ((o1.bind S1).imp fun y m2 ρ2 H2 P2 S2 o2 z t s2 I2 rz rt => ?_)))) hm
  refine h1.run pins s2 m2 ρ2 H2 τ x y v z u t _ I2 S2 (rv.post S1 P2) ru rz rt ((o2.bind S2).imp fun w m3 ρ3 H3 P3 S3 o3 v3 u3 s3 I3 r3 ru3 => ?_)
  cases w with
  | bl k =>
    cases r3; cases ru3
    refine wpAny_truthy_bool ?_
    cases k with
    | false => exact PyProof.Rows.ite_ff (Out.here o3 S3 _ _ s3 I3 (.bl false) rfl)
    | true =>
      refine PyProof.Rows.ite_tt (PyProof.Rows.chain_last (hc.run pins s3 σ m3 ρ3 H3 τ _ I3 S3 (((L.post S P1).post S1 P2).post S2 P3) ((o3.bind S3).imp fun w4 m4 ρ4 H4 P4 S4 o4 v4 u4 s4 I4 r4 ru4 => ?_)))
      exact h2.run pins s4 m4 ρ4 H4 τ y w4 z v4 t u4 Q I4 S4 ((rz.post S2 P3).post S3 P4) rt r4 ru4 o4
  | _ => exact o3.elim
def tChain (f1 f2 : W → W → Mem → R W) (fa fb fc : DE) : DB := fun σ m => (fa σ m).bind fun x m1 => (fb σ m1).bind fun y m2 => (f1 x y m2).bind fun t m3 => match t with
  | .bl true => (fc σ m3).bind fun z m4 => (f2 y z m4).bind fun w m5 => match w with | .bl k => .ok k m5 | _ => .bad
  | .bl false => .ok false m3
  | _ => .bad
theorem st_chain {op op' : CmpOp} {f1 f2 : W → W → Mem → R W} (h1 : F2 g X wx (compareOp op) f1) (h2 : F2 g X wx (compareOp op') f2) (ha : SE g X wx a fa) (hb : SE g X wx b fb) (hc : SE g X wx c fc)
    (hm : lastMarks [op, op'] [b, c] = false := by with_unfolding_all rfl) : ST g X wx (.Compare a [op, op'] [b, c] pos) (tChain f1 f2 fa fb fc) := by
  refine ⟨fun whole pins s σ m ρ H τ Q hw I S L o => ?_⟩
  refine PyProof.Rows.isTrue_chain (ha.run pins s σ m ρ H τ _ I S L ((o.bind S).imp fun x m1 ρ1 H1 P1 S1 o1 v u s1 I1 rv ru => PyProof.Rows.test_link (hb.run pins s1 σ m1 ρ1 H1 τ _ I1 S1 (L.post S P1) ((o1.bind S1).imp fun y m2 ρ2 H2 P2 S2 o2 z t s2 I2 rz rt => ?_)))) hm
  refine h1.run pins s2 m2 ρ2 H2 τ x y v z u t _ I2 S2 (rv.post S1 P2) ru rz rt ((o2.bind S2).imp fun w m3 ρ3 H3 P3 S3 o3 v3 u3 s3 I3 r3 ru3 => ?_)
  cases w with
  | bl k =>
    cases r3; cases ru3
    refine wpAny_truthy_bool ?_
    cases k with
    | false => exact PyProof.Rows.ite_ff (Out.here o3 S3 s3 I3)
    | true =>
      refine PyProof.Rows.ite_tt (PyProof.Rows.test_last (hc.run pins s3 σ m3 ρ3 H3 τ _ I3 S3 (((L.post S P1).post S1 P2).post S2 P3) ((o3.bind S3).imp fun w4 m4 ρ4 H4 P4 S4 o4 v4 u4 s4 I4 r4 ru4 => ?_)))
      refine h2.run pins s4 m4 ρ4 H4 τ y w4 z v4 t u4 _ I4 S4 ((rz.post S2 P3).post S3 P4) rt r4 ru4 ((o4.bind S4).imp fun w5 m5 ρ5 H5 P5 S5 o5 v5 u5 s5 I5 r5 ru5 => ?_)
      cases w5 with
      | bl k2 => cases r5; cases ru5; exact wpAny_truthy_bool (Out.here o5 S5 s5 I5)
      | _ => exact o5.elim
  | _ => exact o3.elim
end
end Sh

namespace Sh
open PySem PySem.Spec L2
open PyProof.Rows (envOfC)

/-! ### a, b, *c = a list -/
section
variable {prog : Program} {w : World} {A : Around} {E : Value → Shared → Prop} {s : Shared}
theorem walk_from (hh : A.handled = none) (I ax : Addr) (hne : ax ≠ I) (items : Array Value) (d : Nat) (hd : d ≤ items.size) :
    Walks prog w A I [I, ax] [I] (items.size - d) (fun i v => items[d + i]? = some v) (fun i h => h.IsListIter I ax (d + i) ∧ h.IsList ax items) where
  sub := (Walks.list (prog := prog) (w := w) hh I ax hne items).sub
  frame := fun i h h' st hk => (Walks.list (prog := prog) (w := w) hh I ax hne items).frame (d + i) h h' st hk
  item := fun i s Q E hi st hQ => (Walks.list (prog := prog) (w := w) hh I ax hne items).item (d + i) s Q E (by omega) st fun v h' tk p st' k => hQ v h' tk p st' k
  done := fun s Q E st hQ => (Walks.list (prog := prog) (w := w) hh I ax hne items).done s Q E (by
    have : d + (items.size - d) = items.size := by omega
    rw [this] at st; exact st) hQ
  self := fun i s Q E st hQ => (Walks.list (prog := prog) (w := w) hh I ax hne items).self (d + i) s Q E st hQ
theorem unpack_star {l : Addr} {items : Array Value} {i : Nat} {Q : List Value → Shared → Prop} (hh : A.handled = none) (hl : s.heap.IsList l items) (hi : i ≤ items.size) (hz : items.size ≤ sizeLine)
    (hQ : ∀ (h' : Heap) (tk : Nat), (∀ b o, s.heap.get? b = some o → h'.get? b = some o) → Q (items.toList.take i ++ [.ref h'.objs.size]) { s with heap := h'.push { cls := .type "list", data := .seq (items.toList.drop i).toArray }, toks := tk }) :
    wpAny (model prog w) A (unpackItems (.ref l) (i + 1) (some i)) Q E s := by
  have hlt : l ≠ s.heap.objs.size := by obtain ⟨o, ho, _⟩ := hl; exact Nat.ne_of_lt (Heap.lt_size ho)
  unfold unpackItems
  refine wpAny_bind ?_
  unfold notIterableAtAll
  refine wpAny_bind (wpAny_specialOf hl.typeIs PySem.F.slot_list_iter.lookup ?_)
  refine wpAny_pure ?_
  simp only [Bool.false_eq_true, if_false]
  refine wpAny_bind (wpAny_holding (wpAny_pyIter_list hl ?_))
  refine wpAny_bind (wpAny_holding (PySem.W.kun_draw hlt i 0 _ _ ⟨_, Heap.get?_push_size _ rfl, rfl, rfl⟩ (hl.push _) (by omega) fun h₁ hit₁ hs₁ => ?_))
  have hl₁ : h₁.IsList l items := (hl.push _).extBut hs₁.extBut hlt
  have hlen : ¬ (List.take i (List.drop 0 items.toList)).length < i := by simp; omega
  rw [if_neg hlen]
  refine wpAny_bind (wpAny_holding ?_)
  refine wpAny_collect_iter (T := "list_iterator") (.inr (.inr (.inl rfl))) (walk_from (A := A.in1) hh s.heap.objs.size l hlt items i hi).toS (fun i' s' st => ?_) ⟨by simpa using hit₁, hl₁⟩ (fun b hb => ?_) (by simp) (fun s' acc mv it => ?_) (by omega)
  · obtain ⟨o, ho, hc, _⟩ := st.1
    exact ⟨o, ho, hc⟩
  · simp at hb
    rcases hb with rfl | rfl
    · obtain ⟨o, ho, _⟩ := hit₁; exact Heap.lt_size ho
    · obtain ⟨o, ho, _⟩ := hl₁; exact Heap.lt_size ho
  · have he : acc.toList = items.toList.drop i := by
      apply List.ext_getElem?
      intro j
      rw [List.getElem?_drop]
      by_cases hj : j < acc.size
      · have h1 : acc.toList[j]? = some acc[j] := by simp [hj]
        have h2 := it.2 j acc[j] (by simp [hj])
        rw [h1, Array.getElem?_toList]
        exact h2.symm
      · have h1 : acc.toList[j]? = none := by simp; omega
        have h2 : items.toList[i + j]? = none := by
          have := it.1
          simp; omega
        rw [h1, h2]
    obtain ⟨hp, gs, dr, tt, os⟩ := s'
    obtain ⟨k1, k2, k3, k4, k5⟩ := mv
    simp only at k1 k2 k3 k4 k5
    subst k2 k3 k4
    have h0 : i + 1 - 1 - i = 0 := by omega
    simp only [h0]
    rw [if_neg (by omega)]
    simp only [Nat.sub_zero, List.take_length, List.drop_length, List.append_nil]
    rw [he]
    refine wpAny_bind (wpAny_newList (wpAny_pure ?_) (by simp; omega))
    have e0 : List.take i (List.drop 0 items.toList) = items.toList.take i := rfl
    rw [e0]
    exact hQ hp tt fun b o e => k1 b o (by simp; exact Nat.ne_of_lt (Heap.lt_size e)) (hs₁.extBut b o (Nat.ne_of_lt (Heap.lt_size e)) (Heap.get?_push_of_some _ e))
end
section
variable {g : G} {X : Cx} {wx : WX} {τ : L2.St} {ρ ρ' : List Addr} {H H' : Hp} {m m' : Mem} {e a b c o : Expr} {fa fb fc fo fe : DE} {pos : Pos} {pins : List (Addr × Obj)} {s : Shared}
theorem VRs.drp {ws : List W} {vs : List V} (r : VRs g ρ H ws vs) (n : Nat) : VRs g ρ H (ws.drop n) (vs.drop n) := r.drop n
theorem Vals.tk : ∀ {vs : List V} {us : List Value} (n : Nat), Vals vs us → Vals (vs.take n) (us.take n)
  | _, _, 0, _ => .nil
  | _, _, _ + 1, .nil => .nil
  | _, _, n + 1, .cons h t => .cons h (Vals.tk n t)
theorem Vals.dr : ∀ {vs : List V} {us : List Value} (n : Nat), Vals vs us → Vals (vs.drop n) (us.drop n)
  | _, _, 0, r => r
  | _, _, _ + 1, .nil => .nil
  | _, _, n + 1, .cons _ t => Vals.dr n t
/-- several targets = a tuple or a list; the last may be starred -/
def gSeq (hs : List (W → Loc → Mem → R Loc)) : W → Loc → Mem → R Loc := fun w σ m => match w with
  | .tup ws => if ws.length = hs.length then gTups hs ws σ m else .bad
  | .ref n => match m[n]? with
    | some (.lst ws) => if ws.length = hs.length then gTups hs ws σ m else .bad
    | _ => .bad
  | _ => .bad
theorem sg_seq {es : List Expr} {k : Nat} {hs : List (W → Loc → Mem → R Loc)} {js : List Nat} (hK : X.K = g.K) (hc : X.calm = true) (h : SGs g X wx es hs js) (hl : hs.length = es.length := by rfl) (hn : (assignEach es X.env).length = es.length := by rfl)
    (hst : (assignEach es X.env).findIdx? (·.1) = none := by rfl) : SG g X wx (.Tuple es k pos) (gSeq hs) js := by
  refine ⟨fun pins s τ H v u Q I ru ⟨w, σ, m, ρ, S, L, r, o⟩ => ?_⟩
  unfold gSeq at o
  split at o
  · rename_i ws
    split at o
    · rename_i he
      cases r with
      | tup hs' rv => exact (pg_tup (n := es.length) hc h hn hst).run pins s τ H _ u Q I ru ⟨_, _, rfl, by rw [hK]; exact hs', by rw [← rv.length, he, hl], ws, σ, m, ρ, S, L, rv, o⟩
    · exact o.elim
  · rename_i n
    cases r with
    | @ref _ p hp =>
      split at o
      · rename_i ws hm
        split at o
        · rename_i he
          obtain ⟨vs, h1, rv⟩ := obj_lst S hp hm
          exact (pg_unl (n := es.length) hc h hn hst).run pins s τ H _ u Q I ru ⟨_, _, rfl, SqL.of h1, by rw [← rv.length, he, hl], ws, σ, m, ρ, S, L, rv, o⟩
        · exact o.elim
      · exact o.elim
  · exact o.elim
/-- a, .., *z = a list -/
def gStar (hs : List (W → Loc → Mem → R Loc)) (i : Nat) : W → Loc → Mem → R Loc := fun w σ m => match w with
  | .ref n => match m[n]? with
    | some (.lst ws) => if i ≤ ws.length then gTups hs (ws.take i ++ [.ref m.length]) σ (m ++ [.lst (ws.drop i)]) else .bad
    | _ => .bad
  | _ => .bad
theorem sgs_star {t : Expr} {p : Pos} {h : W → Loc → Mem → R Loc} {js : List Nat} (h1 : SG g X wx t h js) (hq : Quiet h := by exact quiet_set) (ha : (assignEach [.Starred t p] X.env).map (·.2) = [assign t X.env] := by rfl) : SGs g X wx [.Starred t p] [h] js :=
  ⟨fun pins s τ H vs us Q I r ⟨ws, σ, m, ρ, S, L, rv, o⟩ => by
    rw [ha]
    cases rv with
    | nil => exact o.elim
    | @cons w v ws vs rw_ rr =>
      cases rr with
      | cons _ _ =>
        exfalso
        unfold gTups at o
        cases q : h w σ m with
        | ok σ1 m1 => rw [q] at o; exact o
        | exc c1 fs1 m1 => exact hq w σ m c1 fs1 m1 q
        | bad => rw [q] at o; exact o
      | nil =>
        cases r with
        | cons r rr =>
          cases rr
          refine PyProof.Rows.assignInOrder_cons (thn (h1.run pins s τ H _ _ (fun τ' H' => Q τ' H') I r ⟨w, σ, m, ρ, S, L, rw_, ?_⟩) fun _ s1 ⟨σ1, H1, I1, q1⟩ => PyProof.Rows.assignInOrder_nil ⟨σ1, H1, I1, q1⟩)
          exact ((show Out g wx τ ρ H ((h w σ m).bind fun σ1 m1 => gTups [] [] σ1 m1) _ from o).bind S).imp fun σ1 m1 ρ1 H1 P1 S1 o1 τ1 L1 A1 => (Out.here o1 S1) τ1 L1 A1⟩
theorem sg_star {es : List Expr} {k i : Nat} {hs : List (W → Loc → Mem → R Loc)} {js : List Nat} (hK : X.K = g.K) (hc : X.calm = true) (h : SGs g X wx es hs js) (hn : (assignEach es X.env).length = i + 1 := by rfl)
    (hst : (assignEach es X.env).findIdx? (·.1) = some i := by rfl) : SG g X wx (.Tuple es k pos) (gStar hs i) js := by
  refine ⟨fun pins s τ H v u Q I ru ⟨w, σ, m, ρ, S, L, r, o⟩ => ?_⟩
  unfold gStar at o
  split at o
  · rename_i n
    cases r with
    | @ref _ p hp =>
      cases ru
      split at o
      · rename_i ws hm
        split at o
        · rename_i he
          obtain ⟨vs, h1, rv⟩ := obj_lst S hp hm
          obtain ⟨its, rvs, pl, hz⟩ := I.list (SqL.of h1)
          have hl' : s.heap.IsList p its.toArray := by
            obtain ⟨o, m, e, c, d, q⟩ := pl
            exact ⟨o, e, c, m, q⟩
          have hlen := rvs.length
          have hlw := rv.length
          rw [PyProof.Rows.assign_Tuple]
          refine wpAny_bind (wpAny_standAt ?_)
          unfold unpack
          rw [hn, hst]
          refine wpAny_bind (wpAny_holding (unpack_star (I.ok.hd hc) hl' (by rw [List.size_toArray]; omega) (by rw [List.size_toArray]; omega) fun h' tk hk => ?_))
          have I1 : Inv X pins τ H { s with heap := h', toks := tk } := I.kept hk
          have I2 : Inv X pins τ (upd H h'.objs.size (.lst (vs.drop i))) { s with heap := h'.push { cls := .type "list", data := .seq (its.drop i).toArray }, toks := tk } :=
            I1.laid (t' := tk) (fun b u e => Heap.get?_push_of_some _ e) (Nat.le_refl _) ⟨by simp; omega, its.drop i, 0, (Vals.dr i rvs), Heap.get?_push_size _ rfl⟩
          have hf : H h'.objs.size = none := I1.hok.fresh (Nat.le_refl _)
          obtain ⟨P2, S2⟩ := S.push (o := .lst (ws.drop i)) (u := .lst (vs.drop i)) hf ⟨_, rfl, rv.drop i⟩
          refine h.run pins _ τ _ (vs.take i ++ [.ref h'.objs.size]) _ Q I2 ((Vals.tk i rvs).append (.cons (show RelV (.ref h'.objs.size) (.ref h'.objs.size) from rfl) .nil)) ⟨ws.take i ++ [.ref m.length], σ, m ++ [.lst (ws.drop i)], ρ ++ [h'.objs.size], S2, L.post S P2, ((rv.take i).post S P2).append (.cons (.ref (by rw [← S.len]; simp)) .nil), o.from P2 S S2⟩
        · exact o.elim
      · exact o.elim
  · exact o.elim
/-- target = e -/
def sAsg (f : DE) (h : W → Loc → Mem → R Loc) : DS := fun σ m => RS.of σ (f σ m) fun w m1 => RS.of σ (h w σ m1) fun σ' m2 => .nx σ' m2
theorem ss_asg {tg : Expr} {h : W → Loc → Mem → R Loc} {js : List Nat} (he : SE g X wx e fe) (hg : SG g X wx tg h js) (hs : swapsWithSole [tg] e pos.line X.env = pure false := by rfl) (hw : swappedStores [tg] e X.env = pure none := by rfl)
    (h1 : (assignEach [tg] X.env).map (·.2) = [assign tg X.env] := by rfl) : SS g X wx (.Assign [tg] e pos) (sAsg fe h) :=
  PS.conv (ps_asg he.pe hg hs hw h1) fun D τ H ⟨σ, m, ρ, S, L, oo⟩ => ⟨σ, m, ρ, S, L, (oo.of S L).imp fun w m1 ρ1 H1 P1 S1 o1 v r => ⟨w, σ, m1, ρ1, S1, L.post S P1, r, (o1.of S1 (L.post S P1)).imp fun σ2 m2 ρ2 H2 P2 S2 o2 τ' L' A' => o2 ρ2 H2 τ' Post.refl S2 L'⟩⟩

/-! ### stores into a list, append -/
/-- o[i] = e -/
def putAt (m : Mem) (x y w : W) : Option Mem := match x, y with
  | .ref n, .int i => match m[n]? with
    | some (.lst ws) => match ixN ws.length i with
      | some j => some (m.set n (.lst (ws.set j w)))
      | none => none
    | _ => none
  | _, _ => none
def sPut (fo fi fe : DE) : DS := fun σ m => RS.of σ (fe σ m) fun w m1 => RS.of σ (fo σ m1) fun x m2 => RS.of σ (fi σ m2) fun y m3 => match putAt m3 x y w with
  | some m4 => .nx σ m4
  | none => .bad
theorem ss_put {i : Expr} {fi : DE} {pos' : Pos} (ho : SE g X wx o fo) (hi : SE g X wx i fi) (he : SE g X wx e fe) (hs : swapsWithSole [.Subscript o i pos'] e pos.line X.env = pure false := by rfl) (hw : swappedStores [.Subscript o i pos'] e X.env = pure none := by rfl)
    (h1 : (assignEach [.Subscript o i pos'] X.env).map (·.2) = [assign (.Subscript o i pos') X.env] := by rfl)
    (ha : ∀ v, assign (.Subscript o i pos') X.env v = (do
      let ov ← holding [v] (eval o X.env)
      let iv ← holding [v, ov] (eval i X.env)
      standAt pos'
      holding [v, ov, iv] (setItem ov iv v)
      release [v, ov, iv] []) := by intro _; rfl) : SS g X wx (.Assign [.Subscript o i pos'] e pos) (sPut fo fi fe) :=
  PS.conv (ps_asg he.pe (pg_sub ho.pe hi.pe set_list ha) hs hw h1) fun D τ H ⟨σ, m, ρ, S, L, oo⟩ => ⟨σ, m, ρ, S, L, (oo.of S L).imp fun w m1 ρ1 H1 P1 S1 o1 v r =>
    ⟨σ, m1, ρ1, S1, L.post S P1, (o1.of S1 (L.post S P1)).imp fun x m2 ρ2 H2 P2 S2 o2 vx rx => ⟨σ, m2, ρ2, S2, (L.post S P1).post S1 P2, (o2.of S2 ((L.post S P1).post S1 P2)).imp fun y m3 ρ3 H3 P3 S3 o3 vy ry => by
      split at o3
      · rename_i m4 hput
        unfold putAt at hput
        split at hput
        · rename_i n i
          cases ry
          have rx3 := rx.post S2 P3
          cases rx3 with
          | @ref _ p hp =>
            split at hput
            · rename_i ws hm
              split at hput
              · rename_i j hj
                cases hput
                obtain ⟨vs, hv, rv⟩ := obj_lst S3 hp hm
                refine ⟨p, vs, i, j, rfl, rfl, hv, by rw [← rv.length]; exact hj, ?_⟩
                obtain ⟨P4, S4⟩ := S3.set (u := .lst (vs.set j v)) (o := .lst (ws.set j w)) hp ⟨_, rfl, rv.set ((r.post S1 P2).post S2 P3) j⟩
                exact o3 _ _ _ P4 S4 ((((L.post S P1).post S1 P2).post S2 P3).post S3 P4)
              · cases hput
            · cases hput
        · cases hput
      · exact o3.elim⟩⟩⟩
end
end Sh

namespace Sh
open PySem PySem.Spec L2
open PyProof.Rows (envOfC)

section
variable {g : G} {X : Cx} {wx : WX} {τ : L2.St} {ρ ρ' : List Addr} {H H' : Hp} {m m' : Mem} {e a b c o : Expr} {fa fb fc fo fe : DE} {fl : DL} {pos : Pos} {pins : List (Addr × Obj)} {s : Shared}
theorem VRs.inv0 {vs : List V} (r : VRs g ρ H [] vs) : vs = [] := by cases r; rfl

/-! ### len, abs, int, str -/
def lenW (x : W) (m : Mem) : Option Nat := match x with
  | .str l => if l.length ≤ 1000000 then some l.length else none
  | .tup ws => some ws.length
  | .frz ws => some ws.length
  | .ref n => match m[n]? with
    | some (.lst ws) => some ws.length
    | some (.dK kvs) => some kvs.length
    | _ => none
  | _ => none
def bLen (ws : List W) (m : Mem) : R W := match ws with
  | [x] => match lenW x m with | some n => .ok (.int (n : Int)) m | none => .bad
  | _ => .bad
theorem f_len (hK : X.K = g.K) : Fn g X wx (fun us => call (.builtin "len") us) bLen := Fn.ofR fun m ρ H τ xs vs Q S rx o => by
  unfold bLen at o
  split at o
  · rename_i x
    obtain ⟨v, rfl, r⟩ := rx.inv1
    split at o
    · rename_i n hn
      have fin : Q (.int (n : Int)) H := Out.ok0 S o (.int _)
      unfold lenW at hn
      split at hn
      · rename_i l
        cases r
        split at hn
        · rename_i hl
          cases hn
          exact ⟨_, call_len, _, _, rfl, ⟨by rw [S_len]; exact sizeM hl, rfl⟩, by rw [S_len]; exact fin⟩
        · cases hn
      · rename_i ws
        cases hn
        cases r with
        | tup h rv => exact ⟨_, call_len, _, _, rfl, .inr ⟨_, by rw [hK]; exact h, rv.length⟩, fin⟩
      · rename_i ws
        cases hn
        cases r with
        | frz h rv => exact ⟨_, call_len, _, _, rfl, .inl ⟨_, by rw [hK]; exact h.toL, rv.length⟩, fin⟩
      · rename_i k
        cases r with
        | @ref _ p hp =>
          split at hn
          · rename_i ws hm
            cases hn
            obtain ⟨vs, h1, rv⟩ := obj_lst S hp hm
            exact ⟨_, call_len, _, _, rfl, .inl ⟨_, SqL.of h1, rv.length⟩, fin⟩
          · rename_i kvs hm
            cases hn
            obtain ⟨u, h1, vs, e1, rv⟩ := S.obj _ p _ hp hm
            subst e1
            have hl : kvs.length = vs.length := Paired.length rv
            exact ⟨_, call_lenD, p, vs, rfl, h1, by rw [← hl]; exact fin⟩
          · cases hn
      · cases hn
    · exact o.elim
  · exact o.elim
/-- of a fresh list -/
def bLenL (ws : List W) (m : Mem) : R W := .ok (.int (ws.length : Int)) m
theorem f_lenL : FnL g X wx (fun u => call (.builtin "len") [u]) bLenL := FnL.ofR fun m ρ H τ p ws vs Q S hp hn r o => ⟨_, call_len, _, _, rfl, .inl ⟨vs, SqL.of hp, r.length⟩, Out.ok0 S o (.int _)⟩
def bAbs (ws : List W) (m : Mem) : R W := match ws with
  | [.int i] => .ok (.int (if i < 0 then -i else i)) m
  | _ => .bad
theorem f_abs : Fn g X wx (fun us => call (.builtin "abs") us) bAbs := Fn.ofR fun m ρ H τ xs vs Q S rx o => by
  unfold bAbs at o
  split at o
  · obtain ⟨v, rfl, r⟩ := rx.inv1
    cases r
    exact ⟨_, call_abs, _, rfl, Out.ok0 S o (.int _)⟩
  · exact o.elim
def b2 (b : Bool) : Int := if b = true then 1 else 0
def bInt (ws : List W) (m : Mem) : R W := match ws with
  | [.int i] => .ok (.int i) m
  | [.bl k] => .ok (.int (b2 k)) m
  | [.str l] => if l.length ≤ 640 then (match intText? (Sh.S l) with | some n => .ok (.int n) m | none => .bad) else .bad
  | _ => .bad
theorem f_int : Fn g X wx (fun us => call (.type "int") us) bInt := Fn.ofR fun m ρ H τ xs vs Q S rx o => by
  unfold bInt at o
  split at o
  · obtain ⟨v, rfl, r⟩ := rx.inv1
    cases r
    exact ⟨_, call_int1, .inl ⟨_, rfl, Out.ok0 S o (.int _)⟩⟩
  · obtain ⟨v, rfl, r⟩ := rx.inv1
    cases r
    exact ⟨_, call_int1, .inr ⟨_, rfl, Out.ok0 S o (.int _)⟩⟩
  · obtain ⟨v, rfl, r⟩ := rx.inv1
    cases r
    split at o
    · rename_i hl
      split at o
      · rename_i n hn
        exact ⟨_, call_int_str, _, n, rfl, hn, by rw [S_len]; exact hl, Out.ok0 S o (.int _)⟩
      · exact o.elim
    · exact o.elim
  · exact o.elim
/-- the signs of a number -/
def dec (i : Int) : List Nat := (Str.ofString (toString i)).cps.toList
def bStr (ws : List W) (m : Mem) : R W := match ws with
  | [.int i] => if i.natAbs.log2 < 1920 then .ok (.str (dec i)) m else .bad
  | [.str l] => .ok (.str l) m
  | _ => .bad
theorem f_str : Fn g X wx (fun us => call (.type "str") us) bStr := Fn.ofR fun m ρ H τ xs vs Q S rx o => by
  unfold bStr at o
  split at o
  · rename_i i
    obtain ⟨v, rfl, r⟩ := rx.inv1
    cases r
    split at o
    · rename_i h
      refine ⟨_, call_str_int, i, rfl, h, ?_⟩
      have := Out.ok0 S o (.str (dec i))
      unfold dec at this
      rw [S_of] at this
      exact this
    · exact o.elim
  · obtain ⟨v, rfl, r⟩ := rx.inv1
    cases r
    exact ⟨_, SkE.call_str_str, _, rfl, Out.ok0 S o (.str _)⟩
  · exact o.elim

/-! ### all, any, sum of a fresh list; tuple, list -/
def blsW : List W → Option (List Bool)
  | [] => some []
  | .bl b :: ws => (blsW ws).map (b :: ·)
  | _ :: _ => none
theorem bls_V : ∀ {ws : List W} {vs : List V} {bs : List Bool}, VRs g ρ H ws vs → blsW ws = some bs → vs = bs.map V.bl
  | _, _, _, .nil, h => by cases h; rfl
  | _, _, bs, .cons (w := w) r rr, h => by
    cases w with
    | bl b =>
      cases r
      simp only [blsW, Option.map_eq_some_iff] at h
      obtain ⟨cs, h1, rfl⟩ := h
      rw [bls_V rr h1]; rfl
    | _ => simp [blsW] at h
def bAll (ws : List W) (m : Mem) : R W := match blsW ws with | some bs => .ok (.bl (bs.all id)) m | none => .bad
def bAny (ws : List W) (m : Mem) : R W := match blsW ws with | some bs => .ok (.bl (bs.any id)) m | none => .bad
theorem f_all (hc : X.calm = true) : FnL g X wx (fun u => call (.builtin "all") [u]) bAll := FnL.ofR fun m ρ H τ p ws vs Q S hp hn r o => by
  unfold bAll at o
  split at o
  · rename_i bs h
    have e := bls_V r h
    subst e
    exact ⟨_, cr_all hc, p, bs, rfl, SqL.of hp, Out.ok0 S o (.bl _)⟩
  · exact o.elim
theorem f_any (hc : X.calm = true) : FnL g X wx (fun u => call (.builtin "any") [u]) bAny := FnL.ofR fun m ρ H τ p ws vs Q S hp hn r o => by
  unfold bAny at o
  split at o
  · rename_i bs h
    have e := bls_V r h
    subst e
    exact ⟨_, cr_any hc, p, bs, rfl, SqL.of hp, Out.ok0 S o (.bl _)⟩
  · exact o.elim
def intsW : List W → Option (List Int)
  | [] => some []
  | .int b :: ws => (intsW ws).map (b :: ·)
  | _ :: _ => none
theorem ints_V : ∀ {ws : List W} {vs : List V} {bs : List Int}, VRs g ρ H ws vs → intsW ws = some bs → vs = bs.map V.int
  | _, _, _, .nil, h => by cases h; rfl
  | _, _, bs, .cons (w := w) r rr, h => by
    cases w with
    | int b =>
      cases r
      simp only [intsW, Option.map_eq_some_iff] at h
      obtain ⟨cs, h1, rfl⟩ := h
      rw [ints_V rr h1]; rfl
    | _ => simp [intsW] at h
def bSum (ws : List W) (m : Mem) : R W := match intsW ws with | some bs => .ok (.int bs.sum) m | none => .bad
theorem f_sum (hc : X.calm = true) : FnL g X wx (fun u => call (.builtin "sum") [u]) bSum := FnL.ofR fun m ρ H τ p ws vs Q S hp hn r o => by
  unfold bSum at o
  split at o
  · rename_i bs h
    have e := ints_V r h
    subst e
    exact ⟨_, cr_sum hc, p, bs, rfl, SqL.of hp, Out.ok0 S o (.int _)⟩
  · exact o.elim
def bTupL (ws : List W) (m : Mem) : R W := .ok (.tup ws) m
theorem f_tupL : FnL g X wx (fun u => call (.type "tuple") [u]) bTupL := FnL.ofR fun m ρ H τ p ws vs Q S hp hn r o => ⟨_, call_tuple_of, p, vs, rfl, .inl ⟨SqL.of hp, fun l hl => by
  obtain ⟨P2, S2⟩ := S.junk (u := .tup vs) hl
  exact (o : Out g wx τ ρ H (R.ok (W.tup ws) m) _) ρ _ P2 S2 _ (.tup (SqT.of upd_same) (r.post S P2))⟩⟩
def bTup (ws : List W) (m : Mem) : R W := match ws with
  | [.tup ws] => .ok (.tup ws) m
  | [.ref n] => match m[n]? with
    | some (.lst ws) => .ok (.tup ws) m
    | _ => .bad
  | _ => .bad
theorem f_tup (hK : X.K = g.K) : Fn g X wx (fun us => call (.type "tuple") us) bTup := Fn.ofR fun m ρ H τ xs vs Q S rx o => by
  unfold bTup at o
  split at o
  · obtain ⟨v, rfl, r⟩ := rx.inv1
    cases r with
    | tup h rv => exact ⟨_, call_tuple_of, _, _, rfl, .inr ⟨by rw [hK]; exact h, Out.ok0 S o (.tup h rv)⟩⟩
  · obtain ⟨v, rfl, r⟩ := rx.inv1
    cases r with
    | @ref _ p hp =>
      split at o
      · rename_i ws hm
        obtain ⟨vs, h1, rv⟩ := obj_lst S hp hm
        refine ⟨_, call_tuple_of, p, vs, rfl, .inl ⟨SqL.of h1, fun l hl => ?_⟩⟩
        obtain ⟨P2, S2⟩ := S.junk (u := .tup vs) hl
        exact (o : Out g wx τ ρ H (R.ok (W.tup ws) m) _) ρ _ P2 S2 _ (.tup (SqT.of upd_same) (rv.post S P2))
      · exact o.elim
  · exact o.elim
def bList (ws : List W) (m : Mem) : R W := match ws with
  | [.tup ws] => .ok (.ref m.length) (m ++ [.lst ws])
  | [.ref n] => match m[n]? with
    | some (.lst ws) => .ok (.ref m.length) (m ++ [.lst ws])
    | _ => .bad
  | _ => .bad
theorem f_list (hK : X.K = g.K) : Fn g X wx (fun us => call (.type "list") us) bList := Fn.ofR fun m ρ H τ xs vs Q S rx o => by
  unfold bList at o
  have fin : ∀ (ws : List W) (vs : List V), VRs g ρ H ws vs → Out g wx τ ρ H (R.ok (W.ref m.length) (m ++ [.lst ws])) (fun w m' ρ' H' => ∀ v, VR g ρ' H' w v → Q v H') → ∀ l, H l = none → Q (.ref l) (upd H l (.lst vs)) := fun ws vs rv o l hl => by
    obtain ⟨P2, S2⟩ := S.push (o := .lst ws) (u := .lst vs) hl ⟨_, rfl, rv⟩
    exact o _ _ P2 S2 _ (.ref (by rw [← S.len]; simp))
  split at o
  · obtain ⟨v, rfl, r⟩ := rx.inv1
    cases r with
    | tup h rv => exact ⟨_, call_list_of, _, _, rfl, .inr (by rw [hK]; exact h), fin _ _ rv o⟩
  · obtain ⟨v, rfl, r⟩ := rx.inv1
    cases r with
    | @ref _ p hp =>
      split at o
      · rename_i ws hm
        obtain ⟨vs, h1, rv⟩ := obj_lst S hp hm
        exact ⟨_, call_list_of, p, vs, rfl, .inl (SqL.of h1), fin _ _ rv o⟩
      · exact o.elim
  · exact o.elim

/-! ### repr of data -/
/-- the ground has its table of modules -/
class Sys (base : Heap) : Prop where
  ne : base.get? sysModules ≠ none
def keyD : Key → PyData
  | .inl i => .int i
  | .inr x => .str x
mutual
def datX (m : Mem) : Nat → W → Option PyData
  | _, .non => some .none
  | _, .bl b => some (.bool b)
  | _, .int i => some (.int i)
  | _, .str l => some (.str (Sh.S l))
  | 0, _ => none
  | d + 1, .tup ws => (datsX m d ws).map .tuple
  | d + 1, .ref n => match m[n]? with
    | some (.lst ws) => (datsX m d ws).map .list
    | some (.dK kvs) => (datsX m d (kvs.map (·.2))).map fun ds => .dict ((kvs.map fun kv => keyD kv.1).zip ds)
    | _ => none
  | _ + 1, _ => none
def datsX (m : Mem) : Nat → List W → Option (List PyData)
  | _, [] => some []
  | d, w :: ws => match datX m d w, datsX m d ws with
    | some x, some xs => some (x :: xs)
    | _, _ => none
end
theorem sys_free (I : Inv X pins τ H s) (hs : X.base.get? sysModules ≠ none) : H sysModules = none := by
  cases q : X.base.get? sysModules with
  | none => exact absurd q hs
  | some o =>
    obtain ⟨h1, h2⟩ := I.ok.bs _ _ q
    exact I.base.free _ _ h1 h2 (I.ok.noex _ _ q)
theorem datsX_len {m : Mem} : ∀ {d : Nat} {ws : List W} {ds : List PyData}, datsX m d ws = some ds → ws.length = ds.length
  | d, [], ds, e => by
    have e : some ([] : List PyData) = some ds := by cases d <;> (simp only [datsX] at e; exact e)
    cases e; rfl
  | d, w :: ws, ds, e => by
    have e : (match datX m d w, datsX m d ws with | some x, some xs => some (x :: xs) | _, _ => none) = some ds := by cases d <;> (simp only [datsX] at e; exact e)
    split at e
    · rename_i x xs h1 h2
      cases e
      simp [datsX_len h2]
    · cases e
theorem pairs_reads {h : Heap} {P : Program} {w : World} : ∀ {es : List DictEntry} {vs : List (Key × Value)}, Pairs (mixKind P w) es vs → ∃ as, ReadsAll h (es.map (·.key)) (vs.map fun kv => keyD kv.1) as ∧ as = []
  | _, _, .nil => ⟨_, .nil, rfl⟩
  | _, _, .cons (e := e) (kv := kv) h1 h2 t => by
    obtain ⟨as, r, ea⟩ := pairs_reads (h := h) t
    subst ea
    obtain ⟨k, v⟩ := kv
    have h1 : keyIs k e.key = true := h1
    rcases keyIs_shape h1 with ⟨i, t, rfl, e2⟩ | ⟨x, t, rfl, e2⟩
    · refine ⟨_, .cons (d := .int i) (by show Reads h e.key _ _; rw [e2]; exact .int i t) r, rfl⟩
    · refine ⟨_, .cons (d := .str x) (by show Reads h e.key _ _; rw [e2]; exact .str x t) r, rfl⟩
theorem pairs_vals {P : Program} {w : World} : ∀ {es : List DictEntry} {vs : List (Key × Value)}, Pairs (mixKind P w) es vs → es.map (·.val) = vs.map (·.2)
  | _, _, .nil => rfl
  | _, _, .cons h1 h2 t => by simp [h2, pairs_vals t]
theorem kv_split {kvs : List (Key × W)} {ws : List (Key × V)} {vs : List (Key × Value)} (r : KR g ρ H kvs ws) (q : KV ws vs) : (vs.map fun kv => keyD kv.1) = (kvs.map fun kv => keyD kv.1) ∧ VRs g ρ H (kvs.map (·.2)) (ws.map (·.2)) ∧ Vals (ws.map (·.2)) (vs.map (·.2)) := by
  induction r generalizing vs with
  | nil => cases q; exact ⟨rfl, .nil, .nil⟩
  | @cons p p' kvs ws hq hr ih =>
    cases q with
    | @cons _ p2 _ vs h1 h2 =>
      obtain ⟨i1, i2, i3⟩ := ih h2
      refine ⟨?_, .cons hq.2 i2, .cons h1.2 i3⟩
      have e1 : p.1 = p'.1 := hq.1
      have e2 : p'.1 = p2.1 := h1.1
      simp only [List.map_cons, i1, e1, e2]
mutual
theorem datX_reads (hK : X.K = g.K) (I : Inv X pins τ H s) (S : Sim g ρ m H) (hs : X.base.get? sysModules ≠ none) : ∀ (d : Nat) (w : W) (v : V) (u : Value) (x : PyData), VR g ρ H w v → RelV v u → datX m d w = some x → ∃ as, Reads s.heap u x as ∧ sysModules ∉ as
  | d, .non, v, u, x, r, ru, e => by
    cases r; cases ru
    have e : some PyData.none = some x := by cases d <;> (simp only [datX] at e; exact e)
    cases e; exact ⟨_, .none, by simp⟩
  | d, .bl b, v, u, x, r, ru, e => by
    cases r; cases ru
    have e : some (PyData.bool b) = some x := by cases d <;> (simp only [datX] at e; exact e)
    cases e; exact ⟨_, .bool b, by simp⟩
  | d, .int i, v, u, x, r, ru, e => by
    cases r; obtain ⟨t, rfl⟩ := ru
    have e : some (PyData.int i) = some x := by cases d <;> (simp only [datX] at e; exact e)
    cases e; exact ⟨_, .int i t, by simp⟩
  | d, .str l, v, u, x, r, ru, e => by
    cases r; obtain ⟨t, rfl⟩ := ru
    have e : some (PyData.str (Sh.S l)) = some x := by cases d <;> (simp only [datX] at e; exact e)
    cases e; exact ⟨_, .str _ t, by simp⟩
  | 0, .tup ws, v, u, x, r, ru, e => by simp [datX] at e
  | 0, .ref n, v, u, x, r, ru, e => by simp [datX] at e
  | d + 1, .tup ws, v, u, x, r, ru, e => by
    simp only [datX] at e
    cases q : datsX m d ws with
    | none => rw [q] at e; cases e
    | some xs =>
      rw [q] at e; cases e
      cases r with
      | tup h rv =>
        cases ru
        obtain ⟨its, rv', ⟨o, ho, hc, n, hd⟩, _⟩ := I.tuple (show SqT X.K H _ _ by rw [hK]; exact h)
        obtain ⟨as, hr, hn⟩ := datsX_reads hK I S hs d ws _ _ xs rv rv' q
        exact ⟨_, .tuple ho hc hd hr, hn⟩
  | d + 1, .ref n, v, u, x, r, ru, e => by
    simp only [datX] at e
    cases r with
    | @ref _ p hp =>
      cases ru
      have np : ∀ {o : HO}, H p = some o → p ≠ sysModules := fun h z => by rw [z, sys_free I hs] at h; cases h
      split at e
      · rename_i ws hm
        cases q : datsX m d ws with
        | none => rw [q] at e; cases e
        | some xs =>
          rw [q] at e; cases e
          obtain ⟨vs, h1, r1⟩ := obj_lst S hp hm
          obtain ⟨its, rv', ⟨o, n', ho, hc, _, hd⟩, _⟩ := I.list (SqL.of h1)
          obtain ⟨as, hr, hn⟩ := datsX_reads hK I S hs d ws _ _ xs r1 rv' q
          exact ⟨_, .list ho hc hd hr, by
            intro z
            rcases List.mem_cons.mp z with z | z
            · exact np h1 z.symm
            · exact hn z⟩
      · rename_i kvs hm
        cases q : datsX m d (kvs.map (·.2)) with
        | none => rw [q] at e; cases e
        | some xs =>
          rw [q] at e; cases e
          obtain ⟨u', h1, vs, e1, r1⟩ := S.obj _ p _ hp hm
          subst e1
          obtain ⟨_, hsm, vs', rv, o, es, ep, ho, hx, hd, hk, hP, hN⟩ := dk_of I.hok h1
          obtain ⟨e1, r2, r3⟩ := kv_split r1 rv
          obtain ⟨as1, ra1, ea1⟩ := pairs_reads (h := s.heap) hP
          subst ea1
          obtain ⟨bs, hr, hn⟩ := datsX_reads hK I S hs d (kvs.map (·.2)) _ _ xs r2 r3 q
          have hl := datsX_len q
          refine ⟨_, .dict (as := []) (bs := bs) ho hx.1 hd ?_ ?_, ?_⟩
          · rw [List.map_fst_zip (by simp only [List.length_map] at hl ⊢; omega), ← e1]; exact ra1
          · rw [List.map_snd_zip (by simp only [List.length_map] at hl ⊢; omega), pairs_vals hP]; exact hr
          · intro z
            rcases List.mem_append.mp z with z | z
            · have : sysModules = p := by simpa using z
              exact np h1 this.symm
            · exact hn z
      · cases e
  | d, .frz ws, v, u, x, r, ru, e => by cases d <;> simp [datX] at e
  | d, .cls c, v, u, x, r, ru, e => by cases d <;> simp [datX] at e
  | d, .ty c, v, u, x, r, ru, e => by cases d <;> simp [datX] at e
theorem datsX_reads (hK : X.K = g.K) (I : Inv X pins τ H s) (S : Sim g ρ m H) (hs : X.base.get? sysModules ≠ none) : ∀ (d : Nat) (ws : List W) (vs : List V) (us : List Value) (xs : List PyData), VRs g ρ H ws vs → Vals vs us → datsX m d ws = some xs → ∃ as, ReadsAll s.heap us xs as ∧ sysModules ∉ as
  | d, [], vs, us, xs, r, ru, e => by
    cases r; cases ru
    have e : some ([] : List PyData) = some xs := by cases d <;> (simp only [datsX] at e; exact e)
    cases e; exact ⟨_, .nil, by simp⟩
  | d, w :: ws, vs, us, xs, r, ru, e => by
    cases r with
    | cons h rv =>
      cases ru with
      | cons h' rv' =>
        have e : (match datX m d w, datsX m d ws with | some x, some xs => some (x :: xs) | _, _ => none) = some xs := by cases d <;> (simp only [datsX] at e; exact e)
        split at e
        · rename_i x xs' h1 h2
          cases e
          obtain ⟨as, r1, n1⟩ := datX_reads hK I S hs d w _ _ x h h' h1
          obtain ⟨bs, r2, n2⟩ := datsX_reads hK I S hs d ws _ _ xs' rv rv' h2
          exact ⟨_, .cons r1 r2, by intro z; rcases List.mem_append.mp z with z | z; exact n1 z; exact n2 z⟩
        · cases e
end
def reprD (d : PyData) (m : Mem) : R W := if d.showable = true ∧ d.depth ≤ 40 ∧ d.shown.length ≤ 1000000 then .ok (.str d.shown.cps.toList) m else .bad
def bRepr (ws : List W) (m : Mem) : R W := match ws with
  | [.tup ws] => match datX m 30 (.tup ws) with | some d => reprD d m | none => .bad
  | [.ref n] => match datX m 30 (.ref n) with | some d => reprD d m | none => .bad
  | [.int i] => if i.natAbs.log2 < 1920 then .ok (.str (dec i)) m else .bad
  | _ => .bad
theorem reprD_cases {d : PyData} {m : Mem} : ((d.showable = true ∧ d.depth ≤ 40 ∧ d.shown.length ≤ 1000000) ∧ reprD d m = .ok (.str d.shown.cps.toList) m) ∨ reprD d m = .bad := by
  unfold reprD
  split
  · rename_i h; exact .inl ⟨h, rfl⟩
  · exact .inr rfl
theorem f_repr {k : Nat} (hK : X.K = g.K) (hr : Rm k X.A) (hs : X.base.get? sysModules ≠ none) : Fn g X wx (fun us => call (.builtin "repr") us) bRepr := by
  refine ⟨fun pins s m ρ H τ xs vs us Q I S rx ru o => ?_⟩
  have go : ∀ (x : W) (a : Addr), VR g ρ H x (.ref a) → xs = [x] → us = [.ref a] → Out g wx τ ρ H (match datX m 30 x with | some d => reprD d m | none => .bad) (fun w m' ρ' H' => ∀ v u s', Inv X pins τ H' s' → VR g ρ' H' w v → RelV v u → Q u s') → wpAny (model X.prog X.w) X.A (call (.builtin "repr") us) Q X.xe s := by
    intro x a r e1 e2 o
    subst e2
    split at o
    · rename_i d hd
      rcases reprD_cases (d := d) (m := m) with ⟨⟨h1, h3, h4⟩, h5⟩ | h
      · rw [h5] at o
        obtain ⟨as, rd, hn⟩ := datX_reads hK I S hs 30 x _ (.ref a) d r rfl hd
        refine PySem.repr_of_reads' rd h1 (fun _ => hn) hr.g (by have := hr.r.units; omega) (fun _ _ q => q) (fun h' u tk hk => ?_) (by rw [sizeLine_eq]; omega)
        exact Out.here o S (.str d.shown) _ _ (I.kept hk) (by have := VR.str (g := g) (ρ := ρ) (H := H) d.shown.cps.toList; rw [S_of] at this; exact this) ⟨u, rfl⟩
      · rw [h] at o; exact o.elim
    · exact o.elim
  unfold bRepr at o
  split at o
  · rename_i ws
    obtain ⟨v, rfl, r⟩ := rx.inv1
    cases ru with
    | cons r1 r2 =>
      cases r2
      cases r with
      | tup h rv => cases r1; exact go _ _ (.tup h rv) rfl rfl o
  · obtain ⟨v, rfl, r⟩ := rx.inv1
    cases ru with
    | cons r1 r2 =>
      cases r2
      cases r with
      | ref h => cases r1; exact go _ _ (.ref h) rfl rfl o
  · rename_i i
    obtain ⟨v, rfl, r⟩ := rx.inv1
    cases r
    split at o
    · rename_i h
      refine thn (SkE.call_repr_int pins s τ H [.int i] us (fun v H' => ∀ u s', Inv X pins τ H' s' → RelV v u → Q u s') I ru ⟨i, rfl, h, fun u s' I' ru' => ?_⟩) fun u1 s1 ⟨v1, H1, I1, r1, q⟩ => q u1 s1 I1 r1
      refine Out.here o S _ u s' I' ?_ ru'
      have := VR.str (g := g) (ρ := ρ) (H := H) (dec i)
      unfold dec at this
      rw [S_of] at this
      exact this
    · exact o.elim
  · exact o.elim

/-! ### starred items -/
def itemsW (x : W) (m : Mem) : R (List W) := match x with
  | .tup ws => .ok ws m
  | .ref n => match m[n]? with
    | some (.lst ws) => .ok ws m
    | _ => .bad
  | _ => .bad
def aStar (f : DE) (r : DL) : DL := fun σ m => (f σ m).bind fun x m1 => (itemsW x m1).bind fun ws m2 => (r σ m2).bind fun xs m3 => .ok (ws ++ xs) m3
def aStarL (f : DL) (r : DL) : DL := fun σ m => (f σ m).bind fun ws m1 => (r σ m1).bind fun xs m3 => .ok (ws ++ xs) m3
theorem items_ok {x : W} {v : V} {u : Value} {Q : List W → Mem → List Addr → Hp → Prop} (hK : X.K = g.K) (S : Sim g ρ m H) (r : VR g ρ H x v) (ru : RelV v u) (o : Out g wx τ ρ H (itemsW x m) Q) :
    ∃ a ws vs, u = .ref a ∧ (SqT X.K H a vs ∨ SqL X.K H a vs) ∧ VRs g ρ H ws vs ∧ Q ws m ρ H := by
  unfold itemsW at o
  split at o
  · cases r with
    | tup h rv => cases ru; exact ⟨_, _, _, rfl, .inl (by rw [hK]; exact h), rv, Out.here o S⟩
  · cases r with
    | @ref _ p hp =>
      cases ru
      split at o
      · rename_i ws hm
        obtain ⟨vs, h1, rv⟩ := obj_lst S hp hm
        exact ⟨_, _, _, rfl, .inr (SqL.of h1), rv, Out.here o S⟩
      · exact o.elim
  · exact o.elim
theorem sa_star {es : List Expr} {fs : DL} {p : Pos} (hK : X.K = g.K) (he : SE g X wx e fe) (hr : SA g X wx es fs) (hs : starEach (.Starred e p :: es) X.env = (true, eval e X.env) :: starEach es X.env := by exact star2) : SA g X wx (.Starred e p :: es) (aStar fe fs) := by
  refine ⟨fun pos pins s σ m ρ H τ Q I S L o => ?_⟩
  refine PySem.W.items_star (he.run pins s σ m ρ H τ _ I S L ((o.bind S).imp fun x m1 ρ1 H1 P1 S1 o1 v u s1 I1 rv ru => ?_)) hs
  obtain ⟨a, ws, vs, rfl, hq, rvs, o2⟩ := items_ok hK S1 rv ru (o1.bind S1)
  refine StX.star_any I1 hq fun us s2 I2 rus => ?_
  refine hr.run pos pins s2 σ m1 ρ1 H1 τ _ I2 S1 (L.post S P1) ((o2.bind S1).imp fun xs m3 ρ3 H3 P3 S3 o3 ys us2 s3 I3 r3 ru3 => ?_)
  exact Out.here o3 S3 (vs ++ ys) (us ++ us2) s3 I3 ((rvs.post S1 P3).append r3) (rus.append ru3)
theorem sa_starL {es : List Expr} {fs : DL} {p : Pos} (he : SL g X wx e fl) (hr : SA g X wx es fs) (hs : starEach (.Starred e p :: es) X.env = (true, eval e X.env) :: starEach es X.env := by exact star2) : SA g X wx (.Starred e p :: es) (aStarL fl fs) := by
  refine ⟨fun pos pins s σ m ρ H τ Q I S L o => ?_⟩
  refine PySem.W.items_star (he.run pins s σ m ρ H τ _ I S L ((o.bind S).imp fun ws m1 ρ1 H1 P1 S1 o1 p vs s1 I1 h0 hp hn rvs => ?_)) hs
  refine StX.star_any I1 (.inr (SqL.of hp)) fun us s2 I2 rus => ?_
  refine hr.run pos pins s2 σ m1 ρ1 H1 τ _ I2 S1 (L.post S P1) ((o1.bind S1).imp fun xs m3 ρ3 H3 P3 S3 o3 ys us2 s3 I3 r3 ru3 => ?_)
  exact Out.here o3 S3 (vs ++ ys) (us ++ us2) s3 I3 ((rvs.post S1 P3).append r3) (rus.append ru3)

/-! ### methods of texts -/
def eM1 (fn : W → W → Mem → R W) (fo fe : DE) : DE := fun σ m => (fo σ m).bind fun x m1 => match x with
  | .str l => (fe σ m1).bind fun y m2 => fn (.str l) y m2
  | _ => .bad
def Mr1 (g : G) (wx : WX) (r : V → List V → Hp → VK → Prop) (fn : W → W → Mem → R W) : Prop := Rr2 g wx (fun v z H Q => r v [z] H Q) fn
theorem se_m1 {id : String} {name : Str} {apos pos : Pos} {r : V → List V → Hp → VK → Prop} {fn : W → W → Mem → R W} (slot : Slot "str" name id) (ty : typeOf (.builtin id) = pure (.type "method_descriptor")) (rule : MtR X id r) (hr : Mr1 g wx r fn) (ho : SE g X wx o fo) (he : SE g X wx e fe)
    (hs : starEach [e] X.env = [(false, eval e X.env)] := by rfl) (hbase : attributeBase o name X.env (eval o X.env) = eval o X.env := by rfl) (hline : (apos.endLine == pos.line) = true := by rfl) :
    SE g X wx (.Call (.Attribute o name apos) [e] [] pos) (eM1 fn fo fe) :=
  SE.ofPE (pe_m1 slot ty rule ho.pe he.pe hs hbase hline) fun σ m ρ H τ Q S L oo => ⟨σ, m, ρ, S, L, (oo.bind S).imp fun x m1 ρ1 H1 P1 S1 o1 v rv => by
    cases rv with
    | str l => exact ⟨⟨_, rfl⟩, σ, m1, ρ1, S1, L.post S P1, (o1.bind S1).imp fun y m2 ρ2 H2 P2 S2 o2 z rz => hr m2 ρ2 H2 τ (.str l) y _ z Q S2 (.str l) rz o2⟩
    | _ => exact o1.elim⟩
def strsW : List W → Option (List (List Nat))
  | [] => some []
  | .str b :: ws => (strsW ws).map (b :: ·)
  | _ :: _ => none
theorem strs_V : ∀ {ws : List W} {vs : List V} {bs : List (List Nat)}, VRs g ρ H ws vs → strsW ws = some bs → vs = (bs.map Sh.S).map V.str
  | _, _, _, .nil, h => by cases h; rfl
  | _, _, bs, .cons (w := w) r rr, h => by
    cases w with
    | str b =>
      cases r
      simp only [strsW, Option.map_eq_some_iff] at h
      obtain ⟨cs, h1, rfl⟩ := h
      rw [strs_V rr h1]; rfl
    | _ => simp [strsW] at h
def joinW (a : List Nat) (ws : List W) (m : Mem) : R W := match strsW ws with
  | some ys => if (ys.map (·.length)).sum + ys.length * a.length ≤ 1000000 then .ok (.str (TL.joinL a ys)) m else .bad
  | none => .bad
theorem joinW_out {a : List Nat} {ws : List W} {vs : List V} {Q : VK} (S : Sim g ρ m H) (r : VRs g ρ H ws vs) (o : Out g wx τ ρ H (joinW a ws m) (fun w m' ρ' H' => ∀ v, VR g ρ' H' w v → Q v H')) :
    ∃ ys : List Str, vs = ys.map V.str ∧ (ys.map (·.length)).sum + ys.length * (Sh.S a).length ≤ 16777216 ∧ Q (.str (Txt.join (Sh.S a) ys)) H := by
  unfold joinW at o
  split at o
  · rename_i ys h
    split at o
    · rename_i hl
      refine ⟨_, strs_V r h, ?_, ?_⟩
      · rw [SX.lens, List.length_map, S_len]; omega
      · rw [SX.join_S]; exact Out.ok0 S o (.str _)
    · exact o.elim
  · exact o.elim
/-- sep.join(fresh list) -/
def eJoinL (fo : DE) (fl : DL) : DE := fun σ m => (fo σ m).bind fun x m1 => match x with
  | .str a => (fl σ m1).bind fun ws m2 => joinW a ws m2
  | _ => .bad
theorem se_joinL {apos pos : Pos} (ho : SE g X wx o fo) (he : SL g X wx e fl) (hs : starEach [e] X.env = [(false, eval e X.env)] := by rfl) (hbase : attributeBase o "join" X.env (eval o X.env) = eval o X.env := by rfl) (hline : (apos.endLine == pos.line) = true := by rfl) :
    SE g X wx (.Call (.Attribute o "join" apos) [e] [] pos) (eJoinL fo fl) :=
  SE.ofPE (pe_join ho.pe he.pe hs hbase hline) fun σ m ρ H τ Q S L oo => ⟨σ, m, ρ, S, L, (oo.bind S).imp fun x m1 ρ1 H1 P1 S1 o1 v rv => by
    cases rv with
    | str a => exact ⟨⟨_, rfl⟩, σ, m1, ρ1, S1, L.post S P1, (o1.bind S1).imp fun ws m2 ρ2 H2 P2 S2 o2 p vs h0 hp hn r => by
        obtain ⟨ys, rfl, h2, h3⟩ := joinW_out S2 r o2
        exact ⟨_, p, ys, rfl, rfl, .inl (SqL.of hp), h2, h3⟩⟩
    | _ => exact o1.elim⟩
def wJoin (x y : W) (m : Mem) : R W := match x with
  | .str a => (itemsW y m).bind fun ws m1 => joinW a ws m1
  | _ => .bad
/-- a.split(b), as a fresh list -/
def splitW (x y : W) (m : Mem) : R (List W) := match x, y with
  | .str a, .str b => if b ≠ [] ∧ b.all (· < 256) = true ∧ a.length ≤ 1000000 then .ok ((TL.spl b 0 [] a).map W.str) m else .bad
  | _, _ => .bad
def lSplit (fo fe : DE) : DL := fun σ m => (fo σ m).bind fun x m1 => match x with
  | .str l => (fe σ m1).bind fun y m2 => splitW (.str l) y m2
  | _ => .bad
theorem strs_R : ∀ {ys : List (List Nat)}, VRs g ρ H (ys.map W.str) ((ys.map Sh.S).map V.str)
  | [] => .nil
  | y :: ys => .cons (.str y) strs_R
theorem SL.ofPE {f : DL} {t : TE} (he : PE X e t)
    (h : ∀ (σ : Loc) (m : Mem) (ρ : List Addr) (H : Hp) (τ : L2.St) (Q : VK), Sim g ρ m H → LR g ρ H σ τ → Out g wx τ ρ H (f σ m) (fun ws m' ρ' H' => ∀ p vs, H p = none → H' p = some (.lst vs) → p ∉ ρ' → VRs g ρ' H' ws vs → Q (.ref p) H') → t τ H Q) : SL g X wx e f := by
  refine ⟨fun pins s σ m ρ H τ Q I S L o => ?_⟩
  refine thn (he.run pins s τ H (fun v H' => ∀ u s', Inv X pins τ H' s' → RelV v u → Q u s') I (h σ m ρ H τ _ S L ?_)) fun u s1 ⟨v, H1, I1, r1, q⟩ => q u s1 I1 r1
  exact o.imp fun ws m' ρ' H' _ _ k p vs h0 hp hn r u s' I' ru => by cases ru; exact k p vs s' I' h0 hp hn r
theorem sl_split {apos pos : Pos} (ho : SE g X wx o fo) (he : SE g X wx e fe) (hs : starEach [e] X.env = [(false, eval e X.env)] := by rfl) (hbase : attributeBase o "split" X.env (eval o X.env) = eval o X.env := by rfl) (hline : (apos.endLine == pos.line) = true := by rfl) :
    SL g X wx (.Call (.Attribute o "split" apos) [e] [] pos) (lSplit fo fe) :=
  SL.ofPE (pe_split ho.pe he.pe hs hbase hline) fun σ m ρ H τ Q S L oo => ⟨σ, m, ρ, S, L, (oo.bind S).imp fun x m1 ρ1 H1 P1 S1 o1 v rv => by
    cases rv with
    | str a => exact ⟨⟨_, rfl⟩, σ, m1, ρ1, S1, L.post S P1, (o1.bind S1).imp fun y m2 ρ2 H2 P2 S2 o2 z rz => by
        unfold splitW at o2
        split at o2
        · rename_i a' b e1
          cases e1
          cases rz
          split at o2
          · rename_i hc
            refine ⟨_, _, rfl, rfl, ?_, by rw [S_len, sizeLine_eq]; omega, fun p hp => ?_⟩
            · rw [S_len]
              have := hc.1
              cases b with
              | nil => exact absurd rfl this
              | cons c r => rfl
            · rw [SX.split_S hc.1 hc.2.1]
              obtain ⟨P3, S3⟩ := S2.junk (u := .lst (((TL.spl b 0 [] a).map Sh.S).map V.str)) hp
              exact o2 _ _ P3 S3 p _ ((P1.then P2 S S1).back S S2 hp) upd_same (fun z => S2.isSm z hp) strs_R
          · exact o2.elim
        · exact o2.elim⟩
    | _ => exact o1.elim⟩
def wRmPre (x y : W) (m : Mem) : R W := match x, y with
  | .str a, .str b => if a.length ≤ 1000000 then .ok (.str (Txt.removeprefix (Sh.S a) (Sh.S b)).cps.toList) m else .bad
  | _, _ => .bad
theorem mr_rmPre : Mr1 g wx (fun x xs H Q => ∃ a b, x = .str a ∧ xs = [.str b] ∧ a.length ≤ sizeLine ∧ Q (.str (Txt.removeprefix a b)) H) wRmPre := by
  intro m ρ H τ x y v z Q S rx ry o
  unfold wRmPre at o
  split at o
  · rename_i a b
    cases rx; cases ry
    split at o
    · rename_i hl
      refine ⟨_, _, rfl, rfl, by rw [S_len]; exact sizeM hl, ?_⟩
      have := Out.ok0 S o (.str _)
      rw [S_of] at this
      exact this
    · exact o.elim
  · exact o.elim
theorem se_rmPre {apos pos : Pos} (ho : SE g X wx o fo) (he : SE g X wx e fe) (hs : starEach [e] X.env = [(false, eval e X.env)] := by rfl) (hbase : attributeBase o "removeprefix" X.env (eval o X.env) = eval o X.env := by rfl) (hline : (apos.endLine == pos.line) = true := by rfl) :
    SE g X wx (.Call (.Attribute o "removeprefix" apos) [e] [] pos) (eM1 wRmPre fo fe) := se_m1 PySem.F.slot_str_removeprefix PySem.F.type_str_removeprefix mt_removeprefix mr_rmPre ho he hs hbase hline
/-- xs.append(v) -/
def wApp (x y : W) (m : Mem) : R W := match x with
  | .ref n => match m[n]? with
    | some (.lst ws) => if ws.length < 1000000 then .ok .non (m.set n (.lst (ws ++ [y]))) else .bad
    | _ => .bad
  | _ => .bad
def isLst (m : Mem) (x : W) : Bool := match x with
  | .ref n => match m[n]? with | some (.lst _) => true | _ => false
  | _ => false
def eApp (fo : DE) (fs : DL) : DE := fun σ m => (fo σ m).bind fun x m1 => if isLst m1 x = true then (fs σ m1).bind fun ys m2 => match ys with | [y] => wApp x y m2 | _ => .bad else .bad
theorem isLst_V {x : W} {v : V} (S : Sim g ρ m H) (h : isLst m x = true) (r : VR g ρ H x v) : ∃ n p ws vs, x = .ref n ∧ v = .ref p ∧ ρ[n]? = some p ∧ m[n]? = some (.lst ws) ∧ H p = some (.lst vs) ∧ VRs g ρ H ws vs := by
  unfold isLst at h
  split at h
  · rename_i n
    split at h
    · rename_i ws hm
      cases r with
      | @ref _ p hp =>
        obtain ⟨vs, h1, rv⟩ := obj_lst S hp hm
        exact ⟨_, _, _, _, rfl, rfl, hp, hm, h1, rv⟩
    · cases h
  · cases h
theorem se_app {fs : DL} {apos pos : Pos} (ho : SE g X wx o fo) (ha : SA g X wx [e] fs) (hbase : attributeBase o "append" X.env (eval o X.env) = eval o X.env := by rfl)
    (hfew : ((backTo pos (starEach (e :: []) X.env)).all (fun x => !x.1) && (backToKw pos (keywordEach [] X.env)).all (fun x => x.1.isSome)
      && decide ((e :: []).length + ([] : List Keyword).length + (if ([] : List Keyword).isEmpty then 0 else 1) < 30)) = true := by rfl)
    (hline : (apos.endLine == pos.line) = true := by rfl) (hs : starEach (e :: []) X.env = (false, eval e X.env) :: starEach [] X.env := by exact star1 rfl) (hplain : (backTo pos (starEach [] X.env)).any (·.1) = false := by rfl) :
    SE g X wx (.Call (.Attribute o "append" apos) [e] [] pos) (eApp fo fs) :=
  SE.ofPE (pe_bm PySem.F.plainAttrs_list PySem.F.slot_list_append PySem.F.type_list_append mt_append ho.pe ha.pa hbase hfew hline hs hplain) fun σ m ρ H τ Q S L oo => ⟨σ, m, ρ, S, L, (oo.bind S).imp fun x m1 ρ1 H1 P1 S1 o1 v rv => by
    split at o1
    · rename_i hx
      obtain ⟨n, p, ws, vs, rfl, rfl, hp, hm, hH, rvs⟩ := isLst_V S1 hx rv
      refine ⟨.inl ⟨rfl, vs, SqL.of hH⟩, σ, m1, ρ1, S1, L.post S P1, (o1.bind S1).imp fun ys m2 ρ2 H2 P2 S2 o2 zs rz => ?_⟩
      split at o2
      · rename_i y
        obtain ⟨z, rfl, rz1⟩ := rz.inv1
        unfold wApp at o2
        simp only at o2
        split at o2
        · rename_i ws2 hm2
          split at o2
          · rename_i hl
            obtain ⟨vs2, h2, rv2⟩ := obj_lst S2 (P2.get hp) hm2
            refine ⟨p, vs2, z, rfl, rfl, h2, by rw [← rv2.length]; exact sizeM' (by omega), ?_⟩
            obtain ⟨P4, S4⟩ := S2.set (u := .lst (vs2 ++ [z])) (o := .lst (ws2 ++ [y])) (P2.get hp) ⟨_, rfl, rv2.append (.cons rz1 .nil)⟩
            exact o2 _ _ P4 S4 _ .non
          · exact o2.elim
        · exact o2.elim
      · exact o2.elim
    · exact o1.elim⟩
end
end Sh

namespace Sh
open PySem PySem.Spec L2
open PyProof.Rows (envOfC)

/-! ### types of values -/
inductive Tc where | bi (n : String) | own (c : String) | xc (c : String)
  deriving DecidableEq
def Tc.val (g : G) : Tc → Value | .bi n => .type n | .own c => .ref (g.cl c) | .xc c => .ref (g.cl c)
def tyc (x : W) (m : Mem) : Option Tc := match x with
  | .non => some (.bi "NoneType")
  | .bl _ => some (.bi "bool")
  | .int _ => some (.bi "int")
  | .str _ => some (.bi "str")
  | .tup _ => some (.bi "tuple")
  | .ref n => match m[n]? with
    | some (.lst _) => some (.bi "list")
    | some (.dK _) => some (.bi "dict")
    | some (.dT _) => some (.bi "dict")
    | some (.ins c _) => some (.own c)
    | some (.exc c _) => some (.xc c)
    | _ => none
  | _ => none
/-- of a class: what isinstance reads -/
structure InsK (K : PySem.W.Frag) (C : Addr) : Prop where
  cl : Cls K C
  at_ : PySem.W.findIn K (.ref C) "__class__" = some (some (.builtin "object.__class__"))
  get : PySem.W.specialIn K (.builtin "object.__class__") "__get__" = some (some (.builtin "getset_descriptor.__get__"))
  tak : PySem.W.takesIn K (.builtin "object.__class__") = some true
  mro : PySem.W.mroIn K C (.type "object") = some true
/-- of an exception's class: what isinstance reads -/
structure XisK (K : PySem.W.Frag) (C : Addr) : Prop where
  cl : (PySem.W.clsIn K C).isSome = true
  ga : PySem.W.findIn K (.ref C) "__getattribute__" = some (some (.builtin "BaseException.__getattribute__"))
  gt : PySem.W.findIn K (.ref C) "__getattr__" = some none
  be : PySem.W.subIn K (.ref C) (.type "BaseException") = some true
  at_ : PySem.W.findIn K (.ref C) "__class__" = some (some (.builtin "object.__class__"))
  get : PySem.W.specialIn K (.builtin "object.__class__") "__get__" = some (some (.builtin "getset_descriptor.__get__"))
  tak : PySem.W.takesIn K (.builtin "object.__class__") = some true
  mro : PySem.W.mroIn K C (.type "object") = some true
  hd : PySem.W.hasDictIn K C = true
section
variable {g : G} {X : Cx} {wx : WX} {τ : L2.St} {ρ ρ' : List Addr} {H H' : Hp} {m m' : Mem} {e a b c o : Expr} {fa fb fc fo fe : DE} {fl : DL} {pos : Pos} {pins : List (Addr × Obj)} {s : Shared}
theorem tyx_of {x : W} {v : V} {t : Tc} (hK : X.K = g.K) (S : Sim g ρ m H) (r : VR g ρ H x v) (e : tyc x m = some t) (hI : ∀ c, t = .own c → InsK X.K (g.cl c)) (hx : ∀ c, t ≠ .xc c) : TyX X.K H v (t.val g) := by
  unfold tyc at e
  split at e
  · cases e; cases r; exact .base .non
  · cases e; cases r; exact .base (.bl _)
  · cases e; cases r; exact .base (.int _)
  · cases e; cases r; exact .base (.str _)
  · cases e
    cases r with
    | tup h rv =>
      rw [← hK] at h
      rcases h with h | ⟨o, its, n, h1, h2, _⟩
      · rcases h with h | ⟨ob, h⟩
        · exact .base (.tup h)
        · exact .fTuple h
      · exact .kTuple h1 h2
  · cases r with
    | @ref n p hp =>
      split at e
      · rename_i ws hm
        cases e
        obtain ⟨vs, h1, _⟩ := obj_lst S hp hm
        exact .base (.lst h1)
      · rename_i kvs hm
        cases e
        obtain ⟨u, h1, vs, e1, _⟩ := S.obj _ p _ hp hm
        subst e1
        exact .base (.dK h1)
      · rename_i kvs hm
        cases e
        obtain ⟨u, h1, vs, e1, _⟩ := S.obj _ p _ hp hm
        subst e1
        exact .base (.dT h1)
      · rename_i c fs hm
        cases e
        obtain ⟨u, h1, dx, gs, e1, _⟩ := S.obj _ p _ hp hm
        subst e1
        have q := hI c rfl
        exact .base (.ins h1 q.cl q.at_ q.get q.tak q.mro)
      · cases e; exact absurd rfl (hx _)
      · cases e
  · cases e
/-- a held exception as the library sees it -/
theorem exc_inst {n : Nat} {a : Addr} {c : String} {fs : List (List Nat × W)} (I : Inv X pins τ H s) (S : Sim g ρ m H) (ha : ρ[n]? = some a) (hm : m[n]? = some (.exc c fs)) :
    ∃ oe od gs, PySem.W.InstAt s.heap a oe (g.cl c) od ∧ FR g ρ H fs gs ∧ ∀ f v, gs.lookup f = some v → ∃ oo u, od = some oo ∧ PySem.W.lookIn f oo = some (some u) ∧ RelV v u := by
  obtain ⟨u, h1, oe, vs, d, gs, e1, e2, e3, e4, hx, rf⟩ := S.obj n a _ ha hm
  subst e1
  have hg : s.heap.get? a = some oe := (show ObjOk X.prog X.w H s.heap a (.frz oe (.own 0)) from I.hok a _ h1).1
  have hno : PySem.W.notCls oe = true := by unfold PySem.W.notCls; rw [e4]
  cases d with
  | none => exact ⟨oe, none, gs, ⟨hg, e2, hno, by rw [e3]; trivial⟩, rf, fun f v hf => by have hx : gs = [] := hx; subst hx; cases hf⟩
  | some dd =>
    have hx : H dd = some (.xd gs) := hx
    obtain ⟨mA, hns, hr⟩ := (show ObjOk X.prog X.w H s.heap dd (.xd gs) from I.hok dd _ hx)
    obtain ⟨od, ho, hl⟩ := lookIn_ns hns
    refine ⟨oe, some od, gs, ⟨hg, e2, hno, by rw [e3]; exact ho⟩, rf, fun f v hf => ?_⟩
    obtain ⟨u, hu, ru⟩ := RelO.some_of (v := v) (o := mA f) (by rw [← hf]; exact hr f)
    exact ⟨od, u, rfl, by rw [hl, hu], ru⟩
theorem kitw_of {x : W} {v : V} {u : Value} {t : Tc} (hK : X.K = g.K) (I : Inv X pins τ H s) (S : Sim g ρ m H) (r : VR g ρ H x v) (ru : RelV v u) (e : tyc x m = some t) (hI : ∀ c, t = .own c → InsK X.K (g.cl c)) (hX : ∀ c, t = .xc c → XisK X.K (g.cl c)) :
    ∃ P : Heap → Prop, PySem.W.KitX X.K u (t.val g) P ∧ P s.heap ∧ u ≠ .builtin "__main__.__loader__#opaque" := by
  by_cases hx : ∃ c, t = .xc c
  · obtain ⟨c, rfl⟩ := hx
    have key : ∃ n fs, x = .ref n ∧ m[n]? = some (.exc c fs) := by
      unfold tyc at e
      split at e <;> first | (cases e; done) | skip
      rename_i n
      split at e <;> first | (cases e; done) | skip
      rename_i c' fs hm
      cases e
      exact ⟨n, fs, rfl, hm⟩
    obtain ⟨n, fs, rfl, hm⟩ := key
    cases r with
    | @ref n a ha =>
      obtain rfl : u = Value.ref a := ru
      obtain ⟨oe, od, gs, J, _⟩ := exc_inst I S ha hm
      have q := hX c rfl
      exact ⟨_, PySem.W.kitx_exc (od := od) (ox := oe) q.cl q.ga q.gt q.be q.at_ q.get q.tak q.mro, J, fun z => nomatch z⟩
  · exact kit_of I ru (tyx_of hK S r e hI fun c z => hx ⟨c, z⟩)

/-! ### isinstance -/
structure IsiK (K : PySem.W.Frag) (g : G) (it : Tc → Tc → Option Bool) : Prop where
  ins : ∀ c d b, it (.own c) d = some b → InsK K (g.cl c)
  exc : ∀ c d b, it (.xc c) d = some b → XisK K (g.cl c)
  one : ∀ t d b, it t d = some b → PySem.W.kitOne K (t.val g) (d.val g) = some b
def clsT (x : W) : Option Tc := match x with | .cls c => some (.own c) | .ty n => some (.bi n) | _ => none
def isi1 (it : Tc → Tc → Option Bool) (x y : W) (m : Mem) : Option Bool := match tyc x m, clsT y with
  | some t, some d => it t d
  | _, _ => none
def bIsi (it : Tc → Tc → Option Bool) (ws : List W) (m : Mem) : R W := match ws with
  | [x, y] => match isi1 it x y m with | some b => .ok (.bl b) m | none => .bad
  | _ => .bad
theorem clsT_val {y : W} {d : Tc} {v : V} {u : Value} (h : clsT y = some d) (r : VR g ρ H y v) (ru : RelV v u) : u = d.val g := by
  unfold clsT at h
  split at h
  · cases h; cases r; exact ru
  · cases h; cases r; exact ru
  · cases h
theorem f_isi {it : Tc → Tc → Option Bool} (hK : X.K = g.K) (hI : IsiK X.K g it) : Fn g X wx (fun us => call (.builtin "isinstance") us) (bIsi it) := by
  refine ⟨fun pins s m ρ H τ xs vs us Q I S rx ru o => ?_⟩
  unfold bIsi at o
  split at o
  · rename_i x y
    obtain ⟨v, z, rfl, rv, rz⟩ := rx.inv2
    split at o
    · rename_i b hb
      unfold isi1 at hb
      split at hb
      · rename_i t d ht hd
        obtain ⟨u1, u2, rfl, r1, r2⟩ := vals2 ru
        obtain rfl := clsT_val hd rz r2
        obtain ⟨P, Z, p, hx⟩ := kitw_of hK I S rv r1 ht (fun c hc => by subst hc; exact hI.ins c d b hb) (fun c hc => by subst hc; exact hI.exc c d b hb)
        exact PySem.W.kia_one Z I.kIn p (hI.one t d b hb) hx fun tk => Out.here o S (.bl b) _ _ (I.tok tk) (.bl b) rfl
      · cases hb
    · exact o.elim
  · exact o.elim

/-! ### == and != by an own __eq__ -/
structure EqK (P : Program) (w : World) (K : PySem.W.Frag) (mg : Str → Option Value) (base : Heap) (g : G) (c : String) (k : Nat) (F : DF) : Prop where
  ex : ∃ (ga : Addr) (fd : FuncData) (ps : List Str), Cls K (g.cl c) ∧ PySem.W.findIn K (.ref (g.cl c)) "__eq__" = some (some (.ref ga)) ∧ PySem.W.isFn K (.ref ga) = true ∧ Binds K fd ps [] ∧ Arity ps.length F ∧ FnG P w K mg base k ga fd ps (spOf g F ps.length)
  ne : PySem.W.findIn K (.ref (g.cl c)) "__ne__" = some (some (.builtin "object.__ne__"))
  mro : PySem.W.mroIn K (g.cl c) (.type "object") = some true
structure EqT (P : Program) (w : World) (K : PySem.W.Frag) (mg : Str → Option Value) (base : Heap) (g : G) (k : Nat) (tbl : String → Option DF) (nf : String → Tc → Bool) : Prop where
  eq : ∀ c F, tbl c = some F → EqK P w K mg base g c k F
  fst : ∀ c t, nf c t = true → PySem.W.notFirst K (g.cl c) (t.val g) = true
  ins : ∀ c d, nf c (.own d) = true → InsK K (g.cl d)
  exc : ∀ c d, nf c (.xc d) = true → XisK K (g.cl d)
/-- what == answers: own __eq__ where x is an instance, else by data -/
def eqB (tbl : String → Option DF) (nf : String → Tc → Bool) (x y : W) (m : Mem) : R W := match insOf m x with
  | some (c, _) => match tbl c, tyc y m with
    | some F, some t => if nf c t = true then (F [x, y] m).nox.bind fun w m1 => match w with | .bl b => .ok (.bl b) m1 | _ => .bad else .bad
    | _, _ => .bad
  | none => wEq0 x y m
def neB (tbl : String → Option DF) (nf : String → Tc → Bool) (x y : W) (m : Mem) : R W := match insOf m x with
  | some (c, _) => match tbl c, tyc y m with
    | some F, some t => if nf c t = true then (F [x, y] m).nox.bind fun w m1 => match w with | .bl b => .ok (.bl (!b)) m1 | _ => .bad else .bad
    | _, _ => .bad
  | none => wNe0 x y m
section
variable {prog : Program} {w : World} {A : Around} {E : Value → Shared → Prop} {K : PySem.W.Frag} {x C f : Addr} {ox : Obj} {od : Option Obj} {b tb : Value}
open Builtin in
theorem ne_K {Q : Value → Shared → Prop} (hu : A.units + 1 < cLine) (KX : K.In s.heap) (I : PySem.W.InstAt s.heap x ox C od) (hb : PySem.W.Looks (model prog w) s.heap (typeOf b) tb) (hn : PySem.W.notFirst K C tb = true)
    (hne : PySem.W.findIn K (.ref C) "__ne__" = some (some (.builtin "object.__ne__"))) (hm : PySem.W.mroIn K C (.type "object") = some true)
    (hs : PySem.W.findIn K (.ref C) "__eq__" = some (some (.ref f))) (hf : PySem.W.isFn K (.ref f) = true)
    (h : wpAny (model prog w) A.in1 (call (.ref f) [.ref x, b]) (fun v s' => ∃ k, v = .bool k ∧ Q (.bool (!k)) s') E s) : wpAny (model prog w) A (richCompare .NotEq (.ref x) b) Q E s := by
  have entry : ∀ {R : Fin → Shared → Prop} {A : Around}, A.units < cLine → wpAny (model prog w) A (call (.ref f) [.ref x, b]) (fun v s' => ∃ k, v = .bool k ∧ R (.done (.ret (.bool (!k)))) s') E s → wpAny (model prog w) A (Builtin.«object.__ne__» ⟨[.ref x, b], []⟩) R E s := by
    intro R A hu h
    obtain ⟨hh, gg, dd, tt, oo⟩ := s
    unfold Builtin.«object.__ne__»
    refine wpAny_bind (wpAny_pure ?_)
    refine wpAny_bind (wpAny_cRoomFor hu ?_)
    refine wpAny_bind (m := callSpecialIfBound? (.ref x) (Str.ofString "__eq__") [b]) (PySem.W.ifBound_K KX I hs hf (wpAny_mono h (fun v s' hv => ?_) fun _ _ e => e))
    obtain ⟨k, rfl, hq⟩ := hv
    repeat (first | exact hq | exact wpAny_pure hq | exact wpAny_truthy_bool hq | (refine wpAny_bind (m := truthy (.bool _)) (wpAny_truthy_bool ?_)) | wp_step)
  have one : wpAny (model prog w) A (tryCompare (.ref x) (cmpInfo .NotEq).2.1 b) (fun r s' => ∃ v, r = some v ∧ Q v s') E s := by
    unfold tryCompare
    refine wpAny_bind ?_
    show wpAny (model prog w) A (callSpecialIfBound? (.ref x) "__ne__" [b]) _ E s
    simp only [callSpecialIfBound?, bindSpecialIfBound?]
    refine wpAny_holding (wpAny_bind (wpAny_bind (wpAny_bind (I.type.here ((PySem.W.looks_findIn KX hne).here ?_)))))
    have hcall : wpAny (model prog w) A (call (.builtin "object.__ne__") ([.ref x] ++ [b])) (fun v s' => ∃ k, v = .bool (!k) ∧ Q (.bool (!k)) s') E s := by
      refine wpAny_call (codeAny_call_builtin F.cmp_object.ne.plain F.cmpEntry_ne (PySem.W.check_slot F.cmpKind_ne F.cmpSplit_ne ?_ (F.cmpArgs_ne _ _) ?_))
      · exact (I.type).andThen (PySem.W.looks_subIn KX hm)
      · refine entry (A := A.in1) (by show A.units + 1 < cLine; exact hu) (wpAny_mono h (fun v s' hv => ?_) fun _ _ e => e)
        obtain ⟨k, rfl, hq⟩ := hv
        exact ⟨k, rfl, k, rfl, hq⟩
    have fin : wpAny (model prog w) A (call (.builtin "object.__ne__") ([.ref x] ++ [b]) >>= fun v => pure (some v)) (fun r s' => ∃ k, r = some (.bool (!k)) ∧ Q (.bool (!k)) s') E s :=
      wpAny_bind (wpAny_mono hcall (fun v s' ⟨k, e, h'⟩ => wpAny_pure ⟨k, by rw [e], h'⟩) fun _ _ h' => h')
    refine wpAny_bind (wpAny_askSetting (wpAny_ite ?_))
    simp only [F.cmp_object.ne.bind]
    split
    · exact wpAny_bind (wpAny_pure (wpAny_pure (wpAny_mono fin (fun r s' ⟨k, e, h'⟩ => by subst e; exact wpAny_pure ⟨_, rfl, h'⟩) fun _ _ e => e)))
    · exact wpAny_tryCatch (wpAny_bind (wpAny_pure (wpAny_pure (wpAny_mono fin (fun r s' ⟨k, e, h'⟩ => by subst e; exact wpAny_pure ⟨_, rfl, h'⟩) fun _ _ e => e))))
  unfold richCompare
  simp only [oneThing_ref]
  refine wpAny_holding (wpAny_bind (wpAny_cRoomFor (by omega) ?_))
  refine wpAny_bind (I.type.here (wpAny_bind (hb.here ?_)))
  split
  · rename_i q
    have e : PySem.W.subIn K tb (.ref C) = some false := by
      rcases Bool.or_eq_true_iff.mp hn with e | e
      · rw [beq_iff_eq.mp e] at q; simp at q
      · exact beq_iff_eq.mp e
    refine wpAny_bind ((PySem.W.looks_subIn KX e).here ?_)
    simp only [Bool.false_eq_true, if_false]
    refine wpAny_bind (wpAny_mono one (fun r s' z => ?_) fun _ _ e => e)
    obtain ⟨v, rfl, hq⟩ := z
    exact wpAny_pure hq
  · refine wpAny_bind (wpAny_pure ?_)
    simp only [Bool.false_eq_true, if_false]
    refine wpAny_bind (wpAny_mono one (fun r s' z => ?_) fun _ _ e => e)
    obtain ⟨v, rfl, hq⟩ := z
    exact wpAny_pure hq
end
theorem eq_run {k : Nat} {F : DF} {ga : Addr} {fd : FuncData} {ps : List Str} {A' : Around} {x y : W} {v z : V} {u t : Value} {Q : Value → Shared → Prop} {E : Value → Shared → Prop} {k' : W → Mem → R W} (FO : FnG X.prog X.w X.K X.mg X.base k ga fd ps (spOf g F ps.length)) (hb : Binds X.K fd ps []) (ar : Arity ps.length F)
    (hr : Rm k A') (e0 : Env0 X.prog X.w X.K X.mg X.base A' X.stack s H) (I : Inv X pins τ H s) (S : Sim g ρ m H) (rx : VR g ρ H x v) (ru : RelV v u) (ry : VR g ρ H y z) (rt : RelV z t)
    (o : Out g wx τ ρ H ((F [x, y] m).nox.bind fun w m1 => match w with | .bl b => k' (.bl b) m1 | _ => .bad) (fun w m' ρ' H' => ∀ v u s', Inv X pins τ H' s' → VR g ρ' H' w v → RelV v u → Q u s')) :
    wpAny (model X.prog X.w) A' (call (.ref ga) [u, t]) (fun r s' => ∃ b ρ1 m1 H1, r = .bool b ∧ Inv X pins τ H1 s' ∧ Sim g ρ1 m1 H1 ∧ Out g wx τ ρ1 H1 (k' (.bl b) m1) (fun w m' ρ' H' => ∀ v u s', Inv X pins τ H' s' → VR g ρ' H' w v → RelV v u → Q u s')) E s := by
  have hl : [x, y].length = ps.length := by
    rcases ar.or [x, y] m with h | h
    · exact h
    · rw [h] at o; exact o.elim
  have hl2 : ps.length = 2 := hl.symm
  have hbd := hb s [u, t] I.kIn (by rw [hl2]; rfl)
  rw [List.append_nil] at hbd
  refine wpAny_call (codeAny_mono (FO.run A' X.stack s H ⟨[u, t], []⟩ [u, t] [v, z] (fun v' H' => ∃ b ρ1 m1, v' = .bl b ∧ Sim g ρ1 m1 H' ∧ Out g wx τ ρ1 H' (k' (.bl b) m1) (fun w m' ρ' H' => ∀ v u s', Inv X pins τ H' s' → VR g ρ' H' w v → RelV v u → Q u s')) (fun _ _ _ => False) hr e0 hbd (.cons ru (.cons rt .nil)) ⟨by rw [hl2]; rfl, [x, y], m, ρ, S, .cons rx (.cons ry .nil), ?_⟩) fun r s' hq => ?_)
  · cases hF : F [x, y] m with
    | ok w m1 =>
      rw [hF] at o
      cases w with
      | bl b =>
        intro ρ' H' v' P' S' rv
        cases rv
        exact ⟨b, ρ', m1, rfl, S', Out.from (r := k' (.bl b) m1) o P' S S'⟩
      | _ => exact o.elim
    | exc c fs m1 => rw [hF] at o; exact o.elim
    | bad => rw [hF] at o; exact o.elim
  · cases r with
    | error er =>
      obtain ⟨_, _, _, _, _, _, _, _, _, _, _, _, z⟩ := hq
      exact z.elim
    | ok fl =>
      cases fl with
      | ret u' =>
        obtain ⟨v', H', I3, rv, b, ρ1, m1, e1, S1, o1⟩ := I.after hq
        subst e1
        exact ⟨b, ρ1, m1, H', rv, I3, S1, o1⟩
      | next => exact False.elim hq
      | brk => exact False.elim hq
      | cont => exact False.elim hq
theorem f_eq {k : Nat} {tbl : String → Option DF} {nf : String → Tc → Bool} (hK : X.K = g.K) (hr : Rm k X.A) (T : EqT X.prog X.w X.K X.mg X.base g k tbl nf) : F2 g X wx (compareOp .Eq) (eqB tbl nf) := by
  refine ⟨fun pins s m ρ H τ x y v z u t Q I S rx ru ry rt o => ?_⟩
  unfold eqB at o
  split at o
  · rename_i c fs hins
    split at o
    · rename_i F t' hF ht
      split at o
      · rename_i hnf
        obtain ⟨n, rfl, hm⟩ := insOf_some hins
        cases rx with
        | @ref _ p hp =>
          obtain rfl : u = Value.ref p := ru
          obtain ⟨u1, h1, dx, gs, e1, rf⟩ := S.obj n p _ hp hm
          subst e1
          obtain ⟨⟨ga, fd, ps, cl, hs, hf, hb, ar, FO⟩, hne, hmro⟩ := T.eq c F hF
          obtain ⟨mA, J, _⟩ := ins_get I.hok h1
          obtain ⟨od, J, _⟩ := J.look
          obtain ⟨mm, hF'⟩ := I.fr
          obtain ⟨P, Z, pz, _⟩ := kitw_of hK I S ry rt ht (fun d hd => by subst hd; exact T.ins c d hnf) (fun d hd => by subst hd; exact T.exc c d hnf)
          refine PySem.W.cmp_K (op := .Eq) (tb := t'.val g) hr.r.units0 hF' I.ok.mod.kin J (Z.ty _ _ I.kIn pz) (T.fst c t' hnf) hs hf ?_
          refine wpAny_mono (eq_run (k' := fun w m1 => .ok w m1) (E := X.xe) FO hb ar hr I.env0 I S (.ref hp) rfl ry rt o) (fun r s' ⟨b, ρ1, m1, H1, e, I1, S1, o1⟩ => ?_) fun _ _ e => e
          subst e
          exact Out.here o1 S1 (.bl b) _ s' I1 (.bl b) rfl
      · exact o.elim
    · exact o.elim
  · exact (f_eq0 hK hr).run pins s m ρ H τ x y v z u t Q I S rx ru ry rt o
theorem f_ne {k : Nat} {tbl : String → Option DF} {nf : String → Tc → Bool} (hK : X.K = g.K) (hr : Rm (k + 1) X.A) (T : EqT X.prog X.w X.K X.mg X.base g k tbl nf) : F2 g X wx (compareOp .NotEq) (neB tbl nf) := by
  refine ⟨fun pins s m ρ H τ x y v z u t Q I S rx ru ry rt o => ?_⟩
  unfold neB at o
  split at o
  · rename_i c fs hins
    split at o
    · rename_i F t' hF ht
      split at o
      · rename_i hnf
        obtain ⟨n, rfl, hm⟩ := insOf_some hins
        cases rx with
        | @ref _ p hp =>
          obtain rfl : u = Value.ref p := ru
          obtain ⟨u1, h1, dx, gs, e1, rf⟩ := S.obj n p _ hp hm
          subst e1
          obtain ⟨⟨ga, fd, ps, cl, hs, hf, hb, ar, FO⟩, hne, hmro⟩ := T.eq c F hF
          obtain ⟨mA, J, _⟩ := ins_get I.hok h1
          obtain ⟨od, J, _⟩ := J.look
          obtain ⟨P, Z, pz, _⟩ := kitw_of hK I S ry rt ht (fun d hd => by subst hd; exact T.ins c d hnf) (fun d hd => by subst hd; exact T.exc c d hnf)
          show wpAny _ _ (richCompare .NotEq (.ref p) t) _ _ s
          refine ne_K (by have := hr.r.units; omega) I.kIn J (Z.ty _ _ I.kIn pz) (T.fst c t' hnf) hne hmro hs hf ?_
          refine wpAny_mono (eq_run (wx := wx) (Q := Q) (k' := fun w m1 => match w with | .bl b => .ok (.bl (!b)) m1 | _ => .bad) (E := X.xe) FO hb ar hr.in1 I.env0.in1 I S (.ref hp) rfl ry rt ?_) (fun r s' ⟨b, ρ1, m1, H1, e, I1, S1, o1⟩ => ?_) fun _ _ e => e
          · have e : ((F [.ref n, y] m).nox.bind fun w m1 => match w with | .bl b => (match W.bl b with | .bl b => R.ok (W.bl (!b)) m1 | _ => .bad) | _ => .bad) = ((F [.ref n, y] m).nox.bind fun w m1 => match w with | .bl b => .ok (.bl (!b)) m1 | _ => .bad) := rfl
            exact o
          · subst e
            exact ⟨b, rfl, Out.here o1 S1 (.bl (!b)) _ s' I1 (.bl (!b)) rfl⟩
      · exact o.elim
    · exact o.elim
  · exact (f_ne0 hK hr).run pins s m ρ H τ x y v z u t Q I S rx ru ry rt o

/-! ### C.x, C.m(..) of a class -/
structure CConK (K : PySem.W.Frag) (g : G) (c : String) (f : Str) (x : W) : Prop where
  rd : PySem.W.readsIn K (g.cl c) (.type "type") = true
  ex : ∃ v u, PySem.W.findCls K (.ref (g.cl c)) (.type "type") f = some (.val u) ∧ PySem.W.handedIn u = true ∧ RelV v u ∧ ∀ ρ H, VR g ρ H x v
theorem se_ccon {o : Expr} {c : String} {f : Str} {x : W} {pos : Pos} (ho : SE g X wx o (eC (.cls c))) (C : CConK X.K g c f x) (hb : attributeBase o f X.env (eval o X.env) = eval o X.env := by rfl) : SE g X wx (.Attribute o f pos) (eC x) := by
  refine ⟨fun pins s σ m ρ H τ Q I S L oo => ?_⟩
  refine attr_of hb (ho.run pins s σ m ρ H τ _ I S L (fun ρ1 H1 P1 S1 v u s1 I1 rv ru => ?_))
  cases rv
  cases ru
  obtain ⟨v, u, hf, hh, r, q⟩ := C.ex
  exact PySem.W.cls_value I1.kIn C.rd hf hh (oo ρ1 H1 P1 S1 v u _ (I1.tok _) (q _ _) r)
structure CStK (P : Program) (w : World) (K : PySem.W.Frag) (mg : Str → Option Value) (base : Heap) (g : G) (c : String) (f : Str) (k : Nat) (F : DF) : Prop where
  rd : PySem.W.readsIn K (g.cl c) (.type "type") = true
  ga : PySem.W.specialIn K (.ref (g.cl c)) "__getattribute__" = some (some (.builtin "type.__getattribute__"))
  ex : ∃ (p fa : Addr) (rest : List Value) (fd : FuncData) (ps : List Str), PySem.W.findCls K (.ref (g.cl c)) (.type "type") f = some (.get (.builtin "staticmethod.__get__") (.ref p) .none (.ref (g.cl c))) ∧ PySem.W.recIn K p "staticmethod" = some (.ref fa :: rest) ∧
    PySem.W.keepIn K (.ref fa) = true ∧ Binds K fd ps [] ∧ Arity ps.length F ∧ FnG P w K mg base k fa fd ps (spOf g F ps.length)
theorem se_cstat {o : Expr} {c : String} {f : Str} {k : Nat} {F : DF} {es : List Expr} {fs : DL} {pos apos : Pos} {pl : Sem Bool} (tk : Takes X wx) (ho : SE g X wx o (eC (.cls c))) (C : CStK X.prog X.w X.K X.mg X.base g c f k F) (hr : Rm k X.A) (ha : SA g X wx (e :: es) fs)
    (hst : starEach (e :: es) X.env = (false, eval e X.env) :: starEach es X.env := by exact star1 rfl) (hpl : (backTo pos (starEach es X.env)).any (·.1) = false := by exact plain_ns rfl)
    (hev : eval (.Call (.Attribute o f apos) (e :: es) [] pos) X.env = (do
      let ov ← eval o X.env
      standAt apos.atName
      let (f, first) ← holding [ov] (getMethod ov f pl)
      callWith pos f first (backTo pos (starEach (e :: es) X.env)) (backToKw pos (keywordEach [] X.env))) := by rfl) : SE g X wx (.Call (.Attribute o f apos) (e :: es) [] pos) (eCall F fs) := by
  refine ⟨fun pins s σ m ρ H τ Q I S L oo => ?_⟩
  refine PySem.W.methodCall_KW (pl := pl) (ho.run pins s σ m ρ H τ _ I S L (fun ρ1 H1 P1 S1 v u s1 I1 rv ru => ?_)) hev
  cases rv
  cases ru
  obtain ⟨p, fa, rest, fd, ps, hf, hp, hk, hb, ar, FO⟩ := C.ex
  refine PySem.W.method_cls I1.kIn C.ga (PySem.W.cls_bind I1.kIn C.rd hf (wpAny_call (PySem.W.sm_get I1.kIn hp (PySem.W.handed_on rfl ?_))))
  have I2 := I1.tok (s1.toks + 1)
  refine PySem.W.callWith_K (first := []) (h₀ := X.base) I.ok.mod.kin hk (ha.run pos pins _ σ m ρ1 H1 τ _ I2 S1 (L.post S P1) (((oo.from P1 S S1).bind S1).imp fun ws m2 ρ2 H2 P2 S2 o2 vs us s2 I2 rvs rus => ⟨I2.kIn, ?_⟩)) hst hpl
  exact run_def tk FO hr hb (ar.or ws m2) I2 S2 rvs rus o2
end
end Sh

namespace Sh
open PySem PySem.Spec L2
open PyProof.Rows (envOfC)

/-! ### statements that the law never reaches; a try that runs through -/
def sBad : DS := fun _ _ => .bad
def sTry (f : DS) : DS := fun σ m => match f σ m with
  | .exc _ _ _ _ => .bad
  | r => r
section
variable {g : G} {X : Cx} {wx : WX} {τ : L2.St} {ρ ρ' : List Addr} {H H' : Hp} {m m' : Mem} {pos : Pos}
theorem ss_bad {st : Stmt} : SS g X wx st sBad := PS.conv ps_never fun D τ H ⟨σ, m, ρ, S, L, o⟩ => o
theorem ss_try {body : List Stmt} {h0 : ExceptHandler} {hs : List ExceptHandler} {f : DS} (hb : SSs g X.nox wx0 body f) : SS g X wx (.Try body (h0 :: hs) [] [] pos) (sTry f) :=
  PS.conv (ps_try_thru0 hb) fun D τ H ⟨σ, m, ρ, S, L, o⟩ => ⟨σ, m, ρ, S, L, by
    unfold sTry at o
    cases hr : f σ m with
    | exc c fs σ' m' => rw [hr] at o; exact o.elim
    | nx σ' m' => rw [hr] at o; exact o
    | rt w m' => rw [hr] at o; exact o
    | bk σ' m' => rw [hr] at o; exact o
    | ct σ' m' => rw [hr] at o; exact o
    | bad => rw [hr] at o; exact o⟩
end
def visB (sc : Scope) (x : Str) : Bool := match sc.names.lookup x with
  | some .local => true
  | some .cell => true
  | some .free => true
  | _ => false
theorem vis_of {sc : Scope} {x : Str} (h : visB sc x = true) : Vis sc x := by
  unfold visB at h
  split at h
  · rename_i q; exact .inl q
  · rename_i q; exact .inr (.inl q)
  · rename_i q; exact .inr (.inr q)
  · cases h
def locB (sc : Scope) (x : Str) : Bool := match sc.names.lookup x with
  | some .local => true
  | some .cell => true
  | _ => false
theorem loc_of {sc : Scope} {x : Str} (h : locB sc x = true) : L2.Loc sc x := by
  unfold locB at h
  split at h
  · rename_i q; exact .inl q
  · rename_i q; exact .inr q
  · cases h

/-! ### defs as they stand in the written part -/
structure FunAt (K : PySem.W.Frag) (mg : Str → Option Value) (x : Str) (st : Stmt) (ps : List Str) : Prop where
  ex : ∃ (f : Addr) (fd : FuncData), mg x = some (.ref f) ∧ Fun K x x st f fd ∧ Binds K fd ps []
section
variable {P : Program} {w : World} {K : PySem.W.Frag} {mg : Str → Option Value} {base : Heap} {g : G}
theorem FunAt.mk' {x : Str} {st : Stmt} {ps : List Str} {f : Addr} {oc : Value} {od an : Option Addr} {osl : Array (Option Value)} {kV doc pm cdv ct : Value} (hm : mg x = some (.ref f))
    (l : K.lookup f = some ⟨oc, od, .func (PySem.W.fnOf x x (defArgs st) (defBody st) (defScope st) .none kV doc pm an cdv ct), osl⟩) (c : PySem.W.codeIn K cdv x = true) (k : PySem.W.keepIn K (.ref f) = true)
    (hb : ∀ (kV doc pm : Value) (an : Option Addr) (cdv ct : Value) (us : List Value), us.length = ps.length → bindArgs (PySem.W.fnOf x x (defArgs st) (defBody st) (defScope st) .none kV doc pm an cdv ct) ⟨us, []⟩ = pure (ps.zip us)) : FunAt K mg x st ps :=
  ⟨f, _, hm, fun_mk l c k, (fun_mk (st := st) l c k).binds hb⟩
theorem def_of {x : Str} {st : Stmt} {N ps : List Str} {k : Nat} {b : DS} (A : FunAt K mg x st ps) (S : FnScope N ps (defScope st))
    (hb : ∀ (f : Addr) (cdv : Value) (A : Around) (outer : List Env) (s : Shared) (H : Hp) (E : XK), Rm k (A.deeper (envOfC x (defScope st) s.heap.objs.size f cdv)) →
      Takes (cxOf (CX P w) P w K mg base N x (defScope st) f cdv A outer s H E) (fun cls d _ H => E cls d H) →
      PassesOwn (model P w) (A.deeper (envOfC x (defScope st) s.heap.objs.size f cdv)) (envOfC x (defScope st) s.heap.objs.size f cdv) (cxOf (CX P w) P w K mg base N x (defScope st) f cdv A outer s H E).xe →
      SSs g (cxOf (CX P w) P w K mg base N x (defScope st) f cdv A outer s H E) (fun cls d _ H => E cls d H) (defBody st) b) :
    Def P w K mg base g x (k + 1) ps (defn ps.length N.length b) := by
  obtain ⟨f, fd, hm, F, hbd⟩ := A.ex
  exact ⟨f, fd, hm, F.kp, hbd, fn_ok F S (hb f)⟩
/-- a def at an address: a method, a getter -/
structure FunIn (K : PySem.W.Frag) (x qual : Str) (st : Stmt) (ps : List Str) (f : Addr) : Prop where
  ex : ∃ fd : FuncData, Fun K x qual st f fd ∧ Binds K fd ps []
theorem FunIn.mk' {x qual : Str} {st : Stmt} {ps : List Str} {f : Addr} {oc : Value} {od an : Option Addr} {osl : Array (Option Value)} {kV doc pm cdv ct : Value}
    (l : K.lookup f = some ⟨oc, od, .func (PySem.W.fnOf x qual (defArgs st) (defBody st) (defScope st) .none kV doc pm an cdv ct), osl⟩) (c : PySem.W.codeIn K cdv qual = true) (k : PySem.W.keepIn K (.ref f) = true)
    (hb : ∀ (kV doc pm : Value) (an : Option Addr) (cdv ct : Value) (us : List Value), us.length = ps.length → bindArgs (PySem.W.fnOf x qual (defArgs st) (defBody st) (defScope st) .none kV doc pm an cdv ct) ⟨us, []⟩ = pure (ps.zip us)) : FunIn K x qual st ps f :=
  ⟨_, fun_mk l c k, (fun_mk (st := st) l c k).binds hb⟩
/-- its promise -/
structure DefIn (P : Program) (w : World) (K : PySem.W.Frag) (mg : Str → Option Value) (base : Heap) (g : G) (f : Addr) (k : Nat) (ps : List Str) (F : DF) : Prop where
  ex : ∃ fd : FuncData, Binds K fd ps [] ∧ FnG P w K mg base k f fd ps (spOf g F ps.length)
theorem defIn_of {x qual : Str} {st : Stmt} {N ps : List Str} {k : Nat} {b : DS} {f : Addr} (A : FunIn K x qual st ps f) (S : FnScope N ps (defScope st))
    (hb : ∀ (cdv : Value) (A : Around) (outer : List Env) (s : Shared) (H : Hp) (E : XK), Rm k (A.deeper (envOfC qual (defScope st) s.heap.objs.size f cdv)) →
      Takes (cxOf (CX P w) P w K mg base N qual (defScope st) f cdv A outer s H E) (fun cls d _ H => E cls d H) →
      PassesOwn (model P w) (A.deeper (envOfC qual (defScope st) s.heap.objs.size f cdv)) (envOfC qual (defScope st) s.heap.objs.size f cdv) (cxOf (CX P w) P w K mg base N qual (defScope st) f cdv A outer s H E).xe →
      SSs g (cxOf (CX P w) P w K mg base N qual (defScope st) f cdv A outer s H E) (fun cls d _ H => E cls d H) (defBody st) b) :
    DefIn P w K mg base g f (k + 1) ps (defn ps.length N.length b) := by
  obtain ⟨fd, F, hbd⟩ := A.ex
  exact ⟨fd, hbd, fn_ok F S hb⟩

theorem DefIn.mono {f : Addr} {j k : Nat} {ps : List Str} {F : DF} (D : DefIn P w K mg base g f j ps F) (h : j ≤ k) : DefIn P w K mg base g f k ps F := by
  obtain ⟨fd, hb, FO⟩ := D.ex
  exact ⟨fd, hb, FO.mono h⟩
theorem attP {f : List Nat} {c : String} {k : Nat} {p ga : Addr} {F : DF} (cl : Cls K (g.cl c)) (hp : PropOf K (g.cl c) (Sh.S f) p ga) (D : DefIn P w K mg base g ga k ["self"] F) : AttK P w K mg base g f c k (some (.inl F)) := by
  obtain ⟨fd, hb, FO⟩ := D.ex
  exact .prop cl hp hb FO
theorem makeK {x : Str} {c : String} {k : Nat} {F : DF} {fi : Addr} {ps : List Str} (hm : mg x = some (.ref (g.cl c))) (M : Mk K (g.cl c) fi) (ar : Arity ps.length F) (D : DefIn P w K mg base g fi k ps F) : MakeK P w K mg base g x c k F := by
  obtain ⟨fd, hb, FO⟩ := D.ex
  exact ⟨fi, fd, ps, hm, M, hb, ar, FO⟩
theorem eqK {c : String} {k : Nat} {F : DF} {ga : Addr} {ps : List Str} (cl : Cls K (g.cl c)) (h1 : PySem.W.findIn K (.ref (g.cl c)) "__eq__" = some (some (.ref ga))) (h2 : PySem.W.isFn K (.ref ga) = true)
    (ne : PySem.W.findIn K (.ref (g.cl c)) "__ne__" = some (some (.builtin "object.__ne__"))) (mro : PySem.W.mroIn K (g.cl c) (.type "object") = some true) (ar : Arity ps.length F) (D : DefIn P w K mg base g ga k ps F) : EqK P w K mg base g c k F := by
  obtain ⟨fd, hb, FO⟩ := D.ex
  exact ⟨⟨ga, fd, ps, cl, h1, h2, hb, ar, FO⟩, ne, mro⟩
theorem cstK {c : String} {f : Str} {k : Nat} {F : DF} {p fa : Addr} {rest : List Value} {ps : List Str} (rd : PySem.W.readsIn K (g.cl c) (.type "type") = true) (ga : PySem.W.specialIn K (.ref (g.cl c)) "__getattribute__" = some (some (.builtin "type.__getattribute__")))
    (h1 : PySem.W.findCls K (.ref (g.cl c)) (.type "type") f = some (.get (.builtin "staticmethod.__get__") (.ref p) .none (.ref (g.cl c)))) (h2 : PySem.W.recIn K p "staticmethod" = some (.ref fa :: rest)) (h3 : PySem.W.keepIn K (.ref fa) = true)
    (ar : Arity ps.length F) (D : DefIn P w K mg base g fa k ps F) : CStK P w K mg base g c f k F := by
  obtain ⟨fd, hb, FO⟩ := D.ex
  exact ⟨rd, ga, p, fa, rest, fd, ps, h1, h2, h3, hb, ar, FO⟩
end

/-! ### the law's own head -/
section
variable {P : Program} {w : World} {K : PySem.W.Frag} {mg mb : Str → Option Value} {fa a : Addr} {vs : List Value} {ns : List Int} {s1 : Shared}
/-- the script among the tracked things: nothing, or one list that nobody writes -/
def scr (K : PySem.W.Frag) (a : Addr) (vs : List Value) (ns : List Int) : Hp := fun b => match K.lookup a with
  | some _ => none
  | none => if b = a then some (.frz { cls := .type "list", data := .seq vs.toArray } (.lst (ns.map V.int))) else none
theorem scr_k {o : Obj} (h : K.lookup a = some o) : scr K a vs ns = fun _ => none := by
  funext b; unfold scr; rw [h]
theorem scr_n (h : K.lookup a = none) : scr K a vs ns = fun b => if b = a then some (.frz { cls := .type "list", data := .seq vs.toArray } (.lst (ns.map V.int))) else none := by
  funext b; unfold scr; rw [h]
theorem scr_only {b : Addr} {u : HO} (h : scr K a vs ns b = some u) : b = a ∧ K.lookup a = none ∧ u = .frz { cls := .type "list", data := .seq vs.toArray } (.lst (ns.map V.int)) := by
  cases q : K.lookup a with
  | some o => rw [scr_k q] at h; cases h
  | none =>
    rw [scr_n q] at h
    by_cases e : b = a
    · have h' := (if_pos e).symm.trans h; cases h'; exact ⟨e, rfl, rfl⟩
    · have h' := (if_neg e).symm.trans h; cases h'
theorem scr_seq (KX : K.In s1.heap) (ha : s1.heap.get? a = some { cls := .type "list", data := .seq vs.toArray }) (hi : PyProof.Rows.IntsAre vs ns) (hl : ns.length ≤ sizeLine) : SqF K (scr K a vs ns) a (ns.map V.int) := by
  cases q : K.lookup a with
  | some o =>
    have e := KX a o q
    rw [ha] at e
    cases e
    exact .inr ⟨_, vs.toArray, 0, q, rfl, rfl, rfl, by rw [List.size_toArray, hi.length]; simpa using hl, by simpa using vals_ints hi⟩
  | none => exact .inl ⟨_, by rw [scr_n q]; exact if_pos rfl⟩
theorem scr_ok (ha : s1.heap.get? a = some { cls := .type "list", data := .seq vs.toArray }) (hi : PyProof.Rows.IntsAre vs ns) (hl : ns.length ≤ sizeLine) : HOk P w (scr K a vs ns) s1.heap := fun b u h => by
  obtain ⟨rfl, _, rfl⟩ := scr_only h
  exact ⟨ha, by rw [List.length_map]; exact hl, vs, _, vals_ints hi, ha⟩
theorem scr_free {b : Addr} {o : Obj} (KX : K.In s1.heap) (ha : s1.heap.get? a = some { cls := .type "list", data := .seq vs.toArray }) (h : K.lookup b = some o ∨ (s1.heap.get? b = some o ∧ ∃ es ep, o.data = .dict es ep)) : scr K a vs ns b = none := by
  cases q : scr K a vs ns b with
  | none => rfl
  | some u =>
    obtain ⟨rfl, h1, _⟩ := scr_only q
    rcases h with h | ⟨h, es, ep, d⟩
    · rw [h1] at h; cases h
    · rw [ha] at h; cases h; cases d
theorem script_call {g : G} {k : Nat} {fd : FuncData} {x : Str} {F : DF} {n : Nat} (hK : g.K = K) (KX : K.In s1.heap) (hns : s1.heap.Ns mainGlobals mg) (hbl : s1.heap.Ns builtinsNs mb) (hbb : ∀ x : Str, x ≠ "__name__" → mb x = bootBuiltins x) (hlim : s1.heap.NoLimit) (hg : s1.gens = #[])
    (ha : s1.heap.get? a = some { cls := .type "list", data := .seq vs.toArray }) (hi : PyProof.Rows.IntsAre vs ns) (hl : ns.length ≤ sizeLine) (hr : Room k callerA)
    (hsy : ∃ mm, s1.heap.Ns sysModules mm) (FO : ∀ base : Heap, Sys base → K.In base → base.Ns mainGlobals mg → FnG P w K mg base k fa fd [x] (spOf g F 1)) (hbind : ∀ (s : Shared) (u : Value), BindsTo s fd ⟨[u], []⟩ [(x, u)])
    (hF : ∃ m, F [.frz (ns.map W.int)] [] = .ok (.bl true) m) :
    codeAny (model P w) callerA (.call (.ref fa) ⟨[.ref a], []⟩) (fun r s' => r = .ok (.ret (.bool true)) ∧ OldK s1.heap s'.heap ∧ s'.os = s1.os ∧ PyProof.Rows.AllBare s'.gens) s1 := by
  have names : ∀ {b : Addr} {mm : Str → Option Value}, s1.heap.Ns b mm → (hidT s1.heap (scr K a vs ns)).Ns b mm := by
    rintro b mm ⟨o, es, ep, e, d, r⟩
    exact ⟨o, es, ep, hidT_get e (scr_free KX ha (.inr ⟨e, es, ep, d⟩)), d, r⟩
  have KB : K.In (hidT s1.heap (scr K a vs ns)) := fun b o e => hidT_get (KX b o e) (scr_free KX ha (.inl e))
  obtain ⟨mc, l1, l2⟩ := hlim
  have E0 : Env0 P w K mg (hidT s1.heap (scr K a vs ns)) callerA [] s1 (scr K a vs ns) := {
    frames := rfl
    mod := ⟨KB, names hns, ⟨mb, names hbl, hbb⟩, ⟨mc, names l1, l2⟩⟩
    bs := fun b o e => of_hidT e
    bsz := Nat.le_of_eq (hidT_size _ _)
    funs := trivial
    frf := fun b hb => by cases hb
    hok := scr_ok ha hi hl
    bare := .of_eq hg }
  obtain ⟨m, hm⟩ := hF
  have S0 : Sim g [] [] (scr K a vs ns) := ⟨rfl, .nil, fun i b o h => by simp at h⟩
  have hints : ∀ (l : List Int), VRs g [] (scr K a vs ns) (l.map W.int) (l.map V.int) := fun l => by
    induction l with
    | nil => exact .nil
    | cons i l ih => exact .cons (.int i) ih
  have promise : spOf g F 1 [.ref a] (scr K a vs ns) (fun v _ => v = .bl true) (fun _ _ _ => False) := by
    refine ⟨rfl, [.frz (ns.map W.int)], [], [], S0, .cons (.frz (by rw [hK]; exact scr_seq KX ha hi hl) (hints ns)) .nil, ?_⟩
    rw [hm]
    exact fun ρ' H' v _ _ r => by cases r; rfl
  refine codeAny_mono ((FO _ ⟨by
    obtain ⟨mm, hm⟩ := hsy
    obtain ⟨o, _, _, e, _⟩ := names hm
    rw [e]; exact fun z => nomatch z⟩ KB (names hns)).run callerA [] s1 _ ⟨[.ref a], []⟩ [.ref a] [.ref a] _ _ (.caller hr) E0 (hbind s1 (.ref a)) (.cons rfl .nil) promise) fun r s' h => ?_
  cases r with
  | error e =>
    obtain ⟨_, _, _, _, _, _, _, _, _, _, _, _, z⟩ := h
    exact z.elim
  | ok fl =>
    cases fl with
    | ret u =>
      obtain ⟨v, H', os, bare, un, hok', rv, hv⟩ := h
      subst hv
      cases rv
      refine ⟨rfl, OldK.of_keep fun b o e => ?_, os, bare⟩
      cases q : scr K a vs ns b with
      | none => exact un.keep b o e q (fun z => by cases z) (fun z => by cases z)
      | some u =>
        obtain ⟨rfl, _, rfl⟩ := scr_only q
        obtain ⟨e2, _⟩ := hok' b _ (un.frzs b _ _ q)
        rw [ha] at e; cases e
        exact e2
    | next => exact False.elim h
    | brk => exact False.elim h
    | cont => exact False.elim h
end
theorem walk_sh {l : PySem.W.OpenLaw} {n k : Nat} {q : Program} {loose : List Str} {XP : (Str → Option Value) → Heap → Prop} {YP : World → Heap → Prop} {d : DefRec} {K : Params → PySem.W.Frag} {F : DF} {x : Str}
    (himp : PyProof.Rows.importsNone q = true) (hn : l.most = some n) (hn2 : n ≤ sizeLine) (hdf : d.params.defaults = []) (hr : Room k callerA)
    (hY : ∀ (w : World) (h : Heap), YP w h → (K w.params).In h)
    (FO : ∀ (w : World) (mg : Str → Option Value) (fa : Addr) (h : Heap), (K w.params).In h → h.Ns mainGlobals mg → mg d.name = some (.ref fa) →
      ∃ (fd : FuncData) (cl : String → Addr), (∀ (s : Shared) (u : Value), BindsTo s fd ⟨[u], []⟩ [(x, u)]) ∧
        ∀ base : Heap, Sys base → (K w.params).In base → base.Ns mainGlobals mg → FnG l.prog w (K w.params) mg base k fa fd [x] (spOf ⟨K w.params, cl⟩ F 1))
    (hF : ∀ ns : List Int, ns.length ≤ n → ∃ m, F [.frz (ns.map W.int)] [] = .ok (.bl true) m) :
    PySem.W.WalkO q loose XP YP l.row.toRowW d [] (fun f vs => PySem.call f vs) := by
  refine Att.attach_call hn hdf fun w s0 s1 mg mb fa o pm cd doc a vs ns Gr Y ho hd hcd hmg hobj hints hlen hg => ?_
  have KX := hY w _ Y
  obtain ⟨fd, cl, hb, hFO⟩ := FO w mg fa _ KX Gr.T.g hmg
  exact script_call (g := ⟨K w.params, cl⟩) (n := n) rfl KX Gr.T.g Gr.T.b Gr.T.builtins Gr.T.nolimit hg hobj hints (Nat.le_trans hlen hn2) hr (let ⟨mm, h, _⟩ := (Gr.T.seer himp).mods; ⟨mm, h⟩) hFO hb (hF ns hlen)
end Sh

namespace Sh
open PySem PySem.Spec L2
open PyProof.Rows (envOfC)
/-! ### constants -/
theorem rv_str {l : List Nat} {x : Str} {t : Tok} (h : x = Sh.S l) : RelV (.str (Sh.S l)) (.str x t) := by subst h; exact ⟨t, rfl⟩
theorem rv_int {i : Int} {t : Tok} : RelV (.int i) (.int i t) := ⟨t, rfl⟩
theorem rv_bl {b : Bool} : RelV (.bl b) (.bool b) := rfl
theorem rv_ref {a : Addr} : RelV (.ref a) (.ref a) := rfl
/-! ### isinstance by the written part's words -/
theorem kit_oo {K : PySem.W.Frag} {t : Value} {D : Addr} {cd : ClassData} {b : Bool} (h1 : PySem.W.clsIn K D = some cd) (h2 : PySem.W.typeIn K (.ref D) = some (.type "type")) (h3 : PySem.W.subIn K t (.ref D) = some b) (h4 : b = false → (t == .ref D) = false) : PySem.W.kitOne K t (.ref D) = some b := by
  unfold PySem.W.kitOne
  split
  · rename_i e
    cases b with
    | true => rfl
    | false => rw [h4 rfl] at e; cases e
  · unfold PySem.W.kitCls
    show (if ((PySem.W.clsIn K D).isSome && PySem.W.typeIn K (.ref D) == some (.type "type")) = true then PySem.W.subIn K t (.ref D) else none) = some b
    rw [h1, h2, h3]
    simp
theorem kit_bo {K : PySem.W.Frag} {T : String} {D : Addr} {cd : ClassData} (h1 : PySem.W.clsIn K D = some cd) (h2 : PySem.W.typeIn K (.ref D) = some (.type "type")) (h3 : PySem.W.subIn K (.type T) (.ref D) = some false) : PySem.W.kitOne K (.type T) (.ref D) = some false :=
  kit_oo h1 h2 h3 fun _ => rfl
theorem kit_of2 {K : PySem.W.Frag} {C D : Addr} {cd : ClassData} (h1 : PySem.W.clsIn K D = some cd) (h2 : PySem.W.typeIn K (.ref D) = some (.type "type")) (h3 : PySem.W.subIn K (.ref C) (.ref D) = some false) (h4 : PySem.W.subIn K (.ref C) (.ref C) = some true) : PySem.W.kitOne K (.ref C) (.ref D) = some false :=
  kit_oo h1 h2 h3 fun _ => by
    cases q : (Value.ref C == Value.ref D) with
    | false => rfl
    | true =>
      have e := eq_of_beq q
      cases e
      rw [h3] at h4; cases h4
theorem kit_ot {K : PySem.W.Frag} {C D : Addr} {cd : ClassData} (h1 : PySem.W.clsIn K D = some cd) (h2 : PySem.W.typeIn K (.ref D) = some (.type "type")) (h3 : PySem.W.subIn K (.ref C) (.ref D) = some true) : PySem.W.kitOne K (.ref C) (.ref D) = some true :=
  kit_oo h1 h2 h3 fun z => by cases z
theorem kit_ob {K : PySem.W.Frag} {C : Addr} {T : String} {b : Bool} (h1 : PySem.W.kitMeta T = true) (h2 : PySem.W.subIn K (.ref C) (.type T) = some b) : PySem.W.kitOne K (.ref C) (.type T) = some b := by
  show (if (Value.ref C == Value.type T) = true then some true else PySem.W.kitCls K (.ref C) (.type T)) = some b
  have : (Value.ref C == Value.type T) = false := rfl
  rw [this]
  show (if PySem.W.kitMeta T = true then PySem.W.subIn K (.ref C) (.type T) else none) = some b
  rw [if_pos h1, h2]
/-! ### comparisons as tests -/
section
variable {g : G} {X : Cx} {wx : WX} {a b e : Expr} {fa fb : DE} {pos : Pos}
theorem st_cmp {op : CmpOp} {fn : W → W → Mem → R W} (hf : F2 g X wx (compareOp op) fn) (ha : SE g X wx a fa) (hb : SE g X wx b fb)
    (h1 : behindInMarks op b = false := by first | exact nobehind _ (by decide) (by decide) | rfl) : ST g X wx (.Compare a [op] [b] pos) (tVal (eBin fn fa fb)) := by
  refine ⟨fun whole pins s σ m ρ H τ Q hw I S L o => ?_⟩
  rcases hw with rfl | ⟨_, _, _, z⟩
  · refine wpAny_isTrue_Compare1 (bin2 (Q := fun c s3 => wpAny (model X.prog X.w) X.A (truthy c) Q X.xe s3) ha hb hf I S L ((o.bind S).imp fun x m1 ρ1 H1 P1 S1 o1 v u s1 I1 rv ru => ?_)) h1
    cases x with
    | bl k => cases rv; cases ru; exact wpAny_truthy_bool (Out.here o1 S1 s1 I1)
    | _ => exact o1.elim
  · cases z
theorem ST.ofPT {f : DB} {t : TT} (ht : PT X e t) (h : ∀ (σ : Loc) (m : Mem) (ρ : List Addr) (H : Hp) (τ : L2.St) (Q : Bool → Hp → Prop), Sim g ρ m H → LR g ρ H σ τ → Out g wx τ ρ H (f σ m) (fun b m' ρ' H' => Q b H') → t τ H Q)
    (hn : ∀ op es pos, e ≠ .BoolOp op es pos := by intro _ _ _ z; cases z) : ST g X wx e f := by
  refine ⟨fun whole pins s σ m ρ H τ Q hw I S L o => ?_⟩
  rcases hw with rfl | ⟨op, es, pos, z⟩
  · refine thn (ht.run pins s τ H (fun k H' => ∀ s', Inv X pins τ H' s' → Q k s') I (h σ m ρ H τ _ S L o)) fun k s1 ⟨H1, I1, q⟩ => q s1 I1
  · exact absurd z (hn _ _ _)
theorem inT_ok {neg : Bool} {op : CmpOp} {fl : DL} (hK : X.K = g.K) (h1 : OpR X (compareOp op) (rIn X.K neg)) (ha : SE g X wx a fa) (hb : SL g X wx b fl) (hm : behindInMarks op b = false) : ST g X wx (.Compare a [op] [b] pos) (tVal (eInL neg fa fl)) :=
  ST.ofPT (pt_cmpR h1 ha.pe hb.pe hm) fun σ m ρ H τ Q S L o => ⟨σ, m, ρ, S, L, ((o.bind S).bind S).imp fun x m1 ρ1 H1 P1 S1 o1 v rv => ⟨σ, m1, ρ1, S1, L.post S P1, (o1.bind S1).imp fun ws m2 ρ2 H2 P2 S2 o2 p vs h0 hp hn r => by
    rcases inD_cases (x := x) (ws := ws) (m := m2) with ⟨e1, e2, e3⟩ | e
    · rw [e3] at o2
      have rv2 := rv.post S1 P2
      exact ⟨p, vs, rfl, .inl (SqL.of hp), flat_V rv2 e1, flats_V r e2, ⟨_, rfl, by rw [inW_V rv2 e1 r e2]; exact Out.here (Out.here o2 S2) S2⟩⟩
    · rw [e] at o2; exact o2.elim⟩⟩
theorem st_inL {fl : DL} (hK : X.K = g.K) (ha : SE g X wx a fa) (hb : SL g X wx b fl) (hm : behindInMarks .In b = false := by first | exact nobehind _ (by decide) (by decide) | rfl) : ST g X wx (.Compare a [.In] [b] pos) (tVal (eInL false fa fl)) := inT_ok hK op_in_seq ha hb hm
theorem st_notInL {fl : DL} (hK : X.K = g.K) (ha : SE g X wx a fa) (hb : SL g X wx b fl) (hm : behindInMarks .NotIn b = false := by first | exact nobehind _ (by decide) (by decide) | rfl) : ST g X wx (.Compare a [.NotIn] [b] pos) (tVal (eInL true fa fl)) := inT_ok hK op_notIn_seq ha hb hm
end
/-! ### an __init__ that begins with super().__init__(..), as it stands in the written part -/
structure SupAt (P : Program) (K : PySem.W.Frag) (mg : Str → Option Value) (C : Addr) (qual : Str) (st : Stmt) (ps : List Str) (f f2 : Addr) : Prop where
  ex : ∃ (cda cc D : Addr) (doc pm ct oc : Value) (an od : Option Addr) (osl : Array (Option Value)) (ccl : Value) (cdd : Option Addr) (vs : Array Value) (ccs : Array (Option Value)) (file : Str) (tf : Tok) (cl : Value) (cld : Option Addr) (csl : Array (Option Value)) (cdD : ClassData),
    K.lookup f = some ⟨oc, od, .func (PySem.W.ksFn "__init__" qual (defArgs st) (defBody st) (defScope st) .none .none doc pm an (.ref cda) ct cc), osl⟩ ∧ PySem.W.codeIn K (.ref cda) qual = true ∧
    K.lookup cda = some ⟨ccl, cdd, .fields vs, ccs⟩ ∧ vs[2]? = some (.str file tf) ∧ ((P.main.file : Str) == file) = true ∧
    K.lookup cc = some ⟨cl, cld, .cell (some (.ref D)), csl⟩ ∧ PySem.W.clsIn K D = some cdD ∧ PySem.W.mroIn K C (.ref D) = some true ∧
    PySem.W.ks_superIn K C D "__init__" = some (some (.ref f2)) ∧ PySem.W.typeIn K (.ref f2) = some (.type "function") ∧ PySem.W.fnIn K f2 = true
  sup : mg "super" = none
  stat : PySem.W.nsIn K PySem.cStatics "thirdparty.any" = some none
section
variable {P : Program} {w : World} {K : PySem.W.Frag} {mg : Str → Option Value} {base : Heap} {g : G}
theorem sup_of {cs : String} {qual : Str} {st : Stmt} {ps ps2 N : List Str} {f f2 : Addr} {k : Nat} {F : DF} {p0 p1 apos cpos epos : Pos} {e : Expr} {es : List Expr} {fa : DL} {b : DS} {rest : List Stmt} {ar : Arg} {pl : Sem Bool}
    (A : SupAt P K mg (g.cl cs) qual st ps f f2) (top : (P.main.scope.names.lookup ("super" : Str)).isSome = false) (ccl : Cls K (g.cl cs)) (D2 : DefIn P w K mg base g f2 k ps2 F) (ari : Arity ps2.length F)
    (hbody : defBody st = .Expr (.Call (.Attribute (.Call (.Name "super" p0) [] [] p1) "__init__" apos) (e :: es) [] cpos) epos :: rest)
    (S : ScopeS N ps (defScope st)) (hps : ps[0]? = some ar.arg) (hpar : ((defArgs st).posonlyargs ++ (defArgs st).args).head? = some ar)
    (hks : (defScope st).names.lookup ("super" : Str) = some .globalImplicit) (hkc : (defScope st).names.lookup ("__class__" : Str) = some .free)
    (hbd : ∀ (doc pm cd ct : Value) (an : Option Addr) (cc : Addr) (us : List Value), us.length = ps.length → bindArgs (PySem.W.ksFn "__init__" qual (defArgs st) (defBody st) (defScope st) .none .none doc pm an cd ct cc) ⟨us, []⟩ = pure (ps.zip us))
    (hev : ∀ env, eval (.Call (.Attribute (.Call (.Name "super" p0) [] [] p1) "__init__" apos) (e :: es) [] cpos) env = (do
      let ov ← attributeBase (.Call (.Name "super" p0) [] [] p1) "__init__" env (eval (.Call (.Name "super" p0) [] [] p1) env)
      standAt apos.atName
      let (f, first) ← holding [ov] (getMethod ov "__init__" pl)
      callWith cpos f first (backTo cpos (starEach (e :: es) env)) []))
    (hsw : ∀ env, swapsWith (.Call (.Attribute (.Call (.Name "super" p0) [] [] p1) "__init__" apos) (e :: es) [] cpos) none epos.line env = pure false)
    (hst : ∀ env, starEach (e :: es) env = (false, eval e env) :: starEach es env) (hpl : ∀ env, (backTo cpos (starEach es env)).any (·.1) = false)
    (hb : ∀ (f cda cc : Addr) (A : Around) (outer : List Env) (s : Shared) (H : Hp) (E : XK), Rm k (A.deeper (PySem.W.ksEnv qual (defScope st) s.heap.objs.size f (.ref cda) cc)) →
      Takes (cxS P w K mg base N qual (defScope st) f cda cc A outer s H E) (fun cls d _ H => E cls d H) →
      PassesOwn (model P w) (A.deeper (PySem.W.ksEnv qual (defScope st) s.heap.objs.size f (.ref cda) cc)) (PySem.W.ksEnv qual (defScope st) s.heap.objs.size f (.ref cda) cc) (cxS P w K mg base N qual (defScope st) f cda cc A outer s H E).xe →
      SA g (cxS P w K mg base N qual (defScope st) f cda cc A outer s H E) (fun cls d _ H => E cls d H) (e :: es) fa ∧
      SSs g (cxS P w K mg base N qual (defScope st) f cda cc A outer s H E) (fun cls d _ H => E cls d H) rest b) :
    DefIn P w K mg base g f (k + 1) ps (defn ps.length N.length (sSeq (sSuper cs F fa) b)) := by
  obtain ⟨cda, cc, D, doc, pm, ct, oc, an, od, osl, c2, cdd, vs, ccs, file, tf, cl, cld, csl, cdD, lk, hcd, h1, h2, h3, h4, h5, h6, h7, h8, h9⟩ := A.ex
  obtain ⟨fd2, hb2, FO⟩ := D2.ex
  have U : SupK P w K mg base g cda cc D cs k F := ⟨⟨c2, cdd, vs, ccs, file, tf, h1, h2, h3⟩, ⟨cl, cld, csl, h4⟩, ⟨cdD, h5⟩, A.sup, A.stat, top, ccl, h6, ⟨f2, fd2, ps2, h7, h8, h9, hb2, ari, FO⟩⟩
  refine ⟨_, .all (hbd doc pm (.ref cda) ct an cc), ?_⟩
  rw [hbody] at lk ⊢
  exact superG lk hcd S hps hpar hks hkc U hev hsw (fun A outer s H E => hb f cda cc A outer s H E) hst hpl
end
end Sh

namespace Sh
open PySem PySem.Spec L2
open PyProof.Rows (envOfC)

/-! ### an own exception: class C(.. ValueError): def __init__(self, v): super().__init__('..'); self.f = v -/
section
variable {prog : Program} {w : World} {A : Around} {E : Value → Shared → Prop} {h : Heap} {g : Array GenState} {d : Drawn} {t : Nat} {os : OsState}
variable {nm q : Str} {C N : Addr} {bs bm bmB : List Value} {hdct : Bool} {sn : List Str} {sub : List Value} {ab : Bool} {col : Option Bool} {dd : Option Addr} {k0 k1 k2 k3 k5 : Option Value} {B newId initId : String}
theorem xcall_bw (FB : ExcBaseFacts B newId initId bmB) {u e t0 : Addr} {rest : List Value} {Q : Value → Shared → Prop}
    (hC : h.get? C = some (excClassObj nm q C N bs bm hdct sn sub ab col dd k0 k1 k2 k3 k5 newId)) (he : h.get? e = some (HandSPX.excO C t0)) (hu : h.get? u = some (PySem.W.kxs_mw initId e)) (hrest : rest.length ≤ sizeLine)
    (hq : ∀ h' t1, (∀ b o, b ≠ e → h.get? b = some o → h'.get? b = some o) → h'.get? e = some (HandSPX.excO C t1) → Q .none ⟨h', g, d, t, os⟩) :
    wpAny (model prog w) A (call (.ref u) rest) Q E ⟨h, g, d, t, os⟩ := by
  refine wpAny_call (codeAny_of_tree ?_)
  show wpAny _ A.in1 (callAny (.ref u) ⟨rest, []⟩) _ _ _
  simp only [callAny]
  refine wpAny_bind (wpAny_load hu ?_)
  simp only [PySem.W.kxs_mw, show (Value.type "method-wrapper" == Value.type "method" || Value.type "method-wrapper" == Value.type "builtin_function_or_method" || Value.type "method-wrapper" == Value.type "method-wrapper") = true by decide, if_true]
  refine PySem.W.KFB.if_so (by decide) ?_
  refine wpAny_bind (PySem.W.check_bound_init FB.toExcCallFacts hC he rfl ?_)
  refine wpAny_bind (wpAny_pure (wpAny_pure ?_))
  refine ⟨plainId_quiet FB.init.plain _, codeAny_builtin FB.initEntry ?_⟩
  exact PySem.W.exc_init_tree (cls := .ref C) (t0 := t0) (dv := none) (c2 := .none) (c3 := .none) (b4 := .bool false) he hrest fun h' k e' t' => hq h' _ k e'
end
/-- what stands around such a def -/
structure SupX (P : Program) (K : PySem.W.Frag) (mg : Str → Option Value) (cda cc C : Addr) : Prop where
  code : ∃ (ccl : Value) (cdd : Option Addr) (vs : Array Value) (ccs : Array (Option Value)) (file : Str) (tf : Tok), K.lookup cda = some ⟨ccl, cdd, .fields vs, ccs⟩ ∧ vs[2]? = some (.str file tf) ∧ ((P.main.file : Str) == file) = true
  cell : ∃ (cl : Value) (cld : Option Addr) (csl : Array (Option Value)), K.lookup cc = some ⟨cl, cld, .cell (some (.ref C)), csl⟩
  cls : ∃ cdD, PySem.W.clsIn K C = some cdD
  sup : mg "super" = none
  stat : PySem.W.nsIn K PySem.cStatics "thirdparty.any" = some none
  top : (P.main.scope.names.lookup ("super" : Str)).isSome = false
  sub : PySem.W.mroIn K C (.ref C) = some true
  ve : PySem.W.subIn K (.ref C) (.type "ValueError") = some true
  nxt : PySem.W.ks_superIn K C C "__init__" = some (some (.builtin "ValueError.__init__"))
/-- the promise of such an __init__: t reads what stands behind super().__init__(..) -/
def spX (C : Addr) (N : List Str) (n : Nat) (t : TS) : Sp := fun vs H Q E => vs.length = n ∧ ∃ a, vs[0]? = some (.ref a) ∧ H a = some (exo a C none) ∧ t { nx := fun _ H' => Q .non H', rt := Q } (L2.start N vs) H
section
variable {P : Program} {w : World} {K : PySem.W.Frag} {mg : Str → Option Value} {base : Heap} {k : Nat} {f cda cc C : Addr} {name qual : Str} {params : Arguments} {rest : List Stmt} {scope : Scope} {doc pm ct oc : Value} {an od : Option Addr}
  {osl : Array (Option Value)} {N ps : List Str} {p0 p1 apos cpos epos mp : Pos} {msg : Str} {kd : Nat} {t : TS} {ar : Arg} {pl : Sem Bool}
theorem superX (lk : K.lookup f = some ⟨oc, od, .func (PySem.W.ksFn name qual params (.Expr (.Call (.Attribute (.Call (.Name "super" p0) [] [] p1) "__init__" apos) [.Constant (.str msg) kd mp] [] cpos) epos :: rest) scope .none .none doc pm an (.ref cda) ct cc), osl⟩)
    (hcd : PySem.W.codeIn K (.ref cda) qual = true) (S : ScopeS N ps scope) (hps : ps[0]? = some ar.arg) (hpar : (params.posonlyargs ++ params.args).head? = some ar)
    (hks : scope.names.lookup ("super" : Str) = some .globalImplicit) (hkc : scope.names.lookup ("__class__" : Str) = some .free)
    (U : SupX P K mg cda cc C) (TC : OexC K C)
    (hev : ∀ env, eval (.Call (.Attribute (.Call (.Name "super" p0) [] [] p1) "__init__" apos) [.Constant (.str msg) kd mp] [] cpos) env = (do
      let ov ← attributeBase (.Call (.Name "super" p0) [] [] p1) "__init__" env (eval (.Call (.Name "super" p0) [] [] p1) env)
      standAt apos.atName
      let (f, first) ← holding [ov] (getMethod ov "__init__" pl)
      callWith cpos f first (backTo cpos (starEach [.Constant (.str msg) kd mp] env)) []))
    (hsw : ∀ env, swapsWith (.Call (.Attribute (.Call (.Name "super" p0) [] [] p1) "__init__" apos) [.Constant (.str msg) kd mp] [] cpos) none epos.line env = pure false)
    (hb : ∀ (A : Around) (outer : List Env) (s : Shared) (H : Hp) (E : XK), PSs (cxS P w K mg base N qual scope f cda cc A outer s H E) rest t) :
    FnG P w K mg base (k + 1) f (PySem.W.ksFn name qual params (.Expr (.Call (.Attribute (.Call (.Name "super" p0) [] [] p1) "__init__" apos) [.Constant (.str msg) kd mp] [] cpos) epos :: rest) scope .none .none doc pm an (.ref cda) ct cc) ps (spX C N ps.length t) := by
  refine ⟨fun vs H Q E h => h.1, fun A outer s H args us vs Q E hr e0 hbd r hsp => ?_⟩
  obtain ⟨hl, x, hv0, hHx, o⟩ := hsp
  obtain ⟨ccl, cdd, cvs, ccs, file, tf, hcode, hvs, hfile⟩ := U.code
  obtain ⟨ocl, ocd, ocs, hcell⟩ := U.cell
  obtain ⟨cdD, hD⟩ := U.cls
  have hlu : us.length = ps.length := by rw [← r.length]; exact hl
  have KX : K.In s.heap := e0.mod.kin.keeps fun b o e => (e0.bs b o e).1
  have lim : s.heap.NoLimit := e0.mod.nolimit.keeps fun b o e => (e0.bs b o e).1
  have hloc : ∀ y ∈ ps.zip us, scope.names.lookup y.1 = some .local := fun ⟨n, v⟩ hy => S.par n (List.of_mem_zip hy).1
  refine ks_codeAny_call_defAt (fd := PySem.W.ksFn name qual params (.Expr (.Call (.Attribute (.Call (.Name "super" p0) [] [] p1) "__init__" apos) [.Constant (.str msg) kd mp] [] cpos) epos :: rest) scope .none .none doc pm an (.ref cda) ct cc) (binds := ps.zip us) hr.r.depth (KX _ _ lk) rfl lim
    (PySem.W.codeRec_of KX hcd) rfl hbd S.nocell hloc (fun h0 hns hk => ?_) S.co S.gen S.kind
  show _root_.PySem.wpAt (model P w) (A.deeper (PySem.W.ksEnv qual scope s.heap.objs.size f (.ref cda) cc)) (.func (.Expr (.Call (.Attribute (.Call (.Name "super" p0) [] [] p1) "__init__" apos) [.Constant (.str msg) kd mp] [] cpos) epos :: rest) (PySem.W.ksEnv qual scope s.heap.objs.size f (.ref cda) cc))
    (execs (.Expr (.Call (.Attribute (.Call (.Name "super" p0) [] [] p1) "__init__" apos) [.Constant (.str msg) kd mp] [] cpos) epos :: rest) (PySem.W.ksEnv qual scope s.heap.objs.size f (.ref cda) cc)) _ _ _
  have I : Inv (cxS P w K mg base N qual scope f cda cc A outer s H E) [] (L2.start N vs) H { s with heap := h0, toks := s.toks + (ps.zip us).length } := inv_startS S hr.r.hd e0 hl r hcell rfl hns hk
  have hSS := hb A outer s H E
  have KX0 : K.In h0 := I.kIn
  obtain ⟨u0, hu0, ru0⟩ := r.get hv0
  obtain rfl : u0 = Value.ref x := ru0
  obtain ⟨t1, hx0⟩ := exo_at I.hok hHx
  have J : PySem.W.InstAt h0 x { cls := .ref C, dict := none, data := .fields #[.ref t1, .none, .none, .none, .bool false, .none] } C none := ⟨hx0, rfl, rfl, trivial⟩
  obtain ⟨oD, hD1, hD2⟩ : ∃ oD, h0.get? C = some oD ∧ oD.data = .cls cdD := by
    unfold PySem.W.clsIn at hD
    split at hD
    · rename_i c d cd' sl ho
      cases hD
      exact ⟨_, KX0 _ _ ho, rfl⟩
    · cases hD
  refine ks_wpAt_execs_cons (ks_wpAt_Expr_any (ks_wpAt_MethodCall (pl := pl) ?_ (hev _)) (by have := I.quiet; exact this) (hsw _))
  refine ks_wpAt_super_base (env := PySem.W.ksEnv qual scope s.heap.objs.size f (.ref cda) cc) hks hkc (by decide +kernel) rfl (KX0 _ _ lk) rfl hpar rfl (KX0 _ _ hcode) rfl hvs hfile U.top ?_
  obtain ⟨mb, hbn, hbv⟩ := I.mod.blt
  refine PySem.W.ks_loadName_global S.kind hks (Calls.loadGlobal_builtin (env := PySem.W.ksEnv qual scope s.heap.objs.size f (.ref cda) cc) (I.mod.glob.keeps I.bk) U.sup (hbn.keeps I.bk) ((hbv ("super" : Str) (by decide +kernel)).trans (show bootBuiltins ("super" : Str) = some (Value.type "super") by first | rfl | decide +kernel | kernel_rfl)) ⟨rfl, ?_⟩)
  refine wpAny_loadName_free S.kind hkc rfl ⟨_, KX0 _ _ hcell, rfl⟩ ?_
  have hself : (ps.zip us).reverse.lookup ar.arg = some (Value.ref x) := lookup_rev (by rw [← S.pre]; exact S.nd.sublist (List.take_sublist _ _)) hlu.symm hps hu0
  refine wpAny_loadName_local S.kind (S.par _ (List.mem_of_getElem? hps)) hns hself ?_
  refine ks_wpAny_isType_cls hD1 hD2 ⟨rfl, ?_⟩
  refine ks_wpAny_call_super hD1 hD2 J.at_ J.cls (fun c e => ?_) (PySem.W.looks_mroIn KX0 U.sub) (fun h' e1 k1 => ?_)
  · cases e
  have I2 : Inv (cxS P w K mg base N qual scope f cda cc A outer s H E) [] (L2.start N vs) H { s with heap := h', toks := s.toks + (ps.zip us).length } := I.kept (t' := s.toks + (ps.zip us).length) k1
  have KX2 : K.In h' := I2.kIn
  obtain ⟨cdc, hcc, hal⟩ : ∃ cdc, PySem.W.clsIn K C = some cdc ∧ PySem.W.alongIn K "__init__" ((cdc.mro.dropWhile (· != .ref C)).drop 1) = some (some (.builtin "ValueError.__init__")) := by
    have h2 := U.nxt
    unfold PySem.W.ks_superIn at h2
    cases z : PySem.W.clsIn K C with
    | none => rw [z] at h2; cases h2
    | some cd => rw [z] at h2; exact ⟨cd, rfl, h2⟩
  have J2 : PySem.W.InstAt h' x { cls := .ref C, dict := none, data := .fields #[.ref t1, .none, .none, .none, .bool false, .none] } C none := ⟨k1 _ _ hx0, rfl, rfl, trivial⟩
  refine PySem.W.kxs_getMethod PySem.W.kxs_ValueError e1 (PySem.W.looks_opaque KX2 U.stat) (l₀ := cdc.mro) (fun A Q E s k q => wpAny_bind ((PySem.W.looks_clsIn KX2 hcc) A _ E s k (wpAny_pure q))) rfl KX2 hal ((J2.type).andThen (PySem.W.looks_subIn KX2 U.ve)) (PySem.W.ks_ne KX2 J2 hcc) (by decide +kernel) ?_
  -- the method-wrapper stands at the heap's end
  have hq0 : H h'.objs.size = none := I2.hok.fresh (Nat.le_refl _)
  have I3a : Inv (cxS P w K mg base N qual scope f cda cc A outer s H E) [] (L2.start N vs) H { s with heap := h'.push (PySem.W.kxs_mw "ValueError.__init__" x), toks := s.toks + (ps.zip us).length + 1 } := I2.kept (t' := s.toks + (ps.zip us).length + 1) fun b u q => Heap.get?_push_of_some _ q
  have hq1 : (h'.push (PySem.W.kxs_mw "ValueError.__init__" x)).get? h'.objs.size = some (PySem.W.kxs_mw "ValueError.__init__" x) := Heap.get?_push_size h' rfl
  have I3 : Inv (cxS P w K mg base N qual scope f cda cc A outer s H E) [(h'.objs.size, PySem.W.kxs_mw "ValueError.__init__" x)] (L2.start N vs) H { s with heap := h'.push (PySem.W.kxs_mw "ValueError.__init__" x), toks := s.toks + (ps.zip us).length + 1 } :=
    I3a.pins_of fun p hp => by
      have hp : p = (h'.objs.size, PySem.W.kxs_mw "ValueError.__init__" x) := by simpa using hp
      subst hp
      have fo := I2.fpOk (H' := H) (b := h'.objs.size) (Nat.le_refl _) hq0
      exact ⟨hq1, hq0, fo.2.1, fo.2.2.1, fun v z => by cases z⟩
  show wpAny _ _ (callWith cpos (.ref h'.objs.size) [] (backTo cpos (starEach [.Constant (.str msg) kd mp] (PySem.W.ksEnv qual scope s.heap.objs.size f (.ref cda) cc))) []) _ _ _
  refine PySem.W.kxs_callWith (i := "ValueError.__init__") (x := x) rfl (Calls.evalArgs_plain ?_)
  refine Calls.spliced_cons ?_
  refine thn ((pe_str (X := cxS P w K mg base N qual scope f cda cc A outer s H E) (x := msg) (j := kd) (pos := mp)).run [(h'.objs.size, PySem.W.kxs_mw "ValueError.__init__" x)] _ (L2.start N vs) H (fun v H' => v = .str msg ∧ H' = H) I3 (by exact ⟨rfl, rfl⟩)) fun u4 s4 ⟨v4, H4, I4, r4, e4, e5⟩ => ?_
  rw [e5] at I4
  refine Calls.spliced_nil ?_
  have pin := I4.pin (h'.objs.size, PySem.W.kxs_mw "ValueError.__init__" x) (List.mem_append_right _ (List.mem_singleton.mpr rfl))
  refine ⟨pin.1, ?_⟩
  obtain ⟨nm, q, N', bs, bm, sn, sub, ab, col, dd, k0, k1', k2, k3, k5, hC, hbm⟩ := TC.cls
  obtain ⟨t4, ho4⟩ := exo_at I4.hok hHx
  obtain ⟨hp4, g4, d4, tk4, os4⟩ := s4
  refine xcall_bw F.excBase_ValueError (I4.kIn _ _ hC) ho4 pin.1 (by show 1 ≤ sizeLine; decide) fun h5 t5 k5 hx5 => ?_
  have I5 := I4.write (t' := tk4) (x := x) (e := x) (o := exo x C none) (by rw [hHx]; exact True.intro) (.inl rfl) k5 ⟨_, hx5⟩ (exo_ok hx5)
  have eu : upd H x (exo x C none) = H := by
    funext b
    by_cases hb : b = x
    · rw [hb, upd_same, hHx]
    · rw [upd_ne hb]
  rw [eu] at I5
  have fin : ∀ {pins : List (Addr × Obj)} {σ' : L2.St} {H' : Hp} {s' : Shared} {v : V} {u : Value}, Inv (cxS P w K mg base N qual scope f cda cc A outer s H E) pins σ' H' s' → RelV v u → Q v H' → CE outer P w H s Q u s' :=
    fun {pins σ' H' s' v u} J rv q => ⟨v, H', J.os, J.bare, J.base, J.hok, rv, q⟩
  refine wpAt_of_wpAny (wpAny_mono (hSS.run _ _ (L2.start N vs) H _ I5 o) (fun fl s6 hs => ?_) fun e s6 hs => hs)
  cases fl with
  | ret u =>
    obtain ⟨v, σ', H', J, rv, q⟩ := hs
    exact fin J rv q
  | next =>
    obtain ⟨σ', H', J, q⟩ := hs
    exact fin (v := V.non) (u := Value.none) J rfl q
  | brk =>
    obtain ⟨_, _, _, q⟩ := hs
    exact False.elim q
  | cont =>
    obtain ⟨_, _, _, q⟩ := hs
    exact False.elim q
end
end Sh

namespace Sh
open PySem PySem.Spec L2
open PyProof.Rows (envOfC)

/-! ### an exception is made -/
/-- __init__(self, v): super().__init__('..'); self.f = v -/
def sp1 (C : Addr) (f : Str) : Sp := fun vs H Q E => ∃ a y, vs = [.ref a, y] ∧ H a = some (exo a C none) ∧ ∀ dx, H dx = none → dx ≠ a → Q .non (upd (upd H dx (exd dx [(f, y)])) a (exo a C (some dx)))
/-- __init__(self): super().__init__('..') -/
def sp0 (C : Addr) : Sp := fun vs H Q E => ∃ a, vs = [.ref a] ∧ H a = some (exo a C none) ∧ Q .non H
theorem FnG.conv {P : Program} {w : World} {K : PySem.W.Frag} {mg : Str → Option Value} {base : Heap} {k : Nat} {f : Addr} {fd : FuncData} {ps : List Str} {sp sp' : Sp} (F : FnG P w K mg base k f fd ps sp) (h : ∀ vs H Q E, sp' vs H Q E → sp vs H Q E) : FnG P w K mg base k f fd ps sp' :=
  ⟨fun vs H Q E q => F.len vs H Q E (h _ _ _ _ q), fun A outer s H args us vs Q E hr e0 hb r q => F.run A outer s H args us vs Q E hr e0 hb r (h _ _ _ _ q)⟩
section
variable {P : Program} {w : World} {K : PySem.W.Frag} {mg : Str → Option Value} {base : Heap} {k : Nat} {fa : Addr} {fd : FuncData} {ps : List Str} {C : Addr} {f : Str}
theorem fn_sp1 {x y : Str} (F : FnG P w K mg base k fa fd [x, y] (spX C [x, y] 2 (tOst K f (tVar 0) (tVar 1)))) (T : OexC K C) (hno : PySem.W.findIn K (.ref C) f = some none) : FnG P w K mg base k fa fd [x, y] (sp1 C f) :=
  F.conv fun vs H Q E ⟨a, y, e, ha, q⟩ => by
    subst e
    exact ⟨rfl, a, rfl, ha, y, rfl, .ref a, rfl, a, C, rfl, T, hno, .inl ⟨ha, fun dx h1 h2 => q dx h1 h2⟩⟩
theorem fn_sp0 {x : Str} (F : FnG P w K mg base k fa fd [x] (spX C [x] 1 tNext)) : FnG P w K mg base k fa fd [x] (sp0 C) :=
  F.conv fun vs H Q E ⟨a, e, ha, q⟩ => by
    subst e
    exact ⟨rfl, a, rfl, ha, q⟩
end
/-- what is known of such a class -/
structure XcK (K : PySem.W.Frag) (C : Addr) (fi : Addr) : Prop where
  T : OexC K C
  ini : PySem.W.findIn K (.ref C) "__init__" = some (some (.ref fi))
  fn : PySem.W.typeIn K (.ref fi) = some (.type "function")
structure Exc1 (P : Program) (w : World) (K : PySem.W.Frag) (mg : Str → Option Value) (base : Heap) (g : G) (x : Str) (c : String) (k : Nat) (f : List Nat) : Prop where
  ex : ∃ (fi : Addr) (fd : FuncData) (ps : List Str), mg x = some (.ref (g.cl c)) ∧ XcK K (g.cl c) fi ∧ ps.length = 2 ∧ Binds K fd ps [] ∧ FnG P w K mg base k fi fd ps (sp1 (g.cl c) (Sh.S f))
structure Exc0 (P : Program) (w : World) (K : PySem.W.Frag) (mg : Str → Option Value) (base : Heap) (g : G) (x : Str) (c : String) (k : Nat) : Prop where
  ex : ∃ (fi : Addr) (fd : FuncData) (ps : List Str), mg x = some (.ref (g.cl c)) ∧ XcK K (g.cl c) fi ∧ ps.length = 1 ∧ Binds K fd ps [] ∧ FnG P w K mg base k fi fd ps (sp0 (g.cl c))
section
variable {g : G} {X : Cx} {wx : WX} {τ : L2.St} {ρ ρ' : List Addr} {H H' : Hp} {m m' : Mem} {e : Expr} {pins : List (Addr × Obj)} {s : Shared}
theorem upd_made {H : Hp} {a d C : Addr} {f : Str} {y : V} (hn : H a = none) (hd : H d = none) (ne : d ≠ a) : upd (del (upd (upd (upd H a (exo a C none)) d (exd d [(f, y)])) a (exo a C (some d))) a) d (.xd [(f, y)]) = upd H d (.xd [(f, y)]) := by
  funext b
  by_cases h1 : b = d
  · subst h1; rw [upd_same, upd_same]
  · rw [upd_ne h1, upd_ne h1]
    by_cases h2 : b = a
    · subst h2; rw [del_same, hn]
    · rw [del_ne h2, upd_ne h2, upd_ne h1, upd_ne h2]
theorem xmk1 {x : Str} {c : String} {k : Nat} {f : List Nat} {y : V} {u : Value} {Q : XK} (D : Exc1 X.prog X.w X.K X.mg X.base g x c k f) (hr : Rm (k + 1) X.A) (I : Inv X pins τ H s) (ru : RelV y u)
    (q : ∀ d, H d = none → Q (.ref (g.cl c)) (some d) (upd H d (.xd [(Sh.S f, y)]))) : wpAny (model X.prog X.w) X.A (call (.ref (g.cl c)) [u]) (MkP X pins τ Q) X.xe s := by
  obtain ⟨fI, fd, ps, hm, D, hps, hb, F1⟩ := D.ex
  have T := D.T
  obtain ⟨nm, q', N, bs, bm, sn, sub, ab, col, dd, k0, k1, k2, k3, k5, hC, hbm⟩ := D.T.cls
  obtain ⟨hp, gn, dr, tk, os⟩ := s
  have hsz : hp.objs.size ≤ hp.objs.size + 1 := Nat.le_succ _
  have hn : H (hp.objs.size + 1) = none := I.hok.fresh hsz
  have kk : ∀ b o, hp.get? b = some o → ((hp.push (PySem.W.kdv_tup [u])).push (PySem.HandSPX.excO (g.cl c) hp.objs.size)).get? b = some o := fun b o e => Heap.get?_push_of_some _ (Heap.get?_push_of_some _ e)
  have hget : ((hp.push (PySem.W.kdv_tup [u])).push (PySem.HandSPX.excO (g.cl c) hp.objs.size)).get? (hp.objs.size + 1) = some (PySem.HandSPX.excO (g.cl c) hp.objs.size) := by heap_get
  have I2 : Inv X pins τ (upd H (hp.objs.size + 1) (exo (hp.objs.size + 1) (g.cl c) none)) ⟨(hp.push (PySem.W.kdv_tup [u])).push (PySem.HandSPX.excO (g.cl c) hp.objs.size), gn, dr, tk, os⟩ :=
    I.laid (t' := tk) (a := hp.objs.size + 1) (o := exo (hp.objs.size + 1) (g.cl c) none) (h' := (hp.push (PySem.W.kdv_tup [u])).push (PySem.HandSPX.excO (g.cl c) hp.objs.size)) kk hsz (exo_ok hget)
  have r2 : Vals [V.ref (hp.objs.size + 1), y] [Value.ref (hp.objs.size + 1), u] := .cons rfl (.cons ru .nil)
  have hus : [u].length ≤ sizeLine := by show 1 ≤ sizeLine; decide
  have hbd := hb ⟨(hp.push (PySem.W.kdv_tup [u])).push (PySem.HandSPX.excO (g.cl c) hp.objs.size), gn, dr, tk, os⟩ [Value.ref (hp.objs.size + 1), u] I2.kIn (by rw [hps]; rfl)
  rw [List.append_nil] at hbd
  refine wpAny_call (PySem.HandSPX.call_own F.excBase_ValueError (fun Y => PySem.HandSPX.refsVE_contains Y bm hbm) (I.kIn _ _ hC) (PySem.W.looks_findIn I.kIn D.ini) (fun self => PySem.W.bind_fn I.kIn self D.fn) hus
    (codeAny_mono (F1.run _ X.stack _ _ ⟨[Value.ref (hp.objs.size + 1), u], []⟩ [Value.ref (hp.objs.size + 1), u] _
      (fun v H2 => v = .non ∧ ∃ d, H d = none ∧ d ≠ hp.objs.size + 1 ∧ H2 = upd (upd (upd H (hp.objs.size + 1) (exo (hp.objs.size + 1) (g.cl c) none)) d (exd d [(Sh.S f, y)])) (hp.objs.size + 1) (exo (hp.objs.size + 1) (g.cl c) (some d))) (fun _ _ _ => False)
      (Rm.make hr (g.cl c) [u] []) (I2.env0.make (g.cl c) [u] []) hbd r2 ⟨_, y, rfl, upd_same, fun dx h1 h2 => ⟨rfl, dx, by rw [upd_ne h2] at h1; exact h1, h2, rfl⟩⟩) fun r s' hq' => ?_))
  cases r with
  | error er =>
    obtain ⟨_, _, _, _, _, _, _, _, _, _, _, _, z⟩ := hq'
    exact z.elim
  | ok fl =>
    cases fl with
    | ret u' =>
      obtain ⟨v, H2, os2, bare2, un2, hok2, rv, ev, d, hd1, hne, e2⟩ := hq'
      subst ev e2
      obtain ⟨h2, g2, d2, t2, os'⟩ := s'
      refine ⟨rv, mk_end (d := d) (fs := [(Sh.S f, y)]) (raises_own T.exC T.tyC) I hsz kk un2 hok2 os2 bare2 upd_same (by rw [upd_ne hne, upd_same]) hd1 ?_⟩
      rw [upd_made hn hd1 hne]
      exact q d hd1
    | next => exact False.elim hq'
    | brk => exact False.elim hq'
    | cont => exact False.elim hq'
/-- the exception as a value: frozen -/
theorem mkP_held {Q : XK} {u : Value} {s' : Shared} (h : MkP X pins τ Q u s') : ∃ (a : Addr) (oe : Obj) (vs : Array Value) (H' : Hp) (cls : Value) (d : Option Addr), u = .ref a ∧ H' a = none ∧ Inv X pins τ (upd H' a (.frz oe (.own 0))) s' ∧ oe.cls = cls ∧ oe.dict = d ∧ oe.data = .fields vs ∧ Q cls d H' := by
  obtain ⟨a, oe, vs, sI, H', cls, d, rfl, J, k, hne, ha, hz, hd, h1, na, os, ag, _, q⟩ := h
  exact ⟨a, oe, vs, H', cls, d, rfl, na, J.call' (ch := []) os (Un.laidN k hne na) (J.hok.laidN k na ⟨ha, _, ha⟩) ag (fun b z => nomatch z), hz.1, hz.2, hd, q⟩
/-- C(v) -/
def makeX (c : String) (f : List Nat) (ws : List W) (m : Mem) : R W := match ws with
  | [w] => .ok (.ref m.length) (m ++ [.exc c [(f, w)]])
  | _ => .bad
def eMakeX (c : String) (f : List Nat) (a : DL) : DE := fun σ m => (a σ m).bind (makeX c f)
theorem makeX_ok {x : Str} {c : String} {k : Nat} {f : List Nat} {ws : List W} {vs : List V} {us : List Value} {Q : Value → Shared → Prop} (D : Exc1 X.prog X.w X.K X.mg X.base g x c k f) (hr : Rm (k + 1) X.A) (I : Inv X pins τ H s) (S : Sim g ρ m H) (r : VRs g ρ H ws vs) (ru : Vals vs us)
    (o : Out g wx τ ρ H (makeX c f ws m) (fun w m' ρ' H' => ∀ v u s', Inv X pins τ H' s' → VR g ρ' H' w v → RelV v u → Q u s')) : wpAny (model X.prog X.w) X.A (call (.ref (g.cl c)) us) Q X.xe s := by
  unfold makeX at o
  split at o
  · rename_i w0
    obtain ⟨y, rfl, ry⟩ := r.inv1
    cases ru with
    | @cons _ u _ _ r1 r2 =>
      cases r2
      refine wpAny_mono (xmk1 (Q := fun cls d H' => cls = .ref (g.cl c) ∧ ∃ dd, d = some dd ∧ H dd = none ∧ H' = upd H dd (.xd [(Sh.S f, y)])) D hr I r1 fun d hd => ⟨rfl, d, rfl, hd, rfl⟩) (fun u' s' h => ?_) fun _ _ z => z
      obtain ⟨a, oe, vs, H', cls, d, rfl, na, J, e1, e2, e3, e4, dd, e5, hdd, e6⟩ := mkP_held h
      subst e4 e5 e6
      obtain ⟨P1, S1⟩ := S.junk (u := .xd [(Sh.S f, y)]) hdd
      have hda : upd H dd (.xd [(Sh.S f, y)]) dd = some (.xd [(Sh.S f, y)]) := upd_same
      obtain ⟨P2, S2⟩ := S1.push (o := .exc c [(f, w0)]) (u := .frz oe (.own 0)) na ⟨oe, vs, some dd, [(Sh.S f, y)], rfl, e1, e2, e3, hda, .cons ⟨rfl, ry.post S P1⟩ .nil⟩
      exact o _ _ (P1.then P2 S S1) S2 (.ref a) _ s' J (.ref (by rw [← S1.len]; simp)) rfl
  · exact o.elim
theorem se_makeX {x : Str} {c : String} {k : Nat} {f : List Nat} {es : List Expr} {fa : DL} {p pos : Pos} (D : Exc1 X.prog X.w X.K X.mg X.base g x c k f) (hr : Rm (k + 1) X.A) (hg : Gl X x) (ha : SA g X wx (e :: es) fa)
    (hdb : (x == ("__debug__" : Str)) = false := by decide) (he : starEach (e :: es) X.env = (false, eval e X.env) :: starEach es X.env := by exact star1 rfl) (hpl : (backTo pos (starEach es X.env)).any (·.1) = false := by exact plain_ns rfl) :
    SE g X wx (.Call (.Name x p) (e :: es) [] pos) (eMakeX c f fa) := by
  obtain ⟨fi, fd, ps, hm, mk, _⟩ := id D.ex
  refine ⟨fun pins s σ m ρ H τ Q I S L o => ?_⟩
  refine wpAny_Call_Name_kw (ld_glob I hg hm ?_ hdb)
  refine PySem.W.callWith_K (h₀ := X.base) I.ok.mod.kin mk.T.kC (ha.run pos pins s σ m ρ H τ _ I S L ((o.bind S).imp fun ws m1 ρ1 H1 P1 S1 o1 vs us s1 I1 rv ru => ⟨I1.kIn, ?_⟩)) he hpl
  exact makeX_ok D hr I1 S1 rv ru o1
/-- raise C(v) -/
def sRaise (c : String) (f : List Nat) (a : DL) : DS := fun σ m => RS.of σ (a σ m) fun ws m1 => match ws with
  | [w] => .exc c [(f, w)] σ m1
  | _ => .bad
theorem ss_raise {x : Str} {c : String} {k : Nat} {f : List Nat} {es : List Expr} {fa : DL} {p pos rpos : Pos} (hc : X.calm = true) (tk : Takes X wx) (D : Exc1 X.prog X.w X.K X.mg X.base g x c k f) (hr : Rm (k + 1) X.A) (hg : Gl X x) (ha : SA g X wx (e :: es) fa)
    (hdb : (x == ("__debug__" : Str)) = false := by decide) (he : starEach (e :: es) X.env = (false, eval e X.env) :: starEach es X.env := by exact star1 rfl) (hpl : (backTo pos (starEach es X.env)).any (·.1) = false := by exact plain_ns rfl) :
    SS g X wx (.Raise (some (.Call (.Name x p) (e :: es) [] pos)) none rpos) (sRaise c f fa) := by
  obtain ⟨fi, fd, ps, hm, mk, _⟩ := id D.ex
  refine PS.conv (ps_raise (t := fun τ H Q => taOf g wx fa τ H fun vs H1 => ∃ y, vs = [y] ∧ ∀ d, H1 d = none → Q (.ref (g.cl c)) (some d) (upd H1 d (.xd [(Sh.S f, y)]))) hc tk ?_) ?_
  · intro pins s τ H Q I h
    refine wpAny_Call_Name_kw (ld_glob I hg hm ?_ hdb)
    refine PySem.W.callWith_K (h₀ := X.base) I.ok.mod.kin mk.T.kC (thn (ha.pa.run pos pins s τ H _ I h) fun us s1 ⟨vs, H1, I1, r1, y, e1, q⟩ => ⟨I1.kIn, ?_⟩) he hpl
    subst e1
    cases r1 with
    | @cons _ u _ _ r1 r2 =>
      cases r2
      exact xmk1 D hr I1 r1 q
  · intro D' τ H ⟨σ, m, ρ, S, L, o⟩
    refine ⟨σ, m, ρ, S, L, (o.of S L).imp fun ws m1 ρ1 H1 P1 S1 o1 vs rv => ?_⟩
    split at o1
    · rename_i w0
      obtain ⟨y, rfl, ry⟩ := rv.inv1
      refine ⟨y, rfl, fun d hd => ?_⟩
      obtain ⟨P2, S2⟩ := S1.junk (u := .xd [(Sh.S f, y)]) hd
      have hda : upd H1 d (.xd [(Sh.S f, y)]) d = some (.xd [(Sh.S f, y)]) := upd_same
      exact o1 _ _ τ (some d) _ P2 S2 ((L.post S P1).post S1 P2) hda (.cons ⟨rfl, ry.post S1 P2⟩ .nil)
    · exact o1.elim
end
end Sh

namespace Sh
open PySem PySem.Spec L2
open PyProof.Rows (envOfC)

/-! ### try .. except -/
inductive Tst (X : Cx) : Expr → List Value → Prop
  | one {x : Str} {c : Value} {p : Pos} : Names X x c → Tst X (.Name x p) [c]
  | tup3 {x1 x2 x3 : Str} {c1 c2 c3 : Value} {p1 p2 p3 tpos : Pos} {kk : Nat} : Names X x1 c1 → Names X x2 c2 → Names X x3 c3 → Tst X (.Tuple [.Name x1 p1, .Name x2 p2, .Name x3 p3] kk tpos) [c1, c2, c3]
section
variable {X : Cx} {pins : List (Addr × Obj)} {σ : St} {H : Hp} {s sI s' : Shared} {a : Addr} {pn : List (Addr × Obj)}
theorem names_run {x : Str} {c : Value} {p : Pos} {Q : Value → Shared → Prop} {E : Value → Shared → Prop} (N : Names X x c) (S3 : Inv (X.suite a pn) pins σ H s) (q : Q c s) : wpAny (model X.prog X.w) (X.A.mark (some (.ref a))) (eval (.Name x p) X.env) Q E s := by
  obtain ⟨hg, hdbg, hm | ⟨hm, hv, hnn⟩⟩ := N
  · exact ld_glob (X := X.suite a pn) S3 hg hm q hdbg
  · exact ld_blt (X := X.suite a pn) S3 hg hm hv q hnn hdbg
theorem Tst.run {te : Expr} {cs : List Value} {cls : Value} {b : Bool} {Q : Bool → Shared → Prop} {E E' : Value → Shared → Prop} (T : Tst X te cs) (S3 : Inv (X.suite a pn) pins σ H s) (LT : PySem.W.Looks (model X.prog X.w) s.heap (typeOf (.ref a)) cls) (he : PySem.W.exmAny X.K cls cs = some b)
    (q : ∀ h' tk, (∀ b o, s.heap.get? b = some o → h'.get? b = some o) → Q b { s with heap := h', toks := tk }) :
    wpAny (model X.prog X.w) (X.A.mark (some (.ref a))) (eval te X.env) (fun c s₁ => wpAny (model X.prog X.w) (X.A.mark (some (.ref a))) (excMatches (.ref a) c) Q E' s₁) E s := by
  have KX : X.K.In s.heap := S3.kIn
  cases T with
  | @one x c p N =>
    obtain ⟨b1, d1, h1, h2, h3⟩ := PySem.W.exmAny_cons he
    cases h2
    rw [Bool.or_false] at h3
    subst h3
    refine names_run N S3 ?_
    exact (PySem.W.exm_one KX LT h1).here (q s.heap s.toks fun _ _ z => z)
  | @tup3 x1 x2 x3 c1 c2 c3 p1 p2 p3 tpos kk N1 N2 N3 =>
    refine wpAny_Tuple ?_
    refine wpAny_items_cons (names_run N1 S3 ?_)
    refine wpAny_items_cons (names_run N2 S3 ?_)
    refine wpAny_items_cons (names_run N3 S3 ?_)
    refine wpAny_items_nil ⟨by size_fits, ?_⟩
    have kp : ∀ q o, s.heap.get? q = some o → (s.heap.push { cls := .type "tuple", data := .seq [c1, c2, c3].toArray }).get? q = some o := fun _ _ z => Heap.get?_push_of_some _ z
    exact (PySem.W.exm_tup3 (KX.keeps kp) (LT.keeps kp) (Heap.get?_push_size s.heap rfl) he).here (q _ s.toks kp)
theorem flying_keeps {B h h' : Heap} {l : List Env} {e : Addr} {Z : Obj → Prop} (fl : HandSPX.FlyingZ B l e Z h) (k : ∀ b o, h.get? b = some o → h'.get? b = some o) : HandSPX.FlyingZ B l e Z h' := by
  obtain ⟨k1, k2, k3, oe, vs, T, oT, ts, he, hz, hd, h1, hnT, hTe, hT, hdT, h3⟩ := fl
  exact ⟨fun b o q => k b o (k1 b o q), k2, Heap.FunFrames.of_keeps (fun b o e _ => ⟨o, k b o e, rfl⟩) k3, oe, vs, T, oT, ts, k _ _ he, hz, hd, h1, hnT, hTe, k _ _ hT, hdT, h3⟩
theorem Inv.suite0 (I : Inv X pins σ H s) : Inv (X.suite a (X.pn ++ pins)) [] σ H s :=
  ⟨I.ok.suite _ _, I.os, I.bare, I.base, I.loc, I.cell, I.free, I.freeC, fun p hp => I.pin p (by rw [List.append_nil] at hp; exact hp), I.hok, I.len⟩
theorem Inv.unsuite0 {pn' : List (Addr × Obj)} (I : Inv (X.suite a (X.pn ++ pins)) pn' σ H s) (ok : X.Ok) : Inv X pins σ H s :=
  ⟨ok, I.os, I.bare, I.base, I.loc, I.cell, I.free, I.freeC, fun p hp => I.pin p (List.mem_append_left _ hp), I.hok, I.len⟩
/-- back on the ground, the exception held -/
theorem Inv.landedX {B : Heap} {oe : Obj} (I : Inv X pins σ H sI) (nb : ∀ b o, sI.heap.get? b = some o → b ∉ frs X.stack → B.get? b = some o) (st : B.StaysIn s'.heap) (up : sI.heap.UpToSlots s'.heap) (os : s'.os = sI.os) (ag : PyProof.Rows.AllBare s'.gens)
    (nB : B.get? a = none) (nF : a ∉ frs X.stack) (na : H a = none) (ha : s'.heap.get? a = some oe) : Inv X pins σ (upd H a (.frz oe (.own 0))) s' := by
  have nI : sI.heap.get? a = none := by
    cases q : sI.heap.get? a with
    | none => rfl
    | some o => rw [nb a o q nF] at nB; cases nB
  have nf : ∀ b ∈ frs X.stack, ∀ o, sI.heap.get? b = some o → ∃ sl, s'.heap.get? b = some { o with slots := sl } := fun b hb o e => by
    obtain ⟨_, o', e', hd⟩ := I.stack.mem hb
    rw [e] at e'; cases e'
    exact up b o e hd
  have ne : ∀ b o, sI.heap.get? b = some o → b ≠ a := fun b o e z => by rw [z, nI] at e; cases e
  refine I.call' (ch := []) os ⟨fun b o e _ hb _ => st b o (nb b o e hb), fun b o e _ hb _ => nf b hb o e, fun b o e n _ => by rw [upd_ne (ne b o e)]; exact n, fun b o e _ => by
      by_cases hb : b ∈ frs X.stack
      · obtain ⟨sl, q⟩ := nf b hb o e
        exact ⟨_, q⟩
      · exact ⟨o, st b o (nb b o e hb)⟩, fun b xs e => by rw [upd_ne (ne_of_none e na)]; exact e, fun b o u e => by rw [upd_ne (ne_of_none e na)]; exact e, fun b ps e => ⟨#[], by rw [upd_ne (ne_of_none e na), e]; simp⟩⟩
    (((I.inGround nb).kept st).laidN (fun _ _ q => q) na ⟨ha, _, ha⟩) ag (fun _ z => nomatch z)
end
/-- what the clause wishes of an exception of the body -/
def wTryA (K : PySem.W.Frag) (cs : List Value) (i : Nat) (ts : TS) (Wout : WX) (D : Ends) : WX := fun cls d σ H =>
  ∃ b, PySem.W.exmAny K cls cs = some b ∧ (b = true → ∀ a oe vs, H a = none → oe.cls = cls → oe.dict = d → oe.data = .fields vs →
    ts { nx := fun σ' H' => D.nx (σ'.set i none) H', rt := D.rt, bk := fun σ' H' => D.bk (σ'.set i none) H', ct := fun σ' H' => D.ct (σ'.set i none) H' } (σ.set i (some (.ref a))) (upd H a (.frz oe (.own 0)))) ∧ (b = false → Wout cls d σ H)
def wTryO (K : PySem.W.Frag) (cs : List Value) (ts : TS) (Wout : WX) (D : Ends) : WX := fun cls d σ H => ∃ b, PySem.W.exmAny K cls cs = some b ∧ (b = true → ts D σ H) ∧ (b = false → Wout cls d σ H)
section
variable {X : Cx} {te : Expr} {cs : List Value} {n : Str} {i : Nat} {body suite : List Stmt} {b₀ : Stmt} {pos pos' : Pos} {tb : WX → TS} {ts : TS} {Wout : WX}
theorem ps_tryA (hs : X.stack = X.env :: X.outer) (hf : X.env.frame = some X.env.locals) (hN : X.N.Nodup) (hi : X.N[i]? = some n) (hln : X.env.kindOf n = some .local) (hc : Tst X te cs) (tk : Takes X Wout)
    (hb : ∀ (W : WX) (pn : List (Addr × Obj)) (xe : Value → Shared → Prop), Takes (X.tr pn xe) W → PassesOwn (model X.prog X.w) X.A X.env xe → PSs (X.tr pn xe) body (tb W))
    (hsu : ∀ (a : Addr) (pn : List (Addr × Obj)), PSs (X.suite a pn) (b₀ :: suite) ts) :
    PS X (.Try body [.ExceptHandler (some te) (some n) (b₀ :: suite) pos'] [] [] pos) (fun D σ H => tb (wTryA X.K cs i ts Wout D) D σ H) := by
  refine ⟨fun pins s σ H D I h => ?_⟩
  have ok := I.ok
  have hfr : X.A.frames = some (X.env :: X.outer) := by rw [ok.frames, hs]
  have hloc : L2.Loc X.env.scope n := .inl hln
  refine wpAny_Try_except ?_
  refine wpAny_mono ((hb (wTryA X.K cs i ts Wout D) (X.pn ++ pins) (fun e s₁ => wpAny (model X.prog X.w) X.A (noteFrame e X.env) (fun _ s₂ => wpAny (model X.prog X.w) X.A (setFlight e none) (fun _ s₃ =>
    wpAny (model X.prog X.w) X.A (handleBy e X.env [.ExceptHandler (some te) (some n) (b₀ :: suite) pos']) (SP X pins D) X.xe s₃) X.xe s₂) X.xe s₁) (fun u s' xx => ?_) PassesOwn.looking).run [] s σ H D (I.toTry _) h) (fun f s1 hsp => ?_) (fun e s1 he => he)
  · obtain ⟨a, B, sI, pins', σ', H', cls, d, rfl, J', nb, up, sky, na, os, ag, b, hb1, hyes, hno⟩ := xx
    have J : Inv X pins σ' H' sI := J'.ofTry ok
    have sky' : Sky B (X.env :: X.outer) a (Zc cls d) X.env.locals s'.heap := by rw [← hs]; exact sky
    show wpAny (model X.prog X.w) X.A (noteFrame (.ref a) X.env) _ _ _
    refine Sky.land Zc.steady hfr hf sky' fun h3 fl3 up3 => ?_
    have J3 : Inv X pins σ' H' { s' with heap := h3 } := J.landed nb fl3.1 (up.trans up3) os ag
    obtain ⟨oe3, vs3, he3, hz3, hd3⟩ := fl3.there
    have nfr : a ∉ frs (X.env :: X.outer) := fun hm => by
      obtain ⟨_, o', e', hnf⟩ := fl3.2.2.1.mem hm
      rw [he3] at e'; cases e'
      exact hnf _ hd3
    have S3 := Inv.suite0 (a := a) J3
    refine wpAny_handleBy_cons (codeAny_handlers_test ?_) (by intro q; cases q)
    have LT : PySem.W.Looks (model X.prog X.w) h3 (typeOf (.ref a)) cls := fun A Q E s k q => wpAny_typeOf_ref (k _ _ he3) (by rw [hz3.1]; exact q)
    refine hc.run S3 LT hb1 fun hT tkT kT => ?_
    have flT := flying_keeps fl3 kT
    have upT := up3.trans (Heap.UpToSlots.of_keeps kT)
    cases b with
    | true =>
      refine codeAny_handlers_suite_as ?_
      refine HandSPX.lands_againZ flT fun h4 fl4 up4 => ?_
      obtain ⟨oe4, vs4, he4, hz4, hd4⟩ := fl4.there
      have J4 : Inv X pins σ' (upd H' a (.frz oe4 (.own 0))) { s' with heap := h4, toks := tkT } := Inv.landedX (s' := { s' with heap := h4, toks := tkT }) J nb fl4.1 ((up.trans upT).trans up4) os ag fl4.2.1 (by rw [hs]; exact nfr) na he4
      have S4 := Inv.suite0 (a := a) J4
      refine store_ok (X := X.suite a (X.pn ++ pins)) (v := .ref a) S4 hN hi hloc rfl (fun s5 S5 => ?_) (.inr hln)
      refine wpAny_mono ((hsu a (X.pn ++ pins)).run [] s5 _ _ _ S5 (hyes rfl a oe4 vs4 na hz4.1 hz4.2 hd4)) (fun f s6 hsp => ?_) (fun _ _ z => False.elim z)
      have end_ : ∀ {σ6 : St} {H6 : Hp} {Q : Shared → Prop}, Inv (X.suite a (X.pn ++ pins)) [] σ6 H6 s6 → (∀ s7, Inv X pins (σ6.set i none) H6 s7 → Q s7) →
          wpAny (model X.prog X.w) X.A (do bindName X.env n .none; unbindBehindTheSuite X.env n pos') (fun _ s7 => Q s7) X.xe s6 := fun {σ6 H6 Q} S6 hq => gone_ok (Inv.unsuite0 S6 ok) hN hi hln hq
      cases f with
      | next =>
        obtain ⟨σ6, H6, S6, q6⟩ := hsp
        exact end_ S6 fun s7 J7 => ⟨_, _, J7, q6⟩
      | brk =>
        obtain ⟨σ6, H6, S6, q6⟩ := hsp
        exact end_ S6 fun s7 J7 => ⟨_, _, J7, q6⟩
      | cont =>
        obtain ⟨σ6, H6, S6, q6⟩ := hsp
        exact end_ S6 fun s7 J7 => ⟨_, _, J7, q6⟩
      | ret u =>
        obtain ⟨v6, σ6, H6, S6, r6, q6⟩ := hsp
        exact end_ S6 fun s7 J7 => ⟨_, _, _, J7, r6, q6⟩
    | false =>
      show wpAny _ X.A (handleBy (.ref a) X.env []) _ _ _
      refine wpAny_handleBy_nil ?_
      obtain ⟨k1, k2, k3, oe, vs, T, oT, ts', he, hz, hd, h1, hr⟩ := id flT
      unfold PySem.passOn
      refine wpAny_bind (wpAny_field he hd h1 ?_)
      rw [if_neg (show ¬ ((Value.ref T == Value.none) = true) from by simp)]
      have fin : wpAny (model X.prog X.w) X.A (setFlight (.ref a) X.env.frame) (fun _ s4 => wpAny (model X.prog X.w) X.A (throw (.ref a) : Sem Flow) (SP X pins D) X.xe s4) X.xe { s' with heap := hT, toks := tkT } := by
        rw [hf]
        refine HandSPX.setFlight_upZ flT fun h4 hh4 up4 => wpAny_throw (tk _ _ ?_)
        exact ⟨a, B, sI, pins, σ', H', cls, d, rfl, J, nb, (up.trans upT).trans up4, .inr (.inr (by rw [hs]; exact hh4)), na, os, ag, hno rfl⟩
      first
        | exact wpAny_bind (wpAny_pure (wpAny_bind fin))
        | exact wpAny_bind fin
  · cases f with
    | next =>
      obtain ⟨σ', H', J', q⟩ := hsp
      exact wpAny_execs_nil ⟨σ', H', J'.ofTry ok, q⟩
    | brk =>
      obtain ⟨σ', H', J', q⟩ := hsp
      exact ⟨σ', H', J'.ofTry ok, q⟩
    | cont =>
      obtain ⟨σ', H', J', q⟩ := hsp
      exact ⟨σ', H', J'.ofTry ok, q⟩
    | ret u =>
      obtain ⟨v, σ', H', J', r, q⟩ := hsp
      exact ⟨v, σ', H', J'.ofTry ok, r, q⟩
theorem ps_tryO (hs : X.stack = X.env :: X.outer) (hf : X.env.frame = some X.env.locals) (hc : Tst X te cs) (tk : Takes X Wout)
    (hb : ∀ (W : WX) (pn : List (Addr × Obj)) (xe : Value → Shared → Prop), Takes (X.tr pn xe) W → PassesOwn (model X.prog X.w) X.A X.env xe → PSs (X.tr pn xe) body (tb W))
    (hsu : ∀ (a : Addr) (pn : List (Addr × Obj)), PSs (X.suite a pn) (b₀ :: suite) ts) :
    PS X (.Try body [.ExceptHandler (some te) none (b₀ :: suite) pos'] [] [] pos) (fun D σ H => tb (wTryO X.K cs ts Wout D) D σ H) := by
  refine ⟨fun pins s σ H D I h => ?_⟩
  have ok := I.ok
  have hfr : X.A.frames = some (X.env :: X.outer) := by rw [ok.frames, hs]
  refine wpAny_Try_except ?_
  refine wpAny_mono ((hb (wTryO X.K cs ts Wout D) (X.pn ++ pins) (fun e s₁ => wpAny (model X.prog X.w) X.A (noteFrame e X.env) (fun _ s₂ => wpAny (model X.prog X.w) X.A (setFlight e none) (fun _ s₃ =>
    wpAny (model X.prog X.w) X.A (handleBy e X.env [.ExceptHandler (some te) none (b₀ :: suite) pos']) (SP X pins D) X.xe s₃) X.xe s₂) X.xe s₁) (fun u s' xx => ?_) PassesOwn.looking).run [] s σ H D (I.toTry _) h) (fun f s1 hsp => ?_) (fun e s1 he => he)
  · obtain ⟨a, B, sI, pins', σ', H', cls, d, rfl, J', nb, up, sky, na, os, ag, b, hb1, hyes, hno⟩ := xx
    have J : Inv X pins σ' H' sI := J'.ofTry ok
    have sky' : Sky B (X.env :: X.outer) a (Zc cls d) X.env.locals s'.heap := by rw [← hs]; exact sky
    show wpAny (model X.prog X.w) X.A (noteFrame (.ref a) X.env) _ _ _
    refine Sky.land Zc.steady hfr hf sky' fun h3 fl3 up3 => ?_
    have J3 : Inv X pins σ' H' { s' with heap := h3 } := J.landed nb fl3.1 (up.trans up3) os ag
    obtain ⟨oe3, vs3, he3, hz3, hd3⟩ := fl3.there
    have S3 := Inv.suite0 (a := a) J3
    refine wpAny_handleBy_cons (codeAny_handlers_test ?_) (by intro q; cases q)
    have LT : PySem.W.Looks (model X.prog X.w) h3 (typeOf (.ref a)) cls := fun A Q E s k q => wpAny_typeOf_ref (k _ _ he3) (by rw [hz3.1]; exact q)
    refine hc.run S3 LT hb1 fun hT tkT kT => ?_
    have flT := flying_keeps fl3 kT
    have upT := up3.trans (Heap.UpToSlots.of_keeps kT)
    cases b with
    | true =>
      refine codeAny_handlers_suite ?_
      refine HandSPX.lands_againZ flT fun h4 fl4 up4 => ?_
      have J4 : Inv X pins σ' H' { s' with heap := h4, toks := tkT } := J.landed (s' := { s' with heap := h4, toks := tkT }) nb fl4.1 ((up.trans upT).trans up4) os ag
      have S4 := Inv.suite0 (a := a) J4
      refine wpAny_mono ((hsu a (X.pn ++ pins)).run [] _ _ _ _ S4 (hyes rfl)) (fun f s6 hsp => ?_) (fun _ _ z => False.elim z)
      cases f with
      | next =>
        obtain ⟨σ6, H6, S6, q6⟩ := hsp
        exact ⟨_, _, Inv.unsuite0 S6 ok, q6⟩
      | brk =>
        obtain ⟨σ6, H6, S6, q6⟩ := hsp
        exact ⟨_, _, Inv.unsuite0 S6 ok, q6⟩
      | cont =>
        obtain ⟨σ6, H6, S6, q6⟩ := hsp
        exact ⟨_, _, Inv.unsuite0 S6 ok, q6⟩
      | ret u =>
        obtain ⟨v6, σ6, H6, S6, r6, q6⟩ := hsp
        exact ⟨_, _, _, Inv.unsuite0 S6 ok, r6, q6⟩
    | false =>
      show wpAny _ X.A (handleBy (.ref a) X.env []) _ _ _
      refine wpAny_handleBy_nil ?_
      obtain ⟨k1, k2, k3, oe, vs, T, oT, ts', he, hz, hd, h1, hr⟩ := id flT
      unfold PySem.passOn
      refine wpAny_bind (wpAny_field he hd h1 ?_)
      rw [if_neg (show ¬ ((Value.ref T == Value.none) = true) from by simp)]
      have fin : wpAny (model X.prog X.w) X.A (setFlight (.ref a) X.env.frame) (fun _ s4 => wpAny (model X.prog X.w) X.A (throw (.ref a) : Sem Flow) (SP X pins D) X.xe s4) X.xe { s' with heap := hT, toks := tkT } := by
        rw [hf]
        refine HandSPX.setFlight_upZ flT fun h4 hh4 up4 => wpAny_throw (tk _ _ ?_)
        exact ⟨a, B, sI, pins, σ', H', cls, d, rfl, J, nb, (up.trans upT).trans up4, .inr (.inr (by rw [hs]; exact hh4)), na, os, ag, hno rfl⟩
      first
        | exact wpAny_bind (wpAny_pure (wpAny_bind fin))
        | exact wpAny_bind fin
  · cases f with
    | next =>
      obtain ⟨σ', H', J', q⟩ := hsp
      exact wpAny_execs_nil ⟨σ', H', J'.ofTry ok, q⟩
    | brk =>
      obtain ⟨σ', H', J', q⟩ := hsp
      exact ⟨σ', H', J'.ofTry ok, q⟩
    | cont =>
      obtain ⟨σ', H', J', q⟩ := hsp
      exact ⟨σ', H', J'.ofTry ok, q⟩
    | ret u =>
      obtain ⟨v, σ', H', J', r, q⟩ := hsp
      exact ⟨v, σ', H', J'.ofTry ok, r, q⟩
end
/-! .. in our reading -/
def sTryA (f : DS) (isa : String → Option Bool) (i : Nat) (su : DS) : DS := fun σ m => match f σ m with
  | .exc c fs σ1 m1 => match isa c with
    | some true => match su (σ1.set i (some (.ref m1.length))) (m1 ++ [.exc c fs]) with
      | .nx σ2 m2 => .nx (σ2.set i none) m2
      | .rt w m2 => .rt w m2
      | .bk σ2 m2 => .bk (σ2.set i none) m2
      | .ct σ2 m2 => .ct (σ2.set i none) m2
      | _ => .bad
    | some false => .exc c fs σ1 m1
    | none => .bad
  | r => r
def sTryO (f : DS) (isa : String → Option Bool) (su : DS) : DS := fun σ m => match f σ m with
  | .exc c fs σ1 m1 => match isa c with
    | some true => match su σ1 m1 with
      | .exc _ _ _ _ => .bad
      | r => r
    | some false => .exc c fs σ1 m1
    | none => .bad
  | r => r
section
variable {g : G} {X : Cx} {wx : WX} {τ : L2.St} {ρ ρ' : List Addr} {H H' : Hp} {m m' : Mem} {te : Expr} {cs : List Value} {n : Str} {i : Nat} {body suite : List Stmt} {b₀ : Stmt} {pos pos' : Pos} {f su : DS} {isa : String → Option Bool}
theorem ss_tryA (hs : X.stack = X.env :: X.outer) (hf : X.env.frame = some X.env.locals) (hN : X.N.Nodup) (hi : X.N[i]? = some n) (hln : X.env.kindOf n = some .local) (hc : Tst X te cs) (tk : Takes X wx) (hisa : ∀ c b, isa c = some b → PySem.W.exmAny X.K (.ref (g.cl c)) cs = some b)
    (hb : ∀ (W : WX) (pn : List (Addr × Obj)) (xe : Value → Shared → Prop), Takes (X.tr pn xe) W → PassesOwn (model X.prog X.w) X.A X.env xe → SSs g (X.tr pn xe) W body f)
    (hsu : ∀ (a : Addr) (pn : List (Addr × Obj)), SSs g (X.suite a pn) wx0 (b₀ :: suite) su) :
    SS g X wx (.Try body [.ExceptHandler (some te) (some n) (b₀ :: suite) pos'] [] [] pos) (sTryA f isa i su) :=
  PS.conv (ps_tryA (tb := fun W => tsOf g W f) (ts := tsOf g wx0 su) hs hf hN hi hln hc tk hb hsu) fun D τ H ⟨σ, m, ρ, S, L, o⟩ => ⟨σ, m, ρ, S, L, by
    unfold sTryA at o
    cases hr : f σ m with
    | exc c fs σ1 m1 =>
      rw [hr] at o
      simp only at o
      intro ρ1 H1 τ1 d gs P1 S1 L1 hd hfr
      cases hi' : isa c with
      | none => rw [hi'] at o; exact o.elim
      | some b =>
        rw [hi'] at o
        refine ⟨b, hisa c b hi', fun hb => ?_, fun hb => ?_⟩
        · subst hb
          intro a oe vs na e1 e2 e3
          obtain ⟨P2, S2⟩ := S1.push (o := .exc c fs) (u := .frz oe (.own 0)) na ⟨oe, vs, d, gs, rfl, e1, e2, e3, hd, hfr⟩
          have hl : (ρ1 ++ [a])[m1.length]? = some a := by rw [← S1.len]; simp
          refine ⟨σ1.set i (some (.ref m1.length)), m1 ++ [.exc c fs], ρ1 ++ [a], S2, (L1.post S1 P2).set i (.ref hl), ?_⟩
          have P12 := P1.then P2 S S1
          simp only at o
          cases hsr : su (σ1.set i (some (.ref m1.length))) (m1 ++ [.exc c fs]) with
          | nx σ2 m2 => rw [hsr] at o; exact fun ρ3 H3 τ3 P3 S3 L3 => o ρ3 H3 _ (P12.then P3 S S2) S3 (L3.forget i)
          | rt w m2 => rw [hsr] at o; exact fun ρ3 H3 v P3 S3 r => o ρ3 H3 v (P12.then P3 S S2) S3 r
          | bk σ2 m2 => rw [hsr] at o; exact fun ρ3 H3 τ3 P3 S3 L3 => o ρ3 H3 _ (P12.then P3 S S2) S3 (L3.forget i)
          | ct σ2 m2 => rw [hsr] at o; exact fun ρ3 H3 τ3 P3 S3 L3 => o ρ3 H3 _ (P12.then P3 S S2) S3 (L3.forget i)
          | exc c2 fs2 σ2 m2 => rw [hsr] at o; exact o.elim
          | bad => rw [hsr] at o; exact o.elim
        · subst hb
          exact o ρ1 H1 τ1 d gs P1 S1 L1 hd hfr
    | nx σ' m' => rw [hr] at o; exact o
    | rt w m' => rw [hr] at o; exact o
    | bk σ' m' => rw [hr] at o; exact o
    | ct σ' m' => rw [hr] at o; exact o
    | bad => rw [hr] at o; exact o⟩
theorem ss_tryO (hs : X.stack = X.env :: X.outer) (hf : X.env.frame = some X.env.locals) (hc : Tst X te cs) (tk : Takes X wx) (hisa : ∀ c b, isa c = some b → PySem.W.exmAny X.K (.ref (g.cl c)) cs = some b)
    (hb : ∀ (W : WX) (pn : List (Addr × Obj)) (xe : Value → Shared → Prop), Takes (X.tr pn xe) W → PassesOwn (model X.prog X.w) X.A X.env xe → SSs g (X.tr pn xe) W body f)
    (hsu : ∀ (a : Addr) (pn : List (Addr × Obj)), SSs g (X.suite a pn) wx0 (b₀ :: suite) su) :
    SS g X wx (.Try body [.ExceptHandler (some te) none (b₀ :: suite) pos'] [] [] pos) (sTryO f isa su) :=
  PS.conv (ps_tryO (tb := fun W => tsOf g W f) (ts := tsOf g wx0 su) hs hf hc tk hb hsu) fun D τ H ⟨σ, m, ρ, S, L, o⟩ => ⟨σ, m, ρ, S, L, by
    unfold sTryO at o
    cases hr : f σ m with
    | exc c fs σ1 m1 =>
      rw [hr] at o
      simp only at o
      intro ρ1 H1 τ1 d gs P1 S1 L1 hd hfr
      cases hi' : isa c with
      | none => rw [hi'] at o; exact o.elim
      | some b =>
        rw [hi'] at o
        refine ⟨b, hisa c b hi', fun hb => ?_, fun hb => ?_⟩
        · subst hb
          refine ⟨σ1, m1, ρ1, S1, L1, ?_⟩
          simp only at o
          cases hsr : su σ1 m1 with
          | nx σ2 m2 => rw [hsr] at o; exact fun ρ3 H3 τ3 P3 S3 L3 => o ρ3 H3 _ (P1.then P3 S S1) S3 L3
          | rt w m2 => rw [hsr] at o; exact fun ρ3 H3 v P3 S3 r => o ρ3 H3 v (P1.then P3 S S1) S3 r
          | bk σ2 m2 => rw [hsr] at o; exact fun ρ3 H3 τ3 P3 S3 L3 => o ρ3 H3 _ (P1.then P3 S S1) S3 L3
          | ct σ2 m2 => rw [hsr] at o; exact fun ρ3 H3 τ3 P3 S3 L3 => o ρ3 H3 _ (P1.then P3 S S1) S3 L3
          | exc c2 fs2 σ2 m2 => rw [hsr] at o; exact o.elim
          | bad => rw [hsr] at o; exact o.elim
        · subst hb
          exact o ρ1 H1 τ1 d gs P1 S1 L1 hd hfr
    | nx σ' m' => rw [hr] at o; exact o
    | rt w m' => rw [hr] at o; exact o
    | bk σ' m' => rw [hr] at o; exact o
    | ct σ' m' => rw [hr] at o; exact o
    | bad => rw [hr] at o; exact o⟩
end
end Sh

namespace Sh
open PySem PySem.Spec L2

/-! ### dicts whose keys are ints and texts -/
def keyW : W → Option Key
  | .int i => some (.inl i)
  | .str l => some (.inr (Sh.S l))
  | _ => none
def findK (kvs : List (Key × W)) (k : Key) : Option W := (kvs.find? fun kv => decide (kv.1 = k)).map (·.2)
def putKW (kvs : List (Key × W)) (k : Key) (w : W) : List (Key × W) :=
  if (kvs.any fun kv => decide (kv.1 = k)) = true then kvs.map (fun kv => if kv.1 = k then (kv.1, w) else kv) else kvs ++ [(k, w)]
def mergeKW (kvs more : List (Key × W)) : List (Key × W) := more.foldl (fun acc kv => putKW acc kv.1 kv.2) kvs
section
variable {g : G} {X : Cx} {wx : WX} {τ : L2.St} {ρ ρ' : List Addr} {H H' : Hp} {m m' : Mem} {e a b : Expr} {fa fb fo fi fe : DE} {pos : Pos} {pins : List (Addr × Obj)} {s : Shared}
theorem keyW_V {w : W} {v : V} {k : Key} (r : VR g ρ H w v) (h : keyW w = some k) : v = kV k := by
  unfold keyW at h
  split at h
  · cases h; cases r; rfl
  · cases h; cases r; rfl
  · cases h
theorem KR.len {kvs : List (Key × W)} {vs : List (Key × V)} (r : KR g ρ H kvs vs) : kvs.length = vs.length := Paired.length r
theorem KR.find {kvs : List (Key × W)} {vs : List (Key × V)} (r : KR g ρ H kvs vs) (k : Key) : (∀ w, findK kvs k = some w → ∃ v, valV vs k = some v ∧ VR g ρ H w v) ∧ (findK kvs k = none → valV vs k = none) := by
  induction r with
  | nil => exact ⟨fun w h => (by cases h), fun _ => rfl⟩
  | @cons p q kvs vs hq hr ih =>
    obtain ⟨k1, w1⟩ := p
    obtain ⟨k2, v2⟩ := q
    obtain ⟨e, rv⟩ := hq
    have e : k1 = k2 := e
    subst e
    by_cases hk : k1 = k
    · subst hk
      refine ⟨fun w h => ⟨v2, by simp [valV], ?_⟩, fun h => ?_⟩
      · simp [findK] at h; subst h; exact rv
      · simp [findK] at h
    · have h1 : findK ((k1, w1) :: kvs) k = findK kvs k := by simp [findK, hk]
      have h2 : valV ((k1, v2) :: vs) k = valV vs k := by simp [valV, hk]
      rw [h1, h2]
      exact ih
theorem KR.any {kvs : List (Key × W)} {vs : List (Key × V)} (r : KR g ρ H kvs vs) (k : Key) : (kvs.any fun kv => decide (kv.1 = k)) = (vs.any fun kv => decide (kv.1 = k)) := by
  induction r with
  | nil => rfl
  | @cons p q kvs vs hq hr ih =>
    have e : p.1 = q.1 := hq.1
    simp only [List.any_cons, ih, e]
theorem KR.snoc {kvs : List (Key × W)} {vs : List (Key × V)} (r : KR g ρ H kvs vs) {k : Key} {w : W} {v : V} (q : VR g ρ H w v) : KR g ρ H (kvs ++ [(k, w)]) (vs ++ [(k, v)]) := by
  induction r with
  | nil => exact .cons ⟨rfl, q⟩ .nil
  | cons h t ih => exact .cons h ih
theorem KR.put {kvs : List (Key × W)} {vs : List (Key × V)} (r : KR g ρ H kvs vs) (k : Key) {w : W} {v : V} (q : VR g ρ H w v) : KR g ρ H (putKW kvs k w) (putK vs k v) := by
  unfold putKW putK
  rw [r.any k]
  split
  · have key : ∀ {kvs : List (Key × W)} {vs : List (Key × V)}, KR g ρ H kvs vs → KR g ρ H (kvs.map fun kv => if kv.1 = k then (kv.1, w) else kv) (vs.map fun kv => if kv.1 = k then (kv.1, v) else kv) := by
      intro kvs vs r
      induction r with
      | nil => exact .nil
      | @cons p p' kvs vs hq hr ih =>
        obtain ⟨k1, w1⟩ := p
        obtain ⟨k2, v2⟩ := p'
        obtain ⟨e, rv⟩ := hq
        have e : k1 = k2 := e
        subst e
        refine .cons ?_ ih
        by_cases hk : k1 = k
        · subst hk; simpa using q
        · simpa [hk] using rv
    exact key r
  · exact r.snoc q
theorem KR.merge {kvs more : List (Key × W)} {vs ms : List (Key × V)} (r : KR g ρ H kvs vs) (q : KR g ρ H more ms) : KR g ρ H (mergeKW kvs more) (mergeK vs ms) := by
  induction q generalizing kvs vs with
  | nil => exact r
  | @cons p p' more ms hq hr ih =>
    obtain ⟨k1, w1⟩ := p
    obtain ⟨k2, v2⟩ := p'
    obtain ⟨e, rv⟩ := hq
    have e : k1 = k2 := e
    subst e
    exact ih (r.put k1 rv)
theorem obj_dK (S : Sim g ρ m H) {n : Nat} {p : Addr} {kvs : List (Key × W)} (hp : ρ[n]? = some p) (hm : m[n]? = some (.dK kvs)) : ∃ vs, H p = some (.dK vs) ∧ KR g ρ H kvs vs := by
  obtain ⟨u, h1, vs, e1, r⟩ := S.obj n p _ hp hm
  subst e1
  exact ⟨vs, h1, r⟩

/-- d[k] -/
def dGetW (x y : W) (m : Mem) : R W := match x with
  | .ref n => match m[n]?, keyW y with
    | some (.dK kvs), some k => match findK kvs k with
      | some w => .ok w m
      | none => .bad
    | _, _ => .bad
  | _ => .bad
def eDGet (fo fi : DE) : DE := eBin dGetW fo fi
theorem se_dget (hr : ∃ k, Rm k X.A) (ha : SE g X wx a fa) (hb : SE g X wx b fb) (hs : NoSl b := by exact fun _ _ => rfl) : SE g X wx (.Subscript a b pos) (eDGet fa fb) := by
  obtain ⟨k, hr⟩ := hr
  refine SE.ofPE (pe_dget (hu_of hr.r) ha.pe hb.pe hs) fun σ m ρ H τ Q S L o => ?_
  have o : Out g wx τ ρ H ((fa σ m).bind fun x m1 => (fb σ m1).bind fun y m2 => dGetW x y m2) _ := o
  refine ⟨σ, m, ρ, S, L, (o.bind S).imp fun x m1 ρ1 H1 P1 S1 o1 v rv => ⟨σ, m1, ρ1, S1, L.post S P1, (o1.bind S1).imp fun y m2 ρ2 H2 P2 S2 o2 z rz => ?_⟩⟩
  have rv2 := rv.post S1 P2
  unfold dGetW at o2
  split at o2
  · rename_i n
    cases rv2 with
    | @ref _ p hp =>
      split at o2
      · rename_i kvs k hm hk
        obtain ⟨vs, h1, r1⟩ := obj_dK S2 hp hm
        split at o2
        · rename_i w hw
          obtain ⟨v', h2, r2⟩ := (r1.find k).1 w hw
          obtain rfl := keyW_V rz hk
          exact ⟨p, v', rfl, by rw [← h2]; exact DGet.k h1, Out.here o2 S2 v' r2⟩
        · exact o2.elim
      · exact o2.elim
  · exact o2.elim
/-- k in d -/
def dInW (neg : Bool) (y x : W) (m : Mem) : R W := match x with
  | .ref n => match m[n]?, keyW y with
    | some (.dK kvs), some k => .ok (.bl (if neg then !(findK kvs k).isSome else (findK kvs k).isSome)) m
    | _, _ => .bad
  | _ => .bad
theorem dIn_inv {neg : Bool} {x y : W} {v z : V} {Q : W → Mem → List Addr → Hp → Prop} (S : Sim g ρ m H) (rx : VR g ρ H x v) (ry : VR g ρ H y z) (o : Out g wx τ ρ H (dInW neg y x m) Q) :
    ∃ p r, v = .ref p ∧ DGet H p z r ∧ Q (.bl (if neg then !r.isSome else r.isSome)) m ρ H := by
  unfold dInW at o
  split at o
  · rename_i n
    cases rx with
    | @ref _ p hp =>
      split at o
      · rename_i kvs k hm hk
        obtain ⟨vs, h1, r1⟩ := obj_dK S hp hm
        obtain rfl := keyW_V ry hk
        refine ⟨p, valV vs k, rfl, DGet.k h1, ?_⟩
        have : (valV vs k).isSome = (findK kvs k).isSome := by
          cases q : findK kvs k with
          | none => rw [(r1.find k).2 q]; rfl
          | some w => obtain ⟨v, h, _⟩ := (r1.find k).1 w q; rw [h]; rfl
        rw [this]
        exact Out.here o S
      · exact o.elim
  · exact o.elim
theorem f_dIn (hr : ∃ k, Rm k X.A) : F2 g X wx (compareOp .In) (dInW false) := by
  obtain ⟨k, hr⟩ := hr
  refine ⟨fun pins s m ρ H τ x y v z u t Q I S rx ru ry rt o => ?_⟩
  obtain ⟨p, r, rfl, gd, q⟩ := dIn_inv S ry rx o
  obtain rfl : t = Value.ref p := rt
  exact d_in (hu_of hr.r) I gd ru fun s3 I3 => q (.bl r.isSome) _ s3 I3 (.bl _) rfl
theorem f_dNotIn (hr : ∃ k, Rm k X.A) : F2 g X wx (compareOp .NotIn) (dInW true) := by
  obtain ⟨k, hr⟩ := hr
  refine ⟨fun pins s m ρ H τ x y v z u t Q I S rx ru ry rt o => ?_⟩
  obtain ⟨p, r, rfl, gd, q⟩ := dIn_inv S ry rx o
  obtain rfl : t = Value.ref p := rt
  exact d_notIn (hu_of hr.r) I gd ru fun s3 I3 => q (.bl (!r.isSome)) _ s3 I3 (.bl _) rfl
/-- d[k] = v -/
def dPutM (x y w : W) (m : Mem) : Option Mem := match x with
  | .ref n => match m[n]?, keyW y with
    | some (.dK kvs), some k => if kvs.length < 1000000 then some (m.set n (.dK (putKW kvs k w))) else none
    | _, _ => none
  | _ => none
def sDPut (fo fi fe : DE) : DS := fun σ m => RS.of σ (fe σ m) fun w m1 => RS.of σ (fo σ m1) fun x m2 => RS.of σ (fi σ m2) fun y m3 => match dPutM x y w m3 with
  | some m4 => .nx σ m4
  | none => .bad
theorem ss_dput {o i : Expr} {pos' : Pos} (hr : ∃ k, Rm k X.A) (ho : SE g X wx o fo) (hi : SE g X wx i fi) (he : SE g X wx e fe) (hs : swapsWith e (some (.Subscript o i pos')) pos.line X.env = pure false := by rfl) :
    SS g X wx (.Assign [.Subscript o i pos'] e pos) (sDPut fo fi fe) := by
  obtain ⟨k, hr⟩ := hr
  refine PS.conv (ps_dput (hu_of hr.r) ho.pe hi.pe he.pe hs) fun D τ H ⟨σ, m, ρ, S, L, oo⟩ => ⟨σ, m, ρ, S, L, (oo.of S L).imp fun w m1 ρ1 H1 P1 S1 o1 v r => ⟨σ, m1, ρ1, S1, L.post S P1, (o1.of S1 (L.post S P1)).imp fun x m2 ρ2 H2 P2 S2 o2 v2 r2 =>
    ⟨σ, m2, ρ2, S2, (L.post S P1).post S1 P2, (o2.of S2 ((L.post S P1).post S1 P2)).imp fun y m3 ρ3 H3 P3 S3 o3 v3 r3 => ?_⟩⟩⟩
  have L3 := ((L.post S P1).post S1 P2).post S2 P3
  have rx := r2.post S2 P3
  have rw_ := (r.post S1 P2).post S2 P3
  unfold dPutM at o3
  cases x with
  | ref n =>
    cases rx with
    | @ref _ p hp =>
      simp only at o3
      cases hm : m3[n]? with
      | none => simp only [hm] at o3; exact o3.elim
      | some ob =>
        cases ob with
        | dK kvs =>
          cases hk : keyW y with
          | none => simp only [hm, hk] at o3; exact o3.elim
          | some k =>
            simp only [hm, hk] at o3
            by_cases hl : kvs.length < 1000000
            · simp only [hl, if_true] at o3
              obtain ⟨vs, h1, r1⟩ := obj_dK S3 hp hm
              obtain rfl := keyW_V r3 hk
              obtain ⟨P4, S4⟩ := S3.set (u := .dK (putK vs k v)) (o := .dK (putKW kvs k w)) hp ⟨_, rfl, r1.put k rw_⟩
              exact ⟨p, _, rfl, DPut.k h1 (by rw [← r1.len, sizeLine_eq]; omega), o3 _ _ τ P4 S4 (L3.post S3 P4)⟩
            · simp only [hl, if_false] at o3; exact o3.elim
        | _ => simp only [hm] at o3; exact o3.elim
  | _ => exact o3.elim

/-! {k: v, ..} -/
def eDict0 : DE := fun _ m => .ok (.ref m.length) (m ++ [.dK []])
theorem se_dict0 : SE g X wx (.Dict [] [] pos) eDict0 := SE.ofPE pe_dnewK fun σ m ρ H τ Q S L o p hp => by
  obtain ⟨P2, S2⟩ := S.push (o := .dK []) (u := .dK []) hp ⟨_, rfl, .nil⟩
  exact o _ _ P2 S2 _ (.ref (by rw [← S.len]; simp))
def dPairs : List (DE × DE) → Loc → Mem → R (List (W × W))
  | [], _, m => .ok [] m
  | (k, v) :: r, σ, m => (k σ m).bind fun x m1 => (v σ m1).bind fun y m2 => (dPairs r σ m2).bind fun ps m3 => .ok ((x, y) :: ps) m3
def keysW : List (W × W) → Option (List (Key × W))
  | [] => some []
  | (x, y) :: r => match keyW x, keysW r with
    | some k, some ks => some ((k, y) :: ks)
    | _, _ => none
def eDict (ps : List (DE × DE)) : DE := fun σ m => (dPairs ps σ m).bind fun kws m1 => match keysW kws with
  | some kvs => if kvs.length ≤ 15 then .ok (.ref m1.length) (m1 ++ [.dK (mergeKW [] kvs)]) else .bad
  | none => .bad
def SPs (g : G) (X : Cx) (wx : WX) (pos : Pos) (keys : List (Option Expr)) (values : List Expr) (ps : List (DE × DE)) : Prop := PPs X pos keys values (ps.map fun p => (teOf g wx p.1, teOf g wx p.2))
theorem sps_nil : SPs g X wx pos [] [] [] := pps_nil
theorem sps_cons {k v : Expr} {fk fv : DE} {ks : List (Option Expr)} {vs : List Expr} {ps : List (DE × DE)} (hk : SE g X wx k fk) (hv : SE g X wx v fv) (hr : SPs g X wx pos ks vs ps) : SPs g X wx pos (some k :: ks) (v :: vs) ((fk, fv) :: ps) := pps_cons hk.pe hv.pe hr
abbrev VVR (g : G) (ρ : List Addr) (H : Hp) : List (W × W) → List (V × V) → Prop := Paired fun p q => VR g ρ H p.1 q.1 ∧ VR g ρ H p.2 q.2
theorem pairs_ok {σ : Loc} : ∀ {ps : List (DE × DE)} {m : Mem} {ρ : List Addr} {H : Hp} {Q : List (V × V) → Hp → Prop}, Sim g ρ m H → LR g ρ H σ τ → Out g wx τ ρ H (dPairs ps σ m) (fun kws m' ρ' H' => ∀ vvs, VVR g ρ' H' kws vvs → Q vvs H') →
    tPairs (ps.map fun p => (teOf g wx p.1, teOf g wx p.2)) τ H Q
  | [], m, ρ, H, Q, S, L, o => Out.here o S [] .nil
  | (k, v) :: r, m, ρ, H, Q, S, L, o => by
    have o : Out g wx τ ρ H ((k σ m).bind fun x m1 => (v σ m1).bind fun y m2 => (dPairs r σ m2).bind fun ps m3 => .ok ((x, y) :: ps) m3) _ := o
    refine ⟨σ, m, ρ, S, L, (o.bind S).imp fun x m1 ρ1 H1 P1 S1 o1 v1 r1 => ⟨σ, m1, ρ1, S1, L.post S P1, (o1.bind S1).imp fun y m2 ρ2 H2 P2 S2 o2 v2 r2 => ?_⟩⟩
    exact pairs_ok S2 ((L.post S P1).post S1 P2) ((o2.bind S2).imp fun ps m3 ρ3 H3 P3 S3 o3 vvs rr => Out.here o3 S3 _ (.cons ⟨(r1.post S1 P2).post S2 P3, r2.post S2 P3⟩ rr))
theorem keysW_ok : ∀ {kws : List (W × W)} {vvs : List (V × V)} {kvs : List (Key × W)}, VVR g ρ H kws vvs → keysW kws = some kvs → ∃ vs : List (Key × V), KR g ρ H kvs vs ∧ vvs = vs.map fun kv => (kV kv.1, kv.2)
  | _, _, _, .nil, h => by cases h; exact ⟨[], .nil, rfl⟩
  | _, _, _, .cons (a := (x, y)) (b := (v, z)) hq hr, h => by
    unfold keysW at h
    split at h
    · rename_i k ks h1 h2
      cases h
      obtain ⟨vs, r, e⟩ := keysW_ok hr h2
      obtain rfl := keyW_V hq.1 h1
      exact ⟨(k, z) :: vs, .cons ⟨rfl, hq.2⟩ r, by rw [e]; rfl⟩
    · cases h
section
variable {D : Addr} {vs us : List (Key × V)}
theorem SqT.swapD {K : PySem.W.Frag} {xs : List V} {a : Addr} (hD : H D = some (.dK vs)) (h : SqT K H a xs) : SqT K (upd H D (.dK us)) a xs := by
  rcases h with (h | ⟨o, h⟩) | h
  · exact .inl (.inl (by rw [upd_ne (fun e => by subst e; rw [hD] at h; cases h)]; exact h))
  · exact .inl (.inr ⟨o, by rw [upd_ne (fun e => by subst e; rw [hD] at h; cases h)]; exact h⟩)
  · exact .inr h
theorem SqF.swapD {K : PySem.W.Frag} {xs : List V} {a : Addr} (hD : H D = some (.dK vs)) (h : SqF K H a xs) : SqF K (upd H D (.dK us)) a xs := by
  rcases h with ⟨o, h⟩ | h
  · exact .inl ⟨o, by rw [upd_ne (fun e => by subst e; rw [hD] at h; cases h)]; exact h⟩
  · exact .inr h
mutual
theorem VR.swapD (hD : H D = some (.dK vs)) : ∀ {w : W} {v : V}, VR g ρ H w v → VR g ρ (upd H D (.dK us)) w v
  | _, _, .non => .non
  | _, _, .bl b => .bl b
  | _, _, .int b => .int b
  | _, _, .str b => .str b
  | _, _, .tup h r => .tup (SqT.swapD hD h) (VRs.swapD hD r)
  | _, _, .frz h r => .frz (SqF.swapD hD h) (VRs.swapD hD r)
  | _, _, .ref h => .ref h
  | _, _, .cls c => .cls c
  | _, _, .ty c => .ty c
theorem VRs.swapD (hD : H D = some (.dK vs)) : ∀ {ws : List W} {xs : List V}, VRs g ρ H ws xs → VRs g ρ (upd H D (.dK us)) ws xs
  | _, _, .nil => .nil
  | _, _, .cons h r => .cons (VR.swapD hD h) (VRs.swapD hD r)
end
theorem OR.swapD (hD : H D = some (.dK vs)) {o : O} {u : HO} (h : OR g ρ H o u) : OR g ρ (upd H D (.dK us)) o u := by
  cases o with
  | lst ws => obtain ⟨vs, e, r⟩ := h; exact ⟨vs, e, r.swapD hD⟩
  | dK ws => obtain ⟨vs, e, r⟩ := h; exact ⟨vs, e, Paired.imp r fun _ _ q => ⟨q.1, q.2.swapD hD⟩⟩
  | dT ws => obtain ⟨vs, e, r⟩ := h; exact ⟨vs, e, Paired.imp r fun _ _ q => ⟨q.1, q.2.swapD hD⟩⟩
  | ins c fs => obtain ⟨dx, gs, e, r⟩ := h; exact ⟨dx, gs, e, Paired.imp r fun _ _ q => ⟨q.1, q.2.swapD hD⟩⟩
  | exc c fs =>
    obtain ⟨oe, vs, d, gs, e, h1, h2, h3, h4, h5⟩ := h
    refine ⟨oe, vs, d, gs, e, h1, h2, h3, ?_, Paired.imp h5 fun _ _ q => ⟨q.1, q.2.swapD hD⟩⟩
    cases d with
    | none => exact h4
    | some a =>
      show upd H D _ a = some (.xd gs)
      rw [upd_ne (fun z => by subst z; have h4' : H a = some (.xd gs) := h4; rw [hD] at h4'; cases h4')]
      exact h4
theorem Sim.swapD (S : Sim g ρ m H) (hD : H D = some (.dK vs)) (hn : D ∉ ρ) : Sim g ρ m (upd H D (.dK us)) := by
  refine ⟨S.len, S.nd, fun i a o h1 h2 => ?_⟩
  obtain ⟨u, h3, h4⟩ := S.obj i a o h1 h2
  refine ⟨u, ?_, h4.swapD hD⟩
  rw [upd_ne]
  · exact h3
  · rintro rfl
    exact hn (List.mem_of_getElem? h1)
end
theorem Post.keepOut (P : Post ρ H ρ' H') {p : Addr} {u : HO} (hp : H p = some u) (hn : p ∉ ρ) : H' p = some u ∧ p ∉ ρ' := by
  refine ⟨P.keep p u hp hn, fun z => ?_⟩
  obtain ⟨l, e, hl⟩ := P.ext
  rw [e] at z
  rcases List.mem_append.mp z with z | z
  · exact hn z
  · rw [hl p z] at hp; cases hp
theorem se_dict {keys : List (Option Expr)} {values : List Expr} {ps : List (DE × DE)} (h : SPs g X wx pos keys values ps) (hall : keys.all (·.isSome) = true := by rfl) (hl : keys.length = values.length := by rfl) (h0 : keys ≠ [] := by intro z; cases z)
    (h15 : keys.length ≤ 15 := by decide) : SE g X wx (.Dict keys values pos) (eDict ps) := SE.ofPE (pe_disp h hall hl h0 h15) fun σ m ρ H τ Q S L o p hp => by
  obtain ⟨P0, S0⟩ := S.junk (u := .dK []) hp
  have hpn : p ∉ ρ := fun z => S.isSm z hp
  have o0 : Out g wx τ ρ (upd H p (.dK [])) ((dPairs ps σ m).bind fun kws m1 => match keysW kws with
    | some kvs => if kvs.length ≤ 15 then .ok (.ref m1.length) (m1 ++ [.dK (mergeKW [] kvs)]) else .bad
    | none => .bad) (fun w m' ρ' H' => ∀ v, VR g ρ' H' w v → Q v H') := o.from P0 S S0
  have o1 : Out g wx τ ρ (upd H p (.dK [])) (dPairs ps σ m) (fun kws m1 ρ1 H1 => ∃ kvs, keysW kws = some kvs ∧ kvs.length ≤ 15 ∧ Post ρ H ρ1 H1 ∧ Post ρ (upd H p (.dK [])) ρ1 H1 ∧ Sim g ρ1 m1 H1) := by
    cases hd : dPairs ps σ m with
    | ok kws m1 =>
      rw [hd] at o0
      intro ρ1 H1 P1 S1
      have o0' : Out g wx τ ρ (upd H p (.dK [])) (match keysW kws with
        | some kvs => if kvs.length ≤ 15 then .ok (.ref m1.length) (m1 ++ [.dK (mergeKW [] kvs)]) else .bad
        | none => .bad) (fun w m' ρ' H' => ∀ v, VR g ρ' H' w v → Q v H') := o0
      cases hk : keysW kws with
      | none => rw [hk] at o0'; exact o0'.elim
      | some kvs =>
        rw [hk] at o0'
        by_cases hl : kvs.length ≤ 15
        · exact ⟨kvs, rfl, hl, P0.then P1 S S0, P1, S1⟩
        · simp only [hl, if_false] at o0'; exact o0'.elim
    | exc c fs m1 => rw [hd] at o0; exact o0
    | bad => rw [hd] at o0; exact o0
  refine pairs_ok S0 (L.post S P0) ?_
  have o2 : Out g wx τ ρ H (dPairs ps σ m) (fun kws m1 ρ1 H1 => ∀ kvs, keysW kws = some kvs → kvs.length ≤ 15 → ∀ ρ2 H2, Post ρ H ρ2 H2 → Sim g ρ2 (m1 ++ [.dK (mergeKW [] kvs)]) H2 → ∀ v, VR g ρ2 H2 (.ref m1.length) v → Q v H2) := by
    have o' : Out g wx τ ρ H ((dPairs ps σ m).bind fun kws m1 => match keysW kws with
      | some kvs => if kvs.length ≤ 15 then .ok (.ref m1.length) (m1 ++ [.dK (mergeKW [] kvs)]) else .bad
      | none => .bad) (fun w m' ρ' H' => ∀ v, VR g ρ' H' w v → Q v H') := o
    cases hd : dPairs ps σ m with
    | ok kws m1 =>
      rw [hd] at o'
      intro ρ1 H1 P1 S1 kvs hk hl ρ2 H2 P2 S2
      have o3 : Out g wx τ ρ H (match keysW kws with
        | some kvs => if kvs.length ≤ 15 then .ok (.ref m1.length) (m1 ++ [.dK (mergeKW [] kvs)]) else .bad
        | none => .bad) (fun w m' ρ' H' => ∀ v, VR g ρ' H' w v → Q v H') := o'
      rw [hk] at o3
      simp only [hl, if_true] at o3
      exact o3 ρ2 H2 P2 S2
    | exc c fs m1 => rw [hd] at o'; exact o'
    | bad => rw [hd] at o'; exact o'
  cases hd : dPairs ps σ m with
  | exc c fs m1 => rw [hd] at o1; exact o1
  | bad => rw [hd] at o1; exact o1
  | ok kws m1 =>
    rw [hd] at o1 o2
    intro ρ1 H1 P1 S1 vvs rr
    obtain ⟨kvs, hk, hl, PH, _, _⟩ := o1 ρ1 H1 P1 S1
    obtain ⟨vs, rk, ev⟩ := keysW_ok rr hk
    have f1 := P1.keepOut (p := p) upd_same hpn
    refine ⟨f1.1, vs, ev, by rw [← rk.len]; exact hl, ?_⟩
    have S3 : Sim g ρ1 m1 (upd H1 p (.dK (mergeK [] vs))) := S1.swapD f1.1 f1.2
    have P3 : Post ρ H ρ1 (upd H1 p (.dK (mergeK [] vs))) := PH.out hp
    have rk3 : KR g ρ1 (upd H1 p (.dK (mergeK [] vs))) kvs vs := Paired.imp rk fun _ _ q => ⟨q.1, q.2.swapD f1.1⟩
    obtain ⟨P4, S4⟩ := S3.adopt (o := .dK (mergeKW [] kvs)) upd_same f1.2 ⟨_, rfl, KR.merge (kvs := []) (vs := []) .nil rk3⟩ P3 hp
    refine o2 ρ1 H1 PH S1 kvs hk hl _ _ P4 S4 (.ref p) (.ref ?_)
    rw [← S1.len]; simp
end
end Sh

namespace Sh
open PySem PySem.Spec L2
open PyProof.Rows (envOfC)

/-! ### e.f of an exception that is held -/
def xattr (f : List Nat) (ok : String → Bool) (x : W) (m : Mem) : R W := match x with
  | .ref n => match m[n]? with
    | some (.exc c fs) => if ok c = true then (match fs.lookup f with
      | some w => .ok w m
      | none => .bad) else .bad
    | _ => .bad
  | _ => .bad
def eXAttr (f : List Nat) (ok : String → Bool) (o : DE) : DE := fun σ m => (o σ m).bind (xattr f ok)
section
variable {g : G} {X : Cx} {wx : WX} {τ : L2.St} {ρ ρ' : List Addr} {H H' : Hp} {m m' : Mem} {o : Expr} {fo : DE} {f : List Nat} {fn : Str} {ok : String → Bool} {pos : Pos}
theorem se_xattr (ho : SE g X wx o fo) (ht : ∀ c, ok c = true → XfC X.K (g.cl c) ∧ PySem.W.findIn X.K (.ref (g.cl c)) (Sh.S f) = some none) (hf : fn = Sh.S f) (hb : attributeBase o fn X.env (eval o X.env) = eval o X.env := by rfl) : SE g X wx (.Attribute o fn pos) (eXAttr f ok fo) := by
  subst hf
  refine ⟨fun pins s σ m ρ H τ Q I S L oo => ?_⟩
  refine attr_of hb (ho.run pins s σ m ρ H τ _ I S L ((oo.bind S).imp fun x m1 ρ1 H1 P1 S1 o1 v u s1 I1 rv ru => ?_))
  unfold xattr at o1
  split at o1
  · rename_i n
    cases rv with
    | @ref _ a ha =>
      obtain rfl : u = Value.ref a := ru
      split at o1
      · rename_i c fs hm
        split at o1
        · rename_i hc
          split at o1
          · rename_i w hw
            obtain ⟨oe, od, gs, J, rf, hl⟩ := exc_inst I1 S1 ha hm
            obtain ⟨T, hno⟩ := ht c hc
            obtain ⟨v, h2, r2⟩ := (rf.lookup f).1 w hw
            obtain ⟨oo', u, e1, e2, ru⟩ := hl _ v h2
            subst e1
            exact HandSPX.exc_get I1.kIn J T.ga T.gg T.exC (PySem.W.findObj_own T.hdC hno rfl e2) (handed_of ru) (Out.here o1 S1 v u _ (I1.tok _) r2 ru)
          · exact o1.elim
        · exact o1.elim
      · exact o1.elim
  · exact o1.elim
end

/-! ### an except clause's test, by the written part's words -/
theorem exm_ok {K : PySem.W.Frag} {C : Addr} {cls : Value} {b : Bool} (h1 : PySem.W.subIn K (.ref C) (.type "BaseException") = some true) (h2 : (PySem.W.clsIn K C).isSome = true) (h3 : PySem.W.typeIn K (.ref C) = some (.type "type")) (h4 : PySem.W.subIn K cls (.ref C) = some b) :
    PySem.W.exmOne K cls (.ref C) = some b := by
  have e1 : (PySem.W.subIn K (.ref C) (.type "BaseException") == some true) = true := by rw [h1] <;> rfl
  have e2 : ((PySem.W.clsIn K C).isSome && PySem.W.typeIn K (.ref C) == some (.type "type")) = true := by rw [h2, h3] <;> rfl
  show (if (PySem.W.subIn K (.ref C) (.type "BaseException") == some true) = true then (if ((PySem.W.clsIn K C).isSome && PySem.W.typeIn K (.ref C) == some (.type "type")) = true then PySem.W.subIn K cls (.ref C) else none) else none) = some b
  rw [if_pos e1, if_pos e2]
  exact h4
theorem some_is {α : Type} {o : Option α} {a : α} (h : o = some a) : o.isSome = true := by rw [h]; rfl
theorem exm_nil {K : PySem.W.Frag} {cls : Value} : PySem.W.exmAny K cls [] = some false := rfl
theorem exm_cons {K : PySem.W.Frag} {cls c : Value} {r : List Value} {b d : Bool} (h1 : PySem.W.exmOne K cls c = some b) (h2 : PySem.W.exmAny K cls r = some d) : PySem.W.exmAny K cls (c :: r) = some (b || d) := by
  unfold PySem.W.exmAny
  rw [h1, h2]
theorem names_own {X : Cx} {x : Str} {c : Value} (hg : Gl X x) (hm : X.mg x = some c) (hd : (x == ("__debug__" : Str)) = false := by decide) : Names X x c := ⟨hg, hd, .inl hm⟩

/-! ### an own exception's __init__, as it stands in the written part -/
structure ExcAt (P : Program) (K : PySem.W.Frag) (mg : Str → Option Value) (C : Addr) (qual : Str) (st : Stmt) (f : Addr) : Prop where
  ex : ∃ (cda cc : Addr) (doc pm ct oc : Value) (an od : Option Addr) (osl : Array (Option Value)),
    K.lookup f = some ⟨oc, od, .func (PySem.W.ksFn "__init__" qual (defArgs st) (defBody st) (defScope st) .none .none doc pm an (.ref cda) ct cc), osl⟩ ∧ PySem.W.codeIn K (.ref cda) qual = true ∧ SupX P K mg cda cc C
section
variable {P : Program} {w : World} {K : PySem.W.Frag} {mg : Str → Option Value} {base : Heap} {g : G}
theorem exc1_of {x : Str} {c : String} {qual y : Str} {f : List Nat} {fn : Str} {st : Stmt} {fi : Addr} {k : Nat} {p0 p1 apos cpos epos mp ap sp np vp : Pos} {msg : Str} {kd : Nat} {ar : Arg} {pl : Sem Bool}
    (hm : mg x = some (.ref (g.cl c))) (D : XcK K (g.cl c) fi) (A : ExcAt P K mg (g.cl c) qual st fi) (hno : PySem.W.findIn K (.ref (g.cl c)) (Sh.S f) = some none)
    (hbody : defBody st = [.Expr (.Call (.Attribute (.Call (.Name "super" p0) [] [] p1) "__init__" apos) [.Constant (.str msg) kd mp] [] cpos) epos, .Assign [.Attribute (.Name "self" np) fn ap] (.Name y vp) sp]) (hf : fn = Sh.S f)
    (S : ScopeS ["self", y] ["self", y] (defScope st)) (hpar : ((defArgs st).posonlyargs ++ (defArgs st).args).head? = some ar) (har : ar.arg = "self")
    (hks : (defScope st).names.lookup ("super" : Str) = some .globalImplicit) (hkc : (defScope st).names.lookup ("__class__" : Str) = some .free)
    (hbd : ∀ (doc pm cd ct : Value) (an : Option Addr) (cc : Addr) (us : List Value), us.length = 2 → bindArgs (PySem.W.ksFn "__init__" qual (defArgs st) (defBody st) (defScope st) .none .none doc pm an cd ct cc) ⟨us, []⟩ = pure ((["self", y] : List Str).zip us))
    (hv0 : Vis (defScope st) ("self" : Str)) (hv1 : Vis (defScope st) y) (hd1 : (y == ("__debug__" : Str)) = false) (hc1 : (y == ("__classdict__" : Str)) = false)
    (hev : ∀ env, eval (.Call (.Attribute (.Call (.Name "super" p0) [] [] p1) "__init__" apos) [.Constant (.str msg) kd mp] [] cpos) env = (do
      let ov ← attributeBase (.Call (.Name "super" p0) [] [] p1) "__init__" env (eval (.Call (.Name "super" p0) [] [] p1) env)
      standAt apos.atName
      let (f, first) ← holding [ov] (getMethod ov "__init__" pl)
      callWith cpos f first (backTo cpos (starEach [.Constant (.str msg) kd mp] env)) []))
    (hsw : ∀ env, swapsWith (.Call (.Attribute (.Call (.Name "super" p0) [] [] p1) "__init__" apos) [.Constant (.str msg) kd mp] [] cpos) none epos.line env = pure false)
    (hsw2 : ∀ env, swapsWith (.Name y vp) (some (.Attribute (.Name "self" np) fn ap)) sp.line env = pure false) :
    Exc1 P w K mg base g x c (k + 1) f := by
  subst hf
  obtain ⟨cda, cc, doc, pm, ct, oc, an, od, osl, lk, hcd, U⟩ := A.ex
  refine ⟨fi, _, ["self", y], hm, D, rfl, .all (hbd doc pm (.ref cda) ct an cc), ?_⟩
  rw [hbody] at lk ⊢
  refine fn_sp1 (superX (t := tOst K (Sh.S f) (tVar 0) (tVar 1)) lk hcd S (by rw [har]; rfl) hpar hks hkc U D.T hev hsw fun A outer s H E => pss_one (ps_ost (pe_var (i := 0) rfl hv0 (by decide) (by decide)) (pe_var (i := 1) rfl hv1 hd1 hc1) (hsw2 _))) D.T hno
theorem exc0_of {x : Str} {c : String} {qual : Str} {st : Stmt} {fi : Addr} {k : Nat} {p0 p1 apos cpos epos mp : Pos} {msg : Str} {kd : Nat} {ar : Arg} {pl : Sem Bool}
    (hm : mg x = some (.ref (g.cl c))) (D : XcK K (g.cl c) fi) (A : ExcAt P K mg (g.cl c) qual st fi)
    (hbody : defBody st = [.Expr (.Call (.Attribute (.Call (.Name "super" p0) [] [] p1) "__init__" apos) [.Constant (.str msg) kd mp] [] cpos) epos])
    (S : ScopeS ["self"] ["self"] (defScope st)) (hpar : ((defArgs st).posonlyargs ++ (defArgs st).args).head? = some ar) (har : ar.arg = "self")
    (hks : (defScope st).names.lookup ("super" : Str) = some .globalImplicit) (hkc : (defScope st).names.lookup ("__class__" : Str) = some .free)
    (hbd : ∀ (doc pm cd ct : Value) (an : Option Addr) (cc : Addr) (us : List Value), us.length = 1 → bindArgs (PySem.W.ksFn "__init__" qual (defArgs st) (defBody st) (defScope st) .none .none doc pm an cd ct cc) ⟨us, []⟩ = pure ((["self"] : List Str).zip us))
    (hev : ∀ env, eval (.Call (.Attribute (.Call (.Name "super" p0) [] [] p1) "__init__" apos) [.Constant (.str msg) kd mp] [] cpos) env = (do
      let ov ← attributeBase (.Call (.Name "super" p0) [] [] p1) "__init__" env (eval (.Call (.Name "super" p0) [] [] p1) env)
      standAt apos.atName
      let (f, first) ← holding [ov] (getMethod ov "__init__" pl)
      callWith cpos f first (backTo cpos (starEach [.Constant (.str msg) kd mp] env)) []))
    (hsw : ∀ env, swapsWith (.Call (.Attribute (.Call (.Name "super" p0) [] [] p1) "__init__" apos) [.Constant (.str msg) kd mp] [] cpos) none epos.line env = pure false) :
    Exc0 P w K mg base g x c (k + 1) := by
  obtain ⟨cda, cc, doc, pm, ct, oc, an, od, osl, lk, hcd, U⟩ := A.ex
  refine ⟨fi, _, ["self"], hm, D, rfl, .all (hbd doc pm (.ref cda) ct an cc), ?_⟩
  rw [hbody] at lk ⊢
  exact fn_sp0 (superX (t := tNext) lk hcd S (by rw [har]; rfl) hpar hks hkc U D.T hev hsw fun A outer s H E => pss_nil)
end
end Sh

namespace Sh
open PySem PySem.Spec L2

/-! ### s * 0, s * 1, xs * 0, xs * 1 -/
def wRep (x y : W) (m : Mem) : R W := match x, y with
  | .str a, .int j => if a.length ≤ 1000000 then (if j = 0 then .ok (.str []) m else if j = 1 then .ok (.str a) m else .bad) else .bad
  | .ref n, .int j => match m[n]? with
    | some (.lst ws) => if j = 0 then .ok (.ref m.length) (m ++ [.lst []]) else if j = 1 then .ok (.ref m.length) (m ++ [.lst ws]) else .bad
    | _ => .bad
  | _, _ => .bad
section
variable {g : G} {X : Cx} {wx : WX} {τ : L2.St} {ρ ρ' : List Addr} {H H' : Hp} {m m' : Mem} {e a b : Expr} {fa fb : DE} {pos : Pos} {pins : List (Addr × Obj)} {s : Shared}
theorem rep_list {p : Addr} {xs : List V} {j : Int} {t : Tok} {Q : Value → Shared → Prop} (I : Inv X pins τ H s) (hp : H p = some (.lst xs)) (hj : j = 0 ∨ j = 1)
    (q : ∀ s', Inv X pins τ (upd H s.heap.objs.size (.lst (if j = 1 then xs else []))) s' → Q (.ref s.heap.objs.size) s') : wpAny (model X.prog X.w) X.A (binaryOp .Mult (.ref p) (.int j t)) Q X.xe s := by
  obtain ⟨hlen, its, n, rv, ho⟩ := (show ObjOk X.prog X.w H s.heap p (.lst xs) from I.hok p _ hp)
  have hz : its.length ≤ sizeLine := by rw [← rv.length]; exact hlen
  have hsl := sizeLine_eq
  have hm : its.toArray.size * j.toNat ≤ its.length := by
    rw [List.size_toArray]
    rcases hj with rfl | rfl
    · simp
    · simp
  refine wpAny_binaryOp_repeat_ref (T := "list") (U := "int") (by decide) ⟨_, ho, rfl⟩ (fun s' => typeIs_int s' j t) noFill_list_mul F.fills_int_mul F.slot_int_rmul repeat_list F.slot_int_index.lookup
    (call_meets F.slot_int_rmul (typeIs_int s j t) F.entry_int_rmul (F.args_int_rmul_2 _ _) (int___rmul___int_list j t p its.toArray n)
      ⟨ho, rfl, ⟨_, ho, rfl⟩, call_meets F.slot_list_mul ⟨_, ho, rfl⟩ F.entry_list_mul (F.args_list_mul_2 _ _)
        (AutoListH.list___mul___list_int_3 p its.toArray n j t (by rcases hj with rfl | rfl <;> decide) (by omega) (by simp only [Builtin.List.listTooLong, decide_eq_true_eq]; omega))
        ⟨ho, ?_⟩⟩)
  have e : List.foldl (fun x1 x2 => x1 ++ x2) #[] (List.replicate (if its.toArray.isEmpty = true then 0 else j.toNat) its.toArray) = (if j = 1 then its else []).toArray := by
    rw [PyProof.Rows.listMul_foldl]
    rcases hj with rfl | rfl
    · simp
    · cases its <;> simp
  rw [e]
  refine q _ (I.laid (t' := s.toks) (fun b o e => Heap.get?_push_of_some _ e) (Nat.le_refl _) ⟨?_, (if j = 1 then its else []), 0, ?_, Heap.get?_push_size _ rfl⟩)
  · split
    · exact hlen
    · exact Nat.zero_le _
  · split
    · exact rv
    · exact .nil
theorem f_rep : F2 g X wx (binaryOp .Mult) wRep := by
  refine ⟨fun pins s m ρ H τ x y v z u t Q I S rx ru ry rt o => ?_⟩
  unfold wRep at o
  split at o
  · rename_i a j
    cases rx; cases ry
    obtain ⟨tu, rfl⟩ := ru
    obtain ⟨tt, rfl⟩ := rt
    split at o
    · rename_i hl
      split at o
      · rename_i h0
        subst h0
        refine PySem.P.mul_str_none (by decide) (by decide) ?_
        exact Out.here o S (.str (Sh.S [])) _ _ (I.tok _) (.str []) ⟨_, rfl⟩
      · split at o
        · rename_i h1
          subst h1
          refine PySem.P.mul_str (by decide) (fun _ h => by simp at h) (fun _ h => by simp at h) ?_
          rw [if_neg (by decide), if_pos (by simp)]
          exact Out.here o S (.str (Sh.S a)) _ _ I (.str a) ⟨_, rfl⟩
        · exact o.elim
    · exact o.elim
  · rename_i n j
    cases ry
    obtain ⟨tt, rfl⟩ := rt
    cases rx with
    | @ref _ p hp =>
      obtain rfl : u = Value.ref p := ru
      split at o
      · rename_i ws hm
        obtain ⟨vs, h1, rv⟩ := obj_lst S hp hm
        have hn : H s.heap.objs.size = none := I.hok.fresh (Nat.le_refl _)
        split at o
        · rename_i h0
          subst h0
          refine rep_list I h1 (.inl rfl) fun s' J => ?_
          obtain ⟨P2, S2⟩ := S.push (o := .lst []) (u := .lst []) hn ⟨_, rfl, .nil⟩
          exact o _ _ P2 S2 (.ref s.heap.objs.size) _ s' J (.ref (by rw [← S.len]; simp)) rfl
        · split at o
          · rename_i h1'
            subst h1'
            refine rep_list I h1 (.inr rfl) fun s' J => ?_
            obtain ⟨P2, S2⟩ := S.push (o := .lst ws) (u := .lst vs) hn ⟨_, rfl, rv⟩
            exact o _ _ P2 S2 (.ref s.heap.objs.size) _ s' J (.ref (by rw [← S.len]; simp)) rfl
          · exact o.elim
      · exact o.elim
  · exact o.elim

/-! ### xs[lo:hi:k] of a list -/
def stepW {α : Type} (xs : List α) (lo hi : Option Int) (k : Int) : List α := (sliceRange (sliceBounds lo hi (some k) xs.length).1 (sliceBounds lo hi (some k) xs.length).2.1 (sliceBounds lo hi (some k) xs.length).2.2).filterMap (xs[·]?)
theorem slicePick_step (its : List Value) (lo hi : Option Int) (k : Int) : slicePick its.toArray lo hi (some k) = (stepW its lo hi k).toArray := by
  unfold slicePick stepW
  simp only [List.size_toArray, List.getElem?_toArray]
theorem VRs.pick {ws : List W} {vs : List V} (r : VRs g ρ H ws vs) : ∀ is : List Nat, VRs g ρ H (is.filterMap (ws[·]?)) (is.filterMap (vs[·]?))
  | [] => .nil
  | i :: is => by
    cases q : ws[i]? with
    | none =>
      have q2 : vs[i]? = none := by rw [List.getElem?_eq_none_iff] at q ⊢; rw [← r.length]; exact q
      simp only [List.filterMap_cons, q, q2]
      exact VRs.pick r is
    | some w =>
      obtain ⟨v, h1, h2⟩ := r.get q
      simp only [List.filterMap_cons, q, h1]
      exact .cons h2 (VRs.pick r is)
theorem Vals.pick {ws : List V} {vs : List Value} (r : Vals ws vs) : ∀ is : List Nat, Vals (is.filterMap (ws[·]?)) (is.filterMap (vs[·]?))
  | [] => .nil
  | i :: is => by
    cases q : ws[i]? with
    | none =>
      have q2 : vs[i]? = none := r.none_of q
      simp only [List.filterMap_cons, q, q2]
      exact Vals.pick r is
    | some w =>
      obtain ⟨v, h1, h2⟩ := r.get q
      simp only [List.filterMap_cons, q, h1]
      exact .cons h2 (Vals.pick r is)
def wSlS (x : W) (lo hi : Option Int) (k : Int) (m : Mem) : R W := match x with
  | .ref n => match m[n]? with
    | some (.lst ws) => if (stepW ws lo hi k).length ≤ 1000000 then .ok (.ref m.length) (m ++ [.lst (stepW ws lo hi k)]) else .bad
    | _ => .bad
  | _ => .bad
def eSlS (f : DE) (fl fh : DO) (k : Int) : DE := fun σ m => (f σ m).bind fun x m1 => (fl σ m1).bind fun l m2 => (fh σ m2).bind fun h m3 => wSlS x l h k m3
theorem se_slS {lo hi : Option Expr} {fl fh : DO} {p2 cp : Pos} {k : Int} {kd : Nat} (ha : SE g X wx a fa) (hl : SO g X wx lo fl) (hh : SO g X wx hi fh) (hk : k ≠ 0) : SE g X wx (.Subscript a (.Slice lo hi (some (.Constant (.int k) kd cp)) p2) pos) (eSlS fa fl fh k) := by
  refine ⟨fun pins s σ m ρ H τ Q I S L o => ?_⟩
  refine PyProof.Rows.Subscript_ (ha.run pins s σ m ρ H τ _ I S L ((o.bind S).imp fun x m1 ρ1 H1 P1 S1 o1 v u s1 I1 rv ru => ?_))
  have L1 := L.post S P1
  refine wpAny_Slice (thn (hl.run pins s1 τ H1 (fun l H2 => ∃ m2 ρ2, Sim g ρ2 m2 H2 ∧ Post ρ1 H1 ρ2 H2 ∧ Out g wx τ ρ2 H2 ((fh σ m2).bind fun h m3 => wSlS x l h k m3) (fun w m' ρ' H' => ∀ v u s', Inv X pins τ H' s' → VR g ρ' H' w v → RelV v u → Q u s')) I1 ⟨σ, m1, ρ1, S1, L1, (o1.bind S1).imp fun l m2 ρ2 H2 P2 S2 o2 => ⟨m2, ρ2, S2, P2, o2⟩⟩) fun vl s2 ⟨l, H2, I2, pl, m2, ρ2, S2, P2, o2⟩ => ?_)
  have L2' := L1.post S1 P2
  refine thn (hh.run pins s2 τ H2 (fun h H3 => ∃ m3 ρ3, Sim g ρ3 m3 H3 ∧ Post ρ2 H2 ρ3 H3 ∧ Out g wx τ ρ3 H3 (wSlS x l h k m3) (fun w m' ρ' H' => ∀ v u s', Inv X pins τ H' s' → VR g ρ' H' w v → RelV v u → Q u s')) I2 ⟨σ, m2, ρ2, S2, L2', (o2.bind S2).imp fun h m3 ρ3 H3 P3 S3 o3 => ⟨m3, ρ3, S3, P3, o3⟩⟩) fun vu s3 ⟨h, H3, I3, pu, m3, ρ3, S3, P3, o3⟩ => ?_
  rw [evalPart_some]
  refine thn ((pe_int (X := X) (i := k) (j := kd) (pos := cp)).run pins s3 τ H3 (fun v H' => v = .int k ∧ H' = H3) I3 (by exact ⟨rfl, rfl⟩)) fun vs s4 ⟨v4, H4, I4, r4, e4, e5⟩ => ?_
  subst e4
  rw [e5] at I4
  obtain ⟨t4, rfl⟩ := r4
  have rv3 := (rv.post S1 P2).post S2 P3
  unfold wSlS at o3
  cases x with
  | ref n =>
    cases rv3 with
    | @ref _ p hp =>
      obtain rfl : u = Value.ref p := ru
      simp only at o3
      cases hm : m3[n]? with
      | none => rw [hm] at o3; exact o3.elim
      | some ob =>
        cases ob with
        | lst ws =>
          rw [hm] at o3
          simp only at o3
          split at o3
          · rename_i hlen
            obtain ⟨xs, h1, rvs⟩ := obj_lst S3 hp hm
            have I5 : Inv X pins τ H3 { s4 with heap := s4.heap.push { cls := .type "slice", data := .fields #[vl, vu, .int k t4] } } := I4.kept (t' := s4.toks) fun b ob q => Heap.get?_push_of_some _ q
            obtain ⟨its, r, ht, hz⟩ := I5.list (SqL.of h1)
            have hlen' := r.length
            show wpAny (model X.prog X.w) X.A (PyProof.Rows.subscriptTail a (.Slice lo hi (some (.Constant (.int k) kd cp)) p2) (.ref p) (.ref s4.heap.objs.size)) Q X.xe { s4 with heap := s4.heap.push { cls := .type "slice", data := .fields #[vl, vu, .int k t4] } }
            refine PyProof.Rows.tail_any (ops := [.ref p, .ref s4.heap.objs.size]) (T := "list") ht.isList.typeIs slot_list_getitem.lookup ?_ (by rfl)
            refine wpAny_getItem_list_slice (lo := l) (hi := h) (st := some k) ht.isList (Heap.IsSliceOf.new ..) pl pu (.int k t4) (by simpa using hk) ?_ (by rw [List.size_toArray] <;> omega)
            rw [slicePick_step]
            have hn : H3 (s4.heap.push { cls := .type "slice", data := .fields #[vl, vu, .int k t4] }).objs.size = none := I5.hok.fresh (Nat.le_refl _)
            have rvp : VRs g ρ3 H3 (stepW ws l h k) (stepW xs l h k) := by unfold stepW; rw [rvs.length]; exact rvs.pick _
            have rp : Vals (stepW xs l h k) (stepW its l h k) := by unfold stepW; rw [hlen']; exact Vals.pick r _
            have I6 := I5.laid (t' := s4.toks) (o := .lst (stepW xs l h k)) (fun b ob q => Heap.get?_push_of_some { cls := .type "list", data := .seq (stepW its l h k).toArray } q) (Nat.le_refl _) ⟨by rw [← rvp.length]; exact sizeM hlen, _, 0, rp, Heap.get?_push_size _ rfl⟩
            obtain ⟨P6, S6⟩ := S3.push (o := .lst (stepW ws l h k)) (u := .lst (stepW xs l h k)) hn ⟨_, rfl, rvp⟩
            exact o3 _ _ P6 S6 (.ref _) _ _ I6 (.ref (by rw [← S3.len]; simp)) rfl
          · exact o3.elim
        | _ => rw [hm] at o3; exact o3.elim
  | _ => exact o3.elim
end
/-! ### sep.join(xs) -/
def eJoin (fo fe : DE) : DE := fun σ m => (fo σ m).bind fun x m1 => match x with
  | .str a => (fe σ m1).bind fun y m2 => (itemsW y m2).bind fun ws m3 => joinW a ws m3
  | _ => .bad
section
variable {g : G} {X : Cx} {wx : WX} {o e : Expr} {fo fe : DE}
theorem se_join {apos pos : Pos} (hK : X.K = g.K) (ho : SE g X wx o fo) (he : SE g X wx e fe) (hs : starEach [e] X.env = [(false, eval e X.env)] := by rfl) (hbase : attributeBase o "join" X.env (eval o X.env) = eval o X.env := by rfl) (hline : (apos.endLine == pos.line) = true := by rfl) :
    SE g X wx (.Call (.Attribute o "join" apos) [e] [] pos) (eJoin fo fe) :=
  SE.ofPE (pe_join ho.pe he.pe hs hbase hline) fun σ m ρ H τ Q S L oo => ⟨σ, m, ρ, S, L, (oo.bind S).imp fun x m1 ρ1 H1 P1 S1 o1 v rv => by
    cases rv with
    | str a => exact ⟨⟨_, rfl⟩, σ, m1, ρ1, S1, L.post S P1, (o1.bind S1).imp fun y m2 ρ2 H2 P2 S2 o2 z rz => by
        obtain ⟨p, ws, vs, h1, h2, h3, h4⟩ := items_ok (u := (match z with | .ref a => Value.ref a | _ => .none)) hK S2 rz (by
          cases y with
          | tup ws => cases rz; rfl
          | ref n => cases rz; rfl
          | _ => exact ((show Out g wx _ ρ2 H2 (R.bad.bind fun ws m3 => joinW a ws m3) _ from o2)).elim) (o2.bind S2)
        have hz : z = .ref p := by
          cases y with
          | tup ws => cases rz; cases h1; rfl
          | ref n => cases rz; cases h1; rfl
          | _ => exact ((show Out g wx _ ρ2 H2 (R.bad.bind fun ws m3 => joinW a ws m3) _ from o2)).elim
        subst hz
        obtain ⟨ys, rfl, h5, h6⟩ := joinW_out S2 h3 h4
        exact ⟨_, p, ys, rfl, rfl, h2.symm, h5, h6⟩⟩
    | _ => exact o1.elim⟩
end
end Sh

namespace Sh
open PySem PySem.Spec L2

/-! ### plain rules: what the denotations compute. Rewriting goes from the left: a continuation is looked at when its value is known -/
theorem R.bind_congr {α β : Type} {r r' : R α} {k : α → Mem → R β} (h : r = r') : r.bind k = r'.bind k := by rw [h]
theorem RS.of_congr {β : Type} {σ : Loc} {r r' : R β} {k : β → Mem → RS} (h : r = r') : RS.of σ r k = RS.of σ r' k := by rw [h]
def RS.seq (r : RS) (b : DS) : RS := match r with
  | .nx σ m => b σ m
  | r => r
theorem RS.seq_congr {r r' : RS} {b : DS} (h : r = r') : RS.seq r b = RS.seq r' b := by rw [h]
def R.ofRS (r : RS) : R W := match r with
  | .rt w m' => .ok w m'
  | .nx _ m' => .ok .non m'
  | .exc c fs _ m' => .exc c fs m'
  | _ => .bad
def RS.trd (r : RS) : RS := match r with
  | .exc _ _ _ _ => .bad
  | r => r
/-- a call's value made one of an instance -/
def R.made (n : Nat) (r : R W) : R W := r.bind fun w m2 => match w with
  | .non => .ok (.ref n) m2
  | _ => .bad
section
variable {σ : Loc} {m : Mem} {a b c : DE} {f : DL} {t u : DB} {d e : DS} {x y w : W} {i : Nat}
theorem seq_nx {σ : Loc} {m : Mem} {b : DS} : RS.seq (.nx σ m) b = b σ m := rfl
theorem seq_rt {w : W} {m : Mem} {b : DS} : RS.seq (.rt w m) b = .rt w m := rfl
theorem seq_bad {b : DS} : RS.seq .bad b = .bad := rfl
theorem of_rt : R.ofRS (.rt w m) = .ok w m := rfl
theorem of_nx : R.ofRS (.nx σ m) = .ok .non m := rfl
theorem trd_rt : RS.trd (.rt w m) = .rt w m := rfl
theorem trd_nx : RS.trd (.nx σ m) = .nx σ m := rfl
theorem r_defn {n N : Nat} {ws : List W} {b : DS} : defn n N b ws m = if ws.length = n then R.ofRS (b (ws.map some ++ List.replicate (N - n) none) m) else .bad := rfl
theorem r_seq : sSeq d e σ m = RS.seq (d σ m) e := rfl
theorem r_try : sTry d σ m = RS.trd (d σ m) := rfl
theorem r_nil : sNil σ m = .nx σ m := rfl
theorem r_expr : sExpr a σ m = RS.of σ (a σ m) fun _ m1 => .nx σ m1 := rfl
theorem r_ret : sRet a σ m = RS.of σ (a σ m) fun w m1 => .rt w m1 := rfl
theorem r_if : sIf t d e σ m = RS.of σ (t σ m) fun k m1 => if k = true then d σ m1 else e σ m1 := rfl
theorem r_set : sSet i a σ m = RS.of σ (a σ m) fun w m1 => .nx (σ.set i (some w)) m1 := rfl
theorem r_asg {h : W → Loc → Mem → R Loc} : sAsg a h σ m = RS.of σ (a σ m) fun w m1 => RS.of σ (h w σ m1) fun σ' m2 => .nx σ' m2 := rfl
theorem r_put : sPut a b c σ m = RS.of σ (c σ m) fun w m1 => RS.of σ (a σ m1) fun x m2 => RS.of σ (b σ m2) fun y m3 => match putAt m3 x y w with | some m4 => .nx σ m4 | none => .bad := rfl
theorem r_attr {fl : List Nat} {ok : String → Bool} : sAttr fl ok a b σ m = RS.of σ (b σ m) fun w m1 => RS.of σ (a σ m1) fun x m2 => match x with
  | .ref n => match m2[n]? with
    | some (.ins c fs) => if ok c = true ∧ fs.length < 100 then .nx σ (m2.set n (.ins c (putW fl w fs))) else .bad
    | _ => .bad
  | _ => .bad := rfl
theorem r_var : eVar i σ m = match σ[i]? with | some (some w) => .ok w m | _ => .bad := rfl
theorem r_c : eC w σ m = .ok w m := rfl
theorem r_bin {fn : W → W → Mem → R W} : eBin fn a b σ m = (a σ m).bind fun x m1 => (b σ m1).bind fun y m2 => fn x y m2 := rfl
theorem r_un {fn : W → Mem → R W} : eUn fn a σ m = (a σ m).bind fun x m1 => fn x m1 := rfl
theorem r_fn {fn : List W → Mem → R W} : eFn fn f σ m = (f σ m).bind fn := rfl
theorem r_fnL {fn : List W → Mem → R W} : eFnL fn f σ m = (f σ m).bind fn := rfl
theorem r_call {F : DF} : eCall F f σ m = (f σ m).bind F := rfl
theorem r_make {k : String} {F : DF} : eMake k F f σ m = (f σ m).bind fun ws m1 => R.made m1.length (F (.ref m1.length :: ws) (m1 ++ [.ins k []])) := rfl
theorem made_ok {n : Nat} : R.made n (.ok .non m) = .ok (.ref n) m := rfl
theorem made_exc {n : Nat} {c : String} {fs : List (List Nat × W)} : R.made n (.exc c fs m) = .exc c fs m := rfl
theorem r_eattr {fl : List Nat} {tb : String → Option (Option (DF ⊕ W))} : eAttr fl tb a σ m = (a σ m).bind fun x m1 => attr fl tb x m1 := rfl
theorem r_ixL : eIxL f b σ m = (f σ m).bind fun ws m1 => (b σ m1).bind fun y m2 => match y with | .int i => atW ws i m2 | _ => .bad := rfl
theorem r_new : eNew f σ m = (f σ m).bind fun ws m1 => .ok (.ref m1.length) (m1 ++ [.lst ws]) := rfl
theorem r_tup : eTup f σ m = (f σ m).bind fun ws m1 => (few ws m1).bind fun ws m2 => .ok (.tup ws) m2 := rfl
theorem r_disp : lDisp f σ m = (f σ m).bind few := rfl
theorem r_few {ws : List W} : few ws m = if ws.length ≤ 1000000 then .ok ws m else .bad := rfl
theorem r_eif : eIf t a b σ m = (t σ m).bind fun x m1 => if x = true then a σ m1 else b σ m1 := rfl
theorem r_eand : eAnd a b σ m = (a σ m).bind fun x m1 => match x with | .bl true => b σ m1 | .bl false => .ok (.bl false) m1 | _ => .bad := rfl
theorem r_eor : eOr a b σ m = (a σ m).bind fun x m1 => match x with | .bl true => .ok (.bl true) m1 | .bl false => b σ m1 | _ => .bad := rfl
theorem r_enot : eNot a σ m = (a σ m).bind fun x m1 => match x with | .bl b => .ok (.bl (!b)) m1 | _ => .bad := rfl
theorem r_acons {g : DL} : aCons a g σ m = (a σ m).bind fun x m1 => (g σ m1).bind fun xs m2 => .ok (x :: xs) m2 := rfl
theorem r_anil : aNil σ m = .ok [] m := rfl
theorem r_astar {g : DL} : aStar a g σ m = (a σ m).bind fun x m1 => (itemsW x m1).bind fun ws m2 => (g σ m2).bind fun xs m3 => .ok (ws ++ xs) m3 := rfl
theorem r_astarL {g : DL} : aStarL f g σ m = (f σ m).bind fun ws m1 => (g σ m1).bind fun xs m3 => .ok (ws ++ xs) m3 := rfl
theorem r_val : tVal a σ m = (a σ m).bind fun x m1 => match x with | .bl b => .ok b m1 | _ => .bad := rfl
theorem r_tru : tTru a σ m = (a σ m).bind truth := rfl
theorem r_not : tNot t σ m = (t σ m).bind fun x m1 => .ok (!x) m1 := rfl
theorem r_and : tAnd t u σ m = (t σ m).bind fun x m1 => if x = true then u σ m1 else .ok false m1 := rfl
theorem r_or : tOr t u σ m = (t σ m).bind fun x m1 => if x = true then .ok true m1 else u σ m1 := rfl
theorem r_chain {f1 f2 : W → W → Mem → R W} : tChain f1 f2 a b c σ m = (a σ m).bind fun x m1 => (b σ m1).bind fun y m2 => (f1 x y m2).bind fun t m3 => match t with
  | .bl true => (c σ m3).bind fun z m4 => (f2 y z m4).bind fun w m5 => match w with | .bl k => .ok k m5 | _ => .bad
  | .bl false => .ok false m3
  | _ => .bad := rfl
theorem r_inL {neg : Bool} : eInL neg a f σ m = (a σ m).bind fun x m1 => (f σ m1).bind fun ws m2 => (inD x ws m2).bind fun b m3 => .ok (.bl (if neg then !b else b)) m3 := rfl
theorem r_m1 {fn : W → W → Mem → R W} : eM1 fn a b σ m = (a σ m).bind fun x m1 => match x with
  | .str l => (b σ m1).bind fun y m2 => fn (.str l) y m2
  | _ => .bad := rfl
theorem r_joinL : eJoinL a f σ m = (a σ m).bind fun x m1 => match x with
  | .str a => (f σ m1).bind fun ws m2 => joinW a ws m2
  | _ => .bad := rfl
theorem r_split : lSplit a b σ m = (a σ m).bind fun x m1 => match x with
  | .str l => (b σ m1).bind fun y m2 => splitW (.str l) y m2
  | _ => .bad := rfl
theorem r_sl {p q : DO} : eSl a p q σ m = (a σ m).bind fun x m1 => (p σ m1).bind fun l m2 => (q σ m2).bind fun h m3 => wSl x l h m3 := rfl
theorem r_pno : pNo σ m = .ok none m := rfl
theorem r_pat : pAt a σ m = (a σ m).bind fun w m1 => match w with | .int i => .ok (some i) m1 | _ => .bad := rfl
theorem r_sub {cs : String} {F : DF} {n : Nat} {fs : List (List Nat × W)} (h0 : σ[0]? = some (some (.ref n))) (h1 : m[n]? = some (.ins cs fs)) : sSuper cs F f σ m = RS.of σ (f σ m) fun ws m1 => RS.of σ (F (.ref n :: ws) m1) fun _ m2 => .nx σ m2 := by
  unfold sSuper
  rw [h0]
  simp only [h1, if_true]
/-! by the shapes of values -/
theorem v_add {i j : Int} : wAdd (.int i) (.int j) m = .ok (.int (i + j)) m := rfl
theorem v_sub {i j : Int} : wSub (.int i) (.int j) m = .ok (.int (i - j)) m := rfl
theorem v_mod {i j : Int} : wMod (.int i) (.int j) m = if 0 < j then .ok (.int (i % j)) m else .bad := rfl
theorem v_div {i j : Int} : wDiv (.int i) (.int j) m = if 0 < j ∧ j < 1073741824 then .ok (.int (i / j)) m else .bad := rfl
theorem v_pow {i j : Int} : wPow (.int i) (.int j) m = if 0 ≤ j ∧ j ≤ 1000 ∧ i.natAbs < 1000000 then .ok (.int (i ^ j.toNat)) m else .bad := rfl
theorem v_neg {i : Int} : wNeg (.int i) m = .ok (.int (-i)) m := rfl
theorem v_lt {i j : Int} : wLt (.int i) (.int j) m = .ok (.bl (decide (i < j))) m := rfl
theorem v_le {i j : Int} : wLe (.int i) (.int j) m = .ok (.bl (decide (i ≤ j))) m := rfl
theorem v_gt {i j : Int} : wGt (.int i) (.int j) m = .ok (.bl (decide (j < i))) m := rfl
theorem v_ge {i j : Int} : wGe (.int i) (.int j) m = .ok (.bl (decide (j ≤ i))) m := rfl
theorem v_isN : wIsN x .non m = .ok (.bl (isNon x)) m := rfl
theorem v_notN : wNotN x .non m = .ok (.bl (!isNon x)) m := rfl
theorem v_intI {i : Int} : bInt [.int i] m = .ok (.int i) m := rfl
theorem v_intB {k : Bool} : bInt [.bl k] m = .ok (.int (b2 k)) m := rfl
theorem v_abs {i : Int} : bAbs [.int i] m = .ok (.int (if i < 0 then -i else i)) m := rfl
theorem v_strS {l : List Nat} : bStr [.str l] m = .ok (.str l) m := rfl
theorem v_len : bLen [x] m = match lenW x m with | some n => .ok (.int (n : Int)) m | none => .bad := rfl
theorem v_ixT {ws : List W} {i : Int} : wIx (.tup ws) (.int i) m = atW ws i m := rfl
theorem v_ixF {ws : List W} {i : Int} : wIx (.frz ws) (.int i) m = atW ws i m := rfl
theorem v_ixR {n : Nat} {ws : List W} {i : Int} (h : m[n]? = some (.lst ws)) : wIx (.ref n) (.int i) m = atW ws i m := by
  show (match m[n]? with | some (.lst ws) => atW ws i m | _ => .bad) = _
  rw [h]
theorem v_eqI {i j : Int} : wEq0 (.int i) (.int j) m = .ok (.bl (decide (i = j))) m := rfl
theorem v_neI {i j : Int} : wNe0 (.int i) (.int j) m = .ok (.bl (!decide (i = j))) m := rfl
theorem v_eqS {i j : List Nat} : wEq0 (.str i) (.str j) m = .ok (.bl (decide (i = j))) m := rfl
theorem v_neS {i j : List Nat} : wNe0 (.str i) (.str j) m = .ok (.bl (!decide (i = j))) m := rfl
theorem v_at {ws : List W} {i : Int} (h : L2.atI ws i = some w) : atW ws i m = .ok w m := by unfold atW; rw [h]
theorem atI_nat {α : Type} {ws : List α} {k : Nat} {v : α} (h : ws[k]? = some v) : L2.atI ws (k : Int) = some v := by
  have hk := (List.getElem?_eq_some_iff.mp h).1
  unfold L2.atI L2.ixN
  rw [if_pos (by omega), if_pos (by omega)]
  simpa using h
end
theorem lt_big {i : Int} (h : i.natAbs < 2 ^ 400) : i.natAbs < big := Nat.lt_of_lt_of_le h (Nat.pow_le_pow_right (by decide) (by decide))
/-- the straight-line part of a run -/
theorem wMul_ok {i j : Int} {m : Mem} (h1 : i.natAbs < 2 ^ 400) (h2 : j.natAbs < 2 ^ 400) : wMul (.int i) (.int j) m = .ok (.int (i * j)) m := by
  unfold wMul; exact if_pos ⟨lt_big h1, lt_big h2⟩
theorem wMod_ok {i j : Int} {m : Mem} (h : 0 < j) : wMod (.int i) (.int j) m = .ok (.int (i % j)) m := if_pos h
theorem wDiv_ok {i j : Int} {m : Mem} (h : 0 < j) (h2 : j < 1073741824) : wDiv (.int i) (.int j) m = .ok (.int (i / j)) m := if_pos ⟨h, h2⟩
theorem wPow_ok {i j : Int} {m : Mem} (h : 0 ≤ j) (h2 : j ≤ 1000) (h3 : i.natAbs < 1000000) : wPow (.int i) (.int j) m = .ok (.int (i ^ j.toNat)) m := if_pos ⟨h, h2, h3⟩
theorem forLoop_nx {src : Src} {h : W → Loc → Mem → R Loc} {b : DS} {N : Nat} (I : Nat → Loc → Mem → Prop)
    (step : ∀ i σ m, i < N → I i σ m → ∃ w σ1 m1 σ2 m2, src i m = some (some w) ∧ h w σ m = .ok σ1 m1 ∧ b σ1 m1 = .nx σ2 m2 ∧ I (i + 1) σ2 m2)
    (stop : ∀ σ m, I N σ m → src N m = some none) :
    ∀ (k i : Nat) (σ : Loc) (m : Mem), i + k = N → I i σ m → ∃ σ' m', forLoop src h b (k + 1) i σ m = .nx σ' m' ∧ I N σ' m'
  | 0, i, σ, m, e, hI => by
    have e' : i = N := by omega
    subst e'
    refine ⟨σ, m, ?_, hI⟩
    unfold forLoop
    rw [stop σ m hI]
  | k + 1, i, σ, m, e, hI => by
    obtain ⟨w, σ1, m1, σ2, m2, h1, h2, h3, h4⟩ := step i σ m (by omega) hI
    obtain ⟨σ', m', h5, h6⟩ := forLoop_nx I step stop k (i + 1) σ2 m2 (by omega) h4
    refine ⟨σ', m', ?_, h6⟩
    unfold forLoop
    rw [h1]
    show RS.of σ (h w σ m) _ = _
    rw [h2]
    show (match b σ1 m1 with | .nx σ2 m2 => forLoop src h b (k + 1) (i + 1) σ2 m2 | .ct σ2 m2 => forLoop src h b (k + 1) (i + 1) σ2 m2 | .bk σ2 m2 => .nx σ2 m2 | r => r) = _
    rw [h3]
    exact h5
theorem compLoop_ok {src : Src} {h : W → Loc → Mem → R Loc} {t : DB} {e : DE} {σ : Loc} {N : Nat} (I : Nat → List W → Mem → Prop) (hN : N ≤ 1000000)
    (hlen : ∀ i acc m, I i acc m → acc.length ≤ i)
    (step : ∀ i acc m, i < N → I i acc m → ∃ w σ1 m1 m2 y m3, src i m = some (some w) ∧ h w σ m = .ok σ1 m1 ∧ t σ1 m1 = .ok true m2 ∧ e σ1 m2 = .ok y m3 ∧ I (i + 1) (acc ++ [y]) m3)
    (stop : ∀ acc m, I N acc m → src N m = some none) :
    ∀ (k i : Nat) (acc : List W) (m : Mem), i + k = N → I i acc m → ∃ ws m', compLoop src h t e σ (k + 1) i acc m = .ok ws m' ∧ I N ws m'
  | 0, i, acc, m, hk, hI => by
    have e' : i = N := by omega
    subst e'
    refine ⟨acc, m, ?_, hI⟩
    unfold compLoop
    rw [stop acc m hI]
  | k + 1, i, acc, m, hk, hI => by
    obtain ⟨w, σ1, m1, m2, y, m3, h1, h2, h3, h4, h5⟩ := step i acc m (by omega) hI
    obtain ⟨ws, m', h6, h7⟩ := compLoop_ok I hN hlen step stop k (i + 1) (acc ++ [y]) m3 (by omega) h5
    refine ⟨ws, m', ?_, h7⟩
    have hl := hlen i acc m hI
    unfold compLoop
    simp only [h1, h2, h3, h4, R.bind_ok, R.nox_ok, if_true]
    first
      | (rw [if_pos (by omega)]; exact h6)
      | exact h6
theorem comp_map {src : Src} {ws : List W} {m : Mem} {k : Nat} {e : DE} {σ : Loc} {f : W → W} (hl : ws.length ≤ 1000000) (hs : ∀ i, src i m = some ws[i]?) (he : ∀ w, w ∈ ws → e (σ.set k (some w)) m = .ok (f w) m) :
    compLoop src (gSet k) tYesB e σ (ws.length + 1) 0 [] m = .ok (ws.map f) m := by
  obtain ⟨xs, m', h1, h2, h3⟩ := compLoop_ok (src := src) (h := gSet k) (t := tYesB) (e := e) (σ := σ) (N := ws.length) (fun i acc m' => acc = (ws.take i).map f ∧ m' = m) hl
    (fun i acc m' ⟨h, _⟩ => by rw [h]; simp; omega)
    (fun i acc m' hi ⟨h, hm⟩ => by
      subst hm
      refine ⟨ws[i], σ.set k (some ws[i]), m', m', f ws[i], m', ?_, rfl, rfl, he _ (List.getElem_mem hi), ?_, rfl⟩
      · rw [hs]; simp [hi]
      · rw [h, List.take_succ_eq_append_getElem hi, List.map_append]; rfl)
    (fun acc m' ⟨_, hm⟩ => by subst hm; rw [hs]; simp) ws.length 0 [] m (by omega) ⟨by simp, rfl⟩
  rw [h1, h2, h3]
  simp
theorem strs_map : ∀ ys : List (List Nat), strsW (ys.map W.str) = some ys
  | [] => rfl
  | y :: ys => by simp [strsW, strs_map ys]
theorem joinW_ok {a : List Nat} {ys : List (List Nat)} {m : Mem} (h : (ys.map (·.length)).sum + ys.length * a.length ≤ 1000000) : joinW a (ys.map W.str) m = .ok (.str (TL.joinL a ys)) m := by
  unfold joinW
  rw [strs_map]
  exact if_pos h
section
variable {σ : Loc} {m : Mem} {a : DE} {f : DL} {t : DB} {x : W}
theorem r_lcomp {p : DP} {h : W → Loc → Mem → R Loc} {vs : List Nat} : lComp p h t a vs σ m = (p σ m).bind fun pl m1 => compLoop pl.src h t a (wipeW σ vs) (pl.n + 1) 0 [] m1 := rfl
theorem r_pval : pVal a σ m = (a σ m).bind planOf := rfl
theorem r_pseq : pSeq a σ m = (a σ m).bind planL := rfl
theorem r_plist : pList f σ m = (f σ m).bind fun ws m1 => .ok ⟨ws.length, srcFix ws⟩ m1 := rfl
theorem r_planT {ws : List W} : planOf (.tup ws) m = .ok ⟨ws.length, srcFix ws⟩ m := rfl
theorem r_planS {l : List Nat} : planOf (.str l) m = .ok ⟨l.length, srcStr l⟩ m := rfl
theorem planR {n : Nat} {ws : List W} (h : m[n]? = some (.lst ws)) : planOf (.ref n) m = .ok ⟨ws.length, srcLive n⟩ m := by
  show (match m[n]? with | some (.lst xs) => R.ok (⟨xs.length, srcLive n⟩ : Plan) m | _ => .bad) = _
  rw [h]
theorem planLR {n : Nat} {ws : List W} (h : m[n]? = some (.lst ws)) : planL (.ref n) m = .ok ⟨ws.length, srcLive n⟩ m := by
  show (match m[n]? with | some (.lst xs) => R.ok (⟨xs.length, srcLive n⟩ : Plan) m | _ => .bad) = _
  rw [h]
theorem live_at {n : Nat} {ws : List W} (h : m[n]? = some (.lst ws)) (i : Nat) : srcLive n i m = some ws[i]? := by
  show (match m[n]? with | some (.lst xs) => some xs[i]? | _ => none) = _
  rw [h]
end
theorem wAdd_lst {a b : Nat} {xs ys : List W} {m : Mem} (h1 : m[a]? = some (.lst xs)) (h2 : m[b]? = some (.lst ys)) (hl : xs.length + ys.length ≤ 1000000) : wAdd (.ref a) (.ref b) m = .ok (.ref m.length) (m ++ [.lst (xs ++ ys)]) := by
  show (match m[a]?, m[b]? with
    | some (.lst xs), some (.lst ys) => if xs.length + ys.length ≤ 1000000 then R.ok (W.ref m.length) (m ++ [O.lst (xs ++ ys)]) else .bad
    | _, _ => .bad) = _
  rw [h1, h2]
  exact if_pos hl
section
variable {σ : Loc} {m : Mem} {a b c : DE} {f : DL} {d e : DS} {x y w : W} {i : Nat}
def RS.tryO (r : RS) (isa : String → Option Bool) (su : DS) : RS := match r with
  | .exc c fs σ1 m1 => match isa c with
    | some true => match su σ1 m1 with
      | .exc _ _ _ _ => .bad
      | r => r
    | some false => .exc c fs σ1 m1
    | none => .bad
  | r => r
def RS.tryA (r : RS) (isa : String → Option Bool) (i : Nat) (su : DS) : RS := match r with
  | .exc c fs σ1 m1 => match isa c with
    | some true => match su (σ1.set i (some (.ref m1.length))) (m1 ++ [.exc c fs]) with
      | .nx σ2 m2 => .nx (σ2.set i none) m2
      | .rt w m2 => .rt w m2
      | .bk σ2 m2 => .bk (σ2.set i none) m2
      | .ct σ2 m2 => .ct (σ2.set i none) m2
      | _ => .bad
    | some false => .exc c fs σ1 m1
    | none => .bad
  | r => r
theorem r_tryO {isa : String → Option Bool} {su : DS} : sTryO d isa su σ m = RS.tryO (d σ m) isa su := rfl
theorem r_tryA {isa : String → Option Bool} {su : DS} {i : Nat} : sTryA d isa i su σ m = RS.tryA (d σ m) isa i su := rfl
theorem seq_exc {c : String} {fs : List (List Nat × W)} {b : DS} : RS.seq (.exc c fs σ m) b = .exc c fs σ m := rfl
theorem of_exc {c : String} {fs : List (List Nat × W)} : R.ofRS (.exc c fs σ m) = .exc c fs m := rfl
theorem tryO_rt {isa : String → Option Bool} {su : DS} : RS.tryO (.rt w m) isa su = .rt w m := rfl
theorem tryO_nx {isa : String → Option Bool} {su : DS} : RS.tryO (.nx σ m) isa su = .nx σ m := rfl
theorem tryA_rt {isa : String → Option Bool} {su : DS} {i : Nat} : RS.tryA (.rt w m) isa i su = .rt w m := rfl
theorem tryA_nx {isa : String → Option Bool} {su : DS} {i : Nat} : RS.tryA (.nx σ m) isa i su = .nx σ m := rfl
theorem tryO_exc {isa : String → Option Bool} {su : DS} {c : String} {fs : List (List Nat × W)} (h : isa c = some true) : RS.tryO (.exc c fs σ m) isa su = (match su σ m with | .exc _ _ _ _ => .bad | r => r) := by
  unfold RS.tryO; simp only [h]
theorem tryA_exc {isa : String → Option Bool} {su : DS} {i : Nat} {c : String} {fs : List (List Nat × W)} (h : isa c = some true) : RS.tryA (.exc c fs σ m) isa i su = (match su (σ.set i (some (.ref m.length))) (m ++ [.exc c fs]) with
      | .nx σ2 m2 => .nx (σ2.set i none) m2
      | .rt w m2 => .rt w m2
      | .bk σ2 m2 => .bk (σ2.set i none) m2
      | .ct σ2 m2 => .ct (σ2.set i none) m2
      | _ => .bad) := by
  unfold RS.tryA; simp only [h]
def raise1 (c : String) (fl : List Nat) (σ : Loc) (ws : List W) (m : Mem) : RS := match ws with
  | [w] => .exc c [(fl, w)] σ m
  | _ => .bad
theorem r_raise {k : String} {fl : List Nat} : sRaise k fl f σ m = RS.of σ (f σ m) fun ws m1 => raise1 k fl σ ws m1 := rfl
theorem r_raise1 {k : String} {fl : List Nat} : raise1 k fl σ [w] m = .exc k [(fl, w)] σ m := rfl
theorem r_xattr {fl : List Nat} {ok : String → Bool} : eXAttr fl ok a σ m = (a σ m).bind fun x m1 => xattr fl ok x m1 := rfl
theorem r_slS {p q : DO} {k : Int} : eSlS a p q k σ m = (a σ m).bind fun x m1 => (p σ m1).bind fun l m2 => (q σ m2).bind fun h m3 => wSlS x l h k m3 := rfl
theorem r_join : eJoin a b σ m = (a σ m).bind fun x m1 => match x with
  | .str a => (b σ m1).bind fun y m2 => (itemsW y m2).bind fun ws m3 => joinW a ws m3
  | _ => .bad := rfl
theorem r_dget : eDGet a b σ m = (a σ m).bind fun x m1 => (b σ m1).bind fun y m2 => dGetW x y m2 := rfl
theorem r_dict0 : eDict0 σ m = .ok (.ref m.length) (m ++ [.dK []]) := rfl
theorem r_dput : sDPut a b c σ m = RS.of σ (c σ m) fun w m1 => RS.of σ (a σ m1) fun x m2 => RS.of σ (b σ m2) fun y m3 => match dPutM x y w m3 with | some m4 => .nx σ m4 | none => .bad := rfl
theorem r_mkx {k : String} {fl : List Nat} : eMakeX k fl f σ m = (f σ m).bind (makeX k fl) := rfl
theorem r_app {g : DL} : eApp a g σ m = (a σ m).bind fun x m1 => if isLst m1 x = true then (g σ m1).bind fun ys m2 => match ys with | [y] => wApp x y m2 | _ => .bad else .bad := rfl
end
end Sh

namespace K02
open PySem PySem.Spec L2 Sh
open PyProof.Rows (envOfC)
/-! ### what the defs compute -/
def b__law_pile : DS := sSeq (sSet 2 (eC (.int 0))) (sSeq (sIf (tVal (eBin wLt (eVar 1) (eFn bLen (aCons (eVar 0) (aNil))))) (sSet 2 (eBin wIx (eVar 0) (eVar 1))) (sNil)) (sSeq (sSet 3 (eIxL (lDisp (aCons (eC (.int 0)) (aCons (eBin wMod (eFn bInt (aCons (eVar 2) (aNil))) (eBin wMul (eBin wMul (eBin wPow (eC (.int 10)) (eC (.int 50))) (eBin wPow (eC (.int 10)) (eC (.int 50)))) (eBin wPow (eC (.int 10)) (eC (.int 50))))) (aNil)))) (eFn bInt (aCons (eBin wGe (eFn bAbs (aCons (eVar 2) (aNil))) (eBin wPow (eC (.int 10)) (eC (.int 18)))) (aNil))))) (sRet (eNew (lDisp (aCons (eVar 3) (aCons (eBin wMod (eFn bInt (aCons (eVar 2) (aNil))) (eC (.int 2147483647))) (aCons (eBin wMul (eC (.int 97)) (eVar 1)) (aCons (eBin wLt (eVar 1) (eC (.int 2))) (aNil))))))))))
def d__law_pile : DF := defn 2 4 b__law_pile
def b__law_mixed : DS := sSeq (sSet 2 (eBin wMod (eFn bInt (aCons (eBin wAdd (eBin wAdd (eBin wMul (eBin wMod (eFn bInt (aCons (eVar 0) (aNil))) (eC (.int 2147483647))) (eC (.int 48271))) (eBin wMul (eVar 1) (eC (.int 69621)))) (eC (.int 11))) (aNil))) (eC (.int 2147483647)))) (sSeq (sSet 2 (eBin wMod (eFn bInt (aCons (eBin wMul (eVar 2) (eVar 2)) (aNil))) (eC (.int 2147483629)))) (sRet (eBin wDiv (eBin wMod (eFn bInt (aCons (eBin wMul (eVar 2) (eVar 2)) (aNil))) (eC (.int 2147483587))) (eC (.int 64)))))
def d__law_mixed : DF := defn 2 3 b__law_mixed
def b__law_take : DS := sSeq (sIf (tVal (eInL false (eBin wIx (eVar 0) (eC (.int 0))) (lDisp (aCons (eC (.int 0)) (aCons (eUn wNeg (eC (.int 1))) (aNil)))))) (sSeq (sPut (eVar 0) (eC (.int 2)) (eBin wAdd (eBin wIx (eVar 0) (eC (.int 2))) (eC (.int 1)))) (sRet (eBin wMod (eFn bInt (aCons (eCall d__law_mixed (aCons (eBin wIx (eVar 0) (eC (.int 1))) (aCons (eBin wIx (eVar 0) (eC (.int 2))) (aNil)))) (aNil))) (eVar 1)))) (sNil)) (sSeq (sSet 2 (eBin wMod (eFn bInt (aCons (eBin wIx (eVar 0) (eC (.int 0))) (aNil))) (eVar 1))) (sSeq (sPut (eVar 0) (eC (.int 0)) (eBin wDiv (eBin wIx (eVar 0) (eC (.int 0))) (eVar 1))) (sRet (eVar 2))))
def d__law_take : DF := defn 2 3 b__law_take
def b__law_drawn_word : DS := sSeq (sSet 1 (eNew (lDisp (aCons (eC (.str [97])) (aCons (eC (.str [98])) (aCons (eC (.str [120])) (aCons (eC (.str [115, 101, 116])) (aCons (eC (.str [97, 100, 100])) (aCons (eC (.str [110, 111, 110, 101])) (aCons (eC (.str [99, 111, 112, 121])) (aCons (eC (.str [105, 102])) (aCons (eC (.str [106, 107, 113, 118, 119, 120, 121, 122])) (aCons (eC (.str [114, 101, 97, 100])) (aCons (eC (.str [104])) (aCons (eC (.str [109, 117, 108])) (aNil)))))))))))))))) (sRet (eBin wIx (eVar 1) (eCall d__law_take (aCons (eVar 0) (aCons (eC (.int 12)) (aNil))))))
def d__law_drawn_word : DF := defn 1 2 b__law_drawn_word
def b__law_drawn_value : DS := sSeq (sSet 1 (eIxL (lDisp (aCons (eC (.int 0)) (aCons (eC (.int 1)) (aCons (eUn wNeg (eC (.int 1))) (aCons (eC (.int 7)) (aCons (eC (.int 999999)) (aCons (eUn wNeg (eC (.int 999999))) (aCons (eBin wSub (eCall d__law_take (aCons (eVar 0) (aCons (eC (.int 1999999)) (aNil)))) (eC (.int 999999))) (aNil))))))))) (eCall d__law_take (aCons (eVar 0) (aCons (eC (.int 7)) (aNil)))))) (sRet (eIxL (lDisp (aCons (eCall d__law_drawn_word (aCons (eVar 0) (aNil))) (aCons (eVar 1) (aNil)))) (eCall d__law_take (aCons (eVar 0) (aCons (eC (.int 2)) (aNil))))))
def d__law_drawn_value : DF := defn 1 2 b__law_drawn_value
def b__law_any_statement : DS := sSeq (sSet 1 (eCall d__law_take (aCons (eVar 0) (aCons (eC (.int 4)) (aNil))))) (sSeq (sIf (tVal (eBin wEq0 (eVar 1) (eC (.int 0)))) (sSeq (sSet 2 (eIxL (lDisp (aCons (eC (.str [97, 100, 100])) (aCons (eC (.str [115, 117, 98])) (aCons (eC (.str [109, 117, 108])) (aNil))))) (eCall d__law_take (aCons (eVar 0) (aCons (eC (.int 3)) (aNil)))))) (sRet (eTup (aCons (eC (.str [115, 101, 116])) (aCons (eCall d__law_drawn_word (aCons (eVar 0) (aNil))) (aCons (eCall d__law_drawn_value (aCons (eVar 0) (aNil))) (aCons (eVar 2) (aCons (eCall d__law_drawn_value (aCons (eVar 0) (aNil))) (aNil))))))))) (sNil)) (sSeq (sIf (tVal (eBin wEq0 (eVar 1) (eC (.int 1)))) (sRet (eTup (aCons (eC (.str [99, 111, 112, 121])) (aCons (eCall d__law_drawn_word (aCons (eVar 0) (aNil))) (aCons (eCall d__law_drawn_value (aCons (eVar 0) (aNil))) (aNil)))))) (sNil)) (sSeq (sIf (tVal (eBin wEq0 (eVar 1) (eC (.int 2)))) (sRet (eTup (aCons (eC (.str [114, 101, 97, 100])) (aCons (eCall d__law_drawn_word (aCons (eVar 0) (aNil))) (aNil))))) (sNil)) (sRet (eTup (aCons (eC (.str [119, 114, 105, 116, 101])) (aCons (eCall d__law_drawn_value (aCons (eVar 0) (aNil))) (aNil))))))))
def d__law_any_statement : DF := defn 1 3 b__law_any_statement
def b__law_odd : DS := sSeq (sSet 1 (eNew (lDisp (aCons (eC .non) (aCons (eC (.bl true)) (aCons (eC (.int 0)) (aCons (eC (.str [65])) (aCons (eC (.str [])) (aCons (eTup (aNil)) (aCons (eNew (lDisp (aNil))) (aCons (eDict0) (aCons (eC (.str [97, 49])) (aCons (eC (.str [97, 98, 99, 100, 101, 102, 103, 104, 105])) (aCons (eUn wNeg (eC (.int 1))) (aCons (eTup (aCons (eC (.str [97])) (aNil))) (aCons (eNew (lDisp (aCons (eC (.str [97])) (aNil)))) (aCons (eTup (aCons (eC (.int 1)) (aCons (eC (.int 2)) (aNil)))) (aCons (eC (.str [97, 32, 98])) (aCons (eC (.str [49])) (aNil)))))))))))))))))))) (sRet (eBin wIx (eBin wAdd (eVar 1) (eNew (lDisp (aCons (eC (.str [32, 97])) (aCons (eC (.str [97, 95])) (aCons (eC (.str [97, 10])) (aCons (eC (.bl false)) (aCons (eC (.str [97, 123])) (aCons (eC (.str [96, 97])) (aCons (eC (.str [97, 126])) (aNil))))))))))) (eCall d__law_take (aCons (eVar 0) (aCons (eC (.int 23)) (aNil))))))
def d__law_odd : DF := defn 1 2 b__law_odd
def isiL : List ((Tc × Tc) × Bool) := [((.bi "NoneType", .own "NoName"), false), ((.bi "bool", .own "NoName"), false), ((.bi "int", .own "NoName"), false), ((.bi "str", .own "NoName"), false), ((.bi "tuple", .own "NoName"), false), ((.bi "list", .own "NoName"), false), ((.bi "dict", .own "NoName"), false), ((.bi "NoneType", .own "NoOperator"), false), ((.bi "bool", .own "NoOperator"), false), ((.bi "int", .own "NoOperator"), false), ((.bi "str", .own "NoOperator"), false), ((.bi "tuple", .own "NoOperator"), false), ((.bi "list", .own "NoOperator"), false), ((.bi "dict", .own "NoOperator"), false), ((.bi "NoneType", .own "NoValue"), false), ((.bi "bool", .own "NoValue"), false), ((.bi "int", .own "NoValue"), false), ((.bi "str", .own "NoValue"), false), ((.bi "tuple", .own "NoValue"), false), ((.bi "list", .own "NoValue"), false), ((.bi "dict", .own "NoValue"), false), ((.xc "NoName", .own "NoName"), true), ((.xc "NoName", .own "NoOperator"), false), ((.xc "NoName", .own "NoValue"), false), ((.xc "NoValue", .own "NoName"), false), ((.xc "NoValue", .own "NoOperator"), false), ((.xc "NoValue", .own "NoValue"), true), ((.xc "NoText", .own "NoName"), false), ((.xc "NoText", .own "NoOperator"), false), ((.xc "NoText", .own "NoValue"), false), ((.xc "NoOperator", .own "NoName"), false), ((.xc "NoOperator", .own "NoOperator"), true), ((.xc "NoOperator", .own "NoValue"), false), ((.bi "NoneType", .bi "bool"), false), ((.bi "NoneType", .bi "dict"), false), ((.bi "NoneType", .bi "int"), false), ((.bi "NoneType", .bi "list"), false), ((.bi "NoneType", .bi "str"), false), ((.bi "NoneType", .own "Statement"), false), ((.bi "bool", .bi "bool"), true), ((.bi "bool", .bi "dict"), false), ((.bi "bool", .bi "int"), true), ((.bi "bool", .bi "list"), false), ((.bi "bool", .bi "str"), false), ((.bi "bool", .own "Statement"), false), ((.bi "int", .bi "bool"), false), ((.bi "int", .bi "dict"), false), ((.bi "int", .bi "int"), true), ((.bi "int", .bi "list"), false), ((.bi "int", .bi "str"), false), ((.bi "int", .own "Statement"), false), ((.bi "str", .bi "bool"), false), ((.bi "str", .bi "dict"), false), ((.bi "str", .bi "int"), false), ((.bi "str", .bi "list"), false), ((.bi "str", .bi "str"), true), ((.bi "str", .own "Statement"), false), ((.bi "tuple", .bi "bool"), false), ((.bi "tuple", .bi "dict"), false), ((.bi "tuple", .bi "int"), false), ((.bi "tuple", .bi "list"), false), ((.bi "tuple", .bi "str"), false), ((.bi "tuple", .own "Statement"), false), ((.bi "list", .bi "bool"), false), ((.bi "list", .bi "dict"), false), ((.bi "list", .bi "int"), false), ((.bi "list", .bi "list"), true), ((.bi "list", .bi "str"), false), ((.bi "list", .own "Statement"), false), ((.bi "dict", .bi "bool"), false), ((.bi "dict", .bi "dict"), true), ((.bi "dict", .bi "int"), false), ((.bi "dict", .bi "list"), false), ((.bi "dict", .bi "str"), false), ((.bi "dict", .own "Statement"), false), ((.own "Set", .bi "bool"), false), ((.own "Set", .bi "dict"), false), ((.own "Set", .bi "int"), false), ((.own "Set", .bi "list"), false), ((.own "Set", .bi "str"), false), ((.own "Set", .own "Statement"), true), ((.own "Copy", .bi "bool"), false), ((.own "Copy", .bi "dict"), false), ((.own "Copy", .bi "int"), false), ((.own "Copy", .bi "list"), false), ((.own "Copy", .bi "str"), false), ((.own "Copy", .own "Statement"), true), ((.own "Read", .bi "bool"), false), ((.own "Read", .bi "dict"), false), ((.own "Read", .bi "int"), false), ((.own "Read", .bi "list"), false), ((.own "Read", .bi "str"), false), ((.own "Read", .own "Statement"), true), ((.own "Write", .bi "bool"), false), ((.own "Write", .bi "dict"), false), ((.own "Write", .bi "int"), false), ((.own "Write", .bi "list"), false), ((.own "Write", .bi "str"), false), ((.own "Write", .own "Statement"), true)]
def isiT : Tc → Tc → Option Bool := fun t d => isiL.lookup (t, d)
def b__law_is_name : DS := sSeq (sIf (tOr (tNot (tVal (eFn (bIsi isiT) (aCons (eVar 0) (aCons (eC (.ty "str")) (aNil)))))) (tNot (tChain wLt wLt (eC (.int 0)) (eFn bLen (aCons (eVar 0) (aNil))) (eC (.int 9))))) (sRet (eC (.bl false))) (sNil)) (sRet (eBin wEq0 (eNew (lComp (pVal (eVar 0)) (gSet 1) (tVal (eBin wNotIn (eVar 1) (eC (.str [97, 98, 99, 100, 101, 102, 103, 104, 105, 106, 107, 108, 109, 110, 111, 112, 113, 114, 115, 116, 117, 118, 119, 120, 121, 122])))) (eVar 1) [1])) (eNew (lDisp (aNil)))))
def d__law_is_name : DF := defn 1 2 b__law_is_name
def b__law_whole : DS := sRet (eAnd (eFn (bIsi isiT) (aCons (eVar 0) (aCons (eC (.ty "int")) (aNil)))) (eNot (eFn (bIsi isiT) (aCons (eVar 0) (aCons (eC (.ty "bool")) (aNil))))))
def d__law_whole : DF := defn 1 1 b__law_whole
def b__law_is_value : DS := sSeq (sIf (tVal (eCall d__law_whole (aCons (eVar 0) (aNil)))) (sRet (eBin wLt (eFn bAbs (aCons (eVar 0) (aNil))) (eC (.int 1000000)))) (sNil)) (sRet (eCall d__law_is_name (aCons (eVar 0) (aNil))))
def d__law_is_value : DF := defn 1 1 b__law_is_value
def b__law_due : DS := sSeq (sSet 1 (eBin wIx (eVar 0) (eC (.int 0)))) (sSeq (sIf (tAnd (tVal (eBin wNe0 (eVar 1) (eC (.str [119, 114, 105, 116, 101])))) (tNot (tVal (eCall d__law_is_name (aCons (eBin wIx (eVar 0) (eC (.int 1))) (aNil)))))) (sRet (eNew (lDisp (aCons (eC (.str [110, 97, 109, 101])) (aCons (eBin wIx (eVar 0) (eC (.int 1))) (aNil)))))) (sNil)) (sSeq (sIf (tVal (eBin wEq0 (eVar 1) (eC (.str [115, 101, 116])))) (sSeq (sIf (tNot (tVal (eCall d__law_is_value (aCons (eBin wIx (eVar 0) (eC (.int 2))) (aNil))))) (sRet (eNew (lDisp (aCons (eC (.str [118, 97, 108, 117, 101])) (aCons (eBin wIx (eVar 0) (eC (.int 2))) (aNil)))))) (sNil)) (sIf (tOr (tNot (tVal (eFn (bIsi isiT) (aCons (eBin wIx (eVar 0) (eC (.int 3))) (aCons (eC (.ty "str")) (aNil)))))) (tVal (eInL true (eBin wIx (eVar 0) (eC (.int 3))) (lDisp (aCons (eC (.str [97, 100, 100])) (aCons (eC (.str [115, 117, 98])) (aCons (eC (.str [109, 117, 108])) (aNil)))))))) (sRet (eNew (lDisp (aCons (eC (.str [111, 112, 101, 114, 97, 116, 111, 114])) (aCons (eBin wIx (eVar 0) (eC (.int 3))) (aNil)))))) (sNil))) (sNil)) (sSeq (sIf (tAnd (tVal (eBin wNe0 (eVar 1) (eC (.str [114, 101, 97, 100])))) (tNot (tVal (eCall d__law_is_value (aCons (eBin wIx (eVar 0) (eUn wNeg (eC (.int 1)))) (aNil)))))) (sRet (eNew (lDisp (aCons (eC (.str [118, 97, 108, 117, 101])) (aCons (eBin wIx (eVar 0) (eUn wNeg (eC (.int 1)))) (aNil)))))) (sNil)) (sRet (eNew (lDisp (aCons (eC (.str [109, 97, 100, 101])) (aCons (eJoinL (eC (.str [32])) (lComp (pVal (eVar 0)) (gSet 2) (tYesB) (eFn bStr (aCons (eVar 2) (aNil))) [2])) (aNil)))))))))
def d__law_due : DF := defn 1 3 b__law_due
def b_is_name : DS := sSeq (sIf (tOr (tNot (tVal (eFn (bIsi isiT) (aCons (eVar 0) (aCons (eC (.ty "str")) (aNil)))))) (tNot (tChain wLe wLe (eC (.int 1)) (eFn bLen (aCons (eVar 0) (aNil))) (eC (.int 8))))) (sRet (eC (.bl false))) (sNil)) (sRet (eFnL bAll (lComp (pVal (eVar 0)) (gSet 1) (tYesB) (eBin wIn (eVar 1) (eC (.str [97, 98, 99, 100, 101, 102, 103, 104, 105, 106, 107, 108, 109, 110, 111, 112, 113, 114, 115, 116, 117, 118, 119, 120, 121, 122]))) [1])))
def d_is_name : DF := defn 1 2 b_is_name
def b_must_be_name : DS := sIf (tNot (tVal (eCall d_is_name (aCons (eVar 0) (aNil))))) (sRaise "NoName" [118, 97, 108, 117, 101] (aCons (eVar 0) (aNil))) (sNil)
def d_must_be_name : DF := defn 1 1 b_must_be_name
def okc_Assign_target : String → Bool := fun c => c == "Set" || c == "Copy" || c == "Read"
def b_Assign___init__ : DS := sSeq (sExpr (eCall d_must_be_name (aCons (eVar 1) (aNil)))) (sAttr [116, 97, 114, 103, 101, 116] okc_Assign_target (eVar 0) (eVar 1))
def d_Assign___init__ : DF := defn 2 2 b_Assign___init__
def b_is_integer : DS := sRet (eAnd (eFn (bIsi isiT) (aCons (eVar 0) (aCons (eC (.ty "int")) (aNil)))) (eNot (eFn (bIsi isiT) (aCons (eVar 0) (aCons (eC (.ty "bool")) (aNil))))))
def d_is_integer : DF := defn 1 1 b_is_integer
def b_is_value : DS := sSeq (sIf (tVal (eCall d_is_integer (aCons (eVar 0) (aNil)))) (sRet (eBin wLe (eFn bAbs (aCons (eVar 0) (aNil))) (eC (.int 999999)))) (sNil)) (sRet (eCall d_is_name (aCons (eVar 0) (aNil))))
def d_is_value : DF := defn 1 1 b_is_value
def b_must_be_value : DS := sIf (tNot (tVal (eCall d_is_value (aCons (eVar 0) (aNil))))) (sRaise "NoValue" [118, 97, 108, 117, 101] (aCons (eVar 0) (aNil))) (sNil)
def d_must_be_value : DF := defn 1 1 b_must_be_value
def tb_OPERATORS : String → Option (Option (DF ⊕ W)) := fun c => if c = "Set" then some (some (.inr (.tup [.str [97, 100, 100], .str [115, 117, 98], .str [109, 117, 108]]))) else if c = "Copy" then some (some (.inr (.tup [.str [97, 100, 100], .str [115, 117, 98], .str [109, 117, 108]]))) else if c = "Read" then some (some (.inr (.tup [.str [97, 100, 100], .str [115, 117, 98], .str [109, 117, 108]]))) else if c = "Write" then some (some (.inr (.tup [.str [97, 100, 100], .str [115, 117, 98], .str [109, 117, 108]]))) else none
def okc_Set_left : String → Bool := fun c => c == "Set"
def okc_Set_op : String → Bool := fun c => c == "Set"
def okc_Set_right : String → Bool := fun c => c == "Set"
def b_Set___init__ : DS := sSeq (sExpr (eCall d_must_be_value (aCons (eVar 2) (aNil)))) (sSeq (sIf (tOr (tNot (tVal (eFn (bIsi isiT) (aCons (eVar 3) (aCons (eC (.ty "str")) (aNil)))))) (tVal (eBin wNotIn (eVar 3) (eAttr [79, 80, 69, 82, 65, 84, 79, 82, 83] tb_OPERATORS (eVar 0))))) (sRaise "NoOperator" [118, 97, 108, 117, 101] (aCons (eVar 3) (aNil))) (sNil)) (sSeq (sExpr (eCall d_must_be_value (aCons (eVar 4) (aNil)))) (sSeq (sAttr [108, 101, 102, 116] okc_Set_left (eVar 0) (eVar 2)) (sSeq (sAttr [111, 112] okc_Set_op (eVar 0) (eVar 3)) (sAttr [114, 105, 103, 104, 116] okc_Set_right (eVar 0) (eVar 4))))))
def d_Set___init__ : DF := defn 5 5 (sSeq (sSuper "Set" d_Assign___init__ (aCons (eVar 1) (aNil))) b_Set___init__)
def okc_Copy_value : String → Bool := fun c => c == "Copy"
def b_Copy___init__ : DS := sSeq (sExpr (eCall d_must_be_value (aCons (eVar 2) (aNil)))) (sAttr [118, 97, 108, 117, 101] okc_Copy_value (eVar 0) (eVar 2))
def d_Copy___init__ : DF := defn 3 3 (sSeq (sSuper "Copy" d_Assign___init__ (aCons (eVar 1) (aNil))) b_Copy___init__)
def okc_Write_value : String → Bool := fun c => c == "Write"
def b_Write___init__ : DS := sSeq (sExpr (eCall d_must_be_value (aCons (eVar 1) (aNil)))) (sAttr [118, 97, 108, 117, 101] okc_Write_value (eVar 0) (eVar 1))
def d_Write___init__ : DF := defn 2 2 b_Write___init__
def b__law_made : DS := sSeq (sIf (tVal (eBin wIsN (eVar 0) (eC .non))) (sRet (eC .non)) (sNil)) (sSeq (sIf (tVal (eBin wEq0 (eBin wIx (eVar 0) (eC (.int 0))) (eC (.str [115, 101, 116])))) (sRet (eMake "Set" d_Set___init__ (aCons (eBin wIx (eVar 0) (eC (.int 1))) (aCons (eBin wIx (eVar 0) (eC (.int 2))) (aCons (eBin wIx (eVar 0) (eC (.int 3))) (aCons (eBin wIx (eVar 0) (eC (.int 4))) (aNil))))))) (sNil)) (sSeq (sIf (tVal (eBin wEq0 (eBin wIx (eVar 0) (eC (.int 0))) (eC (.str [99, 111, 112, 121])))) (sRet (eMake "Copy" d_Copy___init__ (aCons (eBin wIx (eVar 0) (eC (.int 1))) (aCons (eBin wIx (eVar 0) (eC (.int 2))) (aNil))))) (sNil)) (sSeq (sIf (tVal (eBin wEq0 (eBin wIx (eVar 0) (eC (.int 0))) (eC (.str [114, 101, 97, 100])))) (sRet (eMake "Read" d_Assign___init__ (aCons (eBin wIx (eVar 0) (eC (.int 1))) (aNil)))) (sNil)) (sRet (eMake "Write" d_Write___init__ (aCons (eBin wIx (eVar 0) (eC (.int 1))) (aNil)))))))
def d__law_made : DF := defn 1 1 b__law_made
def isa_PlaceError : String → Option Bool := fun c => if c = "NoName" then some true else if c = "NoValue" then some true else if c = "NoText" then some true else if c = "NoOperator" then some true else none
def okx_value : String → Bool := fun c => c == "NoName" || c == "NoValue" || c == "NoText" || c == "NoOperator"
def tb_right : String → Option (Option (DF ⊕ W)) := fun c => if c = "Set" then some none else none
def tb_op : String → Option (Option (DF ⊕ W)) := fun c => if c = "Set" then some none else none
def tb_left : String → Option (Option (DF ⊕ W)) := fun c => if c = "Set" then some none else none
def tb_target : String → Option (Option (DF ⊕ W)) := fun c => if c = "Set" then some none else if c = "Copy" then some none else if c = "Read" then some none else none
def b_Set_words : DS := sRet (eNew (lDisp (aCons (eAttr [116, 97, 114, 103, 101, 116] tb_target (eVar 0)) (aCons (eAttr [108, 101, 102, 116] tb_left (eVar 0)) (aCons (eAttr [111, 112] tb_op (eVar 0)) (aCons (eAttr [114, 105, 103, 104, 116] tb_right (eVar 0)) (aNil)))))))
def d_Set_words : DF := defn 1 1 b_Set_words
def tb_value : String → Option (Option (DF ⊕ W)) := fun c => if c = "Copy" then some none else if c = "Write" then some none else none
def b_Copy_words : DS := sRet (eNew (lDisp (aCons (eAttr [116, 97, 114, 103, 101, 116] tb_target (eVar 0)) (aCons (eAttr [118, 97, 108, 117, 101] tb_value (eVar 0)) (aNil)))))
def d_Copy_words : DF := defn 1 1 b_Copy_words
def b_Read_words : DS := sRet (eNew (lDisp (aCons (eAttr [116, 97, 114, 103, 101, 116] tb_target (eVar 0)) (aNil))))
def d_Read_words : DF := defn 1 1 b_Read_words
def b_Write_words : DS := sRet (eNew (lDisp (aCons (eAttr [118, 97, 108, 117, 101] tb_value (eVar 0)) (aNil))))
def d_Write_words : DF := defn 1 1 b_Write_words
def tb_words : String → Option (Option (DF ⊕ W)) := fun c => if c = "Set" then some (some (.inl d_Set_words)) else if c = "Copy" then some (some (.inl d_Copy_words)) else if c = "Read" then some (some (.inl d_Read_words)) else if c = "Write" then some (some (.inl d_Write_words)) else none
def tb_WORD : String → Option (Option (DF ⊕ W)) := fun c => if c = "Set" then some (some (.inr (.str [115, 101, 116]))) else if c = "Copy" then some (some (.inr (.str [99, 111, 112, 121]))) else if c = "Read" then some (some (.inr (.str [114, 101, 97, 100]))) else if c = "Write" then some (some (.inr (.str [119, 114, 105, 116, 101]))) else none
def b_Statement_text : DS := sRet (eJoinL (eC (.str [32])) (lDisp (aCons (eAttr [87, 79, 82, 68] tb_WORD (eVar 0)) (aStarL (lComp (pVal (eAttr [119, 111, 114, 100, 115] tb_words (eVar 0))) (gSet 1) (tYesB) (eFn bStr (aCons (eVar 1) (aNil))) [1]) (aNil)))))
def d_Statement_text : DF := defn 1 2 b_Statement_text
def tb_text : String → Option (Option (DF ⊕ W)) := fun c => if c = "Set" then some (some (.inl d_Statement_text)) else if c = "Copy" then some (some (.inl d_Statement_text)) else if c = "Read" then some (some (.inl d_Statement_text)) else if c = "Write" then some (some (.inl d_Statement_text)) else none
def b__law_told : DS := sSeq (sSet 1 (eC .non)) (sSeq (sSet 2 (eC .non)) (sSeq (sTryA (sSet 2 (eCall d__law_made (aCons (eVar 0) (aNil)))) isa_PlaceError 3 (sSet 1 (eVar 3))) (sSeq (sIf (tVal (eFn (bIsi isiT) (aCons (eVar 1) (aCons (eC (.cls "NoName")) (aNil))))) (sRet (eNew (lDisp (aCons (eC (.str [110, 97, 109, 101])) (aCons (eXAttr [118, 97, 108, 117, 101] okx_value (eVar 1)) (aNil)))))) (sNil)) (sSeq (sIf (tVal (eFn (bIsi isiT) (aCons (eVar 1) (aCons (eC (.cls "NoValue")) (aNil))))) (sRet (eNew (lDisp (aCons (eC (.str [118, 97, 108, 117, 101])) (aCons (eXAttr [118, 97, 108, 117, 101] okx_value (eVar 1)) (aNil)))))) (sNil)) (sSeq (sIf (tVal (eFn (bIsi isiT) (aCons (eVar 1) (aCons (eC (.cls "NoOperator")) (aNil))))) (sRet (eNew (lDisp (aCons (eC (.str [111, 112, 101, 114, 97, 116, 111, 114])) (aCons (eXAttr [118, 97, 108, 117, 101] okx_value (eVar 1)) (aNil)))))) (sNil)) (sSeq (sIf (tVal (eBin wNotN (eVar 1) (eC .non))) (sRet (eNew (lDisp (aCons (eC (.str [97, 110, 111, 116, 104, 101, 114])) (aNil))))) (sNil)) (sRet (eNew (lDisp (aCons (eC (.str [109, 97, 100, 101])) (aCons (eAttr [116, 101, 120, 116] tb_text (eVar 2)) (aNil))))))))))))
def d__law_told : DF := defn 1 4 b__law_told
def b__law_alike : DS := sRet (eBin wEq0 (eFn bRepr (aCons (eVar 0) (aNil))) (eFn bRepr (aCons (eVar 1) (aNil))))
def d__law_alike : DF := defn 2 2 b__law_alike
def b__law_held : DS := sSeq (sIf (tNot (tVal (eCall d__law_alike (aCons (eVar 0) (aCons (eVar 1) (aNil)))))) (sRet (eC (.bl false))) (sNil)) (sSeq (sIf (tAnd (tVal (eBin wGt (eFn bLen (aCons (eVar 1) (aNil))) (eC (.int 1)))) (tVal (eFn (bIsi isiT) (aCons (eBin wIx (eVar 1) (eC (.int 1))) (aCons (eC (.ty "list")) (aNil)))))) (sExpr (eApp (eBin wIx (eVar 1) (eC (.int 1))) (aCons (eC (.str [109, 97, 114, 107])) (aNil)))) (sNil)) (sSeq (sIf (tAnd (tVal (eBin wGt (eFn bLen (aCons (eVar 1) (aNil))) (eC (.int 1)))) (tVal (eFn (bIsi isiT) (aCons (eBin wIx (eVar 1) (eC (.int 1))) (aCons (eC (.ty "dict")) (aNil)))))) (sDPut (eBin wIx (eVar 1) (eC (.int 1))) (eC (.str [109, 97, 114, 107])) (eC (.int 0))) (sNil)) (sRet (eCall d__law_alike (aCons (eVar 0) (aCons (eVar 1) (aNil)))))))
def d__law_held : DF := defn 2 2 b__law_held
def b__law_great_refused : DS := sSeq (sSet 0 (eC (.int 1))) (sSeq (sFor (pRange1 (aCons (eC (.int 60)) (aNil))) (gSet 1) (sSet 0 (eBin wMul (eVar 0) (eBin wPow (eC (.int 10)) (eC (.int 50)))))) (sSeq (sFor (pList (lDisp (aCons (eTup (aCons (eC (.str [119, 114, 105, 116, 101])) (aCons (eVar 0) (aNil)))) (aCons (eTup (aCons (eC (.str [99, 111, 112, 121])) (aCons (eC (.str [120])) (aCons (eBin wSub (eC (.int 0)) (eVar 0)) (aNil))))) (aCons (eTup (aCons (eC (.str [115, 101, 116])) (aCons (eC (.str [120])) (aCons (eVar 0) (aCons (eC (.str [97, 100, 100])) (aCons (eC (.int 1)) (aNil))))))) (aCons (eTup (aCons (eC (.str [114, 101, 97, 100])) (aCons (eVar 0) (aNil)))) (aNil))))))) (gSet 2) (sSeq (sSet 3 (eCall d__law_told (aCons (eVar 2) (aNil)))) (sIf (tOr (tVal (eInL true (eBin wIx (eVar 3) (eC (.int 0))) (lDisp (aCons (eC (.str [118, 97, 108, 117, 101])) (aCons (eC (.str [110, 97, 109, 101])) (aNil)))))) (tVal (eBin wNe0 (eFn bAbs (aCons (eBin wIx (eVar 3) (eC (.int 1))) (aNil))) (eVar 0)))) (sRet (eC (.bl false))) (sNil)))) (sRet (eC (.bl true)))))
def d__law_great_refused : DF := defn 0 4 b__law_great_refused
def b_law : DS := sSeq (sFor (pRange1 (aCons (eC (.int 40)) (aNil))) (gSet 1) (sSeq (sSet 2 (eCall d__law_pile (aCons (eVar 0) (aCons (eVar 1) (aNil))))) (sSeq (sSet 3 (eFn bList (aCons (eCall d__law_any_statement (aCons (eVar 2) (aNil))) (aNil)))) (sSeq (sFor (pRange1 (aCons (eCall d__law_take (aCons (eVar 2) (aCons (eC (.int 4)) (aNil)))) (aNil))) (gSet 4) (sSeq (sSet 7 (eBin wAdd (eC (.int 1)) (eCall d__law_take (aCons (eVar 2) (aCons (eBin wSub (eFn bLen (aCons (eVar 3) (aNil))) (eC (.int 1))) (aNil)))))) (sSeq (sSet 8 (eNew (lDisp (aCons (eCall d__law_odd (aCons (eVar 2) (aNil))) (aCons (eC (.int 1000000)) (aCons (eUn wNeg (eC (.int 1000000))) (aCons (eC (.str [97, 98, 99, 100, 101, 102, 103, 104])) (aCons (eC (.int 2)) (aCons (eC (.str [97, 100, 100])) (aCons (eC (.str [100, 105, 118])) (aCons (eTup (aCons (eC (.str [97])) (aCons (eC (.str [97, 100, 100])) (aCons (eC (.str [98])) (aNil))))) (aNil)))))))))))) (sPut (eVar 3) (eVar 7) (eBin wIx (eVar 8) (eCall d__law_take (aCons (eVar 2) (aCons (eC (.int 8)) (aNil))))))))) (sSeq (sSet 5 (eCall d__law_due (aCons (eVar 3) (aNil)))) (sSeq (sSet 6 (eCall d__law_told (aCons (eFn bTup (aCons (eVar 3) (aNil))) (aNil)))) (sIf (tOr (tAnd (tVal (eBin wEq0 (eBin wIx (eVar 5) (eC (.int 0))) (eC (.str [109, 97, 100, 101])))) (tVal (eBin wNe0 (eVar 6) (eVar 5)))) (tAnd (tVal (eBin wNe0 (eBin wIx (eVar 5) (eC (.int 0))) (eC (.str [109, 97, 100, 101])))) (tNot (tVal (eCall d__law_held (aCons (eVar 6) (aCons (eVar 5) (aNil)))))))) (sRet (eC (.bl false))) (sNil)))))))) (sRet (eCall d__law_great_refused aNil))
def d_law : DF := defn 1 9 b_law
end K02

namespace K02
open PySem PySem.Spec L2 Sh
open PyProof.Rows (envOfC)
/-! ### the text by places -/
def top (i : Nat) : Stmt := PySem.Challenge.pw_placedonce_k02_statements_refused.main.body.getD i (.Pass ⟨0, 0, 0, 0⟩)
abbrev st_NoName___init__ : Stmt := (inClass (top 3) 0)
abbrev st_NoValue___init__ : Stmt := (inClass (top 4) 0)
abbrev st_NoOperator___init__ : Stmt := (inClass (top 5) 0)
abbrev st_is_integer : Stmt := (top 13)
abbrev st_is_name : Stmt := (top 14)
abbrev st_is_value : Stmt := (top 15)
abbrev st_must_be_name : Stmt := (top 16)
abbrev st_must_be_value : Stmt := (top 17)
abbrev st_Statement_text : Stmt := (inClass (top 18) 3)
abbrev st_Assign___init__ : Stmt := (inClass (top 19) 0)
abbrev st_Set___init__ : Stmt := (inClass (top 20) 1)
abbrev st_Set_words : Stmt := (inClass (top 20) 2)
abbrev st_Copy___init__ : Stmt := (inClass (top 21) 1)
abbrev st_Copy_words : Stmt := (inClass (top 21) 2)
abbrev st_Read_words : Stmt := (inClass (top 22) 1)
abbrev st_Write___init__ : Stmt := (inClass (top 23) 1)
abbrev st_Write_words : Stmt := (inClass (top 23) 2)
abbrev st__law_mixed : Stmt := (top 27)
abbrev st__law_pile : Stmt := (top 28)
abbrev st__law_take : Stmt := (top 29)
abbrev st__law_made : Stmt := (top 30)
abbrev st__law_whole : Stmt := (top 31)
abbrev st__law_alike : Stmt := (top 32)
abbrev st__law_is_name : Stmt := (top 33)
abbrev st__law_is_value : Stmt := (top 34)
abbrev st__law_odd : Stmt := (top 35)
abbrev st__law_drawn_word : Stmt := (top 36)
abbrev st__law_drawn_value : Stmt := (top 37)
abbrev st__law_any_statement : Stmt := (top 38)
abbrev st__law_held : Stmt := (top 39)
abbrev st__law_due : Stmt := (top 40)
abbrev st__law_told : Stmt := (top 41)
abbrev st__law_great_refused : Stmt := (top 42)
abbrev st_law : Stmt := (top 43)
/-! ### what the walk asks of the text -/
structure Txt (P : Program) (K : PySem.W.Frag) (mg : Str → Option Value) (cl : String → Addr) (base : Heap) : Prop where
  sys : base.get? sysModules ≠ none
  none_range : mg "range" = none
  none_len : mg "len" = none
  none_int : mg "int" = none
  none_abs : mg "abs" = none
  fun__law_pile : FunAt K mg "_law_pile" st__law_pile ["_law_script", "_law_k"]
  none_list : mg "list" = none
  fun__law_mixed : FunAt K mg "_law_mixed" st__law_mixed ["_law_cell", "_law_k"]
  fun__law_take : FunAt K mg "_law_take" st__law_take ["_law_pile_here", "_law_many"]
  fun__law_drawn_word : FunAt K mg "_law_drawn_word" st__law_drawn_word ["_law_pile_here"]
  fun__law_drawn_value : FunAt K mg "_law_drawn_value" st__law_drawn_value ["_law_pile_here"]
  fun__law_any_statement : FunAt K mg "_law_any_statement" st__law_any_statement ["_law_pile_here"]
  fun__law_odd : FunAt K mg "_law_odd" st__law_odd ["_law_pile_here"]
  m_NoName : mg "NoName" = some (.ref (cl "NoName"))
  isi_NoneType_NoName : PySem.W.kitOne K (.type "NoneType") (.ref (cl "NoName")) = some false
  isi_bool_NoName : PySem.W.kitOne K (.type "bool") (.ref (cl "NoName")) = some false
  isi_int_NoName : PySem.W.kitOne K (.type "int") (.ref (cl "NoName")) = some false
  isi_str_NoName : PySem.W.kitOne K (.type "str") (.ref (cl "NoName")) = some false
  isi_tuple_NoName : PySem.W.kitOne K (.type "tuple") (.ref (cl "NoName")) = some false
  isi_list_NoName : PySem.W.kitOne K (.type "list") (.ref (cl "NoName")) = some false
  isi_dict_NoName : PySem.W.kitOne K (.type "dict") (.ref (cl "NoName")) = some false
  m_NoOperator : mg "NoOperator" = some (.ref (cl "NoOperator"))
  isi_NoneType_NoOperator : PySem.W.kitOne K (.type "NoneType") (.ref (cl "NoOperator")) = some false
  isi_bool_NoOperator : PySem.W.kitOne K (.type "bool") (.ref (cl "NoOperator")) = some false
  isi_int_NoOperator : PySem.W.kitOne K (.type "int") (.ref (cl "NoOperator")) = some false
  isi_str_NoOperator : PySem.W.kitOne K (.type "str") (.ref (cl "NoOperator")) = some false
  isi_tuple_NoOperator : PySem.W.kitOne K (.type "tuple") (.ref (cl "NoOperator")) = some false
  isi_list_NoOperator : PySem.W.kitOne K (.type "list") (.ref (cl "NoOperator")) = some false
  isi_dict_NoOperator : PySem.W.kitOne K (.type "dict") (.ref (cl "NoOperator")) = some false
  m_NoValue : mg "NoValue" = some (.ref (cl "NoValue"))
  isi_NoneType_NoValue : PySem.W.kitOne K (.type "NoneType") (.ref (cl "NoValue")) = some false
  isi_bool_NoValue : PySem.W.kitOne K (.type "bool") (.ref (cl "NoValue")) = some false
  isi_int_NoValue : PySem.W.kitOne K (.type "int") (.ref (cl "NoValue")) = some false
  isi_str_NoValue : PySem.W.kitOne K (.type "str") (.ref (cl "NoValue")) = some false
  isi_tuple_NoValue : PySem.W.kitOne K (.type "tuple") (.ref (cl "NoValue")) = some false
  isi_list_NoValue : PySem.W.kitOne K (.type "list") (.ref (cl "NoValue")) = some false
  isi_dict_NoValue : PySem.W.kitOne K (.type "dict") (.ref (cl "NoValue")) = some false
  xis_NoName : XisK K (cl "NoName")
  xfc_NoName : XfC K (cl "NoName")
  isi_NoName_NoName : PySem.W.kitOne K (.ref (cl "NoName")) (.ref (cl "NoName")) = some true
  isi_NoName_NoOperator : PySem.W.kitOne K (.ref (cl "NoName")) (.ref (cl "NoOperator")) = some false
  isi_NoName_NoValue : PySem.W.kitOne K (.ref (cl "NoName")) (.ref (cl "NoValue")) = some false
  xis_NoValue : XisK K (cl "NoValue")
  xfc_NoValue : XfC K (cl "NoValue")
  isi_NoValue_NoName : PySem.W.kitOne K (.ref (cl "NoValue")) (.ref (cl "NoName")) = some false
  isi_NoValue_NoOperator : PySem.W.kitOne K (.ref (cl "NoValue")) (.ref (cl "NoOperator")) = some false
  isi_NoValue_NoValue : PySem.W.kitOne K (.ref (cl "NoValue")) (.ref (cl "NoValue")) = some true
  m_NoText : mg "NoText" = some (.ref (cl "NoText"))
  xis_NoText : XisK K (cl "NoText")
  xfc_NoText : XfC K (cl "NoText")
  isi_NoText_NoName : PySem.W.kitOne K (.ref (cl "NoText")) (.ref (cl "NoName")) = some false
  isi_NoText_NoOperator : PySem.W.kitOne K (.ref (cl "NoText")) (.ref (cl "NoOperator")) = some false
  isi_NoText_NoValue : PySem.W.kitOne K (.ref (cl "NoText")) (.ref (cl "NoValue")) = some false
  xis_NoOperator : XisK K (cl "NoOperator")
  xfc_NoOperator : XfC K (cl "NoOperator")
  isi_NoOperator_NoName : PySem.W.kitOne K (.ref (cl "NoOperator")) (.ref (cl "NoName")) = some false
  isi_NoOperator_NoOperator : PySem.W.kitOne K (.ref (cl "NoOperator")) (.ref (cl "NoOperator")) = some true
  isi_NoOperator_NoValue : PySem.W.kitOne K (.ref (cl "NoOperator")) (.ref (cl "NoValue")) = some false
  m_Statement : mg "Statement" = some (.ref (cl "Statement"))
  isi_NoneType_Statement : PySem.W.kitOne K (.type "NoneType") (.ref (cl "Statement")) = some false
  isi_bool_Statement : PySem.W.kitOne K (.type "bool") (.ref (cl "Statement")) = some false
  isi_int_Statement : PySem.W.kitOne K (.type "int") (.ref (cl "Statement")) = some false
  isi_str_Statement : PySem.W.kitOne K (.type "str") (.ref (cl "Statement")) = some false
  isi_tuple_Statement : PySem.W.kitOne K (.type "tuple") (.ref (cl "Statement")) = some false
  isi_list_Statement : PySem.W.kitOne K (.type "list") (.ref (cl "Statement")) = some false
  isi_dict_Statement : PySem.W.kitOne K (.type "dict") (.ref (cl "Statement")) = some false
  m_Set : mg "Set" = some (.ref (cl "Set"))
  cls_Set : Cls K (cl "Set")
  ins_Set : InsK K (cl "Set")
  isi_Set_bool : PySem.W.kitOne K (.ref (cl "Set")) (.type "bool") = some false
  isi_Set_dict : PySem.W.kitOne K (.ref (cl "Set")) (.type "dict") = some false
  isi_Set_int : PySem.W.kitOne K (.ref (cl "Set")) (.type "int") = some false
  isi_Set_list : PySem.W.kitOne K (.ref (cl "Set")) (.type "list") = some false
  isi_Set_str : PySem.W.kitOne K (.ref (cl "Set")) (.type "str") = some false
  isi_Set_Statement : PySem.W.kitOne K (.ref (cl "Set")) (.ref (cl "Statement")) = some true
  m_Copy : mg "Copy" = some (.ref (cl "Copy"))
  cls_Copy : Cls K (cl "Copy")
  ins_Copy : InsK K (cl "Copy")
  isi_Copy_bool : PySem.W.kitOne K (.ref (cl "Copy")) (.type "bool") = some false
  isi_Copy_dict : PySem.W.kitOne K (.ref (cl "Copy")) (.type "dict") = some false
  isi_Copy_int : PySem.W.kitOne K (.ref (cl "Copy")) (.type "int") = some false
  isi_Copy_list : PySem.W.kitOne K (.ref (cl "Copy")) (.type "list") = some false
  isi_Copy_str : PySem.W.kitOne K (.ref (cl "Copy")) (.type "str") = some false
  isi_Copy_Statement : PySem.W.kitOne K (.ref (cl "Copy")) (.ref (cl "Statement")) = some true
  m_Read : mg "Read" = some (.ref (cl "Read"))
  cls_Read : Cls K (cl "Read")
  ins_Read : InsK K (cl "Read")
  isi_Read_bool : PySem.W.kitOne K (.ref (cl "Read")) (.type "bool") = some false
  isi_Read_dict : PySem.W.kitOne K (.ref (cl "Read")) (.type "dict") = some false
  isi_Read_int : PySem.W.kitOne K (.ref (cl "Read")) (.type "int") = some false
  isi_Read_list : PySem.W.kitOne K (.ref (cl "Read")) (.type "list") = some false
  isi_Read_str : PySem.W.kitOne K (.ref (cl "Read")) (.type "str") = some false
  isi_Read_Statement : PySem.W.kitOne K (.ref (cl "Read")) (.ref (cl "Statement")) = some true
  m_Write : mg "Write" = some (.ref (cl "Write"))
  cls_Write : Cls K (cl "Write")
  ins_Write : InsK K (cl "Write")
  isi_Write_bool : PySem.W.kitOne K (.ref (cl "Write")) (.type "bool") = some false
  isi_Write_dict : PySem.W.kitOne K (.ref (cl "Write")) (.type "dict") = some false
  isi_Write_int : PySem.W.kitOne K (.ref (cl "Write")) (.type "int") = some false
  isi_Write_list : PySem.W.kitOne K (.ref (cl "Write")) (.type "list") = some false
  isi_Write_str : PySem.W.kitOne K (.ref (cl "Write")) (.type "str") = some false
  isi_Write_Statement : PySem.W.kitOne K (.ref (cl "Write")) (.ref (cl "Statement")) = some true
  none_isinstance : mg "isinstance" = none
  none_str : mg "str" = none
  fun__law_is_name : FunAt K mg "_law_is_name" st__law_is_name ["_law_thing"]
  none_bool : mg "bool" = none
  fun__law_whole : FunAt K mg "_law_whole" st__law_whole ["_law_thing"]
  fun__law_is_value : FunAt K mg "_law_is_value" st__law_is_value ["_law_thing"]
  fun__law_due : FunAt K mg "_law_due" st__law_due ["_law_things"]
  val_MOST_LETTERS : ∃ u, mg "MOST_LETTERS" = some u ∧ ∃ v, RelV v u ∧ ∀ ρ H, VR (⟨K, cl⟩ : G) ρ H (.int 8) v
  none_all : mg "all" = none
  val_LETTERS : ∃ u, mg "LETTERS" = some u ∧ ∃ v, RelV v u ∧ ∀ ρ H, VR (⟨K, cl⟩ : G) ρ H (.str [97, 98, 99, 100, 101, 102, 103, 104, 105, 106, 107, 108, 109, 110, 111, 112, 113, 114, 115, 116, 117, 118, 119, 120, 121, 122]) v
  fun_is_name : FunAt K mg "is_name" st_is_name ["thing"]
  m_PlaceError : mg "PlaceError" = some (.ref (cl "PlaceError"))
  none_super : mg "super" = none
  exc_NoName : ∃ fi, XcK K (cl "NoName") fi ∧ ExcAt P K mg (cl "NoName") "NoName.__init__" st_NoName___init__ fi
  xno_NoName_value : PySem.W.findIn K (.ref (cl "NoName")) "value" = some none
  fun_must_be_name : FunAt K mg "must_be_name" st_must_be_name ["thing"]
  noa_Set_target : NoAttr K (cl "Set") "target"
  noa_Copy_target : NoAttr K (cl "Copy") "target"
  noa_Read_target : NoAttr K (cl "Read") "target"
  fun_is_integer : FunAt K mg "is_integer" st_is_integer ["thing"]
  val_MOST_VALUE : ∃ u, mg "MOST_VALUE" = some u ∧ ∃ v, RelV v u ∧ ∀ ρ H, VR (⟨K, cl⟩ : G) ρ H (.int 999999) v
  fun_is_value : FunAt K mg "is_value" st_is_value ["thing"]
  exc_NoValue : ∃ fi, XcK K (cl "NoValue") fi ∧ ExcAt P K mg (cl "NoValue") "NoValue.__init__" st_NoValue___init__ fi
  xno_NoValue_value : PySem.W.findIn K (.ref (cl "NoValue")) "value" = some none
  fun_must_be_value : FunAt K mg "must_be_value" st_must_be_value ["thing"]
  con_Set_OPERATORS : ∃ v u, Con K (cl "Set") "OPERATORS" v u ∧ ∀ ρ H, VR (⟨K, cl⟩ : G) ρ H (.tup [.str [97, 100, 100], .str [115, 117, 98], .str [109, 117, 108]]) v
  con_Copy_OPERATORS : ∃ v u, Con K (cl "Copy") "OPERATORS" v u ∧ ∀ ρ H, VR (⟨K, cl⟩ : G) ρ H (.tup [.str [97, 100, 100], .str [115, 117, 98], .str [109, 117, 108]]) v
  con_Read_OPERATORS : ∃ v u, Con K (cl "Read") "OPERATORS" v u ∧ ∀ ρ H, VR (⟨K, cl⟩ : G) ρ H (.tup [.str [97, 100, 100], .str [115, 117, 98], .str [109, 117, 108]]) v
  con_Write_OPERATORS : ∃ v u, Con K (cl "Write") "OPERATORS" v u ∧ ∀ ρ H, VR (⟨K, cl⟩ : G) ρ H (.tup [.str [97, 100, 100], .str [115, 117, 98], .str [109, 117, 108]]) v
  exc_NoOperator : ∃ fi, XcK K (cl "NoOperator") fi ∧ ExcAt P K mg (cl "NoOperator") "NoOperator.__init__" st_NoOperator___init__ fi
  xno_NoOperator_value : PySem.W.findIn K (.ref (cl "NoOperator")) "value" = some none
  noa_Set_left : NoAttr K (cl "Set") "left"
  noa_Set_op : NoAttr K (cl "Set") "op"
  noa_Set_right : NoAttr K (cl "Set") "right"
  ztop : (P.main.scope.names.lookup ("super" : Str)).isSome = false
  mk_Set : ∃ fi f2, Mk K (cl "Set") fi ∧ SupAt P K mg (cl "Set") "Set.__init__" st_Set___init__ ["self", "target", "left", "op", "right"] fi f2 ∧ FunIn K "__init__" "Assign.__init__" st_Assign___init__ ["self", "target"] f2
  noa_Copy_value : NoAttr K (cl "Copy") "value"
  mk_Copy : ∃ fi f2, Mk K (cl "Copy") fi ∧ SupAt P K mg (cl "Copy") "Copy.__init__" st_Copy___init__ ["self", "target", "value"] fi f2 ∧ FunIn K "__init__" "Assign.__init__" st_Assign___init__ ["self", "target"] f2
  mk_Read : ∃ fi, Mk K (cl "Read") fi ∧ FunIn K "__init__" "Assign.__init__" st_Assign___init__ ["self", "target"] fi
  noa_Write_value : NoAttr K (cl "Write") "value"
  mk_Write : ∃ fi, Mk K (cl "Write") fi ∧ FunIn K "__init__" "Write.__init__" st_Write___init__ ["self", "value"] fi
  fun__law_made : FunAt K mg "_law_made" st__law_made ["_law_statement"]
  exm_NoName_PlaceError : PySem.W.exmOne K (.ref (cl "NoName")) (.ref (cl "PlaceError")) = some true
  exm_NoValue_PlaceError : PySem.W.exmOne K (.ref (cl "NoValue")) (.ref (cl "PlaceError")) = some true
  exm_NoText_PlaceError : PySem.W.exmOne K (.ref (cl "NoText")) (.ref (cl "PlaceError")) = some true
  exm_NoOperator_PlaceError : PySem.W.exmOne K (.ref (cl "NoOperator")) (.ref (cl "PlaceError")) = some true
  xno_NoText_value : PySem.W.findIn K (.ref (cl "NoText")) "value" = some none
  prop_Set_words : ∃ p ga, PropOf K (cl "Set") "words" p ga ∧ FunIn K "words" "Set.words" st_Set_words ["self"] ga
  prop_Copy_words : ∃ p ga, PropOf K (cl "Copy") "words" p ga ∧ FunIn K "words" "Copy.words" st_Copy_words ["self"] ga
  prop_Read_words : ∃ p ga, PropOf K (cl "Read") "words" p ga ∧ FunIn K "words" "Read.words" st_Read_words ["self"] ga
  prop_Write_words : ∃ p ga, PropOf K (cl "Write") "words" p ga ∧ FunIn K "words" "Write.words" st_Write_words ["self"] ga
  con_Set_WORD : ∃ v u, Con K (cl "Set") "WORD" v u ∧ ∀ ρ H, VR (⟨K, cl⟩ : G) ρ H (.str [115, 101, 116]) v
  con_Copy_WORD : ∃ v u, Con K (cl "Copy") "WORD" v u ∧ ∀ ρ H, VR (⟨K, cl⟩ : G) ρ H (.str [99, 111, 112, 121]) v
  con_Read_WORD : ∃ v u, Con K (cl "Read") "WORD" v u ∧ ∀ ρ H, VR (⟨K, cl⟩ : G) ρ H (.str [114, 101, 97, 100]) v
  con_Write_WORD : ∃ v u, Con K (cl "Write") "WORD" v u ∧ ∀ ρ H, VR (⟨K, cl⟩ : G) ρ H (.str [119, 114, 105, 116, 101]) v
  prop_Set_text : ∃ p ga, PropOf K (cl "Set") "text" p ga ∧ FunIn K "text" "Statement.text" st_Statement_text ["self"] ga
  prop_Copy_text : ∃ p ga, PropOf K (cl "Copy") "text" p ga ∧ FunIn K "text" "Statement.text" st_Statement_text ["self"] ga
  prop_Read_text : ∃ p ga, PropOf K (cl "Read") "text" p ga ∧ FunIn K "text" "Statement.text" st_Statement_text ["self"] ga
  prop_Write_text : ∃ p ga, PropOf K (cl "Write") "text" p ga ∧ FunIn K "text" "Statement.text" st_Statement_text ["self"] ga
  fun__law_told : FunAt K mg "_law_told" st__law_told ["_law_things"]
  none_tuple : mg "tuple" = none
  none_repr : mg "repr" = none
  fun__law_alike : FunAt K mg "_law_alike" st__law_alike ["_law_one", "_law_other"]
  none_dict : mg "dict" = none
  fun__law_held : FunAt K mg "_law_held" st__law_held ["_law_told_here", "_law_due_here"]
  fun__law_great_refused : FunAt K mg "_law_great_refused" st__law_great_refused []
  fun_law : FunAt K mg "law" st_law ["_law_script"]
/-! ### the walk -/
section
variable {P : Program} {w : World} {K : PySem.W.Frag} {mg : Str → Option Value} {base : Heap} {cl : String → Addr}
theorem se_globx {g : G} {X : Cx} {wx : WX} {x : Str} {w : W} {pos : Pos} (hg : Gl X x) (h : ∃ u, X.mg x = some u ∧ ∃ v, RelV v u ∧ ∀ ρ H, VR g ρ H w v) (hd : (x == ("__debug__" : Str)) = false := by decide) : SE g X wx (.Name x pos) (eC w) := by
  obtain ⟨u, hm, hv⟩ := h
  exact se_glob hg hm hv hd
theorem sc__law_pile : FnScope ["_law_script", "_law_k", "_law_cell", "_law_digits"] ["_law_script", "_law_k"] (defScope st__law_pile) := ⟨rfl, rfl, rfl, by decide +kernel, rfl, by decide +kernel, by decide +kernel⟩
theorem ok__law_pile (T : Txt P K mg cl base) : Def P w K mg base (⟨K, cl⟩ : G) "_law_pile" 1 ["_law_script", "_law_k"] d__law_pile :=
  def_of (k := 0) T.fun__law_pile sc__law_pile fun f cdv A outer s H E hr tk hp =>
  ss_cons (ss_set (i := 2) sc__law_pile.nd rfl (loc_of rfl) (se_int)) (
  ss_cons (ss_if (st_cmp f_lt (se_var (i := 1) rfl (vis_of rfl)) (se_blt (f_len rfl) rfl T.none_len (by first | rfl | decide +kernel) (sa_cons (se_var (i := 0) rfl (vis_of rfl)) (sa_nil)))) (ss_one (ss_set (i := 2) sc__law_pile.nd rfl (loc_of rfl) (se_ix rfl (se_var (i := 0) rfl (vis_of rfl)) (se_var (i := 1) rfl (vis_of rfl))))) (ss_nil)) (
  ss_cons (ss_set (i := 3) sc__law_pile.nd rfl (loc_of rfl) (se_ixL rfl (sl_disp (sa_cons (se_int) (sa_cons (se_bin f_mod (se_typ (f_int) rfl T.none_int (by first | rfl | decide +kernel) (sa_cons (se_var (i := 2) rfl (vis_of rfl)) (sa_nil))) (se_bin f_mul (se_bin f_mul (se_bin f_pow (se_int) (se_int)) (se_bin f_pow (se_int) (se_int))) (se_bin f_pow (se_int) (se_int)))) (sa_nil)))) (se_typ (f_int) rfl T.none_int (by first | rfl | decide +kernel) (sa_cons (se_cmp f_ge (se_blt (f_abs) rfl T.none_abs (by first | rfl | decide +kernel) (sa_cons (se_var (i := 2) rfl (vis_of rfl)) (sa_nil))) (se_bin f_pow (se_int) (se_int))) (sa_nil))))) (
  ss_one (ss_ret (se_new (sl_disp (sa_cons (se_var (i := 3) rfl (vis_of rfl)) (sa_cons (se_bin f_mod (se_typ (f_int) rfl T.none_int (by first | rfl | decide +kernel) (sa_cons (se_var (i := 2) rfl (vis_of rfl)) (sa_nil))) (se_int)) (sa_cons (se_bin f_mul (se_int) (se_var (i := 1) rfl (vis_of rfl))) (sa_cons (se_cmp f_lt (se_var (i := 1) rfl (vis_of rfl)) (se_int)) (sa_nil)))))))))))
theorem sc__law_mixed : FnScope ["_law_cell", "_law_k", "_law_figure"] ["_law_cell", "_law_k"] (defScope st__law_mixed) := ⟨rfl, rfl, rfl, by decide +kernel, rfl, by decide +kernel, by decide +kernel⟩
theorem ok__law_mixed (T : Txt P K mg cl base) : Def P w K mg base (⟨K, cl⟩ : G) "_law_mixed" 1 ["_law_cell", "_law_k"] d__law_mixed :=
  def_of (k := 0) T.fun__law_mixed sc__law_mixed fun f cdv A outer s H E hr tk hp =>
  ss_cons (ss_set (i := 2) sc__law_mixed.nd rfl (loc_of rfl) (se_bin f_mod (se_typ (f_int) rfl T.none_int (by first | rfl | decide +kernel) (sa_cons (se_bin (f_add rfl) (se_bin (f_add rfl) (se_bin f_mul (se_bin f_mod (se_typ (f_int) rfl T.none_int (by first | rfl | decide +kernel) (sa_cons (se_var (i := 0) rfl (vis_of rfl)) (sa_nil))) (se_int)) (se_int)) (se_bin f_mul (se_var (i := 1) rfl (vis_of rfl)) (se_int))) (se_int)) (sa_nil))) (se_int))) (
  ss_cons (ss_set (i := 2) sc__law_mixed.nd rfl (loc_of rfl) (se_bin f_mod (se_typ (f_int) rfl T.none_int (by first | rfl | decide +kernel) (sa_cons (se_bin f_mul (se_var (i := 2) rfl (vis_of rfl)) (se_var (i := 2) rfl (vis_of rfl))) (sa_nil))) (se_int))) (
  ss_one (ss_ret (se_bin f_div (se_bin f_mod (se_typ (f_int) rfl T.none_int (by first | rfl | decide +kernel) (sa_cons (se_bin f_mul (se_var (i := 2) rfl (vis_of rfl)) (se_var (i := 2) rfl (vis_of rfl))) (sa_nil))) (se_int)) (se_int)))))
theorem sc__law_take : FnScope ["_law_pile_here", "_law_many", "_law_digit"] ["_law_pile_here", "_law_many"] (defScope st__law_take) := ⟨rfl, rfl, rfl, by decide +kernel, rfl, by decide +kernel, by decide +kernel⟩
theorem ok__law_take (T : Txt P K mg cl base) : Def P w K mg base (⟨K, cl⟩ : G) "_law_take" 2 ["_law_pile_here", "_law_many"] d__law_take :=
  def_of (k := 1) T.fun__law_take sc__law_take fun f cdv A outer s H E hr tk hp =>
  ss_cons (ss_if (st_inL rfl (se_ix rfl (se_var (i := 0) rfl (vis_of rfl)) (se_int)) (sl_disp (sa_cons (se_int) (sa_cons (se_un f_neg (se_int)) (sa_nil))))) (ss_cons (ss_put (se_var (i := 0) rfl (vis_of rfl)) (se_int) (se_bin (f_add rfl) (se_ix rfl (se_var (i := 0) rfl (vis_of rfl)) (se_int)) (se_int))) (
  ss_one (ss_ret (se_bin f_mod (se_typ (f_int) rfl T.none_int (by first | rfl | decide +kernel) (sa_cons (se_call tk (ok__law_mixed T) arity_defn (hr.mono (by decide)) rfl (sa_cons (se_ix rfl (se_var (i := 0) rfl (vis_of rfl)) (se_int)) (sa_cons (se_ix rfl (se_var (i := 0) rfl (vis_of rfl)) (se_int)) (sa_nil)))) (sa_nil))) (se_var (i := 1) rfl (vis_of rfl)))))) (ss_nil)) (
  ss_cons (ss_set (i := 2) sc__law_take.nd rfl (loc_of rfl) (se_bin f_mod (se_typ (f_int) rfl T.none_int (by first | rfl | decide +kernel) (sa_cons (se_ix rfl (se_var (i := 0) rfl (vis_of rfl)) (se_int)) (sa_nil))) (se_var (i := 1) rfl (vis_of rfl)))) (
  ss_cons (ss_put (se_var (i := 0) rfl (vis_of rfl)) (se_int) (se_bin f_div (se_ix rfl (se_var (i := 0) rfl (vis_of rfl)) (se_int)) (se_var (i := 1) rfl (vis_of rfl)))) (
  ss_one (ss_ret (se_var (i := 2) rfl (vis_of rfl))))))
theorem sc__law_drawn_word : FnScope ["_law_pile_here", "_law_menu"] ["_law_pile_here"] (defScope st__law_drawn_word) := ⟨rfl, rfl, rfl, by decide +kernel, rfl, by decide +kernel, by decide +kernel⟩
theorem ok__law_drawn_word (T : Txt P K mg cl base) : Def P w K mg base (⟨K, cl⟩ : G) "_law_drawn_word" 3 ["_law_pile_here"] d__law_drawn_word :=
  def_of (k := 2) T.fun__law_drawn_word sc__law_drawn_word fun f cdv A outer s H E hr tk hp =>
  ss_cons (ss_set (i := 1) sc__law_drawn_word.nd rfl (loc_of rfl) (se_new (sl_disp (sa_cons (se_str (l := [97]) (by decide +kernel)) (sa_cons (se_str (l := [98]) (by decide +kernel)) (sa_cons (se_str (l := [120]) (by decide +kernel)) (sa_cons (se_str (l := [115, 101, 116]) (by decide +kernel)) (sa_cons (se_str (l := [97, 100, 100]) (by decide +kernel)) (sa_cons (se_str (l := [110, 111, 110, 101]) (by decide +kernel)) (sa_cons (se_str (l := [99, 111, 112, 121]) (by decide +kernel)) (sa_cons (se_str (l := [105, 102]) (by decide +kernel)) (sa_cons (se_str (l := [106, 107, 113, 118, 119, 120, 121, 122]) (by decide +kernel)) (sa_cons (se_str (l := [114, 101, 97, 100]) (by decide +kernel)) (sa_cons (se_str (l := [104]) (by decide +kernel)) (sa_cons (se_str (l := [109, 117, 108]) (by decide +kernel)) (sa_nil)))))))))))))))) (
  ss_one (ss_ret (se_ix rfl (se_var (i := 1) rfl (vis_of rfl)) (se_call tk (ok__law_take T) arity_defn (hr.mono (by decide)) rfl (sa_cons (se_var (i := 0) rfl (vis_of rfl)) (sa_cons (se_int) (sa_nil)))))))
theorem sc__law_drawn_value : FnScope ["_law_pile_here", "_law_number"] ["_law_pile_here"] (defScope st__law_drawn_value) := ⟨rfl, rfl, rfl, by decide +kernel, rfl, by decide +kernel, by decide +kernel⟩
theorem ok__law_drawn_value (T : Txt P K mg cl base) : Def P w K mg base (⟨K, cl⟩ : G) "_law_drawn_value" 4 ["_law_pile_here"] d__law_drawn_value :=
  def_of (k := 3) T.fun__law_drawn_value sc__law_drawn_value fun f cdv A outer s H E hr tk hp =>
  ss_cons (ss_set (i := 1) sc__law_drawn_value.nd rfl (loc_of rfl) (se_ixL rfl (sl_disp (sa_cons (se_int) (sa_cons (se_int) (sa_cons (se_un f_neg (se_int)) (sa_cons (se_int) (sa_cons (se_int) (sa_cons (se_un f_neg (se_int)) (sa_cons (se_bin f_sub (se_call tk (ok__law_take T) arity_defn (hr.mono (by decide)) rfl (sa_cons (se_var (i := 0) rfl (vis_of rfl)) (sa_cons (se_int) (sa_nil)))) (se_int)) (sa_nil))))))))) (se_call tk (ok__law_take T) arity_defn (hr.mono (by decide)) rfl (sa_cons (se_var (i := 0) rfl (vis_of rfl)) (sa_cons (se_int) (sa_nil)))))) (
  ss_one (ss_ret (se_ixL rfl (sl_disp (sa_cons (se_call tk (ok__law_drawn_word T) arity_defn (hr.mono (by decide)) rfl (sa_cons (se_var (i := 0) rfl (vis_of rfl)) (sa_nil))) (sa_cons (se_var (i := 1) rfl (vis_of rfl)) (sa_nil)))) (se_call tk (ok__law_take T) arity_defn (hr.mono (by decide)) rfl (sa_cons (se_var (i := 0) rfl (vis_of rfl)) (sa_cons (se_int) (sa_nil)))))))
theorem sc__law_any_statement : FnScope ["_law_pile_here", "_law_kind", "_law_op"] ["_law_pile_here"] (defScope st__law_any_statement) := ⟨rfl, rfl, rfl, by decide +kernel, rfl, by decide +kernel, by decide +kernel⟩
theorem ok__law_any_statement (T : Txt P K mg cl base) : Def P w K mg base (⟨K, cl⟩ : G) "_law_any_statement" 5 ["_law_pile_here"] d__law_any_statement :=
  def_of (k := 4) T.fun__law_any_statement sc__law_any_statement fun f cdv A outer s H E hr tk hp =>
  ss_cons (ss_set (i := 1) sc__law_any_statement.nd rfl (loc_of rfl) (se_call tk (ok__law_take T) arity_defn (hr.mono (by decide)) rfl (sa_cons (se_var (i := 0) rfl (vis_of rfl)) (sa_cons (se_int) (sa_nil))))) (
  ss_cons (ss_if (st_cmp (f_eq0 rfl hr) (se_var (i := 1) rfl (vis_of rfl)) (se_int)) (ss_cons (ss_set (i := 2) sc__law_any_statement.nd rfl (loc_of rfl) (se_ixL rfl (sl_disp (sa_cons (se_str (l := [97, 100, 100]) (by decide +kernel)) (sa_cons (se_str (l := [115, 117, 98]) (by decide +kernel)) (sa_cons (se_str (l := [109, 117, 108]) (by decide +kernel)) (sa_nil))))) (se_call tk (ok__law_take T) arity_defn (hr.mono (by decide)) rfl (sa_cons (se_var (i := 0) rfl (vis_of rfl)) (sa_cons (se_int) (sa_nil)))))) (
  ss_one (ss_ret (se_tup (sa_cons (se_str (l := [115, 101, 116]) (by decide +kernel)) (sa_cons (se_call tk (ok__law_drawn_word T) arity_defn (hr.mono (by decide)) rfl (sa_cons (se_var (i := 0) rfl (vis_of rfl)) (sa_nil))) (sa_cons (se_call tk (ok__law_drawn_value T) arity_defn (hr.mono (by decide)) rfl (sa_cons (se_var (i := 0) rfl (vis_of rfl)) (sa_nil))) (sa_cons (se_var (i := 2) rfl (vis_of rfl)) (sa_cons (se_call tk (ok__law_drawn_value T) arity_defn (hr.mono (by decide)) rfl (sa_cons (se_var (i := 0) rfl (vis_of rfl)) (sa_nil))) (sa_nil)))))))))) (ss_nil)) (
  ss_cons (ss_if (st_cmp (f_eq0 rfl hr) (se_var (i := 1) rfl (vis_of rfl)) (se_int)) (ss_one (ss_ret (se_tup (sa_cons (se_str (l := [99, 111, 112, 121]) (by decide +kernel)) (sa_cons (se_call tk (ok__law_drawn_word T) arity_defn (hr.mono (by decide)) rfl (sa_cons (se_var (i := 0) rfl (vis_of rfl)) (sa_nil))) (sa_cons (se_call tk (ok__law_drawn_value T) arity_defn (hr.mono (by decide)) rfl (sa_cons (se_var (i := 0) rfl (vis_of rfl)) (sa_nil))) (sa_nil))))))) (ss_nil)) (
  ss_cons (ss_if (st_cmp (f_eq0 rfl hr) (se_var (i := 1) rfl (vis_of rfl)) (se_int)) (ss_one (ss_ret (se_tup (sa_cons (se_str (l := [114, 101, 97, 100]) (by decide +kernel)) (sa_cons (se_call tk (ok__law_drawn_word T) arity_defn (hr.mono (by decide)) rfl (sa_cons (se_var (i := 0) rfl (vis_of rfl)) (sa_nil))) (sa_nil)))))) (ss_nil)) (
  ss_one (ss_ret (se_tup (sa_cons (se_str (l := [119, 114, 105, 116, 101]) (by decide +kernel)) (sa_cons (se_call tk (ok__law_drawn_value T) arity_defn (hr.mono (by decide)) rfl (sa_cons (se_var (i := 0) rfl (vis_of rfl)) (sa_nil))) (sa_nil)))))))))
theorem sc__law_odd : FnScope ["_law_pile_here", "_law_some"] ["_law_pile_here"] (defScope st__law_odd) := ⟨rfl, rfl, rfl, by decide +kernel, rfl, by decide +kernel, by decide +kernel⟩
theorem ok__law_odd (T : Txt P K mg cl base) : Def P w K mg base (⟨K, cl⟩ : G) "_law_odd" 3 ["_law_pile_here"] d__law_odd :=
  def_of (k := 2) T.fun__law_odd sc__law_odd fun f cdv A outer s H E hr tk hp =>
  ss_cons (ss_set (i := 1) sc__law_odd.nd rfl (loc_of rfl) (se_new (sl_disp (sa_cons (se_non) (sa_cons (se_bl) (sa_cons (se_int) (sa_cons (se_str (l := [65]) (by decide +kernel)) (sa_cons (se_str (l := []) (by decide +kernel)) (sa_cons (se_tup (sa_nil)) (sa_cons (se_new (sl_disp (sa_nil))) (sa_cons (se_dict0) (sa_cons (se_str (l := [97, 49]) (by decide +kernel)) (sa_cons (se_str (l := [97, 98, 99, 100, 101, 102, 103, 104, 105]) (by decide +kernel)) (sa_cons (se_un f_neg (se_int)) (sa_cons (se_tup (sa_cons (se_str (l := [97]) (by decide +kernel)) (sa_nil))) (sa_cons (se_new (sl_disp (sa_cons (se_str (l := [97]) (by decide +kernel)) (sa_nil)))) (sa_cons (se_tup (sa_cons (se_int) (sa_cons (se_int) (sa_nil)))) (sa_cons (se_str (l := [97, 32, 98]) (by decide +kernel)) (sa_cons (se_str (l := [49]) (by decide +kernel)) (sa_nil)))))))))))))))))))) (
  ss_one (ss_ret (se_ix rfl (se_bin (f_add rfl) (se_var (i := 1) rfl (vis_of rfl)) (se_new (sl_disp (sa_cons (se_str (l := [32, 97]) (by decide +kernel)) (sa_cons (se_str (l := [97, 95]) (by decide +kernel)) (sa_cons (se_str (l := [97, 10]) (by decide +kernel)) (sa_cons (se_bl) (sa_cons (se_str (l := [97, 123]) (by decide +kernel)) (sa_cons (se_str (l := [96, 97]) (by decide +kernel)) (sa_cons (se_str (l := [97, 126]) (by decide +kernel)) (sa_nil))))))))))) (se_call tk (ok__law_take T) arity_defn (hr.mono (by decide)) rfl (sa_cons (se_var (i := 0) rfl (vis_of rfl)) (sa_cons (se_int) (sa_nil)))))))
theorem isiL_ok (T : Txt P K mg cl base) : ∀ p ∈ isiL, PySem.W.kitOne K (p.1.1.val (⟨K, cl⟩ : G)) (p.1.2.val (⟨K, cl⟩ : G)) = some p.2 := by
  unfold isiL
  simp only [List.forall_mem_cons]
  exact ⟨(T.isi_NoneType_NoName), (T.isi_bool_NoName), (T.isi_int_NoName), (T.isi_str_NoName), (T.isi_tuple_NoName), (T.isi_list_NoName), (T.isi_dict_NoName), (T.isi_NoneType_NoOperator), (T.isi_bool_NoOperator), (T.isi_int_NoOperator), (T.isi_str_NoOperator), (T.isi_tuple_NoOperator), (T.isi_list_NoOperator), (T.isi_dict_NoOperator), (T.isi_NoneType_NoValue), (T.isi_bool_NoValue), (T.isi_int_NoValue), (T.isi_str_NoValue), (T.isi_tuple_NoValue), (T.isi_list_NoValue), (T.isi_dict_NoValue), (T.isi_NoName_NoName), (T.isi_NoName_NoOperator), (T.isi_NoName_NoValue), (T.isi_NoValue_NoName), (T.isi_NoValue_NoOperator), (T.isi_NoValue_NoValue), (T.isi_NoText_NoName), (T.isi_NoText_NoOperator), (T.isi_NoText_NoValue), (T.isi_NoOperator_NoName), (T.isi_NoOperator_NoOperator), (T.isi_NoOperator_NoValue), (L2.kit_ty (by decide +kernel)), (L2.kit_ty (by decide +kernel)), (L2.kit_ty (by decide +kernel)), (L2.kit_ty (by decide +kernel)), (L2.kit_ty (by decide +kernel)), (T.isi_NoneType_Statement), (L2.kit_ty (by decide +kernel)), (L2.kit_ty (by decide +kernel)), (L2.kit_ty (by decide +kernel)), (L2.kit_ty (by decide +kernel)), (L2.kit_ty (by decide +kernel)), (T.isi_bool_Statement), (L2.kit_ty (by decide +kernel)), (L2.kit_ty (by decide +kernel)), (L2.kit_ty (by decide +kernel)), (L2.kit_ty (by decide +kernel)), (L2.kit_ty (by decide +kernel)), (T.isi_int_Statement), (L2.kit_ty (by decide +kernel)), (L2.kit_ty (by decide +kernel)), (L2.kit_ty (by decide +kernel)), (L2.kit_ty (by decide +kernel)), (L2.kit_ty (by decide +kernel)), (T.isi_str_Statement), (L2.kit_ty (by decide +kernel)), (L2.kit_ty (by decide +kernel)), (L2.kit_ty (by decide +kernel)), (L2.kit_ty (by decide +kernel)), (L2.kit_ty (by decide +kernel)), (T.isi_tuple_Statement), (L2.kit_ty (by decide +kernel)), (L2.kit_ty (by decide +kernel)), (L2.kit_ty (by decide +kernel)), (L2.kit_ty (by decide +kernel)), (L2.kit_ty (by decide +kernel)), (T.isi_list_Statement), (L2.kit_ty (by decide +kernel)), (L2.kit_ty (by decide +kernel)), (L2.kit_ty (by decide +kernel)), (L2.kit_ty (by decide +kernel)), (L2.kit_ty (by decide +kernel)), (T.isi_dict_Statement), (T.isi_Set_bool), (T.isi_Set_dict), (T.isi_Set_int), (T.isi_Set_list), (T.isi_Set_str), (T.isi_Set_Statement), (T.isi_Copy_bool), (T.isi_Copy_dict), (T.isi_Copy_int), (T.isi_Copy_list), (T.isi_Copy_str), (T.isi_Copy_Statement), (T.isi_Read_bool), (T.isi_Read_dict), (T.isi_Read_int), (T.isi_Read_list), (T.isi_Read_str), (T.isi_Read_Statement), (T.isi_Write_bool), (T.isi_Write_dict), (T.isi_Write_int), (T.isi_Write_list), (T.isi_Write_str), (T.isi_Write_Statement), by simp⟩
theorem lookup_mem {α β : Type} [BEq α] [LawfulBEq α] {l : List (α × β)} {a : α} {b : β} (h : l.lookup a = some b) : (a, b) ∈ l := by
  induction l with
  | nil => cases h
  | cons p l ih =>
    obtain ⟨x, y⟩ := p
    by_cases e : a = x
    · subst e; simp at h; subst h; exact List.mem_cons_self
    · have e2 : (a == x) = false := beq_eq_false_iff_ne.mpr e
      simp only [List.lookup_cons, e2] at h
      exact List.mem_cons_of_mem _ (ih h)
theorem isi_ok (T : Txt P K mg cl base) : IsiK K (⟨K, cl⟩ : G) isiT := by
  refine ⟨fun c d b h => ?_, fun c d b h => ?_, fun t d b h => isiL_ok T ((t, d), b) (lookup_mem h)⟩
  · have h2 : ∀ p ∈ isiL, p.1.1 = .own c → c = "Set" ∨ c = "Copy" ∨ c = "Read" ∨ c = "Write" := by
      unfold isiL
      simp only [List.forall_mem_cons]
      simp
      repeat' apply And.intro
      all_goals (intro e; subst e; simp)
    have h3 := h2 _ (lookup_mem h) rfl
    rcases h3 with rfl | rfl | rfl | rfl
    · exact T.ins_Set
    · exact T.ins_Copy
    · exact T.ins_Read
    · exact T.ins_Write
  · have h2 : ∀ p ∈ isiL, p.1.1 = .xc c → c = "NoName" ∨ c = "NoValue" ∨ c = "NoText" ∨ c = "NoOperator" := by
      unfold isiL
      simp only [List.forall_mem_cons]
      simp
      repeat' apply And.intro
      all_goals (intro e; subst e; simp)
    have h3 := h2 _ (lookup_mem h) rfl
    rcases h3 with rfl | rfl | rfl | rfl
    · exact T.xis_NoName
    · exact T.xis_NoValue
    · exact T.xis_NoText
    · exact T.xis_NoOperator
theorem sc__law_is_name : FnScope ["_law_thing", "_law_sign"] ["_law_thing"] (defScope st__law_is_name) := ⟨rfl, rfl, rfl, by decide +kernel, rfl, by decide +kernel, by decide +kernel⟩
theorem ok__law_is_name (T : Txt P K mg cl base) : Def P w K mg base (⟨K, cl⟩ : G) "_law_is_name" 1 ["_law_thing"] d__law_is_name :=
  def_of (k := 0) T.fun__law_is_name sc__law_is_name fun f cdv A outer s H E hr tk hp =>
  ss_cons (ss_if (st_or (st_not (st_val (se_blt (f_isi rfl (isi_ok T)) rfl T.none_isinstance (by first | rfl | decide +kernel) (sa_cons (se_var (i := 0) rfl (vis_of rfl)) (sa_cons (se_bltn rfl T.none_str (by first | rfl | decide +kernel)) (sa_nil)))))) (st_or1 (st_not (st_chain f_lt f_lt (se_int) (se_blt (f_len rfl) rfl T.none_len (by first | rfl | decide +kernel) (sa_cons (se_var (i := 0) rfl (vis_of rfl)) (sa_nil))) (se_int))))) (ss_one (ss_ret (se_bl))) (ss_nil)) (
  ss_one (ss_ret (se_cmp (f_eq0 rfl hr) (se_new (sl_comp (own := [("_law_sign", 1)]) (h := gSet 1) (t := tVal (eBin wNotIn (eVar 1) (eC (.str [97, 98, 99, 100, 101, 102, 103, 104, 105, 106, 107, 108, 109, 110, 111, 112, 113, 114, 115, 116, 117, 118, 119, 120, 121, 122])))) (fe := eVar 1) rfl sc__law_is_name.nd (si_val rfl (se_var (i := 0) rfl (vis_of rfl))) (blkOk_by rfl) (fun _ _ _ _ _ => sg_name (i := 1) sc__law_is_name.nd rfl (loc_of rfl)) (fun _ _ _ _ _ => sts_one (st_cmp (f_notIn rfl) (se_var (i := 1) rfl (vis_of rfl)) (se_str (l := [97, 98, 99, 100, 101, 102, 103, 104, 105, 106, 107, 108, 109, 110, 111, 112, 113, 114, 115, 116, 117, 118, 119, 120, 121, 122]) (by decide +kernel)))) (fun _ _ _ _ _ => se_var (i := 1) rfl (vis_of rfl)))) (se_new (sl_disp (sa_nil))))))
theorem sc__law_whole : FnScope ["_law_thing"] ["_law_thing"] (defScope st__law_whole) := ⟨rfl, rfl, rfl, by decide +kernel, rfl, by decide +kernel, by decide +kernel⟩
theorem ok__law_whole (T : Txt P K mg cl base) : Def P w K mg base (⟨K, cl⟩ : G) "_law_whole" 1 ["_law_thing"] d__law_whole :=
  def_of (k := 0) T.fun__law_whole sc__law_whole fun f cdv A outer s H E hr tk hp =>
  ss_one (ss_ret (se_and (se_blt (f_isi rfl (isi_ok T)) rfl T.none_isinstance (by first | rfl | decide +kernel) (sa_cons (se_var (i := 0) rfl (vis_of rfl)) (sa_cons (se_bltn rfl T.none_int (by first | rfl | decide +kernel)) (sa_nil)))) (se_one (se_not (se_blt (f_isi rfl (isi_ok T)) rfl T.none_isinstance (by first | rfl | decide +kernel) (sa_cons (se_var (i := 0) rfl (vis_of rfl)) (sa_cons (se_bltn rfl T.none_bool (by first | rfl | decide +kernel)) (sa_nil))))))))
theorem sc__law_is_value : FnScope ["_law_thing"] ["_law_thing"] (defScope st__law_is_value) := ⟨rfl, rfl, rfl, by decide +kernel, rfl, by decide +kernel, by decide +kernel⟩
theorem ok__law_is_value (T : Txt P K mg cl base) : Def P w K mg base (⟨K, cl⟩ : G) "_law_is_value" 2 ["_law_thing"] d__law_is_value :=
  def_of (k := 1) T.fun__law_is_value sc__law_is_value fun f cdv A outer s H E hr tk hp =>
  ss_cons (ss_if (st_val (se_call tk (ok__law_whole T) arity_defn (hr.mono (by decide)) rfl (sa_cons (se_var (i := 0) rfl (vis_of rfl)) (sa_nil)))) (ss_one (ss_ret (se_cmp f_lt (se_blt (f_abs) rfl T.none_abs (by first | rfl | decide +kernel) (sa_cons (se_var (i := 0) rfl (vis_of rfl)) (sa_nil))) (se_int)))) (ss_nil)) (
  ss_one (ss_ret (se_call tk (ok__law_is_name T) arity_defn (hr.mono (by decide)) rfl (sa_cons (se_var (i := 0) rfl (vis_of rfl)) (sa_nil)))))
theorem sc__law_due : FnScope ["_law_things", "_law_word", "_law_thing"] ["_law_things"] (defScope st__law_due) := ⟨rfl, rfl, rfl, by decide +kernel, rfl, by decide +kernel, by decide +kernel⟩
theorem ok__law_due (T : Txt P K mg cl base) : Def P w K mg base (⟨K, cl⟩ : G) "_law_due" 3 ["_law_things"] d__law_due :=
  def_of (k := 2) T.fun__law_due sc__law_due fun f cdv A outer s H E hr tk hp =>
  ss_cons (ss_set (i := 1) sc__law_due.nd rfl (loc_of rfl) (se_ix rfl (se_var (i := 0) rfl (vis_of rfl)) (se_int))) (
  ss_cons (ss_if (st_and (st_cmp (f_ne0 rfl hr) (se_var (i := 1) rfl (vis_of rfl)) (se_str (l := [119, 114, 105, 116, 101]) (by decide +kernel))) (st_and1 (st_not (st_val (se_call tk (ok__law_is_name T) arity_defn (hr.mono (by decide)) rfl (sa_cons (se_ix rfl (se_var (i := 0) rfl (vis_of rfl)) (se_int)) (sa_nil))))))) (ss_one (ss_ret (se_new (sl_disp (sa_cons (se_str (l := [110, 97, 109, 101]) (by decide +kernel)) (sa_cons (se_ix rfl (se_var (i := 0) rfl (vis_of rfl)) (se_int)) (sa_nil))))))) (ss_nil)) (
  ss_cons (ss_if (st_cmp (f_eq0 rfl hr) (se_var (i := 1) rfl (vis_of rfl)) (se_str (l := [115, 101, 116]) (by decide +kernel))) (ss_cons (ss_if (st_not (st_val (se_call tk (ok__law_is_value T) arity_defn (hr.mono (by decide)) rfl (sa_cons (se_ix rfl (se_var (i := 0) rfl (vis_of rfl)) (se_int)) (sa_nil))))) (ss_one (ss_ret (se_new (sl_disp (sa_cons (se_str (l := [118, 97, 108, 117, 101]) (by decide +kernel)) (sa_cons (se_ix rfl (se_var (i := 0) rfl (vis_of rfl)) (se_int)) (sa_nil))))))) (ss_nil)) (
  ss_one (ss_if (st_or (st_not (st_val (se_blt (f_isi rfl (isi_ok T)) rfl T.none_isinstance (by first | rfl | decide +kernel) (sa_cons (se_ix rfl (se_var (i := 0) rfl (vis_of rfl)) (se_int)) (sa_cons (se_bltn rfl T.none_str (by first | rfl | decide +kernel)) (sa_nil)))))) (st_or1 (st_notInL rfl (se_ix rfl (se_var (i := 0) rfl (vis_of rfl)) (se_int)) (sl_disp (sa_cons (se_str (l := [97, 100, 100]) (by decide +kernel)) (sa_cons (se_str (l := [115, 117, 98]) (by decide +kernel)) (sa_cons (se_str (l := [109, 117, 108]) (by decide +kernel)) (sa_nil)))))))) (ss_one (ss_ret (se_new (sl_disp (sa_cons (se_str (l := [111, 112, 101, 114, 97, 116, 111, 114]) (by decide +kernel)) (sa_cons (se_ix rfl (se_var (i := 0) rfl (vis_of rfl)) (se_int)) (sa_nil))))))) (ss_nil)))) (ss_nil)) (
  ss_cons (ss_if (st_and (st_cmp (f_ne0 rfl hr) (se_var (i := 1) rfl (vis_of rfl)) (se_str (l := [114, 101, 97, 100]) (by decide +kernel))) (st_and1 (st_not (st_val (se_call tk (ok__law_is_value T) arity_defn (hr.mono (by decide)) rfl (sa_cons (se_ix rfl (se_var (i := 0) rfl (vis_of rfl)) (se_un f_neg (se_int))) (sa_nil))))))) (ss_one (ss_ret (se_new (sl_disp (sa_cons (se_str (l := [118, 97, 108, 117, 101]) (by decide +kernel)) (sa_cons (se_ix rfl (se_var (i := 0) rfl (vis_of rfl)) (se_un f_neg (se_int))) (sa_nil))))))) (ss_nil)) (
  ss_one (ss_ret (se_new (sl_disp (sa_cons (se_str (l := [109, 97, 100, 101]) (by decide +kernel)) (sa_cons (se_joinL (se_str (l := [32]) (by decide +kernel)) (sl_comp (own := [("_law_thing", 2)]) (h := gSet 2) (t := tYesB) (fe := eFn bStr (aCons (eVar 2) (aNil))) rfl sc__law_due.nd (si_val rfl (se_var (i := 0) rfl (vis_of rfl))) (blkOk_by rfl) (fun _ _ _ _ _ => sg_name (i := 2) sc__law_due.nd rfl (loc_of rfl)) (fun _ _ _ _ _ => sts_nil) (fun _ _ _ _ _ => se_typ (f_str) rfl T.none_str (by first | rfl | decide +kernel) (sa_cons (se_var (i := 2) rfl (vis_of rfl)) (sa_nil))))) (sa_nil))))))))))
theorem sc_is_name : FnScope ["thing", "sign"] ["thing"] (defScope st_is_name) := ⟨rfl, rfl, rfl, by decide +kernel, rfl, by decide +kernel, by decide +kernel⟩
theorem ok_is_name (T : Txt P K mg cl base) : Def P w K mg base (⟨K, cl⟩ : G) "is_name" 1 ["thing"] d_is_name :=
  def_of (k := 0) T.fun_is_name sc_is_name fun f cdv A outer s H E hr tk hp =>
  ss_cons (ss_if (st_or (st_not (st_val (se_blt (f_isi rfl (isi_ok T)) rfl T.none_isinstance (by first | rfl | decide +kernel) (sa_cons (se_var (i := 0) rfl (vis_of rfl)) (sa_cons (se_bltn rfl T.none_str (by first | rfl | decide +kernel)) (sa_nil)))))) (st_or1 (st_not (st_chain f_le f_le (se_int) (se_blt (f_len rfl) rfl T.none_len (by first | rfl | decide +kernel) (sa_cons (se_var (i := 0) rfl (vis_of rfl)) (sa_nil))) (se_globx rfl T.val_MOST_LETTERS))))) (ss_one (ss_ret (se_bl))) (ss_nil)) (
  ss_one (ss_ret (se_bltL (f_all rfl) rfl T.none_all (by first | rfl | decide +kernel) (sl_comp (own := [("sign", 1)]) (h := gSet 1) (t := tYesB) (fe := eBin wIn (eVar 1) (eC (.str [97, 98, 99, 100, 101, 102, 103, 104, 105, 106, 107, 108, 109, 110, 111, 112, 113, 114, 115, 116, 117, 118, 119, 120, 121, 122]))) rfl sc_is_name.nd (si_val rfl (se_var (i := 0) rfl (vis_of rfl))) (blkOk_by rfl) (fun _ _ _ _ _ => sg_name (i := 1) sc_is_name.nd rfl (loc_of rfl)) (fun _ _ _ _ _ => sts_nil) (fun _ _ _ _ _ => se_cmp (f_in rfl) (se_var (i := 1) rfl (vis_of rfl)) (se_globx rfl T.val_LETTERS))))))
theorem sc_NoName___init__ : ScopeS ["self", "value"] ["self", "value"] (defScope st_NoName___init__) := ⟨rfl, rfl, rfl, by decide +kernel, rfl, by decide +kernel, by decide +kernel, by decide +kernel⟩
theorem exc_NoName (T : Txt P K mg cl base) : Exc1 P w K mg base (⟨K, cl⟩ : G) "NoName" "NoName" 1 [118, 97, 108, 117, 101] := by
  obtain ⟨fi, D, A⟩ := T.exc_NoName
  exact exc1_of (k := 0) T.m_NoName D A T.xno_NoName_value rfl (by decide +kernel) sc_NoName___init__ rfl rfl rfl rfl (fun _ _ _ _ _ _ us hl => match us, hl with | [_, _], _ => rfl) (vis_of rfl) (vis_of rfl) (by decide) (by decide) (fun _ => rfl) (fun _ => rfl) (fun _ => rfl)
theorem sc_must_be_name : FnScope ["thing"] ["thing"] (defScope st_must_be_name) := ⟨rfl, rfl, rfl, by decide +kernel, rfl, by decide +kernel, by decide +kernel⟩
theorem ok_must_be_name (T : Txt P K mg cl base) : Def P w K mg base (⟨K, cl⟩ : G) "must_be_name" 3 ["thing"] d_must_be_name :=
  def_of (k := 2) T.fun_must_be_name sc_must_be_name fun f cdv A outer s H E hr tk hp =>
  ss_one (ss_if (st_not (st_val (se_call tk (ok_is_name T) arity_defn (hr.mono (by decide)) rfl (sa_cons (se_var (i := 0) rfl (vis_of rfl)) (sa_nil))))) (ss_one (ss_raise rfl tk (exc_NoName T) (hr.mono (by decide)) rfl (sa_cons (se_var (i := 0) rfl (vis_of rfl)) (sa_nil)))) (ss_nil))
theorem okc_Assign_target_ok (T : Txt P K mg cl base) : ∀ c, okc_Assign_target c = true → Cls K (cl c) ∧ NoAttr K (cl c) (Sh.S [116, 97, 114, 103, 101, 116]) := by
  intro c h
  simp only [okc_Assign_target, Bool.or_eq_true, beq_iff_eq] at h
  rcases h with ((rfl | rfl) | rfl)
  · exact ⟨T.cls_Set, T.noa_Set_target⟩
  · exact ⟨T.cls_Copy, T.noa_Copy_target⟩
  · exact ⟨T.cls_Read, T.noa_Read_target⟩
theorem sc_Assign___init__ : FnScope ["self", "target"] ["self", "target"] (defScope st_Assign___init__) := ⟨rfl, rfl, rfl, by decide +kernel, rfl, by decide +kernel, by decide +kernel⟩
theorem ok_Assign___init__ (T : Txt P K mg cl base) {f : Addr} (A : FunIn K "__init__" "Assign.__init__" st_Assign___init__ ["self", "target"] f) : DefIn P w K mg base (⟨K, cl⟩ : G) f 4 ["self", "target"] d_Assign___init__ :=
  defIn_of (k := 3) A sc_Assign___init__ fun cdv A outer s H E hr tk hp =>
  ss_cons (ss_expr (se_call tk (ok_must_be_name T) arity_defn (hr.mono (by decide)) rfl (sa_cons (se_var (i := 1) rfl (vis_of rfl)) (sa_nil)))) (
  ss_one (ss_attr (okc := okc_Assign_target) (se_var (i := 0) rfl (vis_of rfl)) (se_var (i := 1) rfl (vis_of rfl)) (okc_Assign_target_ok T) (by decide +kernel)))
theorem sc_is_integer : FnScope ["thing"] ["thing"] (defScope st_is_integer) := ⟨rfl, rfl, rfl, by decide +kernel, rfl, by decide +kernel, by decide +kernel⟩
theorem ok_is_integer (T : Txt P K mg cl base) : Def P w K mg base (⟨K, cl⟩ : G) "is_integer" 1 ["thing"] d_is_integer :=
  def_of (k := 0) T.fun_is_integer sc_is_integer fun f cdv A outer s H E hr tk hp =>
  ss_one (ss_ret (se_and (se_blt (f_isi rfl (isi_ok T)) rfl T.none_isinstance (by first | rfl | decide +kernel) (sa_cons (se_var (i := 0) rfl (vis_of rfl)) (sa_cons (se_bltn rfl T.none_int (by first | rfl | decide +kernel)) (sa_nil)))) (se_one (se_not (se_blt (f_isi rfl (isi_ok T)) rfl T.none_isinstance (by first | rfl | decide +kernel) (sa_cons (se_var (i := 0) rfl (vis_of rfl)) (sa_cons (se_bltn rfl T.none_bool (by first | rfl | decide +kernel)) (sa_nil))))))))
theorem sc_is_value : FnScope ["thing"] ["thing"] (defScope st_is_value) := ⟨rfl, rfl, rfl, by decide +kernel, rfl, by decide +kernel, by decide +kernel⟩
theorem ok_is_value (T : Txt P K mg cl base) : Def P w K mg base (⟨K, cl⟩ : G) "is_value" 2 ["thing"] d_is_value :=
  def_of (k := 1) T.fun_is_value sc_is_value fun f cdv A outer s H E hr tk hp =>
  ss_cons (ss_if (st_val (se_call tk (ok_is_integer T) arity_defn (hr.mono (by decide)) rfl (sa_cons (se_var (i := 0) rfl (vis_of rfl)) (sa_nil)))) (ss_one (ss_ret (se_cmp f_le (se_blt (f_abs) rfl T.none_abs (by first | rfl | decide +kernel) (sa_cons (se_var (i := 0) rfl (vis_of rfl)) (sa_nil))) (se_globx rfl T.val_MOST_VALUE)))) (ss_nil)) (
  ss_one (ss_ret (se_call tk (ok_is_name T) arity_defn (hr.mono (by decide)) rfl (sa_cons (se_var (i := 0) rfl (vis_of rfl)) (sa_nil)))))
theorem sc_NoValue___init__ : ScopeS ["self", "value"] ["self", "value"] (defScope st_NoValue___init__) := ⟨rfl, rfl, rfl, by decide +kernel, rfl, by decide +kernel, by decide +kernel, by decide +kernel⟩
theorem exc_NoValue (T : Txt P K mg cl base) : Exc1 P w K mg base (⟨K, cl⟩ : G) "NoValue" "NoValue" 1 [118, 97, 108, 117, 101] := by
  obtain ⟨fi, D, A⟩ := T.exc_NoValue
  exact exc1_of (k := 0) T.m_NoValue D A T.xno_NoValue_value rfl (by decide +kernel) sc_NoValue___init__ rfl rfl rfl rfl (fun _ _ _ _ _ _ us hl => match us, hl with | [_, _], _ => rfl) (vis_of rfl) (vis_of rfl) (by decide) (by decide) (fun _ => rfl) (fun _ => rfl) (fun _ => rfl)
theorem sc_must_be_value : FnScope ["thing"] ["thing"] (defScope st_must_be_value) := ⟨rfl, rfl, rfl, by decide +kernel, rfl, by decide +kernel, by decide +kernel⟩
theorem ok_must_be_value (T : Txt P K mg cl base) : Def P w K mg base (⟨K, cl⟩ : G) "must_be_value" 3 ["thing"] d_must_be_value :=
  def_of (k := 2) T.fun_must_be_value sc_must_be_value fun f cdv A outer s H E hr tk hp =>
  ss_one (ss_if (st_not (st_val (se_call tk (ok_is_value T) arity_defn (hr.mono (by decide)) rfl (sa_cons (se_var (i := 0) rfl (vis_of rfl)) (sa_nil))))) (ss_one (ss_raise rfl tk (exc_NoValue T) (hr.mono (by decide)) rfl (sa_cons (se_var (i := 0) rfl (vis_of rfl)) (sa_nil)))) (ss_nil))
theorem tb_OPERATORS_ok (T : Txt P K mg cl base) : ∀ c x, tb_OPERATORS c = some x → AttK P w K mg base (⟨K, cl⟩ : G) [79, 80, 69, 82, 65, 84, 79, 82, 83] c 0 x := by
  intro c x h
  unfold tb_OPERATORS at h
  by_cases e_Set : c = "Set"
  · subst e_Set; rw [if_pos rfl] at h; obtain rfl := Option.some.inj h; exact (by obtain ⟨v, u, h, r⟩ := T.con_Set_OPERATORS; exact .con T.cls_Set h r)
  rw [if_neg e_Set] at h
  by_cases e_Copy : c = "Copy"
  · subst e_Copy; rw [if_pos rfl] at h; obtain rfl := Option.some.inj h; exact (by obtain ⟨v, u, h, r⟩ := T.con_Copy_OPERATORS; exact .con T.cls_Copy h r)
  rw [if_neg e_Copy] at h
  by_cases e_Read : c = "Read"
  · subst e_Read; rw [if_pos rfl] at h; obtain rfl := Option.some.inj h; exact (by obtain ⟨v, u, h, r⟩ := T.con_Read_OPERATORS; exact .con T.cls_Read h r)
  rw [if_neg e_Read] at h
  by_cases e_Write : c = "Write"
  · subst e_Write; rw [if_pos rfl] at h; obtain rfl := Option.some.inj h; exact (by obtain ⟨v, u, h, r⟩ := T.con_Write_OPERATORS; exact .con T.cls_Write h r)
  rw [if_neg e_Write] at h
  cases h
theorem sc_NoOperator___init__ : ScopeS ["self", "value"] ["self", "value"] (defScope st_NoOperator___init__) := ⟨rfl, rfl, rfl, by decide +kernel, rfl, by decide +kernel, by decide +kernel, by decide +kernel⟩
theorem exc_NoOperator (T : Txt P K mg cl base) : Exc1 P w K mg base (⟨K, cl⟩ : G) "NoOperator" "NoOperator" 1 [118, 97, 108, 117, 101] := by
  obtain ⟨fi, D, A⟩ := T.exc_NoOperator
  exact exc1_of (k := 0) T.m_NoOperator D A T.xno_NoOperator_value rfl (by decide +kernel) sc_NoOperator___init__ rfl rfl rfl rfl (fun _ _ _ _ _ _ us hl => match us, hl with | [_, _], _ => rfl) (vis_of rfl) (vis_of rfl) (by decide) (by decide) (fun _ => rfl) (fun _ => rfl) (fun _ => rfl)
theorem okc_Set_left_ok (T : Txt P K mg cl base) : ∀ c, okc_Set_left c = true → Cls K (cl c) ∧ NoAttr K (cl c) (Sh.S [108, 101, 102, 116]) := by
  intro c h
  simp only [okc_Set_left, Bool.or_eq_true, beq_iff_eq] at h
  rcases h with rfl
  · exact ⟨T.cls_Set, T.noa_Set_left⟩
theorem okc_Set_op_ok (T : Txt P K mg cl base) : ∀ c, okc_Set_op c = true → Cls K (cl c) ∧ NoAttr K (cl c) (Sh.S [111, 112]) := by
  intro c h
  simp only [okc_Set_op, Bool.or_eq_true, beq_iff_eq] at h
  rcases h with rfl
  · exact ⟨T.cls_Set, T.noa_Set_op⟩
theorem okc_Set_right_ok (T : Txt P K mg cl base) : ∀ c, okc_Set_right c = true → Cls K (cl c) ∧ NoAttr K (cl c) (Sh.S [114, 105, 103, 104, 116]) := by
  intro c h
  simp only [okc_Set_right, Bool.or_eq_true, beq_iff_eq] at h
  rcases h with rfl
  · exact ⟨T.cls_Set, T.noa_Set_right⟩
theorem sc_Set___init__ : ScopeS ["self", "target", "left", "op", "right"] ["self", "target", "left", "op", "right"] (defScope st_Set___init__) := ⟨rfl, rfl, rfl, by decide +kernel, rfl, by decide +kernel, by decide +kernel, by decide +kernel⟩
theorem ok_Set___init__ (T : Txt P K mg cl base) {f f2 : Addr} (A : SupAt P K mg (cl "Set") "Set.__init__" st_Set___init__ ["self", "target", "left", "op", "right"] f f2) (top : (P.main.scope.names.lookup ("super" : Str)).isSome = false) (F2 : FunIn K "__init__" "Assign.__init__" st_Assign___init__ ["self", "target"] f2) : DefIn P w K mg base (⟨K, cl⟩ : G) f 5 ["self", "target", "left", "op", "right"] d_Set___init__ :=
  sup_of (k := 4) A top T.cls_Set ((ok_Assign___init__ T F2).mono (by decide)) arity_defn rfl sc_Set___init__ rfl rfl rfl rfl (fun _ _ _ _ _ _ us hl => match us, hl with | [_, _, _, _, _], _ => rfl) (fun _ => rfl) (fun _ => rfl) (fun _ => rfl) (fun _ => rfl)
    fun f cda cc A outer s H E hr tk hp => ⟨sa_cons (se_var (i := 1) rfl (vis_of rfl)) (sa_nil),
  ss_cons (ss_expr (se_call tk (ok_must_be_value T) arity_defn (hr.mono (by decide)) rfl (sa_cons (se_var (i := 2) rfl (vis_of rfl)) (sa_nil)))) (
  ss_cons (ss_if (st_or (st_not (st_val (se_blt (f_isi rfl (isi_ok T)) rfl T.none_isinstance (by first | rfl | decide +kernel) (sa_cons (se_var (i := 3) rfl (vis_of rfl)) (sa_cons (se_bltn rfl T.none_str (by first | rfl | decide +kernel)) (sa_nil)))))) (st_or1 (st_cmp (f_notIn rfl) (se_var (i := 3) rfl (vis_of rfl)) (se_attr (k := 0) (se_var (i := 0) rfl (vis_of rfl)) (tb_OPERATORS_ok T) (hr.mono (by decide)) (by decide +kernel))))) (ss_one (ss_raise rfl tk (exc_NoOperator T) (hr.mono (by decide)) rfl (sa_cons (se_var (i := 3) rfl (vis_of rfl)) (sa_nil)))) (ss_nil)) (
  ss_cons (ss_expr (se_call tk (ok_must_be_value T) arity_defn (hr.mono (by decide)) rfl (sa_cons (se_var (i := 4) rfl (vis_of rfl)) (sa_nil)))) (
  ss_cons (ss_attr (okc := okc_Set_left) (se_var (i := 0) rfl (vis_of rfl)) (se_var (i := 2) rfl (vis_of rfl)) (okc_Set_left_ok T) (by decide +kernel)) (
  ss_cons (ss_attr (okc := okc_Set_op) (se_var (i := 0) rfl (vis_of rfl)) (se_var (i := 3) rfl (vis_of rfl)) (okc_Set_op_ok T) (by decide +kernel)) (
  ss_one (ss_attr (okc := okc_Set_right) (se_var (i := 0) rfl (vis_of rfl)) (se_var (i := 4) rfl (vis_of rfl)) (okc_Set_right_ok T) (by decide +kernel)))))))⟩
theorem make_Set (T : Txt P K mg cl base) : MakeK P w K mg base (⟨K, cl⟩ : G) "Set" "Set" 5 d_Set___init__ := by obtain ⟨fi, f2, M, A, F⟩ := T.mk_Set; exact makeK T.m_Set M arity_defn (ok_Set___init__ T A T.ztop F)
theorem okc_Copy_value_ok (T : Txt P K mg cl base) : ∀ c, okc_Copy_value c = true → Cls K (cl c) ∧ NoAttr K (cl c) (Sh.S [118, 97, 108, 117, 101]) := by
  intro c h
  simp only [okc_Copy_value, Bool.or_eq_true, beq_iff_eq] at h
  rcases h with rfl
  · exact ⟨T.cls_Copy, T.noa_Copy_value⟩
theorem sc_Copy___init__ : ScopeS ["self", "target", "value"] ["self", "target", "value"] (defScope st_Copy___init__) := ⟨rfl, rfl, rfl, by decide +kernel, rfl, by decide +kernel, by decide +kernel, by decide +kernel⟩
theorem ok_Copy___init__ (T : Txt P K mg cl base) {f f2 : Addr} (A : SupAt P K mg (cl "Copy") "Copy.__init__" st_Copy___init__ ["self", "target", "value"] f f2) (top : (P.main.scope.names.lookup ("super" : Str)).isSome = false) (F2 : FunIn K "__init__" "Assign.__init__" st_Assign___init__ ["self", "target"] f2) : DefIn P w K mg base (⟨K, cl⟩ : G) f 5 ["self", "target", "value"] d_Copy___init__ :=
  sup_of (k := 4) A top T.cls_Copy ((ok_Assign___init__ T F2).mono (by decide)) arity_defn rfl sc_Copy___init__ rfl rfl rfl rfl (fun _ _ _ _ _ _ us hl => match us, hl with | [_, _, _], _ => rfl) (fun _ => rfl) (fun _ => rfl) (fun _ => rfl) (fun _ => rfl)
    fun f cda cc A outer s H E hr tk hp => ⟨sa_cons (se_var (i := 1) rfl (vis_of rfl)) (sa_nil),
  ss_cons (ss_expr (se_call tk (ok_must_be_value T) arity_defn (hr.mono (by decide)) rfl (sa_cons (se_var (i := 2) rfl (vis_of rfl)) (sa_nil)))) (
  ss_one (ss_attr (okc := okc_Copy_value) (se_var (i := 0) rfl (vis_of rfl)) (se_var (i := 2) rfl (vis_of rfl)) (okc_Copy_value_ok T) (by decide +kernel)))⟩
theorem make_Copy (T : Txt P K mg cl base) : MakeK P w K mg base (⟨K, cl⟩ : G) "Copy" "Copy" 5 d_Copy___init__ := by obtain ⟨fi, f2, M, A, F⟩ := T.mk_Copy; exact makeK T.m_Copy M arity_defn (ok_Copy___init__ T A T.ztop F)
theorem make_Read (T : Txt P K mg cl base) : MakeK P w K mg base (⟨K, cl⟩ : G) "Read" "Read" 4 d_Assign___init__ := by obtain ⟨fi, M, F⟩ := T.mk_Read; exact makeK T.m_Read M arity_defn (ok_Assign___init__ T F)
theorem okc_Write_value_ok (T : Txt P K mg cl base) : ∀ c, okc_Write_value c = true → Cls K (cl c) ∧ NoAttr K (cl c) (Sh.S [118, 97, 108, 117, 101]) := by
  intro c h
  simp only [okc_Write_value, Bool.or_eq_true, beq_iff_eq] at h
  rcases h with rfl
  · exact ⟨T.cls_Write, T.noa_Write_value⟩
theorem sc_Write___init__ : FnScope ["self", "value"] ["self", "value"] (defScope st_Write___init__) := ⟨rfl, rfl, rfl, by decide +kernel, rfl, by decide +kernel, by decide +kernel⟩
theorem ok_Write___init__ (T : Txt P K mg cl base) {f : Addr} (A : FunIn K "__init__" "Write.__init__" st_Write___init__ ["self", "value"] f) : DefIn P w K mg base (⟨K, cl⟩ : G) f 4 ["self", "value"] d_Write___init__ :=
  defIn_of (k := 3) A sc_Write___init__ fun cdv A outer s H E hr tk hp =>
  ss_cons (ss_expr (se_call tk (ok_must_be_value T) arity_defn (hr.mono (by decide)) rfl (sa_cons (se_var (i := 1) rfl (vis_of rfl)) (sa_nil)))) (
  ss_one (ss_attr (okc := okc_Write_value) (se_var (i := 0) rfl (vis_of rfl)) (se_var (i := 1) rfl (vis_of rfl)) (okc_Write_value_ok T) (by decide +kernel)))
theorem make_Write (T : Txt P K mg cl base) : MakeK P w K mg base (⟨K, cl⟩ : G) "Write" "Write" 4 d_Write___init__ := by obtain ⟨fi, M, F⟩ := T.mk_Write; exact makeK T.m_Write M arity_defn (ok_Write___init__ T F)
theorem sc__law_made : FnScope ["_law_statement"] ["_law_statement"] (defScope st__law_made) := ⟨rfl, rfl, rfl, by decide +kernel, rfl, by decide +kernel, by decide +kernel⟩
theorem ok__law_made (T : Txt P K mg cl base) : Def P w K mg base (⟨K, cl⟩ : G) "_law_made" 7 ["_law_statement"] d__law_made :=
  def_of (k := 6) T.fun__law_made sc__law_made fun f cdv A outer s H E hr tk hp =>
  ss_cons (ss_if (st_cmp f_isN (se_var (i := 0) rfl (vis_of rfl)) (se_non)) (ss_one (ss_ret (se_non))) (ss_nil)) (
  ss_cons (ss_if (st_cmp (f_eq0 rfl hr) (se_ix rfl (se_var (i := 0) rfl (vis_of rfl)) (se_int)) (se_str (l := [115, 101, 116]) (by decide +kernel))) (ss_one (ss_ret (se_make tk (make_Set T) (hr.mono (by decide)) rfl (sa_cons (se_ix rfl (se_var (i := 0) rfl (vis_of rfl)) (se_int)) (sa_cons (se_ix rfl (se_var (i := 0) rfl (vis_of rfl)) (se_int)) (sa_cons (se_ix rfl (se_var (i := 0) rfl (vis_of rfl)) (se_int)) (sa_cons (se_ix rfl (se_var (i := 0) rfl (vis_of rfl)) (se_int)) (sa_nil)))))))) (ss_nil)) (
  ss_cons (ss_if (st_cmp (f_eq0 rfl hr) (se_ix rfl (se_var (i := 0) rfl (vis_of rfl)) (se_int)) (se_str (l := [99, 111, 112, 121]) (by decide +kernel))) (ss_one (ss_ret (se_make tk (make_Copy T) (hr.mono (by decide)) rfl (sa_cons (se_ix rfl (se_var (i := 0) rfl (vis_of rfl)) (se_int)) (sa_cons (se_ix rfl (se_var (i := 0) rfl (vis_of rfl)) (se_int)) (sa_nil)))))) (ss_nil)) (
  ss_cons (ss_if (st_cmp (f_eq0 rfl hr) (se_ix rfl (se_var (i := 0) rfl (vis_of rfl)) (se_int)) (se_str (l := [114, 101, 97, 100]) (by decide +kernel))) (ss_one (ss_ret (se_make tk (make_Read T) (hr.mono (by decide)) rfl (sa_cons (se_ix rfl (se_var (i := 0) rfl (vis_of rfl)) (se_int)) (sa_nil))))) (ss_nil)) (
  ss_one (ss_ret (se_make tk (make_Write T) (hr.mono (by decide)) rfl (sa_cons (se_ix rfl (se_var (i := 0) rfl (vis_of rfl)) (se_int)) (sa_nil))))))))
theorem isa_PlaceError_ok (T : Txt P K mg cl base) : ∀ c b, isa_PlaceError c = some b → PySem.W.exmAny K (.ref ((⟨K, cl⟩ : G).cl c)) [.ref (cl "PlaceError")] = some b := by
  intro c b h
  unfold isa_PlaceError at h
  by_cases e_NoName : c = "NoName"
  · subst e_NoName; rw [if_pos rfl] at h; cases h; exact (exm_cons T.exm_NoName_PlaceError (exm_nil))
  rw [if_neg e_NoName] at h
  by_cases e_NoValue : c = "NoValue"
  · subst e_NoValue; rw [if_pos rfl] at h; cases h; exact (exm_cons T.exm_NoValue_PlaceError (exm_nil))
  rw [if_neg e_NoValue] at h
  by_cases e_NoText : c = "NoText"
  · subst e_NoText; rw [if_pos rfl] at h; cases h; exact (exm_cons T.exm_NoText_PlaceError (exm_nil))
  rw [if_neg e_NoText] at h
  by_cases e_NoOperator : c = "NoOperator"
  · subst e_NoOperator; rw [if_pos rfl] at h; cases h; exact (exm_cons T.exm_NoOperator_PlaceError (exm_nil))
  rw [if_neg e_NoOperator] at h
  cases h
theorem okx_value_ok (T : Txt P K mg cl base) : ∀ c, okx_value c = true → XfC K (cl c) ∧ PySem.W.findIn K (.ref (cl c)) (Sh.S [118, 97, 108, 117, 101]) = some none := by
  intro c h
  simp only [okx_value, Bool.or_eq_true, beq_iff_eq] at h
  rcases h with (((rfl | rfl) | rfl) | rfl)
  · exact ⟨T.xfc_NoName, T.xno_NoName_value⟩
  · exact ⟨T.xfc_NoValue, T.xno_NoValue_value⟩
  · exact ⟨T.xfc_NoText, T.xno_NoText_value⟩
  · exact ⟨T.xfc_NoOperator, T.xno_NoOperator_value⟩
theorem tb_right_ok (T : Txt P K mg cl base) : ∀ c x, tb_right c = some x → AttK P w K mg base (⟨K, cl⟩ : G) [114, 105, 103, 104, 116] c 0 x := by
  intro c x h
  unfold tb_right at h
  by_cases e_Set : c = "Set"
  · subst e_Set; rw [if_pos rfl] at h; obtain rfl := Option.some.inj h; exact (.fld T.cls_Set T.noa_Set_right)
  rw [if_neg e_Set] at h
  cases h
theorem tb_op_ok (T : Txt P K mg cl base) : ∀ c x, tb_op c = some x → AttK P w K mg base (⟨K, cl⟩ : G) [111, 112] c 0 x := by
  intro c x h
  unfold tb_op at h
  by_cases e_Set : c = "Set"
  · subst e_Set; rw [if_pos rfl] at h; obtain rfl := Option.some.inj h; exact (.fld T.cls_Set T.noa_Set_op)
  rw [if_neg e_Set] at h
  cases h
theorem tb_left_ok (T : Txt P K mg cl base) : ∀ c x, tb_left c = some x → AttK P w K mg base (⟨K, cl⟩ : G) [108, 101, 102, 116] c 0 x := by
  intro c x h
  unfold tb_left at h
  by_cases e_Set : c = "Set"
  · subst e_Set; rw [if_pos rfl] at h; obtain rfl := Option.some.inj h; exact (.fld T.cls_Set T.noa_Set_left)
  rw [if_neg e_Set] at h
  cases h
theorem tb_target_ok (T : Txt P K mg cl base) : ∀ c x, tb_target c = some x → AttK P w K mg base (⟨K, cl⟩ : G) [116, 97, 114, 103, 101, 116] c 0 x := by
  intro c x h
  unfold tb_target at h
  by_cases e_Set : c = "Set"
  · subst e_Set; rw [if_pos rfl] at h; obtain rfl := Option.some.inj h; exact (.fld T.cls_Set T.noa_Set_target)
  rw [if_neg e_Set] at h
  by_cases e_Copy : c = "Copy"
  · subst e_Copy; rw [if_pos rfl] at h; obtain rfl := Option.some.inj h; exact (.fld T.cls_Copy T.noa_Copy_target)
  rw [if_neg e_Copy] at h
  by_cases e_Read : c = "Read"
  · subst e_Read; rw [if_pos rfl] at h; obtain rfl := Option.some.inj h; exact (.fld T.cls_Read T.noa_Read_target)
  rw [if_neg e_Read] at h
  cases h
theorem sc_Set_words : FnScope ["self"] ["self"] (defScope st_Set_words) := ⟨rfl, rfl, rfl, by decide +kernel, rfl, by decide +kernel, by decide +kernel⟩
theorem ok_Set_words (T : Txt P K mg cl base) {f : Addr} (A : FunIn K "words" "Set.words" st_Set_words ["self"] f) : DefIn P w K mg base (⟨K, cl⟩ : G) f 2 ["self"] d_Set_words :=
  defIn_of (k := 1) A sc_Set_words fun cdv A outer s H E hr tk hp =>
  ss_one (ss_ret (se_new (sl_disp (sa_cons (se_attr (k := 0) (se_var (i := 0) rfl (vis_of rfl)) (tb_target_ok T) (hr.mono (by decide)) (by decide +kernel)) (sa_cons (se_attr (k := 0) (se_var (i := 0) rfl (vis_of rfl)) (tb_left_ok T) (hr.mono (by decide)) (by decide +kernel)) (sa_cons (se_attr (k := 0) (se_var (i := 0) rfl (vis_of rfl)) (tb_op_ok T) (hr.mono (by decide)) (by decide +kernel)) (sa_cons (se_attr (k := 0) (se_var (i := 0) rfl (vis_of rfl)) (tb_right_ok T) (hr.mono (by decide)) (by decide +kernel)) (sa_nil))))))))
theorem tb_value_ok (T : Txt P K mg cl base) : ∀ c x, tb_value c = some x → AttK P w K mg base (⟨K, cl⟩ : G) [118, 97, 108, 117, 101] c 0 x := by
  intro c x h
  unfold tb_value at h
  by_cases e_Copy : c = "Copy"
  · subst e_Copy; rw [if_pos rfl] at h; obtain rfl := Option.some.inj h; exact (.fld T.cls_Copy T.noa_Copy_value)
  rw [if_neg e_Copy] at h
  by_cases e_Write : c = "Write"
  · subst e_Write; rw [if_pos rfl] at h; obtain rfl := Option.some.inj h; exact (.fld T.cls_Write T.noa_Write_value)
  rw [if_neg e_Write] at h
  cases h
theorem sc_Copy_words : FnScope ["self"] ["self"] (defScope st_Copy_words) := ⟨rfl, rfl, rfl, by decide +kernel, rfl, by decide +kernel, by decide +kernel⟩
theorem ok_Copy_words (T : Txt P K mg cl base) {f : Addr} (A : FunIn K "words" "Copy.words" st_Copy_words ["self"] f) : DefIn P w K mg base (⟨K, cl⟩ : G) f 2 ["self"] d_Copy_words :=
  defIn_of (k := 1) A sc_Copy_words fun cdv A outer s H E hr tk hp =>
  ss_one (ss_ret (se_new (sl_disp (sa_cons (se_attr (k := 0) (se_var (i := 0) rfl (vis_of rfl)) (tb_target_ok T) (hr.mono (by decide)) (by decide +kernel)) (sa_cons (se_attr (k := 0) (se_var (i := 0) rfl (vis_of rfl)) (tb_value_ok T) (hr.mono (by decide)) (by decide +kernel)) (sa_nil))))))
theorem sc_Read_words : FnScope ["self"] ["self"] (defScope st_Read_words) := ⟨rfl, rfl, rfl, by decide +kernel, rfl, by decide +kernel, by decide +kernel⟩
theorem ok_Read_words (T : Txt P K mg cl base) {f : Addr} (A : FunIn K "words" "Read.words" st_Read_words ["self"] f) : DefIn P w K mg base (⟨K, cl⟩ : G) f 2 ["self"] d_Read_words :=
  defIn_of (k := 1) A sc_Read_words fun cdv A outer s H E hr tk hp =>
  ss_one (ss_ret (se_new (sl_disp (sa_cons (se_attr (k := 0) (se_var (i := 0) rfl (vis_of rfl)) (tb_target_ok T) (hr.mono (by decide)) (by decide +kernel)) (sa_nil)))))
theorem sc_Write_words : FnScope ["self"] ["self"] (defScope st_Write_words) := ⟨rfl, rfl, rfl, by decide +kernel, rfl, by decide +kernel, by decide +kernel⟩
theorem ok_Write_words (T : Txt P K mg cl base) {f : Addr} (A : FunIn K "words" "Write.words" st_Write_words ["self"] f) : DefIn P w K mg base (⟨K, cl⟩ : G) f 2 ["self"] d_Write_words :=
  defIn_of (k := 1) A sc_Write_words fun cdv A outer s H E hr tk hp =>
  ss_one (ss_ret (se_new (sl_disp (sa_cons (se_attr (k := 0) (se_var (i := 0) rfl (vis_of rfl)) (tb_value_ok T) (hr.mono (by decide)) (by decide +kernel)) (sa_nil)))))
theorem tb_words_ok (T : Txt P K mg cl base) : ∀ c x, tb_words c = some x → AttK P w K mg base (⟨K, cl⟩ : G) [119, 111, 114, 100, 115] c 2 x := by
  intro c x h
  unfold tb_words at h
  by_cases e_Set : c = "Set"
  · subst e_Set; rw [if_pos rfl] at h; obtain rfl := Option.some.inj h; exact (by obtain ⟨p, ga, hp, F⟩ := T.prop_Set_words; exact attP T.cls_Set hp ((ok_Set_words T F).mono (by decide)))
  rw [if_neg e_Set] at h
  by_cases e_Copy : c = "Copy"
  · subst e_Copy; rw [if_pos rfl] at h; obtain rfl := Option.some.inj h; exact (by obtain ⟨p, ga, hp, F⟩ := T.prop_Copy_words; exact attP T.cls_Copy hp ((ok_Copy_words T F).mono (by decide)))
  rw [if_neg e_Copy] at h
  by_cases e_Read : c = "Read"
  · subst e_Read; rw [if_pos rfl] at h; obtain rfl := Option.some.inj h; exact (by obtain ⟨p, ga, hp, F⟩ := T.prop_Read_words; exact attP T.cls_Read hp ((ok_Read_words T F).mono (by decide)))
  rw [if_neg e_Read] at h
  by_cases e_Write : c = "Write"
  · subst e_Write; rw [if_pos rfl] at h; obtain rfl := Option.some.inj h; exact (by obtain ⟨p, ga, hp, F⟩ := T.prop_Write_words; exact attP T.cls_Write hp ((ok_Write_words T F).mono (by decide)))
  rw [if_neg e_Write] at h
  cases h
theorem tb_WORD_ok (T : Txt P K mg cl base) : ∀ c x, tb_WORD c = some x → AttK P w K mg base (⟨K, cl⟩ : G) [87, 79, 82, 68] c 0 x := by
  intro c x h
  unfold tb_WORD at h
  by_cases e_Set : c = "Set"
  · subst e_Set; rw [if_pos rfl] at h; obtain rfl := Option.some.inj h; exact (by obtain ⟨v, u, h, r⟩ := T.con_Set_WORD; exact .con T.cls_Set h r)
  rw [if_neg e_Set] at h
  by_cases e_Copy : c = "Copy"
  · subst e_Copy; rw [if_pos rfl] at h; obtain rfl := Option.some.inj h; exact (by obtain ⟨v, u, h, r⟩ := T.con_Copy_WORD; exact .con T.cls_Copy h r)
  rw [if_neg e_Copy] at h
  by_cases e_Read : c = "Read"
  · subst e_Read; rw [if_pos rfl] at h; obtain rfl := Option.some.inj h; exact (by obtain ⟨v, u, h, r⟩ := T.con_Read_WORD; exact .con T.cls_Read h r)
  rw [if_neg e_Read] at h
  by_cases e_Write : c = "Write"
  · subst e_Write; rw [if_pos rfl] at h; obtain rfl := Option.some.inj h; exact (by obtain ⟨v, u, h, r⟩ := T.con_Write_WORD; exact .con T.cls_Write h r)
  rw [if_neg e_Write] at h
  cases h
theorem sc_Statement_text : FnScope ["self", "word"] ["self"] (defScope st_Statement_text) := ⟨rfl, rfl, rfl, by decide +kernel, rfl, by decide +kernel, by decide +kernel⟩
theorem ok_Statement_text (T : Txt P K mg cl base) {f : Addr} (A : FunIn K "text" "Statement.text" st_Statement_text ["self"] f) : DefIn P w K mg base (⟨K, cl⟩ : G) f 4 ["self"] d_Statement_text :=
  defIn_of (k := 3) A sc_Statement_text fun cdv A outer s H E hr tk hp =>
  ss_one (ss_ret (se_joinL (se_str (l := [32]) (by decide +kernel)) (sl_disp (sa_cons (se_attr (k := 0) (se_var (i := 0) rfl (vis_of rfl)) (tb_WORD_ok T) (hr.mono (by decide)) (by decide +kernel)) (sa_starL (sl_comp (own := [("word", 1)]) (h := gSet 1) (t := tYesB) (fe := eFn bStr (aCons (eVar 1) (aNil))) rfl sc_Statement_text.nd (si_val rfl (se_attr (k := 2) (se_var (i := 0) rfl (vis_of rfl)) (tb_words_ok T) (hr.mono (by decide)) (by decide +kernel))) (blkOk_by rfl) (fun _ _ _ _ _ => sg_name (i := 1) sc_Statement_text.nd rfl (loc_of rfl)) (fun _ _ _ _ _ => sts_nil) (fun _ _ _ _ _ => se_typ (f_str) rfl T.none_str (by first | rfl | decide +kernel) (sa_cons (se_var (i := 1) rfl (vis_of rfl)) (sa_nil)))) (sa_nil))))))
theorem tb_text_ok (T : Txt P K mg cl base) : ∀ c x, tb_text c = some x → AttK P w K mg base (⟨K, cl⟩ : G) [116, 101, 120, 116] c 4 x := by
  intro c x h
  unfold tb_text at h
  by_cases e_Set : c = "Set"
  · subst e_Set; rw [if_pos rfl] at h; obtain rfl := Option.some.inj h; exact (by obtain ⟨p, ga, hp, F⟩ := T.prop_Set_text; exact attP T.cls_Set hp ((ok_Statement_text T F).mono (by decide)))
  rw [if_neg e_Set] at h
  by_cases e_Copy : c = "Copy"
  · subst e_Copy; rw [if_pos rfl] at h; obtain rfl := Option.some.inj h; exact (by obtain ⟨p, ga, hp, F⟩ := T.prop_Copy_text; exact attP T.cls_Copy hp ((ok_Statement_text T F).mono (by decide)))
  rw [if_neg e_Copy] at h
  by_cases e_Read : c = "Read"
  · subst e_Read; rw [if_pos rfl] at h; obtain rfl := Option.some.inj h; exact (by obtain ⟨p, ga, hp, F⟩ := T.prop_Read_text; exact attP T.cls_Read hp ((ok_Statement_text T F).mono (by decide)))
  rw [if_neg e_Read] at h
  by_cases e_Write : c = "Write"
  · subst e_Write; rw [if_pos rfl] at h; obtain rfl := Option.some.inj h; exact (by obtain ⟨p, ga, hp, F⟩ := T.prop_Write_text; exact attP T.cls_Write hp ((ok_Statement_text T F).mono (by decide)))
  rw [if_neg e_Write] at h
  cases h
theorem sc__law_told : FnScope ["_law_things", "_law_error", "_law_found", "e"] ["_law_things"] (defScope st__law_told) := ⟨rfl, rfl, rfl, by decide +kernel, rfl, by decide +kernel, by decide +kernel⟩
theorem ok__law_told (T : Txt P K mg cl base) : Def P w K mg base (⟨K, cl⟩ : G) "_law_told" 8 ["_law_things"] d__law_told :=
  def_of (k := 7) T.fun__law_told sc__law_told fun f cdv A outer s H E hr tk hp =>
  ss_cons (ss_set (i := 1) sc__law_told.nd rfl (loc_of rfl) (se_non)) (
  ss_cons (ss_set (i := 2) sc__law_told.nd rfl (loc_of rfl) (se_non)) (
  ss_cons (ss_tryA (i := 3) rfl rfl sc__law_told.nd rfl rfl (.one (names_own rfl T.m_PlaceError)) tk (isa_PlaceError_ok T) (fun W pn xe tk po => ss_one (ss_set (i := 2) sc__law_told.nd rfl (loc_of rfl) (se_call tk (ok__law_made T) arity_defn (hr.mono (by decide)) rfl (sa_cons (se_var (i := 0) rfl (vis_of rfl)) (sa_nil))))) (fun a pn => ss_one (ss_set (i := 1) sc__law_told.nd rfl (loc_of rfl) (se_var (i := 3) rfl (vis_of rfl))))) (
  ss_cons (ss_if (st_val (se_blt (f_isi rfl (isi_ok T)) rfl T.none_isinstance (by first | rfl | decide +kernel) (sa_cons (se_var (i := 1) rfl (vis_of rfl)) (sa_cons (se_glob rfl T.m_NoName ⟨.ref _, rfl, fun _ _ => .cls "NoName"⟩) (sa_nil))))) (ss_one (ss_ret (se_new (sl_disp (sa_cons (se_str (l := [110, 97, 109, 101]) (by decide +kernel)) (sa_cons (se_xattr (se_var (i := 1) rfl (vis_of rfl)) (okx_value_ok T) (by decide +kernel)) (sa_nil))))))) (ss_nil)) (
  ss_cons (ss_if (st_val (se_blt (f_isi rfl (isi_ok T)) rfl T.none_isinstance (by first | rfl | decide +kernel) (sa_cons (se_var (i := 1) rfl (vis_of rfl)) (sa_cons (se_glob rfl T.m_NoValue ⟨.ref _, rfl, fun _ _ => .cls "NoValue"⟩) (sa_nil))))) (ss_one (ss_ret (se_new (sl_disp (sa_cons (se_str (l := [118, 97, 108, 117, 101]) (by decide +kernel)) (sa_cons (se_xattr (se_var (i := 1) rfl (vis_of rfl)) (okx_value_ok T) (by decide +kernel)) (sa_nil))))))) (ss_nil)) (
  ss_cons (ss_if (st_val (se_blt (f_isi rfl (isi_ok T)) rfl T.none_isinstance (by first | rfl | decide +kernel) (sa_cons (se_var (i := 1) rfl (vis_of rfl)) (sa_cons (se_glob rfl T.m_NoOperator ⟨.ref _, rfl, fun _ _ => .cls "NoOperator"⟩) (sa_nil))))) (ss_one (ss_ret (se_new (sl_disp (sa_cons (se_str (l := [111, 112, 101, 114, 97, 116, 111, 114]) (by decide +kernel)) (sa_cons (se_xattr (se_var (i := 1) rfl (vis_of rfl)) (okx_value_ok T) (by decide +kernel)) (sa_nil))))))) (ss_nil)) (
  ss_cons (ss_if (st_cmp f_notN (se_var (i := 1) rfl (vis_of rfl)) (se_non)) (ss_one (ss_ret (se_new (sl_disp (sa_cons (se_str (l := [97, 110, 111, 116, 104, 101, 114]) (by decide +kernel)) (sa_nil)))))) (ss_nil)) (
  ss_one (ss_ret (se_new (sl_disp (sa_cons (se_str (l := [109, 97, 100, 101]) (by decide +kernel)) (sa_cons (se_attr (k := 4) (se_var (i := 2) rfl (vis_of rfl)) (tb_text_ok T) (hr.mono (by decide)) (by decide +kernel)) (sa_nil)))))))))))))
theorem sc__law_alike : FnScope ["_law_one", "_law_other"] ["_law_one", "_law_other"] (defScope st__law_alike) := ⟨rfl, rfl, rfl, by decide +kernel, rfl, by decide +kernel, by decide +kernel⟩
theorem ok__law_alike (T : Txt P K mg cl base) : Def P w K mg base (⟨K, cl⟩ : G) "_law_alike" 1 ["_law_one", "_law_other"] d__law_alike :=
  def_of (k := 0) T.fun__law_alike sc__law_alike fun f cdv A outer s H E hr tk hp =>
  ss_one (ss_ret (se_cmp (f_eq0 rfl hr) (se_blt (f_repr rfl hr T.sys) rfl T.none_repr (by first | rfl | decide +kernel) (sa_cons (se_var (i := 0) rfl (vis_of rfl)) (sa_nil))) (se_blt (f_repr rfl hr T.sys) rfl T.none_repr (by first | rfl | decide +kernel) (sa_cons (se_var (i := 1) rfl (vis_of rfl)) (sa_nil)))))
theorem sc__law_held : FnScope ["_law_told_here", "_law_due_here"] ["_law_told_here", "_law_due_here"] (defScope st__law_held) := ⟨rfl, rfl, rfl, by decide +kernel, rfl, by decide +kernel, by decide +kernel⟩
theorem ok__law_held (T : Txt P K mg cl base) : Def P w K mg base (⟨K, cl⟩ : G) "_law_held" 2 ["_law_told_here", "_law_due_here"] d__law_held :=
  def_of (k := 1) T.fun__law_held sc__law_held fun f cdv A outer s H E hr tk hp =>
  ss_cons (ss_if (st_not (st_val (se_call tk (ok__law_alike T) arity_defn (hr.mono (by decide)) rfl (sa_cons (se_var (i := 0) rfl (vis_of rfl)) (sa_cons (se_var (i := 1) rfl (vis_of rfl)) (sa_nil)))))) (ss_one (ss_ret (se_bl))) (ss_nil)) (
  ss_cons (ss_if (st_and (st_cmp f_gt (se_blt (f_len rfl) rfl T.none_len (by first | rfl | decide +kernel) (sa_cons (se_var (i := 1) rfl (vis_of rfl)) (sa_nil))) (se_int)) (st_and1 (st_val (se_blt (f_isi rfl (isi_ok T)) rfl T.none_isinstance (by first | rfl | decide +kernel) (sa_cons (se_ix rfl (se_var (i := 1) rfl (vis_of rfl)) (se_int)) (sa_cons (se_bltn rfl T.none_list (by first | rfl | decide +kernel)) (sa_nil))))))) (ss_one (ss_expr (se_app (se_ix rfl (se_var (i := 1) rfl (vis_of rfl)) (se_int)) (sa_cons (se_str (l := [109, 97, 114, 107]) (by decide +kernel)) (sa_nil))))) (ss_nil)) (
  ss_cons (ss_if (st_and (st_cmp f_gt (se_blt (f_len rfl) rfl T.none_len (by first | rfl | decide +kernel) (sa_cons (se_var (i := 1) rfl (vis_of rfl)) (sa_nil))) (se_int)) (st_and1 (st_val (se_blt (f_isi rfl (isi_ok T)) rfl T.none_isinstance (by first | rfl | decide +kernel) (sa_cons (se_ix rfl (se_var (i := 1) rfl (vis_of rfl)) (se_int)) (sa_cons (se_bltn rfl T.none_dict (by first | rfl | decide +kernel)) (sa_nil))))))) (ss_one (ss_dput ⟨_, hr⟩ (se_ix rfl (se_var (i := 1) rfl (vis_of rfl)) (se_int)) (se_str (l := [109, 97, 114, 107]) (by decide +kernel)) (se_int))) (ss_nil)) (
  ss_one (ss_ret (se_call tk (ok__law_alike T) arity_defn (hr.mono (by decide)) rfl (sa_cons (se_var (i := 0) rfl (vis_of rfl)) (sa_cons (se_var (i := 1) rfl (vis_of rfl)) (sa_nil))))))))
theorem sc__law_great_refused : FnScope ["_law_big", "_law_turn", "_law_things", "_law_told_here"] [] (defScope st__law_great_refused) := ⟨rfl, rfl, rfl, by decide +kernel, rfl, by decide +kernel, by decide +kernel⟩
theorem ok__law_great_refused (T : Txt P K mg cl base) : Def P w K mg base (⟨K, cl⟩ : G) "_law_great_refused" 9 [] d__law_great_refused :=
  def_of (k := 8) T.fun__law_great_refused sc__law_great_refused fun f cdv A outer s H E hr tk hp =>
  ss_cons (ss_set (i := 0) sc__law_great_refused.nd rfl (loc_of rfl) (se_int)) (
  ss_cons (ss_for hp rfl (si_range1 rfl T.none_range (sa_cons (se_int) (sa_nil))) (sg_name (i := 1) sc__law_great_refused.nd rfl (loc_of rfl)) (ss_one (ss_set (i := 0) sc__law_great_refused.nd rfl (loc_of rfl) (se_bin f_mul (se_var (i := 0) rfl (vis_of rfl)) (se_bin f_pow (se_int) (se_int)))))) (
  ss_cons (ss_for hp rfl (si_list rfl (sl_disp (sa_cons (se_tup (sa_cons (se_str (l := [119, 114, 105, 116, 101]) (by decide +kernel)) (sa_cons (se_var (i := 0) rfl (vis_of rfl)) (sa_nil)))) (sa_cons (se_tup (sa_cons (se_str (l := [99, 111, 112, 121]) (by decide +kernel)) (sa_cons (se_str (l := [120]) (by decide +kernel)) (sa_cons (se_bin f_sub (se_int) (se_var (i := 0) rfl (vis_of rfl))) (sa_nil))))) (sa_cons (se_tup (sa_cons (se_str (l := [115, 101, 116]) (by decide +kernel)) (sa_cons (se_str (l := [120]) (by decide +kernel)) (sa_cons (se_var (i := 0) rfl (vis_of rfl)) (sa_cons (se_str (l := [97, 100, 100]) (by decide +kernel)) (sa_cons (se_int) (sa_nil))))))) (sa_cons (se_tup (sa_cons (se_str (l := [114, 101, 97, 100]) (by decide +kernel)) (sa_cons (se_var (i := 0) rfl (vis_of rfl)) (sa_nil)))) (sa_nil))))))) (sg_name (i := 2) sc__law_great_refused.nd rfl (loc_of rfl)) (ss_cons (ss_set (i := 3) sc__law_great_refused.nd rfl (loc_of rfl) (se_call tk (ok__law_told T) arity_defn (hr.mono (by decide)) rfl (sa_cons (se_var (i := 2) rfl (vis_of rfl)) (sa_nil)))) (
  ss_one (ss_if (st_or (st_notInL rfl (se_ix rfl (se_var (i := 3) rfl (vis_of rfl)) (se_int)) (sl_disp (sa_cons (se_str (l := [118, 97, 108, 117, 101]) (by decide +kernel)) (sa_cons (se_str (l := [110, 97, 109, 101]) (by decide +kernel)) (sa_nil))))) (st_or1 (st_cmp (f_ne0 rfl hr) (se_blt (f_abs) rfl T.none_abs (by first | rfl | decide +kernel) (sa_cons (se_ix rfl (se_var (i := 3) rfl (vis_of rfl)) (se_int)) (sa_nil))) (se_var (i := 0) rfl (vis_of rfl))))) (ss_one (ss_ret (se_bl))) (ss_nil))))) (
  ss_one (ss_ret (se_bl)))))
theorem sc_law : FnScope ["_law_script", "_law_k", "_law_pile_here", "_law_things", "_law_turn", "_law_due_here", "_law_told_here", "_law_at", "_law_some"] ["_law_script"] (defScope st_law) := ⟨rfl, rfl, rfl, by decide +kernel, rfl, by decide +kernel, by decide +kernel⟩
theorem run_law (T : Txt P K mg cl base) {f : Addr} {fd : FuncData} (F : Fun K "law" "law" st_law f fd) : FnG P w K mg base 10 f fd ["_law_script"] (spOf (⟨K, cl⟩ : G) d_law 1) :=
  fn_ok (k := 9) F sc_law fun cdv A outer s H E hr tk hp =>
  ss_cons (ss_for hp rfl (si_range1 rfl T.none_range (sa_cons (se_int) (sa_nil))) (sg_name (i := 1) sc_law.nd rfl (loc_of rfl)) (ss_cons (ss_set (i := 2) sc_law.nd rfl (loc_of rfl) (se_call tk (ok__law_pile T) arity_defn (hr.mono (by decide)) rfl (sa_cons (se_var (i := 0) rfl (vis_of rfl)) (sa_cons (se_var (i := 1) rfl (vis_of rfl)) (sa_nil))))) (
  ss_cons (ss_set (i := 3) sc_law.nd rfl (loc_of rfl) (se_typ (f_list rfl) rfl T.none_list (by first | rfl | decide +kernel) (sa_cons (se_call tk (ok__law_any_statement T) arity_defn (hr.mono (by decide)) rfl (sa_cons (se_var (i := 2) rfl (vis_of rfl)) (sa_nil))) (sa_nil)))) (
  ss_cons (ss_for hp rfl (si_range1 rfl T.none_range (sa_cons (se_call tk (ok__law_take T) arity_defn (hr.mono (by decide)) rfl (sa_cons (se_var (i := 2) rfl (vis_of rfl)) (sa_cons (se_int) (sa_nil)))) (sa_nil))) (sg_name (i := 4) sc_law.nd rfl (loc_of rfl)) (ss_cons (ss_set (i := 7) sc_law.nd rfl (loc_of rfl) (se_bin (f_add rfl) (se_int) (se_call tk (ok__law_take T) arity_defn (hr.mono (by decide)) rfl (sa_cons (se_var (i := 2) rfl (vis_of rfl)) (sa_cons (se_bin f_sub (se_blt (f_len rfl) rfl T.none_len (by first | rfl | decide +kernel) (sa_cons (se_var (i := 3) rfl (vis_of rfl)) (sa_nil))) (se_int)) (sa_nil)))))) (
  ss_cons (ss_set (i := 8) sc_law.nd rfl (loc_of rfl) (se_new (sl_disp (sa_cons (se_call tk (ok__law_odd T) arity_defn (hr.mono (by decide)) rfl (sa_cons (se_var (i := 2) rfl (vis_of rfl)) (sa_nil))) (sa_cons (se_int) (sa_cons (se_un f_neg (se_int)) (sa_cons (se_str (l := [97, 98, 99, 100, 101, 102, 103, 104]) (by decide +kernel)) (sa_cons (se_int) (sa_cons (se_str (l := [97, 100, 100]) (by decide +kernel)) (sa_cons (se_str (l := [100, 105, 118]) (by decide +kernel)) (sa_cons (se_tup (sa_cons (se_str (l := [97]) (by decide +kernel)) (sa_cons (se_str (l := [97, 100, 100]) (by decide +kernel)) (sa_cons (se_str (l := [98]) (by decide +kernel)) (sa_nil))))) (sa_nil)))))))))))) (
  ss_one (ss_put (se_var (i := 3) rfl (vis_of rfl)) (se_var (i := 7) rfl (vis_of rfl)) (se_ix rfl (se_var (i := 8) rfl (vis_of rfl)) (se_call tk (ok__law_take T) arity_defn (hr.mono (by decide)) rfl (sa_cons (se_var (i := 2) rfl (vis_of rfl)) (sa_cons (se_int) (sa_nil)))))))))) (
  ss_cons (ss_set (i := 5) sc_law.nd rfl (loc_of rfl) (se_call tk (ok__law_due T) arity_defn (hr.mono (by decide)) rfl (sa_cons (se_var (i := 3) rfl (vis_of rfl)) (sa_nil)))) (
  ss_cons (ss_set (i := 6) sc_law.nd rfl (loc_of rfl) (se_call tk (ok__law_told T) arity_defn (hr.mono (by decide)) rfl (sa_cons (se_typ (f_tup rfl) rfl T.none_tuple (by first | rfl | decide +kernel) (sa_cons (se_var (i := 3) rfl (vis_of rfl)) (sa_nil))) (sa_nil)))) (
  ss_one (ss_if (st_or (st_and (st_cmp (f_eq0 rfl hr) (se_ix rfl (se_var (i := 5) rfl (vis_of rfl)) (se_int)) (se_str (l := [109, 97, 100, 101]) (by decide +kernel))) (st_and1 (st_cmp (f_ne0 rfl hr) (se_var (i := 6) rfl (vis_of rfl)) (se_var (i := 5) rfl (vis_of rfl))))) (st_or1 (st_and (st_cmp (f_ne0 rfl hr) (se_ix rfl (se_var (i := 5) rfl (vis_of rfl)) (se_int)) (se_str (l := [109, 97, 100, 101]) (by decide +kernel))) (st_and1 (st_not (st_val (se_call tk (ok__law_held T) arity_defn (hr.mono (by decide)) rfl (sa_cons (se_var (i := 6) rfl (vis_of rfl)) (sa_cons (se_var (i := 5) rfl (vis_of rfl)) (sa_nil)))))))))) (ss_one (ss_ret (se_bl))) (ss_nil))))))))) (
  ss_one (ss_ret (se_call0 tk (ok__law_great_refused T) arity_defn (hr.mono (by decide)) rfl)))
end
theorem all_mk {P : Program} {w : World} {K : PySem.W.Frag} {h : Heap} {mg : Str → Option Value} {fa : Addr} (X : K.In h) (Gn : h.Ns mainGlobals mg) (hfa : mg "law" = some (.ref fa))
    {f__law_pile f__law_mixed f__law_take f__law_drawn_word f__law_drawn_value f__law_any_statement f__law_odd C_NoName C_NoOperator C_NoValue C_NoText C_Statement C_Set C_Copy C_Read C_Write f__law_is_name f__law_whole f__law_is_value f__law_due f_is_name C_PlaceError xN_NoName f_NoName___init__ cda_NoName___init__ cc_NoName___init__ f_must_be_name f_is_integer f_is_value xN_NoValue f_NoValue___init__ cda_NoValue___init__ cc_NoValue___init__ f_must_be_value a_Statement_OPERATORS xN_NoOperator f_NoOperator___init__ cda_NoOperator___init__ cc_NoOperator___init__ f_Set___init__ f_Assign___init__ cda_Set___init__ cc_Set___init__ D_Set___init__ f_Copy___init__ cda_Copy___init__ cc_Copy___init__ D_Copy___init__ f_Write___init__ f__law_made f_Set_words p_Set_words f_Copy_words p_Copy_words f_Read_words p_Read_words f_Write_words p_Write_words f_Statement_text p_Statement_text f__law_told f__law_alike f__law_held f__law_great_refused f_law : Addr} {oc__law_pile kV__law_pile dc__law_pile pm__law_pile cd__law_pile ct__law_pile oc__law_mixed kV__law_mixed dc__law_mixed pm__law_mixed cd__law_mixed ct__law_mixed oc__law_take kV__law_take dc__law_take pm__law_take cd__law_take ct__law_take oc__law_drawn_word kV__law_drawn_word dc__law_drawn_word pm__law_drawn_word cd__law_drawn_word ct__law_drawn_word oc__law_drawn_value kV__law_drawn_value dc__law_drawn_value pm__law_drawn_value cd__law_drawn_value ct__law_drawn_value oc__law_any_statement kV__law_any_statement dc__law_any_statement pm__law_any_statement cd__law_any_statement ct__law_any_statement oc__law_odd kV__law_odd dc__law_odd pm__law_odd cd__law_odd ct__law_odd oc__law_is_name kV__law_is_name dc__law_is_name pm__law_is_name cd__law_is_name ct__law_is_name oc__law_whole kV__law_whole dc__law_whole pm__law_whole cd__law_whole ct__law_whole oc__law_is_value kV__law_is_value dc__law_is_value pm__law_is_value cd__law_is_value ct__law_is_value oc__law_due kV__law_due dc__law_due pm__law_due cd__law_due ct__law_due oc_is_name kV_is_name dc_is_name pm_is_name cd_is_name ct_is_name oc_NoName___init__ dc_NoName___init__ pm_NoName___init__ ct_NoName___init__ ccl_NoName___init__ el_NoName___init__ oc_must_be_name kV_must_be_name dc_must_be_name pm_must_be_name cd_must_be_name ct_must_be_name oc_is_integer kV_is_integer dc_is_integer pm_is_integer cd_is_integer ct_is_integer oc_is_value kV_is_value dc_is_value pm_is_value cd_is_value ct_is_value oc_NoValue___init__ dc_NoValue___init__ pm_NoValue___init__ ct_NoValue___init__ ccl_NoValue___init__ el_NoValue___init__ oc_must_be_value kV_must_be_value dc_must_be_value pm_must_be_value cd_must_be_value ct_must_be_value oc_NoOperator___init__ dc_NoOperator___init__ pm_NoOperator___init__ ct_NoOperator___init__ ccl_NoOperator___init__ el_NoOperator___init__ oc_Assign___init__ kV_Assign___init__ dc_Assign___init__ pm_Assign___init__ cd_Assign___init__ ct_Assign___init__ oc_Set___init__ dc_Set___init__ pm_Set___init__ ct_Set___init__ ccl_Set___init__ el_Set___init__ oc_Copy___init__ dc_Copy___init__ pm_Copy___init__ ct_Copy___init__ ccl_Copy___init__ el_Copy___init__ oc_Write___init__ kV_Write___init__ dc_Write___init__ pm_Write___init__ cd_Write___init__ ct_Write___init__ oc__law_made kV__law_made dc__law_made pm__law_made cd__law_made ct__law_made oc_Set_words kV_Set_words dc_Set_words pm_Set_words cd_Set_words ct_Set_words oc_Copy_words kV_Copy_words dc_Copy_words pm_Copy_words cd_Copy_words ct_Copy_words oc_Read_words kV_Read_words dc_Read_words pm_Read_words cd_Read_words ct_Read_words oc_Write_words kV_Write_words dc_Write_words pm_Write_words cd_Write_words ct_Write_words oc_Statement_text kV_Statement_text dc_Statement_text pm_Statement_text cd_Statement_text ct_Statement_text oc__law_told kV__law_told dc__law_told pm__law_told cd__law_told ct__law_told oc__law_alike kV__law_alike dc__law_alike pm__law_alike cd__law_alike ct__law_alike oc__law_held kV__law_held dc__law_held pm__law_held cd__law_held ct__law_held oc__law_great_refused kV__law_great_refused dc__law_great_refused pm__law_great_refused cd__law_great_refused ct__law_great_refused oc_law kV_law dc_law pm_law cd_law ct_law : Value} {od__law_pile an__law_pile od__law_mixed an__law_mixed od__law_take an__law_take od__law_drawn_word an__law_drawn_word od__law_drawn_value an__law_drawn_value od__law_any_statement an__law_any_statement od__law_odd an__law_odd od__law_is_name an__law_is_name od__law_whole an__law_whole od__law_is_value an__law_is_value od__law_due an__law_due od_is_name an_is_name xdd_NoName od_NoName___init__ an_NoName___init__ cdd_NoName___init__ eld_NoName___init__ od_must_be_name an_must_be_name od_is_integer an_is_integer od_is_value an_is_value xdd_NoValue od_NoValue___init__ an_NoValue___init__ cdd_NoValue___init__ eld_NoValue___init__ od_must_be_value an_must_be_value dd_Statement_OPERATORS xdd_NoOperator od_NoOperator___init__ an_NoOperator___init__ cdd_NoOperator___init__ eld_NoOperator___init__ od_Assign___init__ an_Assign___init__ od_Set___init__ an_Set___init__ cdd_Set___init__ eld_Set___init__ od_Copy___init__ an_Copy___init__ cdd_Copy___init__ eld_Copy___init__ od_Write___init__ an_Write___init__ od__law_made an__law_made od_Set_words an_Set_words od_Copy_words an_Copy_words od_Read_words an_Read_words od_Write_words an_Write_words od_Statement_text an_Statement_text od__law_told an__law_told od__law_alike an__law_alike od__law_held an__law_held od__law_great_refused an__law_great_refused od_law an_law : Option Addr} {sl__law_pile sl__law_mixed sl__law_take sl__law_drawn_word sl__law_drawn_value sl__law_any_statement sl__law_odd sl__law_is_name sl__law_whole sl__law_is_value sl__law_due sl_is_name sl_NoName___init__ ccs_NoName___init__ esl_NoName___init__ sl_must_be_name sl_is_integer sl_is_value sl_NoValue___init__ ccs_NoValue___init__ esl_NoValue___init__ sl_must_be_value sl_Statement_OPERATORS sl_NoOperator___init__ ccs_NoOperator___init__ esl_NoOperator___init__ sl_Assign___init__ sl_Set___init__ ccs_Set___init__ esl_Set___init__ sl_Copy___init__ ccs_Copy___init__ esl_Copy___init__ sl_Write___init__ sl__law_made sl_Set_words sl_Copy_words sl_Read_words sl_Write_words sl_Statement_text sl__law_told sl__law_alike sl__law_held sl__law_great_refused sl_law : Array (Option Value)} {kd_NoName kd_NoOperator kd_NoValue kd_NoText kd_Statement cdD_Set___init__ cdD_Copy___init__ kd_PlaceError : ClassData} {t_M_MOST_LETTERS t_M_LETTERS tf_NoName___init__ t_M_MOST_VALUE tf_NoValue___init__ t_Statement_OPERATORS_0 t_Statement_OPERATORS_1 t_Statement_OPERATORS_2 tf_NoOperator___init__ tf_Set___init__ tf_Copy___init__ t_Set_WORD t_Copy_WORD t_Read_WORD t_Write_WORD : Tok} {xnm_NoName xqn_NoName fi_NoName___init__ xnm_NoValue xqn_NoValue fi_NoValue___init__ xnm_NoOperator xqn_NoOperator fi_NoOperator___init__ fi_Set___init__ fi_Copy___init__ : Str} {xbs_NoName xsub_NoName xbs_NoValue xsub_NoValue xbs_NoOperator xsub_NoOperator pr_Set_words pr_Copy_words pr_Read_words pr_Write_words pr_Statement_text : List Value} {xsn_NoName xsn_NoValue xsn_NoOperator : List Str} {xab_NoName xab_NoValue xab_NoOperator : Bool} {xcol_NoName xcol_NoValue xcol_NoOperator : Option Bool} {xm0_NoName xm1_NoName xm2_NoName xm3_NoName xm5_NoName xm0_NoValue xm1_NoValue xm2_NoValue xm3_NoValue xm5_NoValue xm0_NoOperator xm1_NoOperator xm2_NoOperator xm3_NoOperator xm5_NoOperator : Option Value} {vs_NoName___init__ vs_NoValue___init__ vs_NoOperator___init__ vs_Set___init__ vs_Copy___init__ : Array Value} {nn_Statement_OPERATORS : Nat}
    (z_range : PySem.W.nsIn K mainGlobals "range" = some none)
    (z_len : PySem.W.nsIn K mainGlobals "len" = some none)
    (z_int : PySem.W.nsIn K mainGlobals "int" = some none)
    (z_abs : PySem.W.nsIn K mainGlobals "abs" = some none)
    (a__law_pile : PySem.W.nsIn K mainGlobals "_law_pile" = some (some (.ref f__law_pile)))
    (l__law_pile : K.lookup f__law_pile = some ⟨oc__law_pile, od__law_pile, .func (PySem.W.fnOf "_law_pile" "_law_pile" (defArgs st__law_pile) (defBody st__law_pile) (defScope st__law_pile) .none kV__law_pile dc__law_pile pm__law_pile an__law_pile cd__law_pile ct__law_pile), sl__law_pile⟩)
    (c__law_pile : PySem.W.codeIn K cd__law_pile "_law_pile" = true)
    (k__law_pile : PySem.W.keepIn K (.ref f__law_pile) = true)
    (z_list : PySem.W.nsIn K mainGlobals "list" = some none)
    (a__law_mixed : PySem.W.nsIn K mainGlobals "_law_mixed" = some (some (.ref f__law_mixed)))
    (l__law_mixed : K.lookup f__law_mixed = some ⟨oc__law_mixed, od__law_mixed, .func (PySem.W.fnOf "_law_mixed" "_law_mixed" (defArgs st__law_mixed) (defBody st__law_mixed) (defScope st__law_mixed) .none kV__law_mixed dc__law_mixed pm__law_mixed an__law_mixed cd__law_mixed ct__law_mixed), sl__law_mixed⟩)
    (c__law_mixed : PySem.W.codeIn K cd__law_mixed "_law_mixed" = true)
    (k__law_mixed : PySem.W.keepIn K (.ref f__law_mixed) = true)
    (a__law_take : PySem.W.nsIn K mainGlobals "_law_take" = some (some (.ref f__law_take)))
    (l__law_take : K.lookup f__law_take = some ⟨oc__law_take, od__law_take, .func (PySem.W.fnOf "_law_take" "_law_take" (defArgs st__law_take) (defBody st__law_take) (defScope st__law_take) .none kV__law_take dc__law_take pm__law_take an__law_take cd__law_take ct__law_take), sl__law_take⟩)
    (c__law_take : PySem.W.codeIn K cd__law_take "_law_take" = true)
    (k__law_take : PySem.W.keepIn K (.ref f__law_take) = true)
    (a__law_drawn_word : PySem.W.nsIn K mainGlobals "_law_drawn_word" = some (some (.ref f__law_drawn_word)))
    (l__law_drawn_word : K.lookup f__law_drawn_word = some ⟨oc__law_drawn_word, od__law_drawn_word, .func (PySem.W.fnOf "_law_drawn_word" "_law_drawn_word" (defArgs st__law_drawn_word) (defBody st__law_drawn_word) (defScope st__law_drawn_word) .none kV__law_drawn_word dc__law_drawn_word pm__law_drawn_word an__law_drawn_word cd__law_drawn_word ct__law_drawn_word), sl__law_drawn_word⟩)
    (c__law_drawn_word : PySem.W.codeIn K cd__law_drawn_word "_law_drawn_word" = true)
    (k__law_drawn_word : PySem.W.keepIn K (.ref f__law_drawn_word) = true)
    (a__law_drawn_value : PySem.W.nsIn K mainGlobals "_law_drawn_value" = some (some (.ref f__law_drawn_value)))
    (l__law_drawn_value : K.lookup f__law_drawn_value = some ⟨oc__law_drawn_value, od__law_drawn_value, .func (PySem.W.fnOf "_law_drawn_value" "_law_drawn_value" (defArgs st__law_drawn_value) (defBody st__law_drawn_value) (defScope st__law_drawn_value) .none kV__law_drawn_value dc__law_drawn_value pm__law_drawn_value an__law_drawn_value cd__law_drawn_value ct__law_drawn_value), sl__law_drawn_value⟩)
    (c__law_drawn_value : PySem.W.codeIn K cd__law_drawn_value "_law_drawn_value" = true)
    (k__law_drawn_value : PySem.W.keepIn K (.ref f__law_drawn_value) = true)
    (a__law_any_statement : PySem.W.nsIn K mainGlobals "_law_any_statement" = some (some (.ref f__law_any_statement)))
    (l__law_any_statement : K.lookup f__law_any_statement = some ⟨oc__law_any_statement, od__law_any_statement, .func (PySem.W.fnOf "_law_any_statement" "_law_any_statement" (defArgs st__law_any_statement) (defBody st__law_any_statement) (defScope st__law_any_statement) .none kV__law_any_statement dc__law_any_statement pm__law_any_statement an__law_any_statement cd__law_any_statement ct__law_any_statement), sl__law_any_statement⟩)
    (c__law_any_statement : PySem.W.codeIn K cd__law_any_statement "_law_any_statement" = true)
    (k__law_any_statement : PySem.W.keepIn K (.ref f__law_any_statement) = true)
    (a__law_odd : PySem.W.nsIn K mainGlobals "_law_odd" = some (some (.ref f__law_odd)))
    (l__law_odd : K.lookup f__law_odd = some ⟨oc__law_odd, od__law_odd, .func (PySem.W.fnOf "_law_odd" "_law_odd" (defArgs st__law_odd) (defBody st__law_odd) (defScope st__law_odd) .none kV__law_odd dc__law_odd pm__law_odd an__law_odd cd__law_odd ct__law_odd), sl__law_odd⟩)
    (c__law_odd : PySem.W.codeIn K cd__law_odd "_law_odd" = true)
    (k__law_odd : PySem.W.keepIn K (.ref f__law_odd) = true)
    (a_NoName : PySem.W.nsIn K mainGlobals "NoName" = some (some (.ref C_NoName)))
    (cd_NoName : PySem.W.clsIn K C_NoName = some kd_NoName)
    (ct_NoName : PySem.W.typeIn K (.ref C_NoName) = some (.type "type"))
    (eC_NoName : PySem.W.subIn K (.ref C_NoName) (.type "BaseException") = some true)
    (is_NoneType_NoName : PySem.W.subIn K (.type "NoneType") (.ref C_NoName) = some false)
    (is_bool_NoName : PySem.W.subIn K (.type "bool") (.ref C_NoName) = some false)
    (is_int_NoName : PySem.W.subIn K (.type "int") (.ref C_NoName) = some false)
    (is_str_NoName : PySem.W.subIn K (.type "str") (.ref C_NoName) = some false)
    (is_tuple_NoName : PySem.W.subIn K (.type "tuple") (.ref C_NoName) = some false)
    (is_list_NoName : PySem.W.subIn K (.type "list") (.ref C_NoName) = some false)
    (is_dict_NoName : PySem.W.subIn K (.type "dict") (.ref C_NoName) = some false)
    (a_NoOperator : PySem.W.nsIn K mainGlobals "NoOperator" = some (some (.ref C_NoOperator)))
    (cd_NoOperator : PySem.W.clsIn K C_NoOperator = some kd_NoOperator)
    (ct_NoOperator : PySem.W.typeIn K (.ref C_NoOperator) = some (.type "type"))
    (eC_NoOperator : PySem.W.subIn K (.ref C_NoOperator) (.type "BaseException") = some true)
    (is_NoneType_NoOperator : PySem.W.subIn K (.type "NoneType") (.ref C_NoOperator) = some false)
    (is_bool_NoOperator : PySem.W.subIn K (.type "bool") (.ref C_NoOperator) = some false)
    (is_int_NoOperator : PySem.W.subIn K (.type "int") (.ref C_NoOperator) = some false)
    (is_str_NoOperator : PySem.W.subIn K (.type "str") (.ref C_NoOperator) = some false)
    (is_tuple_NoOperator : PySem.W.subIn K (.type "tuple") (.ref C_NoOperator) = some false)
    (is_list_NoOperator : PySem.W.subIn K (.type "list") (.ref C_NoOperator) = some false)
    (is_dict_NoOperator : PySem.W.subIn K (.type "dict") (.ref C_NoOperator) = some false)
    (a_NoValue : PySem.W.nsIn K mainGlobals "NoValue" = some (some (.ref C_NoValue)))
    (cd_NoValue : PySem.W.clsIn K C_NoValue = some kd_NoValue)
    (ct_NoValue : PySem.W.typeIn K (.ref C_NoValue) = some (.type "type"))
    (eC_NoValue : PySem.W.subIn K (.ref C_NoValue) (.type "BaseException") = some true)
    (is_NoneType_NoValue : PySem.W.subIn K (.type "NoneType") (.ref C_NoValue) = some false)
    (is_bool_NoValue : PySem.W.subIn K (.type "bool") (.ref C_NoValue) = some false)
    (is_int_NoValue : PySem.W.subIn K (.type "int") (.ref C_NoValue) = some false)
    (is_str_NoValue : PySem.W.subIn K (.type "str") (.ref C_NoValue) = some false)
    (is_tuple_NoValue : PySem.W.subIn K (.type "tuple") (.ref C_NoValue) = some false)
    (is_list_NoValue : PySem.W.subIn K (.type "list") (.ref C_NoValue) = some false)
    (is_dict_NoValue : PySem.W.subIn K (.type "dict") (.ref C_NoValue) = some false)
    (xga_NoName : PySem.W.findIn K (.ref C_NoName) "__getattribute__" = some (some (.builtin "BaseException.__getattribute__")))
    (xgt_NoName : PySem.W.findIn K (.ref C_NoName) "__getattr__" = some none)
    (ia_NoName : PySem.W.findIn K (.ref C_NoName) "__class__" = some (some (.builtin "object.__class__")))
    (ig : PySem.W.specialIn K (.builtin "object.__class__") "__get__" = some (some (.builtin "getset_descriptor.__get__")))
    (it : PySem.W.takesIn K (.builtin "object.__class__") = some true)
    (im_NoName : PySem.W.mroIn K C_NoName (.type "object") = some true)
    (hd_NoName : PySem.W.hasDictIn K C_NoName = true)
    (is_NoName_NoName : PySem.W.subIn K (.ref C_NoName) (.ref C_NoName) = some true)
    (is_NoName_NoOperator : PySem.W.subIn K (.ref C_NoName) (.ref C_NoOperator) = some false)
    (is_NoName_NoValue : PySem.W.subIn K (.ref C_NoName) (.ref C_NoValue) = some false)
    (xga_NoValue : PySem.W.findIn K (.ref C_NoValue) "__getattribute__" = some (some (.builtin "BaseException.__getattribute__")))
    (xgt_NoValue : PySem.W.findIn K (.ref C_NoValue) "__getattr__" = some none)
    (ia_NoValue : PySem.W.findIn K (.ref C_NoValue) "__class__" = some (some (.builtin "object.__class__")))
    (im_NoValue : PySem.W.mroIn K C_NoValue (.type "object") = some true)
    (hd_NoValue : PySem.W.hasDictIn K C_NoValue = true)
    (is_NoValue_NoValue : PySem.W.subIn K (.ref C_NoValue) (.ref C_NoValue) = some true)
    (is_NoValue_NoName : PySem.W.subIn K (.ref C_NoValue) (.ref C_NoName) = some false)
    (is_NoValue_NoOperator : PySem.W.subIn K (.ref C_NoValue) (.ref C_NoOperator) = some false)
    (a_NoText : PySem.W.nsIn K mainGlobals "NoText" = some (some (.ref C_NoText)))
    (cd_NoText : PySem.W.clsIn K C_NoText = some kd_NoText)
    (ct_NoText : PySem.W.typeIn K (.ref C_NoText) = some (.type "type"))
    (eC_NoText : PySem.W.subIn K (.ref C_NoText) (.type "BaseException") = some true)
    (xga_NoText : PySem.W.findIn K (.ref C_NoText) "__getattribute__" = some (some (.builtin "BaseException.__getattribute__")))
    (xgt_NoText : PySem.W.findIn K (.ref C_NoText) "__getattr__" = some none)
    (ia_NoText : PySem.W.findIn K (.ref C_NoText) "__class__" = some (some (.builtin "object.__class__")))
    (im_NoText : PySem.W.mroIn K C_NoText (.type "object") = some true)
    (hd_NoText : PySem.W.hasDictIn K C_NoText = true)
    (is_NoText_NoText : PySem.W.subIn K (.ref C_NoText) (.ref C_NoText) = some true)
    (is_NoText_NoName : PySem.W.subIn K (.ref C_NoText) (.ref C_NoName) = some false)
    (is_NoText_NoOperator : PySem.W.subIn K (.ref C_NoText) (.ref C_NoOperator) = some false)
    (is_NoText_NoValue : PySem.W.subIn K (.ref C_NoText) (.ref C_NoValue) = some false)
    (xga_NoOperator : PySem.W.findIn K (.ref C_NoOperator) "__getattribute__" = some (some (.builtin "BaseException.__getattribute__")))
    (xgt_NoOperator : PySem.W.findIn K (.ref C_NoOperator) "__getattr__" = some none)
    (ia_NoOperator : PySem.W.findIn K (.ref C_NoOperator) "__class__" = some (some (.builtin "object.__class__")))
    (im_NoOperator : PySem.W.mroIn K C_NoOperator (.type "object") = some true)
    (hd_NoOperator : PySem.W.hasDictIn K C_NoOperator = true)
    (is_NoOperator_NoOperator : PySem.W.subIn K (.ref C_NoOperator) (.ref C_NoOperator) = some true)
    (is_NoOperator_NoName : PySem.W.subIn K (.ref C_NoOperator) (.ref C_NoName) = some false)
    (is_NoOperator_NoValue : PySem.W.subIn K (.ref C_NoOperator) (.ref C_NoValue) = some false)
    (a_Statement : PySem.W.nsIn K mainGlobals "Statement" = some (some (.ref C_Statement)))
    (cd_Statement : PySem.W.clsIn K C_Statement = some kd_Statement)
    (ct_Statement : PySem.W.typeIn K (.ref C_Statement) = some (.type "type"))
    (is_NoneType_Statement : PySem.W.subIn K (.type "NoneType") (.ref C_Statement) = some false)
    (is_bool_Statement : PySem.W.subIn K (.type "bool") (.ref C_Statement) = some false)
    (is_int_Statement : PySem.W.subIn K (.type "int") (.ref C_Statement) = some false)
    (is_str_Statement : PySem.W.subIn K (.type "str") (.ref C_Statement) = some false)
    (is_tuple_Statement : PySem.W.subIn K (.type "tuple") (.ref C_Statement) = some false)
    (is_list_Statement : PySem.W.subIn K (.type "list") (.ref C_Statement) = some false)
    (is_dict_Statement : PySem.W.subIn K (.type "dict") (.ref C_Statement) = some false)
    (a_Set : PySem.W.nsIn K mainGlobals "Set" = some (some (.ref C_Set)))
    (pg_Set : PySem.W.plainGet K C_Set Str.empty = true)
    (hd_Set : PySem.W.hasDictIn K C_Set = true)
    (po_Set : PySem.W.plainOver K C_Set = true)
    (sa_Set : PySem.W.findIn K (.ref C_Set) "__setattr__" = some (some (.builtin "object.__setattr__")))
    (ia_Set : PySem.W.findIn K (.ref C_Set) "__class__" = some (some (.builtin "object.__class__")))
    (im_Set : PySem.W.mroIn K C_Set (.type "object") = some true)
    (is_Set_bool : PySem.W.subIn K (.ref C_Set) (.type "bool") = some false)
    (is_Set_dict : PySem.W.subIn K (.ref C_Set) (.type "dict") = some false)
    (is_Set_int : PySem.W.subIn K (.ref C_Set) (.type "int") = some false)
    (is_Set_list : PySem.W.subIn K (.ref C_Set) (.type "list") = some false)
    (is_Set_str : PySem.W.subIn K (.ref C_Set) (.type "str") = some false)
    (is_Set_Set : PySem.W.subIn K (.ref C_Set) (.ref C_Set) = some true)
    (is_Set_Statement : PySem.W.subIn K (.ref C_Set) (.ref C_Statement) = some true)
    (a_Copy : PySem.W.nsIn K mainGlobals "Copy" = some (some (.ref C_Copy)))
    (pg_Copy : PySem.W.plainGet K C_Copy Str.empty = true)
    (hd_Copy : PySem.W.hasDictIn K C_Copy = true)
    (po_Copy : PySem.W.plainOver K C_Copy = true)
    (sa_Copy : PySem.W.findIn K (.ref C_Copy) "__setattr__" = some (some (.builtin "object.__setattr__")))
    (ia_Copy : PySem.W.findIn K (.ref C_Copy) "__class__" = some (some (.builtin "object.__class__")))
    (im_Copy : PySem.W.mroIn K C_Copy (.type "object") = some true)
    (is_Copy_bool : PySem.W.subIn K (.ref C_Copy) (.type "bool") = some false)
    (is_Copy_dict : PySem.W.subIn K (.ref C_Copy) (.type "dict") = some false)
    (is_Copy_int : PySem.W.subIn K (.ref C_Copy) (.type "int") = some false)
    (is_Copy_list : PySem.W.subIn K (.ref C_Copy) (.type "list") = some false)
    (is_Copy_str : PySem.W.subIn K (.ref C_Copy) (.type "str") = some false)
    (is_Copy_Copy : PySem.W.subIn K (.ref C_Copy) (.ref C_Copy) = some true)
    (is_Copy_Statement : PySem.W.subIn K (.ref C_Copy) (.ref C_Statement) = some true)
    (a_Read : PySem.W.nsIn K mainGlobals "Read" = some (some (.ref C_Read)))
    (pg_Read : PySem.W.plainGet K C_Read Str.empty = true)
    (hd_Read : PySem.W.hasDictIn K C_Read = true)
    (po_Read : PySem.W.plainOver K C_Read = true)
    (sa_Read : PySem.W.findIn K (.ref C_Read) "__setattr__" = some (some (.builtin "object.__setattr__")))
    (ia_Read : PySem.W.findIn K (.ref C_Read) "__class__" = some (some (.builtin "object.__class__")))
    (im_Read : PySem.W.mroIn K C_Read (.type "object") = some true)
    (is_Read_bool : PySem.W.subIn K (.ref C_Read) (.type "bool") = some false)
    (is_Read_dict : PySem.W.subIn K (.ref C_Read) (.type "dict") = some false)
    (is_Read_int : PySem.W.subIn K (.ref C_Read) (.type "int") = some false)
    (is_Read_list : PySem.W.subIn K (.ref C_Read) (.type "list") = some false)
    (is_Read_str : PySem.W.subIn K (.ref C_Read) (.type "str") = some false)
    (is_Read_Read : PySem.W.subIn K (.ref C_Read) (.ref C_Read) = some true)
    (is_Read_Statement : PySem.W.subIn K (.ref C_Read) (.ref C_Statement) = some true)
    (a_Write : PySem.W.nsIn K mainGlobals "Write" = some (some (.ref C_Write)))
    (pg_Write : PySem.W.plainGet K C_Write Str.empty = true)
    (hd_Write : PySem.W.hasDictIn K C_Write = true)
    (po_Write : PySem.W.plainOver K C_Write = true)
    (sa_Write : PySem.W.findIn K (.ref C_Write) "__setattr__" = some (some (.builtin "object.__setattr__")))
    (ia_Write : PySem.W.findIn K (.ref C_Write) "__class__" = some (some (.builtin "object.__class__")))
    (im_Write : PySem.W.mroIn K C_Write (.type "object") = some true)
    (is_Write_bool : PySem.W.subIn K (.ref C_Write) (.type "bool") = some false)
    (is_Write_dict : PySem.W.subIn K (.ref C_Write) (.type "dict") = some false)
    (is_Write_int : PySem.W.subIn K (.ref C_Write) (.type "int") = some false)
    (is_Write_list : PySem.W.subIn K (.ref C_Write) (.type "list") = some false)
    (is_Write_str : PySem.W.subIn K (.ref C_Write) (.type "str") = some false)
    (is_Write_Write : PySem.W.subIn K (.ref C_Write) (.ref C_Write) = some true)
    (is_Write_Statement : PySem.W.subIn K (.ref C_Write) (.ref C_Statement) = some true)
    (z_isinstance : PySem.W.nsIn K mainGlobals "isinstance" = some none)
    (z_str : PySem.W.nsIn K mainGlobals "str" = some none)
    (a__law_is_name : PySem.W.nsIn K mainGlobals "_law_is_name" = some (some (.ref f__law_is_name)))
    (l__law_is_name : K.lookup f__law_is_name = some ⟨oc__law_is_name, od__law_is_name, .func (PySem.W.fnOf "_law_is_name" "_law_is_name" (defArgs st__law_is_name) (defBody st__law_is_name) (defScope st__law_is_name) .none kV__law_is_name dc__law_is_name pm__law_is_name an__law_is_name cd__law_is_name ct__law_is_name), sl__law_is_name⟩)
    (c__law_is_name : PySem.W.codeIn K cd__law_is_name "_law_is_name" = true)
    (k__law_is_name : PySem.W.keepIn K (.ref f__law_is_name) = true)
    (z_bool : PySem.W.nsIn K mainGlobals "bool" = some none)
    (a__law_whole : PySem.W.nsIn K mainGlobals "_law_whole" = some (some (.ref f__law_whole)))
    (l__law_whole : K.lookup f__law_whole = some ⟨oc__law_whole, od__law_whole, .func (PySem.W.fnOf "_law_whole" "_law_whole" (defArgs st__law_whole) (defBody st__law_whole) (defScope st__law_whole) .none kV__law_whole dc__law_whole pm__law_whole an__law_whole cd__law_whole ct__law_whole), sl__law_whole⟩)
    (c__law_whole : PySem.W.codeIn K cd__law_whole "_law_whole" = true)
    (k__law_whole : PySem.W.keepIn K (.ref f__law_whole) = true)
    (a__law_is_value : PySem.W.nsIn K mainGlobals "_law_is_value" = some (some (.ref f__law_is_value)))
    (l__law_is_value : K.lookup f__law_is_value = some ⟨oc__law_is_value, od__law_is_value, .func (PySem.W.fnOf "_law_is_value" "_law_is_value" (defArgs st__law_is_value) (defBody st__law_is_value) (defScope st__law_is_value) .none kV__law_is_value dc__law_is_value pm__law_is_value an__law_is_value cd__law_is_value ct__law_is_value), sl__law_is_value⟩)
    (c__law_is_value : PySem.W.codeIn K cd__law_is_value "_law_is_value" = true)
    (k__law_is_value : PySem.W.keepIn K (.ref f__law_is_value) = true)
    (a__law_due : PySem.W.nsIn K mainGlobals "_law_due" = some (some (.ref f__law_due)))
    (l__law_due : K.lookup f__law_due = some ⟨oc__law_due, od__law_due, .func (PySem.W.fnOf "_law_due" "_law_due" (defArgs st__law_due) (defBody st__law_due) (defScope st__law_due) .none kV__law_due dc__law_due pm__law_due an__law_due cd__law_due ct__law_due), sl__law_due⟩)
    (c__law_due : PySem.W.codeIn K cd__law_due "_law_due" = true)
    (k__law_due : PySem.W.keepIn K (.ref f__law_due) = true)
    (v_MOST_LETTERS : PySem.W.nsIn K mainGlobals "MOST_LETTERS" = some (some (.int 8 t_M_MOST_LETTERS)))
    (z_all : PySem.W.nsIn K mainGlobals "all" = some none)
    (v_LETTERS : PySem.W.nsIn K mainGlobals "LETTERS" = some (some (.str "abcdefghijklmnopqrstuvwxyz" t_M_LETTERS)))
    (a_is_name : PySem.W.nsIn K mainGlobals "is_name" = some (some (.ref f_is_name)))
    (l_is_name : K.lookup f_is_name = some ⟨oc_is_name, od_is_name, .func (PySem.W.fnOf "is_name" "is_name" (defArgs st_is_name) (defBody st_is_name) (defScope st_is_name) .none kV_is_name dc_is_name pm_is_name an_is_name cd_is_name ct_is_name), sl_is_name⟩)
    (c_is_name : PySem.W.codeIn K cd_is_name "is_name" = true)
    (k_is_name : PySem.W.keepIn K (.ref f_is_name) = true)
    (a_PlaceError : PySem.W.nsIn K mainGlobals "PlaceError" = some (some (.ref C_PlaceError)))
    (xl_NoName : K.lookup C_NoName = some (excClassObj xnm_NoName xqn_NoName C_NoName xN_NoName xbs_NoName [.ref C_PlaceError, .type "ValueError", .type "Exception", .type "BaseException", .type "object"] true xsn_NoName xsub_NoName xab_NoName xcol_NoName xdd_NoName xm0_NoName xm1_NoName xm2_NoName xm3_NoName xm5_NoName "ValueError.__new__"))
    (xsa_NoName : PySem.W.findIn K (.ref C_NoName) "__setattr__" = some (some (.builtin "object.__setattr__")))
    (kc_NoName : PySem.W.keepIn K (.ref C_NoName) = true)
    (mi_NoName : PySem.W.findIn K (.ref C_NoName) "__init__" = some (some (.ref f_NoName___init__)))
    (sc8_NoName___init__ : PySem.W.typeIn K (.ref f_NoName___init__) = some (.type "function"))
    (l_NoName___init__ : K.lookup f_NoName___init__ = some ⟨oc_NoName___init__, od_NoName___init__, .func (PySem.W.ksFn "__init__" "NoName.__init__" (defArgs st_NoName___init__) (defBody st_NoName___init__) (defScope st_NoName___init__) .none .none dc_NoName___init__ pm_NoName___init__ an_NoName___init__ (.ref cda_NoName___init__) ct_NoName___init__ cc_NoName___init__), sl_NoName___init__⟩)
    (c_NoName___init__ : PySem.W.codeIn K (.ref cda_NoName___init__) "NoName.__init__" = true)
    (sc1_NoName___init__ : K.lookup cda_NoName___init__ = some ⟨ccl_NoName___init__, cdd_NoName___init__, .fields vs_NoName___init__, ccs_NoName___init__⟩)
    (sc2_NoName___init__ : vs_NoName___init__[2]? = some (.str fi_NoName___init__ tf_NoName___init__))
    (sc3_NoName___init__ : ((P.main.file : Str) == fi_NoName___init__) = true)
    (sc4_NoName___init__ : K.lookup cc_NoName___init__ = some ⟨el_NoName___init__, eld_NoName___init__, .cell (some (.ref C_NoName)), esl_NoName___init__⟩)
    (xcm_NoName : PySem.W.mroIn K C_NoName (.ref C_NoName) = some true)
    (xve_NoName : PySem.W.subIn K (.ref C_NoName) (.type "ValueError") = some true)
    (xnx_NoName : PySem.W.ks_superIn K C_NoName C_NoName "__init__" = some (some (.builtin "ValueError.__init__")))
    (z_super : PySem.W.nsIn K mainGlobals "super" = some none)
    (zst : PySem.W.nsIn K PySem.cStatics "thirdparty.any" = some none)
    (ztop : (P.main.scope.names.lookup ("super" : Str)).isSome = false)
    (xno_NoName_value : PySem.W.findIn K (.ref C_NoName) "value" = some none)
    (a_must_be_name : PySem.W.nsIn K mainGlobals "must_be_name" = some (some (.ref f_must_be_name)))
    (l_must_be_name : K.lookup f_must_be_name = some ⟨oc_must_be_name, od_must_be_name, .func (PySem.W.fnOf "must_be_name" "must_be_name" (defArgs st_must_be_name) (defBody st_must_be_name) (defScope st_must_be_name) .none kV_must_be_name dc_must_be_name pm_must_be_name an_must_be_name cd_must_be_name ct_must_be_name), sl_must_be_name⟩)
    (c_must_be_name : PySem.W.codeIn K cd_must_be_name "must_be_name" = true)
    (k_must_be_name : PySem.W.keepIn K (.ref f_must_be_name) = true)
    (n_Set_target : PySem.W.findIn K (.ref C_Set) "target" = some none)
    (n_Copy_target : PySem.W.findIn K (.ref C_Copy) "target" = some none)
    (n_Read_target : PySem.W.findIn K (.ref C_Read) "target" = some none)
    (a_is_integer : PySem.W.nsIn K mainGlobals "is_integer" = some (some (.ref f_is_integer)))
    (l_is_integer : K.lookup f_is_integer = some ⟨oc_is_integer, od_is_integer, .func (PySem.W.fnOf "is_integer" "is_integer" (defArgs st_is_integer) (defBody st_is_integer) (defScope st_is_integer) .none kV_is_integer dc_is_integer pm_is_integer an_is_integer cd_is_integer ct_is_integer), sl_is_integer⟩)
    (c_is_integer : PySem.W.codeIn K cd_is_integer "is_integer" = true)
    (k_is_integer : PySem.W.keepIn K (.ref f_is_integer) = true)
    (v_MOST_VALUE : PySem.W.nsIn K mainGlobals "MOST_VALUE" = some (some (.int 999999 t_M_MOST_VALUE)))
    (a_is_value : PySem.W.nsIn K mainGlobals "is_value" = some (some (.ref f_is_value)))
    (l_is_value : K.lookup f_is_value = some ⟨oc_is_value, od_is_value, .func (PySem.W.fnOf "is_value" "is_value" (defArgs st_is_value) (defBody st_is_value) (defScope st_is_value) .none kV_is_value dc_is_value pm_is_value an_is_value cd_is_value ct_is_value), sl_is_value⟩)
    (c_is_value : PySem.W.codeIn K cd_is_value "is_value" = true)
    (k_is_value : PySem.W.keepIn K (.ref f_is_value) = true)
    (xl_NoValue : K.lookup C_NoValue = some (excClassObj xnm_NoValue xqn_NoValue C_NoValue xN_NoValue xbs_NoValue [.ref C_PlaceError, .type "ValueError", .type "Exception", .type "BaseException", .type "object"] true xsn_NoValue xsub_NoValue xab_NoValue xcol_NoValue xdd_NoValue xm0_NoValue xm1_NoValue xm2_NoValue xm3_NoValue xm5_NoValue "ValueError.__new__"))
    (xsa_NoValue : PySem.W.findIn K (.ref C_NoValue) "__setattr__" = some (some (.builtin "object.__setattr__")))
    (kc_NoValue : PySem.W.keepIn K (.ref C_NoValue) = true)
    (mi_NoValue : PySem.W.findIn K (.ref C_NoValue) "__init__" = some (some (.ref f_NoValue___init__)))
    (sc8_NoValue___init__ : PySem.W.typeIn K (.ref f_NoValue___init__) = some (.type "function"))
    (l_NoValue___init__ : K.lookup f_NoValue___init__ = some ⟨oc_NoValue___init__, od_NoValue___init__, .func (PySem.W.ksFn "__init__" "NoValue.__init__" (defArgs st_NoValue___init__) (defBody st_NoValue___init__) (defScope st_NoValue___init__) .none .none dc_NoValue___init__ pm_NoValue___init__ an_NoValue___init__ (.ref cda_NoValue___init__) ct_NoValue___init__ cc_NoValue___init__), sl_NoValue___init__⟩)
    (c_NoValue___init__ : PySem.W.codeIn K (.ref cda_NoValue___init__) "NoValue.__init__" = true)
    (sc1_NoValue___init__ : K.lookup cda_NoValue___init__ = some ⟨ccl_NoValue___init__, cdd_NoValue___init__, .fields vs_NoValue___init__, ccs_NoValue___init__⟩)
    (sc2_NoValue___init__ : vs_NoValue___init__[2]? = some (.str fi_NoValue___init__ tf_NoValue___init__))
    (sc3_NoValue___init__ : ((P.main.file : Str) == fi_NoValue___init__) = true)
    (sc4_NoValue___init__ : K.lookup cc_NoValue___init__ = some ⟨el_NoValue___init__, eld_NoValue___init__, .cell (some (.ref C_NoValue)), esl_NoValue___init__⟩)
    (xcm_NoValue : PySem.W.mroIn K C_NoValue (.ref C_NoValue) = some true)
    (xve_NoValue : PySem.W.subIn K (.ref C_NoValue) (.type "ValueError") = some true)
    (xnx_NoValue : PySem.W.ks_superIn K C_NoValue C_NoValue "__init__" = some (some (.builtin "ValueError.__init__")))
    (xno_NoValue_value : PySem.W.findIn K (.ref C_NoValue) "value" = some none)
    (a_must_be_value : PySem.W.nsIn K mainGlobals "must_be_value" = some (some (.ref f_must_be_value)))
    (l_must_be_value : K.lookup f_must_be_value = some ⟨oc_must_be_value, od_must_be_value, .func (PySem.W.fnOf "must_be_value" "must_be_value" (defArgs st_must_be_value) (defBody st_must_be_value) (defScope st_must_be_value) .none kV_must_be_value dc_must_be_value pm_must_be_value an_must_be_value cd_must_be_value ct_must_be_value), sl_must_be_value⟩)
    (c_must_be_value : PySem.W.codeIn K cd_must_be_value "must_be_value" = true)
    (k_must_be_value : PySem.W.keepIn K (.ref f_must_be_value) = true)
    (co_Set_OPERATORS : PySem.W.findIn K (.ref C_Set) "OPERATORS" = some (some (.ref a_Statement_OPERATORS)))
    (cg_Statement_OPERATORS : PySem.W.specialIn K (.ref a_Statement_OPERATORS) "__get__" = some none)
    (co_Copy_OPERATORS : PySem.W.findIn K (.ref C_Copy) "OPERATORS" = some (some (.ref a_Statement_OPERATORS)))
    (co_Read_OPERATORS : PySem.W.findIn K (.ref C_Read) "OPERATORS" = some (some (.ref a_Statement_OPERATORS)))
    (co_Write_OPERATORS : PySem.W.findIn K (.ref C_Write) "OPERATORS" = some (some (.ref a_Statement_OPERATORS)))
    (xl_NoOperator : K.lookup C_NoOperator = some (excClassObj xnm_NoOperator xqn_NoOperator C_NoOperator xN_NoOperator xbs_NoOperator [.ref C_PlaceError, .type "ValueError", .type "Exception", .type "BaseException", .type "object"] true xsn_NoOperator xsub_NoOperator xab_NoOperator xcol_NoOperator xdd_NoOperator xm0_NoOperator xm1_NoOperator xm2_NoOperator xm3_NoOperator xm5_NoOperator "ValueError.__new__"))
    (xsa_NoOperator : PySem.W.findIn K (.ref C_NoOperator) "__setattr__" = some (some (.builtin "object.__setattr__")))
    (kc_NoOperator : PySem.W.keepIn K (.ref C_NoOperator) = true)
    (mi_NoOperator : PySem.W.findIn K (.ref C_NoOperator) "__init__" = some (some (.ref f_NoOperator___init__)))
    (sc8_NoOperator___init__ : PySem.W.typeIn K (.ref f_NoOperator___init__) = some (.type "function"))
    (l_NoOperator___init__ : K.lookup f_NoOperator___init__ = some ⟨oc_NoOperator___init__, od_NoOperator___init__, .func (PySem.W.ksFn "__init__" "NoOperator.__init__" (defArgs st_NoOperator___init__) (defBody st_NoOperator___init__) (defScope st_NoOperator___init__) .none .none dc_NoOperator___init__ pm_NoOperator___init__ an_NoOperator___init__ (.ref cda_NoOperator___init__) ct_NoOperator___init__ cc_NoOperator___init__), sl_NoOperator___init__⟩)
    (c_NoOperator___init__ : PySem.W.codeIn K (.ref cda_NoOperator___init__) "NoOperator.__init__" = true)
    (sc1_NoOperator___init__ : K.lookup cda_NoOperator___init__ = some ⟨ccl_NoOperator___init__, cdd_NoOperator___init__, .fields vs_NoOperator___init__, ccs_NoOperator___init__⟩)
    (sc2_NoOperator___init__ : vs_NoOperator___init__[2]? = some (.str fi_NoOperator___init__ tf_NoOperator___init__))
    (sc3_NoOperator___init__ : ((P.main.file : Str) == fi_NoOperator___init__) = true)
    (sc4_NoOperator___init__ : K.lookup cc_NoOperator___init__ = some ⟨el_NoOperator___init__, eld_NoOperator___init__, .cell (some (.ref C_NoOperator)), esl_NoOperator___init__⟩)
    (xcm_NoOperator : PySem.W.mroIn K C_NoOperator (.ref C_NoOperator) = some true)
    (xve_NoOperator : PySem.W.subIn K (.ref C_NoOperator) (.type "ValueError") = some true)
    (xnx_NoOperator : PySem.W.ks_superIn K C_NoOperator C_NoOperator "__init__" = some (some (.builtin "ValueError.__init__")))
    (xno_NoOperator_value : PySem.W.findIn K (.ref C_NoOperator) "value" = some none)
    (n_Set_left : PySem.W.findIn K (.ref C_Set) "left" = some none)
    (n_Set_op : PySem.W.findIn K (.ref C_Set) "op" = some none)
    (n_Set_right : PySem.W.findIn K (.ref C_Set) "right" = some none)
    (mk_Set : PySem.W.makesIn K C_Set = true)
    (kc_Set : PySem.W.keepIn K (.ref C_Set) = true)
    (mi_Set : PySem.W.findIn K (.ref C_Set) "__init__" = some (some (.ref f_Set___init__)))
    (mf_Set___init__ : PySem.W.isFn K (.ref f_Set___init__) = true)
    (l_Set___init__ : K.lookup f_Set___init__ = some ⟨oc_Set___init__, od_Set___init__, .func (PySem.W.ksFn "__init__" "Set.__init__" (defArgs st_Set___init__) (defBody st_Set___init__) (defScope st_Set___init__) .none .none dc_Set___init__ pm_Set___init__ an_Set___init__ (.ref cda_Set___init__) ct_Set___init__ cc_Set___init__), sl_Set___init__⟩)
    (c_Set___init__ : PySem.W.codeIn K (.ref cda_Set___init__) "Set.__init__" = true)
    (sc1_Set___init__ : K.lookup cda_Set___init__ = some ⟨ccl_Set___init__, cdd_Set___init__, .fields vs_Set___init__, ccs_Set___init__⟩)
    (sc2_Set___init__ : vs_Set___init__[2]? = some (.str fi_Set___init__ tf_Set___init__))
    (sc3_Set___init__ : ((P.main.file : Str) == fi_Set___init__) = true)
    (sc4_Set___init__ : K.lookup cc_Set___init__ = some ⟨el_Set___init__, eld_Set___init__, .cell (some (.ref D_Set___init__)), esl_Set___init__⟩)
    (sc5_Set___init__ : PySem.W.clsIn K D_Set___init__ = some cdD_Set___init__)
    (sc6_Set : PySem.W.mroIn K C_Set (.ref D_Set___init__) = some true)
    (sc7_Set : PySem.W.ks_superIn K C_Set D_Set___init__ "__init__" = some (some (.ref f_Assign___init__)))
    (sc8_Assign___init__ : PySem.W.typeIn K (.ref f_Assign___init__) = some (.type "function"))
    (sc9_Assign___init__ : PySem.W.fnIn K f_Assign___init__ = true)
    (n_Copy_value : PySem.W.findIn K (.ref C_Copy) "value" = some none)
    (mk_Copy : PySem.W.makesIn K C_Copy = true)
    (kc_Copy : PySem.W.keepIn K (.ref C_Copy) = true)
    (mi_Copy : PySem.W.findIn K (.ref C_Copy) "__init__" = some (some (.ref f_Copy___init__)))
    (mf_Copy___init__ : PySem.W.isFn K (.ref f_Copy___init__) = true)
    (l_Copy___init__ : K.lookup f_Copy___init__ = some ⟨oc_Copy___init__, od_Copy___init__, .func (PySem.W.ksFn "__init__" "Copy.__init__" (defArgs st_Copy___init__) (defBody st_Copy___init__) (defScope st_Copy___init__) .none .none dc_Copy___init__ pm_Copy___init__ an_Copy___init__ (.ref cda_Copy___init__) ct_Copy___init__ cc_Copy___init__), sl_Copy___init__⟩)
    (c_Copy___init__ : PySem.W.codeIn K (.ref cda_Copy___init__) "Copy.__init__" = true)
    (sc1_Copy___init__ : K.lookup cda_Copy___init__ = some ⟨ccl_Copy___init__, cdd_Copy___init__, .fields vs_Copy___init__, ccs_Copy___init__⟩)
    (sc2_Copy___init__ : vs_Copy___init__[2]? = some (.str fi_Copy___init__ tf_Copy___init__))
    (sc3_Copy___init__ : ((P.main.file : Str) == fi_Copy___init__) = true)
    (sc4_Copy___init__ : K.lookup cc_Copy___init__ = some ⟨el_Copy___init__, eld_Copy___init__, .cell (some (.ref D_Copy___init__)), esl_Copy___init__⟩)
    (sc5_Copy___init__ : PySem.W.clsIn K D_Copy___init__ = some cdD_Copy___init__)
    (sc6_Copy : PySem.W.mroIn K C_Copy (.ref D_Copy___init__) = some true)
    (sc7_Copy : PySem.W.ks_superIn K C_Copy D_Copy___init__ "__init__" = some (some (.ref f_Assign___init__)))
    (mk_Read : PySem.W.makesIn K C_Read = true)
    (kc_Read : PySem.W.keepIn K (.ref C_Read) = true)
    (mi_Read : PySem.W.findIn K (.ref C_Read) "__init__" = some (some (.ref f_Assign___init__)))
    (mf_Assign___init__ : PySem.W.isFn K (.ref f_Assign___init__) = true)
    (n_Write_value : PySem.W.findIn K (.ref C_Write) "value" = some none)
    (mk_Write : PySem.W.makesIn K C_Write = true)
    (kc_Write : PySem.W.keepIn K (.ref C_Write) = true)
    (mi_Write : PySem.W.findIn K (.ref C_Write) "__init__" = some (some (.ref f_Write___init__)))
    (mf_Write___init__ : PySem.W.isFn K (.ref f_Write___init__) = true)
    (l_Write___init__ : K.lookup f_Write___init__ = some ⟨oc_Write___init__, od_Write___init__, .func (PySem.W.fnOf "__init__" "Write.__init__" (defArgs st_Write___init__) (defBody st_Write___init__) (defScope st_Write___init__) .none kV_Write___init__ dc_Write___init__ pm_Write___init__ an_Write___init__ cd_Write___init__ ct_Write___init__), sl_Write___init__⟩)
    (c_Write___init__ : PySem.W.codeIn K cd_Write___init__ "Write.__init__" = true)
    (k_Write___init__ : PySem.W.keepIn K (.ref f_Write___init__) = true)
    (a__law_made : PySem.W.nsIn K mainGlobals "_law_made" = some (some (.ref f__law_made)))
    (l__law_made : K.lookup f__law_made = some ⟨oc__law_made, od__law_made, .func (PySem.W.fnOf "_law_made" "_law_made" (defArgs st__law_made) (defBody st__law_made) (defScope st__law_made) .none kV__law_made dc__law_made pm__law_made an__law_made cd__law_made ct__law_made), sl__law_made⟩)
    (c__law_made : PySem.W.codeIn K cd__law_made "_law_made" = true)
    (k__law_made : PySem.W.keepIn K (.ref f__law_made) = true)
    (cd_PlaceError : PySem.W.clsIn K C_PlaceError = some kd_PlaceError)
    (ct_PlaceError : PySem.W.typeIn K (.ref C_PlaceError) = some (.type "type"))
    (eC_PlaceError : PySem.W.subIn K (.ref C_PlaceError) (.type "BaseException") = some true)
    (is_NoName_PlaceError : PySem.W.subIn K (.ref C_NoName) (.ref C_PlaceError) = some true)
    (is_NoValue_PlaceError : PySem.W.subIn K (.ref C_NoValue) (.ref C_PlaceError) = some true)
    (is_NoText_PlaceError : PySem.W.subIn K (.ref C_NoText) (.ref C_PlaceError) = some true)
    (is_NoOperator_PlaceError : PySem.W.subIn K (.ref C_NoOperator) (.ref C_PlaceError) = some true)
    (xno_NoText_value : PySem.W.findIn K (.ref C_NoText) "value" = some none)
    (pa_Set_words : PySem.W.findIn K (.ref C_Set) "words" = some (some (.ref p_Set_words)))
    (pg_Set_words : PySem.W.specialIn K (.ref p_Set_words) "__get__" = some (some (.builtin "property.__get__")))
    (pt_Set_words : PySem.W.takesIn K (.ref p_Set_words) = some true)
    (pr_Set_words_ : PySem.W.recIn K p_Set_words "property" = some (.ref f_Set_words :: pr_Set_words))
    (pa_Copy_words : PySem.W.findIn K (.ref C_Copy) "words" = some (some (.ref p_Copy_words)))
    (pg_Copy_words : PySem.W.specialIn K (.ref p_Copy_words) "__get__" = some (some (.builtin "property.__get__")))
    (pt_Copy_words : PySem.W.takesIn K (.ref p_Copy_words) = some true)
    (pr_Copy_words_ : PySem.W.recIn K p_Copy_words "property" = some (.ref f_Copy_words :: pr_Copy_words))
    (pa_Read_words : PySem.W.findIn K (.ref C_Read) "words" = some (some (.ref p_Read_words)))
    (pg_Read_words : PySem.W.specialIn K (.ref p_Read_words) "__get__" = some (some (.builtin "property.__get__")))
    (pt_Read_words : PySem.W.takesIn K (.ref p_Read_words) = some true)
    (pr_Read_words_ : PySem.W.recIn K p_Read_words "property" = some (.ref f_Read_words :: pr_Read_words))
    (pa_Write_words : PySem.W.findIn K (.ref C_Write) "words" = some (some (.ref p_Write_words)))
    (pg_Write_words : PySem.W.specialIn K (.ref p_Write_words) "__get__" = some (some (.builtin "property.__get__")))
    (pt_Write_words : PySem.W.takesIn K (.ref p_Write_words) = some true)
    (pr_Write_words_ : PySem.W.recIn K p_Write_words "property" = some (.ref f_Write_words :: pr_Write_words))
    (co_Set_WORD : PySem.W.findIn K (.ref C_Set) "WORD" = some (some (.str "set" t_Set_WORD)))
    (cg_Set_WORD : PySem.W.specialIn K (.str "set" t_Set_WORD) "__get__" = some none)
    (co_Copy_WORD : PySem.W.findIn K (.ref C_Copy) "WORD" = some (some (.str "copy" t_Copy_WORD)))
    (cg_Copy_WORD : PySem.W.specialIn K (.str "copy" t_Copy_WORD) "__get__" = some none)
    (co_Read_WORD : PySem.W.findIn K (.ref C_Read) "WORD" = some (some (.str "read" t_Read_WORD)))
    (cg_Read_WORD : PySem.W.specialIn K (.str "read" t_Read_WORD) "__get__" = some none)
    (co_Write_WORD : PySem.W.findIn K (.ref C_Write) "WORD" = some (some (.str "write" t_Write_WORD)))
    (cg_Write_WORD : PySem.W.specialIn K (.str "write" t_Write_WORD) "__get__" = some none)
    (pa_Set_text : PySem.W.findIn K (.ref C_Set) "text" = some (some (.ref p_Statement_text)))
    (pg_Statement_text : PySem.W.specialIn K (.ref p_Statement_text) "__get__" = some (some (.builtin "property.__get__")))
    (pt_Statement_text : PySem.W.takesIn K (.ref p_Statement_text) = some true)
    (pr_Statement_text_ : PySem.W.recIn K p_Statement_text "property" = some (.ref f_Statement_text :: pr_Statement_text))
    (pa_Copy_text : PySem.W.findIn K (.ref C_Copy) "text" = some (some (.ref p_Statement_text)))
    (pa_Read_text : PySem.W.findIn K (.ref C_Read) "text" = some (some (.ref p_Statement_text)))
    (pa_Write_text : PySem.W.findIn K (.ref C_Write) "text" = some (some (.ref p_Statement_text)))
    (a__law_told : PySem.W.nsIn K mainGlobals "_law_told" = some (some (.ref f__law_told)))
    (l__law_told : K.lookup f__law_told = some ⟨oc__law_told, od__law_told, .func (PySem.W.fnOf "_law_told" "_law_told" (defArgs st__law_told) (defBody st__law_told) (defScope st__law_told) .none kV__law_told dc__law_told pm__law_told an__law_told cd__law_told ct__law_told), sl__law_told⟩)
    (c__law_told : PySem.W.codeIn K cd__law_told "_law_told" = true)
    (k__law_told : PySem.W.keepIn K (.ref f__law_told) = true)
    (z_tuple : PySem.W.nsIn K mainGlobals "tuple" = some none)
    (z_repr : PySem.W.nsIn K mainGlobals "repr" = some none)
    (a__law_alike : PySem.W.nsIn K mainGlobals "_law_alike" = some (some (.ref f__law_alike)))
    (l__law_alike : K.lookup f__law_alike = some ⟨oc__law_alike, od__law_alike, .func (PySem.W.fnOf "_law_alike" "_law_alike" (defArgs st__law_alike) (defBody st__law_alike) (defScope st__law_alike) .none kV__law_alike dc__law_alike pm__law_alike an__law_alike cd__law_alike ct__law_alike), sl__law_alike⟩)
    (c__law_alike : PySem.W.codeIn K cd__law_alike "_law_alike" = true)
    (k__law_alike : PySem.W.keepIn K (.ref f__law_alike) = true)
    (z_dict : PySem.W.nsIn K mainGlobals "dict" = some none)
    (a__law_held : PySem.W.nsIn K mainGlobals "_law_held" = some (some (.ref f__law_held)))
    (l__law_held : K.lookup f__law_held = some ⟨oc__law_held, od__law_held, .func (PySem.W.fnOf "_law_held" "_law_held" (defArgs st__law_held) (defBody st__law_held) (defScope st__law_held) .none kV__law_held dc__law_held pm__law_held an__law_held cd__law_held ct__law_held), sl__law_held⟩)
    (c__law_held : PySem.W.codeIn K cd__law_held "_law_held" = true)
    (k__law_held : PySem.W.keepIn K (.ref f__law_held) = true)
    (a__law_great_refused : PySem.W.nsIn K mainGlobals "_law_great_refused" = some (some (.ref f__law_great_refused)))
    (l__law_great_refused : K.lookup f__law_great_refused = some ⟨oc__law_great_refused, od__law_great_refused, .func (PySem.W.fnOf "_law_great_refused" "_law_great_refused" (defArgs st__law_great_refused) (defBody st__law_great_refused) (defScope st__law_great_refused) .none kV__law_great_refused dc__law_great_refused pm__law_great_refused an__law_great_refused cd__law_great_refused ct__law_great_refused), sl__law_great_refused⟩)
    (c__law_great_refused : PySem.W.codeIn K cd__law_great_refused "_law_great_refused" = true)
    (k__law_great_refused : PySem.W.keepIn K (.ref f__law_great_refused) = true)
    (a_law : PySem.W.nsIn K mainGlobals "law" = some (some (.ref f_law)))
    (l_law : K.lookup f_law = some ⟨oc_law, od_law, .func (PySem.W.fnOf "law" "law" (defArgs st_law) (defBody st_law) (defScope st_law) .none kV_law dc_law pm_law an_law cd_law ct_law), sl_law⟩)
    (c_law : PySem.W.codeIn K cd_law "law" = true)
    (k_law : PySem.W.keepIn K (.ref f_law) = true)
    (tl_Statement_OPERATORS : K.lookup a_Statement_OPERATORS = some ⟨.type "tuple", dd_Statement_OPERATORS, .seq #[.str "add" t_Statement_OPERATORS_0, .str "sub" t_Statement_OPERATORS_1, .str "mul" t_Statement_OPERATORS_2] nn_Statement_OPERATORS, sl_Statement_OPERATORS⟩)
    (l_Assign___init__ : K.lookup f_Assign___init__ = some ⟨oc_Assign___init__, od_Assign___init__, .func (PySem.W.fnOf "__init__" "Assign.__init__" (defArgs st_Assign___init__) (defBody st_Assign___init__) (defScope st_Assign___init__) .none kV_Assign___init__ dc_Assign___init__ pm_Assign___init__ an_Assign___init__ cd_Assign___init__ ct_Assign___init__), sl_Assign___init__⟩)
    (c_Assign___init__ : PySem.W.codeIn K cd_Assign___init__ "Assign.__init__" = true)
    (k_Assign___init__ : PySem.W.keepIn K (.ref f_Assign___init__) = true)
    (l_Set_words : K.lookup f_Set_words = some ⟨oc_Set_words, od_Set_words, .func (PySem.W.fnOf "words" "Set.words" (defArgs st_Set_words) (defBody st_Set_words) (defScope st_Set_words) .none kV_Set_words dc_Set_words pm_Set_words an_Set_words cd_Set_words ct_Set_words), sl_Set_words⟩)
    (c_Set_words : PySem.W.codeIn K cd_Set_words "Set.words" = true)
    (k_Set_words : PySem.W.keepIn K (.ref f_Set_words) = true)
    (l_Copy_words : K.lookup f_Copy_words = some ⟨oc_Copy_words, od_Copy_words, .func (PySem.W.fnOf "words" "Copy.words" (defArgs st_Copy_words) (defBody st_Copy_words) (defScope st_Copy_words) .none kV_Copy_words dc_Copy_words pm_Copy_words an_Copy_words cd_Copy_words ct_Copy_words), sl_Copy_words⟩)
    (c_Copy_words : PySem.W.codeIn K cd_Copy_words "Copy.words" = true)
    (k_Copy_words : PySem.W.keepIn K (.ref f_Copy_words) = true)
    (l_Read_words : K.lookup f_Read_words = some ⟨oc_Read_words, od_Read_words, .func (PySem.W.fnOf "words" "Read.words" (defArgs st_Read_words) (defBody st_Read_words) (defScope st_Read_words) .none kV_Read_words dc_Read_words pm_Read_words an_Read_words cd_Read_words ct_Read_words), sl_Read_words⟩)
    (c_Read_words : PySem.W.codeIn K cd_Read_words "Read.words" = true)
    (k_Read_words : PySem.W.keepIn K (.ref f_Read_words) = true)
    (l_Write_words : K.lookup f_Write_words = some ⟨oc_Write_words, od_Write_words, .func (PySem.W.fnOf "words" "Write.words" (defArgs st_Write_words) (defBody st_Write_words) (defScope st_Write_words) .none kV_Write_words dc_Write_words pm_Write_words an_Write_words cd_Write_words ct_Write_words), sl_Write_words⟩)
    (c_Write_words : PySem.W.codeIn K cd_Write_words "Write.words" = true)
    (k_Write_words : PySem.W.keepIn K (.ref f_Write_words) = true)
    (l_Statement_text : K.lookup f_Statement_text = some ⟨oc_Statement_text, od_Statement_text, .func (PySem.W.fnOf "text" "Statement.text" (defArgs st_Statement_text) (defBody st_Statement_text) (defScope st_Statement_text) .none kV_Statement_text dc_Statement_text pm_Statement_text an_Statement_text cd_Statement_text ct_Statement_text), sl_Statement_text⟩)
    (c_Statement_text : PySem.W.codeIn K cd_Statement_text "Statement.text" = true)
    (k_Statement_text : PySem.W.keepIn K (.ref f_Statement_text) = true) :
    ∃ (fd : FuncData) (cl : String → Addr), (∀ (s : Shared) (v : Value), BindsTo s fd ⟨[v], []⟩ [("_law_script", v)]) ∧ ∀ base : Heap, Sys base → K.In base → base.Ns mainGlobals mg → FnG P w K mg base 10 fa fd ["_law_script"] (spOf (⟨K, cl⟩ : G) d_law 1) := by
  have e := hfa.symm.trans (PySem.W.mg_of X Gn a_law)
  cases e
  let cl : String → Addr := fun c => if c = "NoName" then C_NoName else if c = "NoOperator" then C_NoOperator else if c = "NoValue" then C_NoValue else if c = "NoText" then C_NoText else if c = "Statement" then C_Statement else if c = "Set" then C_Set else if c = "Copy" then C_Copy else if c = "Read" then C_Read else if c = "Write" then C_Write else if c = "PlaceError" then C_PlaceError else 0
  refine ⟨PySem.W.fnOf "law" "law" (defArgs st_law) (defBody st_law) (defScope st_law) .none kV_law dc_law pm_law an_law cd_law ct_law, cl, fun s v => .of_eq rfl, fun base hS _ _ => ?_⟩
  have T : Txt P K mg cl base := {
    sys := hS.ne
    none_range := PySem.W.mg_none_of X Gn z_range
    none_len := PySem.W.mg_none_of X Gn z_len
    none_int := PySem.W.mg_none_of X Gn z_int
    none_abs := PySem.W.mg_none_of X Gn z_abs
    fun__law_pile := .mk' (PySem.W.mg_of X Gn a__law_pile) l__law_pile c__law_pile k__law_pile (fun _ _ _ _ _ _ us hl => match us, hl with | [_, _], _ => rfl)
    none_list := PySem.W.mg_none_of X Gn z_list
    fun__law_mixed := .mk' (PySem.W.mg_of X Gn a__law_mixed) l__law_mixed c__law_mixed k__law_mixed (fun _ _ _ _ _ _ us hl => match us, hl with | [_, _], _ => rfl)
    fun__law_take := .mk' (PySem.W.mg_of X Gn a__law_take) l__law_take c__law_take k__law_take (fun _ _ _ _ _ _ us hl => match us, hl with | [_, _], _ => rfl)
    fun__law_drawn_word := .mk' (PySem.W.mg_of X Gn a__law_drawn_word) l__law_drawn_word c__law_drawn_word k__law_drawn_word (fun _ _ _ _ _ _ us hl => match us, hl with | [_], _ => rfl)
    fun__law_drawn_value := .mk' (PySem.W.mg_of X Gn a__law_drawn_value) l__law_drawn_value c__law_drawn_value k__law_drawn_value (fun _ _ _ _ _ _ us hl => match us, hl with | [_], _ => rfl)
    fun__law_any_statement := .mk' (PySem.W.mg_of X Gn a__law_any_statement) l__law_any_statement c__law_any_statement k__law_any_statement (fun _ _ _ _ _ _ us hl => match us, hl with | [_], _ => rfl)
    fun__law_odd := .mk' (PySem.W.mg_of X Gn a__law_odd) l__law_odd c__law_odd k__law_odd (fun _ _ _ _ _ _ us hl => match us, hl with | [_], _ => rfl)
    m_NoName := PySem.W.mg_of X Gn a_NoName
    isi_NoneType_NoName := kit_bo cd_NoName ct_NoName is_NoneType_NoName
    isi_bool_NoName := kit_bo cd_NoName ct_NoName is_bool_NoName
    isi_int_NoName := kit_bo cd_NoName ct_NoName is_int_NoName
    isi_str_NoName := kit_bo cd_NoName ct_NoName is_str_NoName
    isi_tuple_NoName := kit_bo cd_NoName ct_NoName is_tuple_NoName
    isi_list_NoName := kit_bo cd_NoName ct_NoName is_list_NoName
    isi_dict_NoName := kit_bo cd_NoName ct_NoName is_dict_NoName
    m_NoOperator := PySem.W.mg_of X Gn a_NoOperator
    isi_NoneType_NoOperator := kit_bo cd_NoOperator ct_NoOperator is_NoneType_NoOperator
    isi_bool_NoOperator := kit_bo cd_NoOperator ct_NoOperator is_bool_NoOperator
    isi_int_NoOperator := kit_bo cd_NoOperator ct_NoOperator is_int_NoOperator
    isi_str_NoOperator := kit_bo cd_NoOperator ct_NoOperator is_str_NoOperator
    isi_tuple_NoOperator := kit_bo cd_NoOperator ct_NoOperator is_tuple_NoOperator
    isi_list_NoOperator := kit_bo cd_NoOperator ct_NoOperator is_list_NoOperator
    isi_dict_NoOperator := kit_bo cd_NoOperator ct_NoOperator is_dict_NoOperator
    m_NoValue := PySem.W.mg_of X Gn a_NoValue
    isi_NoneType_NoValue := kit_bo cd_NoValue ct_NoValue is_NoneType_NoValue
    isi_bool_NoValue := kit_bo cd_NoValue ct_NoValue is_bool_NoValue
    isi_int_NoValue := kit_bo cd_NoValue ct_NoValue is_int_NoValue
    isi_str_NoValue := kit_bo cd_NoValue ct_NoValue is_str_NoValue
    isi_tuple_NoValue := kit_bo cd_NoValue ct_NoValue is_tuple_NoValue
    isi_list_NoValue := kit_bo cd_NoValue ct_NoValue is_list_NoValue
    isi_dict_NoValue := kit_bo cd_NoValue ct_NoValue is_dict_NoValue
    xis_NoName := ⟨some_is cd_NoName, xga_NoName, xgt_NoName, eC_NoName, ia_NoName, ig, it, im_NoName, hd_NoName⟩
    xfc_NoName := ⟨xga_NoName, xgt_NoName, eC_NoName, hd_NoName⟩
    isi_NoName_NoName := kit_ot cd_NoName ct_NoName is_NoName_NoName
    isi_NoName_NoOperator := kit_of2 cd_NoOperator ct_NoOperator is_NoName_NoOperator is_NoName_NoName
    isi_NoName_NoValue := kit_of2 cd_NoValue ct_NoValue is_NoName_NoValue is_NoName_NoName
    xis_NoValue := ⟨some_is cd_NoValue, xga_NoValue, xgt_NoValue, eC_NoValue, ia_NoValue, ig, it, im_NoValue, hd_NoValue⟩
    xfc_NoValue := ⟨xga_NoValue, xgt_NoValue, eC_NoValue, hd_NoValue⟩
    isi_NoValue_NoName := kit_of2 cd_NoName ct_NoName is_NoValue_NoName is_NoValue_NoValue
    isi_NoValue_NoOperator := kit_of2 cd_NoOperator ct_NoOperator is_NoValue_NoOperator is_NoValue_NoValue
    isi_NoValue_NoValue := kit_ot cd_NoValue ct_NoValue is_NoValue_NoValue
    m_NoText := PySem.W.mg_of X Gn a_NoText
    xis_NoText := ⟨some_is cd_NoText, xga_NoText, xgt_NoText, eC_NoText, ia_NoText, ig, it, im_NoText, hd_NoText⟩
    xfc_NoText := ⟨xga_NoText, xgt_NoText, eC_NoText, hd_NoText⟩
    isi_NoText_NoName := kit_of2 cd_NoName ct_NoName is_NoText_NoName is_NoText_NoText
    isi_NoText_NoOperator := kit_of2 cd_NoOperator ct_NoOperator is_NoText_NoOperator is_NoText_NoText
    isi_NoText_NoValue := kit_of2 cd_NoValue ct_NoValue is_NoText_NoValue is_NoText_NoText
    xis_NoOperator := ⟨some_is cd_NoOperator, xga_NoOperator, xgt_NoOperator, eC_NoOperator, ia_NoOperator, ig, it, im_NoOperator, hd_NoOperator⟩
    xfc_NoOperator := ⟨xga_NoOperator, xgt_NoOperator, eC_NoOperator, hd_NoOperator⟩
    isi_NoOperator_NoName := kit_of2 cd_NoName ct_NoName is_NoOperator_NoName is_NoOperator_NoOperator
    isi_NoOperator_NoOperator := kit_ot cd_NoOperator ct_NoOperator is_NoOperator_NoOperator
    isi_NoOperator_NoValue := kit_of2 cd_NoValue ct_NoValue is_NoOperator_NoValue is_NoOperator_NoOperator
    m_Statement := PySem.W.mg_of X Gn a_Statement
    isi_NoneType_Statement := kit_bo cd_Statement ct_Statement is_NoneType_Statement
    isi_bool_Statement := kit_bo cd_Statement ct_Statement is_bool_Statement
    isi_int_Statement := kit_bo cd_Statement ct_Statement is_int_Statement
    isi_str_Statement := kit_bo cd_Statement ct_Statement is_str_Statement
    isi_tuple_Statement := kit_bo cd_Statement ct_Statement is_tuple_Statement
    isi_list_Statement := kit_bo cd_Statement ct_Statement is_list_Statement
    isi_dict_Statement := kit_bo cd_Statement ct_Statement is_dict_Statement
    m_Set := PySem.W.mg_of X Gn a_Set
    cls_Set := ⟨pg_Set, hd_Set, po_Set, sa_Set⟩
    ins_Set := ⟨⟨pg_Set, hd_Set, po_Set, sa_Set⟩, ia_Set, ig, it, im_Set⟩
    isi_Set_bool := kit_ob (by decide +kernel) is_Set_bool
    isi_Set_dict := kit_ob (by decide +kernel) is_Set_dict
    isi_Set_int := kit_ob (by decide +kernel) is_Set_int
    isi_Set_list := kit_ob (by decide +kernel) is_Set_list
    isi_Set_str := kit_ob (by decide +kernel) is_Set_str
    isi_Set_Statement := kit_ot cd_Statement ct_Statement is_Set_Statement
    m_Copy := PySem.W.mg_of X Gn a_Copy
    cls_Copy := ⟨pg_Copy, hd_Copy, po_Copy, sa_Copy⟩
    ins_Copy := ⟨⟨pg_Copy, hd_Copy, po_Copy, sa_Copy⟩, ia_Copy, ig, it, im_Copy⟩
    isi_Copy_bool := kit_ob (by decide +kernel) is_Copy_bool
    isi_Copy_dict := kit_ob (by decide +kernel) is_Copy_dict
    isi_Copy_int := kit_ob (by decide +kernel) is_Copy_int
    isi_Copy_list := kit_ob (by decide +kernel) is_Copy_list
    isi_Copy_str := kit_ob (by decide +kernel) is_Copy_str
    isi_Copy_Statement := kit_ot cd_Statement ct_Statement is_Copy_Statement
    m_Read := PySem.W.mg_of X Gn a_Read
    cls_Read := ⟨pg_Read, hd_Read, po_Read, sa_Read⟩
    ins_Read := ⟨⟨pg_Read, hd_Read, po_Read, sa_Read⟩, ia_Read, ig, it, im_Read⟩
    isi_Read_bool := kit_ob (by decide +kernel) is_Read_bool
    isi_Read_dict := kit_ob (by decide +kernel) is_Read_dict
    isi_Read_int := kit_ob (by decide +kernel) is_Read_int
    isi_Read_list := kit_ob (by decide +kernel) is_Read_list
    isi_Read_str := kit_ob (by decide +kernel) is_Read_str
    isi_Read_Statement := kit_ot cd_Statement ct_Statement is_Read_Statement
    m_Write := PySem.W.mg_of X Gn a_Write
    cls_Write := ⟨pg_Write, hd_Write, po_Write, sa_Write⟩
    ins_Write := ⟨⟨pg_Write, hd_Write, po_Write, sa_Write⟩, ia_Write, ig, it, im_Write⟩
    isi_Write_bool := kit_ob (by decide +kernel) is_Write_bool
    isi_Write_dict := kit_ob (by decide +kernel) is_Write_dict
    isi_Write_int := kit_ob (by decide +kernel) is_Write_int
    isi_Write_list := kit_ob (by decide +kernel) is_Write_list
    isi_Write_str := kit_ob (by decide +kernel) is_Write_str
    isi_Write_Statement := kit_ot cd_Statement ct_Statement is_Write_Statement
    none_isinstance := PySem.W.mg_none_of X Gn z_isinstance
    none_str := PySem.W.mg_none_of X Gn z_str
    fun__law_is_name := .mk' (PySem.W.mg_of X Gn a__law_is_name) l__law_is_name c__law_is_name k__law_is_name (fun _ _ _ _ _ _ us hl => match us, hl with | [_], _ => rfl)
    none_bool := PySem.W.mg_none_of X Gn z_bool
    fun__law_whole := .mk' (PySem.W.mg_of X Gn a__law_whole) l__law_whole c__law_whole k__law_whole (fun _ _ _ _ _ _ us hl => match us, hl with | [_], _ => rfl)
    fun__law_is_value := .mk' (PySem.W.mg_of X Gn a__law_is_value) l__law_is_value c__law_is_value k__law_is_value (fun _ _ _ _ _ _ us hl => match us, hl with | [_], _ => rfl)
    fun__law_due := .mk' (PySem.W.mg_of X Gn a__law_due) l__law_due c__law_due k__law_due (fun _ _ _ _ _ _ us hl => match us, hl with | [_], _ => rfl)
    val_MOST_LETTERS := ⟨_, PySem.W.mg_of X Gn v_MOST_LETTERS, .int 8, rv_int, fun _ _ => .int _⟩
    none_all := PySem.W.mg_none_of X Gn z_all
    val_LETTERS := ⟨_, PySem.W.mg_of X Gn v_LETTERS, .str (Sh.S [97, 98, 99, 100, 101, 102, 103, 104, 105, 106, 107, 108, 109, 110, 111, 112, 113, 114, 115, 116, 117, 118, 119, 120, 121, 122]), rv_str (by decide +kernel), fun _ _ => .str [97, 98, 99, 100, 101, 102, 103, 104, 105, 106, 107, 108, 109, 110, 111, 112, 113, 114, 115, 116, 117, 118, 119, 120, 121, 122]⟩
    fun_is_name := .mk' (PySem.W.mg_of X Gn a_is_name) l_is_name c_is_name k_is_name (fun _ _ _ _ _ _ us hl => match us, hl with | [_], _ => rfl)
    m_PlaceError := PySem.W.mg_of X Gn a_PlaceError
    none_super := PySem.W.mg_none_of X Gn z_super
    exc_NoName := ⟨f_NoName___init__, ⟨⟨⟨xnm_NoName, xqn_NoName, xN_NoName, xbs_NoName, _, xsn_NoName, xsub_NoName, xab_NoName, xcol_NoName, xdd_NoName, xm0_NoName, xm1_NoName, xm2_NoName, xm3_NoName, xm5_NoName, xl_NoName, rfl⟩, xsa_NoName, eC_NoName, ct_NoName, kc_NoName⟩, mi_NoName, sc8_NoName___init__⟩, ⟨cda_NoName___init__, cc_NoName___init__, dc_NoName___init__, pm_NoName___init__, ct_NoName___init__, oc_NoName___init__, an_NoName___init__, od_NoName___init__, sl_NoName___init__, l_NoName___init__, c_NoName___init__, ⟨⟨ccl_NoName___init__, cdd_NoName___init__, vs_NoName___init__, ccs_NoName___init__, fi_NoName___init__, tf_NoName___init__, sc1_NoName___init__, sc2_NoName___init__, sc3_NoName___init__⟩, ⟨el_NoName___init__, eld_NoName___init__, esl_NoName___init__, sc4_NoName___init__⟩, ⟨_, cd_NoName⟩, PySem.W.mg_none_of X Gn z_super, zst, ztop, xcm_NoName, xve_NoName, xnx_NoName⟩⟩⟩
    xno_NoName_value := xno_NoName_value
    fun_must_be_name := .mk' (PySem.W.mg_of X Gn a_must_be_name) l_must_be_name c_must_be_name k_must_be_name (fun _ _ _ _ _ _ us hl => match us, hl with | [_], _ => rfl)
    noa_Set_target := n_Set_target
    noa_Copy_target := n_Copy_target
    noa_Read_target := n_Read_target
    fun_is_integer := .mk' (PySem.W.mg_of X Gn a_is_integer) l_is_integer c_is_integer k_is_integer (fun _ _ _ _ _ _ us hl => match us, hl with | [_], _ => rfl)
    val_MOST_VALUE := ⟨_, PySem.W.mg_of X Gn v_MOST_VALUE, .int 999999, rv_int, fun _ _ => .int _⟩
    fun_is_value := .mk' (PySem.W.mg_of X Gn a_is_value) l_is_value c_is_value k_is_value (fun _ _ _ _ _ _ us hl => match us, hl with | [_], _ => rfl)
    exc_NoValue := ⟨f_NoValue___init__, ⟨⟨⟨xnm_NoValue, xqn_NoValue, xN_NoValue, xbs_NoValue, _, xsn_NoValue, xsub_NoValue, xab_NoValue, xcol_NoValue, xdd_NoValue, xm0_NoValue, xm1_NoValue, xm2_NoValue, xm3_NoValue, xm5_NoValue, xl_NoValue, rfl⟩, xsa_NoValue, eC_NoValue, ct_NoValue, kc_NoValue⟩, mi_NoValue, sc8_NoValue___init__⟩, ⟨cda_NoValue___init__, cc_NoValue___init__, dc_NoValue___init__, pm_NoValue___init__, ct_NoValue___init__, oc_NoValue___init__, an_NoValue___init__, od_NoValue___init__, sl_NoValue___init__, l_NoValue___init__, c_NoValue___init__, ⟨⟨ccl_NoValue___init__, cdd_NoValue___init__, vs_NoValue___init__, ccs_NoValue___init__, fi_NoValue___init__, tf_NoValue___init__, sc1_NoValue___init__, sc2_NoValue___init__, sc3_NoValue___init__⟩, ⟨el_NoValue___init__, eld_NoValue___init__, esl_NoValue___init__, sc4_NoValue___init__⟩, ⟨_, cd_NoValue⟩, PySem.W.mg_none_of X Gn z_super, zst, ztop, xcm_NoValue, xve_NoValue, xnx_NoValue⟩⟩⟩
    xno_NoValue_value := xno_NoValue_value
    fun_must_be_value := .mk' (PySem.W.mg_of X Gn a_must_be_value) l_must_be_value c_must_be_value k_must_be_value (fun _ _ _ _ _ _ us hl => match us, hl with | [_], _ => rfl)
    con_Set_OPERATORS := ⟨.ref a_Statement_OPERATORS, _, ⟨co_Set_OPERATORS, rv_ref, cg_Statement_OPERATORS, by decide +kernel⟩, fun _ _ => .tup (.inr ⟨_, _, _, tl_Statement_OPERATORS, rfl, rfl, (by show 3 ≤ sizeLine; decide), .cons (rv_str (l := [97, 100, 100]) (by decide +kernel)) (.cons (rv_str (l := [115, 117, 98]) (by decide +kernel)) (.cons (rv_str (l := [109, 117, 108]) (by decide +kernel)) (.nil)))⟩) (.cons (.str [97, 100, 100]) (.cons (.str [115, 117, 98]) (.cons (.str [109, 117, 108]) (.nil))))⟩
    con_Copy_OPERATORS := ⟨.ref a_Statement_OPERATORS, _, ⟨co_Copy_OPERATORS, rv_ref, cg_Statement_OPERATORS, by decide +kernel⟩, fun _ _ => .tup (.inr ⟨_, _, _, tl_Statement_OPERATORS, rfl, rfl, (by show 3 ≤ sizeLine; decide), .cons (rv_str (l := [97, 100, 100]) (by decide +kernel)) (.cons (rv_str (l := [115, 117, 98]) (by decide +kernel)) (.cons (rv_str (l := [109, 117, 108]) (by decide +kernel)) (.nil)))⟩) (.cons (.str [97, 100, 100]) (.cons (.str [115, 117, 98]) (.cons (.str [109, 117, 108]) (.nil))))⟩
    con_Read_OPERATORS := ⟨.ref a_Statement_OPERATORS, _, ⟨co_Read_OPERATORS, rv_ref, cg_Statement_OPERATORS, by decide +kernel⟩, fun _ _ => .tup (.inr ⟨_, _, _, tl_Statement_OPERATORS, rfl, rfl, (by show 3 ≤ sizeLine; decide), .cons (rv_str (l := [97, 100, 100]) (by decide +kernel)) (.cons (rv_str (l := [115, 117, 98]) (by decide +kernel)) (.cons (rv_str (l := [109, 117, 108]) (by decide +kernel)) (.nil)))⟩) (.cons (.str [97, 100, 100]) (.cons (.str [115, 117, 98]) (.cons (.str [109, 117, 108]) (.nil))))⟩
    con_Write_OPERATORS := ⟨.ref a_Statement_OPERATORS, _, ⟨co_Write_OPERATORS, rv_ref, cg_Statement_OPERATORS, by decide +kernel⟩, fun _ _ => .tup (.inr ⟨_, _, _, tl_Statement_OPERATORS, rfl, rfl, (by show 3 ≤ sizeLine; decide), .cons (rv_str (l := [97, 100, 100]) (by decide +kernel)) (.cons (rv_str (l := [115, 117, 98]) (by decide +kernel)) (.cons (rv_str (l := [109, 117, 108]) (by decide +kernel)) (.nil)))⟩) (.cons (.str [97, 100, 100]) (.cons (.str [115, 117, 98]) (.cons (.str [109, 117, 108]) (.nil))))⟩
    exc_NoOperator := ⟨f_NoOperator___init__, ⟨⟨⟨xnm_NoOperator, xqn_NoOperator, xN_NoOperator, xbs_NoOperator, _, xsn_NoOperator, xsub_NoOperator, xab_NoOperator, xcol_NoOperator, xdd_NoOperator, xm0_NoOperator, xm1_NoOperator, xm2_NoOperator, xm3_NoOperator, xm5_NoOperator, xl_NoOperator, rfl⟩, xsa_NoOperator, eC_NoOperator, ct_NoOperator, kc_NoOperator⟩, mi_NoOperator, sc8_NoOperator___init__⟩, ⟨cda_NoOperator___init__, cc_NoOperator___init__, dc_NoOperator___init__, pm_NoOperator___init__, ct_NoOperator___init__, oc_NoOperator___init__, an_NoOperator___init__, od_NoOperator___init__, sl_NoOperator___init__, l_NoOperator___init__, c_NoOperator___init__, ⟨⟨ccl_NoOperator___init__, cdd_NoOperator___init__, vs_NoOperator___init__, ccs_NoOperator___init__, fi_NoOperator___init__, tf_NoOperator___init__, sc1_NoOperator___init__, sc2_NoOperator___init__, sc3_NoOperator___init__⟩, ⟨el_NoOperator___init__, eld_NoOperator___init__, esl_NoOperator___init__, sc4_NoOperator___init__⟩, ⟨_, cd_NoOperator⟩, PySem.W.mg_none_of X Gn z_super, zst, ztop, xcm_NoOperator, xve_NoOperator, xnx_NoOperator⟩⟩⟩
    xno_NoOperator_value := xno_NoOperator_value
    noa_Set_left := n_Set_left
    noa_Set_op := n_Set_op
    noa_Set_right := n_Set_right
    ztop := ztop
    mk_Set := ⟨_, _, ⟨mk_Set, mi_Set, mf_Set___init__, kc_Set⟩, ⟨⟨cda_Set___init__, cc_Set___init__, D_Set___init__, dc_Set___init__, pm_Set___init__, ct_Set___init__, oc_Set___init__, an_Set___init__, od_Set___init__, sl_Set___init__, ccl_Set___init__, cdd_Set___init__, vs_Set___init__, ccs_Set___init__, fi_Set___init__, tf_Set___init__, el_Set___init__, eld_Set___init__, esl_Set___init__, cdD_Set___init__, l_Set___init__, c_Set___init__, sc1_Set___init__, sc2_Set___init__, sc3_Set___init__, sc4_Set___init__, sc5_Set___init__, sc6_Set, sc7_Set, sc8_Assign___init__, sc9_Assign___init__⟩, PySem.W.mg_none_of X Gn z_super, zst⟩, FunIn.mk' l_Assign___init__ c_Assign___init__ k_Assign___init__ (fun _ _ _ _ _ _ us hl => match us, hl with | [_, _], _ => rfl)⟩
    noa_Copy_value := n_Copy_value
    mk_Copy := ⟨_, _, ⟨mk_Copy, mi_Copy, mf_Copy___init__, kc_Copy⟩, ⟨⟨cda_Copy___init__, cc_Copy___init__, D_Copy___init__, dc_Copy___init__, pm_Copy___init__, ct_Copy___init__, oc_Copy___init__, an_Copy___init__, od_Copy___init__, sl_Copy___init__, ccl_Copy___init__, cdd_Copy___init__, vs_Copy___init__, ccs_Copy___init__, fi_Copy___init__, tf_Copy___init__, el_Copy___init__, eld_Copy___init__, esl_Copy___init__, cdD_Copy___init__, l_Copy___init__, c_Copy___init__, sc1_Copy___init__, sc2_Copy___init__, sc3_Copy___init__, sc4_Copy___init__, sc5_Copy___init__, sc6_Copy, sc7_Copy, sc8_Assign___init__, sc9_Assign___init__⟩, PySem.W.mg_none_of X Gn z_super, zst⟩, FunIn.mk' l_Assign___init__ c_Assign___init__ k_Assign___init__ (fun _ _ _ _ _ _ us hl => match us, hl with | [_, _], _ => rfl)⟩
    mk_Read := ⟨_, ⟨mk_Read, mi_Read, mf_Assign___init__, kc_Read⟩, FunIn.mk' l_Assign___init__ c_Assign___init__ k_Assign___init__ (fun _ _ _ _ _ _ us hl => match us, hl with | [_, _], _ => rfl)⟩
    noa_Write_value := n_Write_value
    mk_Write := ⟨_, ⟨mk_Write, mi_Write, mf_Write___init__, kc_Write⟩, FunIn.mk' l_Write___init__ c_Write___init__ k_Write___init__ (fun _ _ _ _ _ _ us hl => match us, hl with | [_, _], _ => rfl)⟩
    fun__law_made := .mk' (PySem.W.mg_of X Gn a__law_made) l__law_made c__law_made k__law_made (fun _ _ _ _ _ _ us hl => match us, hl with | [_], _ => rfl)
    exm_NoName_PlaceError := exm_ok eC_PlaceError (some_is cd_PlaceError) ct_PlaceError is_NoName_PlaceError
    exm_NoValue_PlaceError := exm_ok eC_PlaceError (some_is cd_PlaceError) ct_PlaceError is_NoValue_PlaceError
    exm_NoText_PlaceError := exm_ok eC_PlaceError (some_is cd_PlaceError) ct_PlaceError is_NoText_PlaceError
    exm_NoOperator_PlaceError := exm_ok eC_PlaceError (some_is cd_PlaceError) ct_PlaceError is_NoOperator_PlaceError
    xno_NoText_value := xno_NoText_value
    prop_Set_words := ⟨_, _, ⟨pa_Set_words, pg_Set_words, pt_Set_words, ⟨_, pr_Set_words_⟩⟩, FunIn.mk' l_Set_words c_Set_words k_Set_words (fun _ _ _ _ _ _ us hl => match us, hl with | [_], _ => rfl)⟩
    prop_Copy_words := ⟨_, _, ⟨pa_Copy_words, pg_Copy_words, pt_Copy_words, ⟨_, pr_Copy_words_⟩⟩, FunIn.mk' l_Copy_words c_Copy_words k_Copy_words (fun _ _ _ _ _ _ us hl => match us, hl with | [_], _ => rfl)⟩
    prop_Read_words := ⟨_, _, ⟨pa_Read_words, pg_Read_words, pt_Read_words, ⟨_, pr_Read_words_⟩⟩, FunIn.mk' l_Read_words c_Read_words k_Read_words (fun _ _ _ _ _ _ us hl => match us, hl with | [_], _ => rfl)⟩
    prop_Write_words := ⟨_, _, ⟨pa_Write_words, pg_Write_words, pt_Write_words, ⟨_, pr_Write_words_⟩⟩, FunIn.mk' l_Write_words c_Write_words k_Write_words (fun _ _ _ _ _ _ us hl => match us, hl with | [_], _ => rfl)⟩
    con_Set_WORD := ⟨.str (Sh.S [115, 101, 116]), _, ⟨co_Set_WORD, rv_str (by decide +kernel), cg_Set_WORD, by decide +kernel⟩, fun _ _ => .str [115, 101, 116]⟩
    con_Copy_WORD := ⟨.str (Sh.S [99, 111, 112, 121]), _, ⟨co_Copy_WORD, rv_str (by decide +kernel), cg_Copy_WORD, by decide +kernel⟩, fun _ _ => .str [99, 111, 112, 121]⟩
    con_Read_WORD := ⟨.str (Sh.S [114, 101, 97, 100]), _, ⟨co_Read_WORD, rv_str (by decide +kernel), cg_Read_WORD, by decide +kernel⟩, fun _ _ => .str [114, 101, 97, 100]⟩
    con_Write_WORD := ⟨.str (Sh.S [119, 114, 105, 116, 101]), _, ⟨co_Write_WORD, rv_str (by decide +kernel), cg_Write_WORD, by decide +kernel⟩, fun _ _ => .str [119, 114, 105, 116, 101]⟩
    prop_Set_text := ⟨_, _, ⟨pa_Set_text, pg_Statement_text, pt_Statement_text, ⟨_, pr_Statement_text_⟩⟩, FunIn.mk' l_Statement_text c_Statement_text k_Statement_text (fun _ _ _ _ _ _ us hl => match us, hl with | [_], _ => rfl)⟩
    prop_Copy_text := ⟨_, _, ⟨pa_Copy_text, pg_Statement_text, pt_Statement_text, ⟨_, pr_Statement_text_⟩⟩, FunIn.mk' l_Statement_text c_Statement_text k_Statement_text (fun _ _ _ _ _ _ us hl => match us, hl with | [_], _ => rfl)⟩
    prop_Read_text := ⟨_, _, ⟨pa_Read_text, pg_Statement_text, pt_Statement_text, ⟨_, pr_Statement_text_⟩⟩, FunIn.mk' l_Statement_text c_Statement_text k_Statement_text (fun _ _ _ _ _ _ us hl => match us, hl with | [_], _ => rfl)⟩
    prop_Write_text := ⟨_, _, ⟨pa_Write_text, pg_Statement_text, pt_Statement_text, ⟨_, pr_Statement_text_⟩⟩, FunIn.mk' l_Statement_text c_Statement_text k_Statement_text (fun _ _ _ _ _ _ us hl => match us, hl with | [_], _ => rfl)⟩
    fun__law_told := .mk' (PySem.W.mg_of X Gn a__law_told) l__law_told c__law_told k__law_told (fun _ _ _ _ _ _ us hl => match us, hl with | [_], _ => rfl)
    none_tuple := PySem.W.mg_none_of X Gn z_tuple
    none_repr := PySem.W.mg_none_of X Gn z_repr
    fun__law_alike := .mk' (PySem.W.mg_of X Gn a__law_alike) l__law_alike c__law_alike k__law_alike (fun _ _ _ _ _ _ us hl => match us, hl with | [_, _], _ => rfl)
    none_dict := PySem.W.mg_none_of X Gn z_dict
    fun__law_held := .mk' (PySem.W.mg_of X Gn a__law_held) l__law_held c__law_held k__law_held (fun _ _ _ _ _ _ us hl => match us, hl with | [_, _], _ => rfl)
    fun__law_great_refused := .mk' (PySem.W.mg_of X Gn a__law_great_refused) l__law_great_refused c__law_great_refused k__law_great_refused (fun _ _ _ _ _ _ us hl => match us, hl with | [], _ => rfl)
    fun_law := .mk' (PySem.W.mg_of X Gn a_law) l_law c_law k_law (fun _ _ _ _ _ _ us hl => match us, hl with | [_], _ => rfl) }
  exact run_law T (fun_mk (st := st_law) l_law c_law k_law)
end K02

namespace K02
open PySem Sh
/-- the pile: digits left, a cell, a counter, a truth -/
def pileO (d c k : Int) (b : Bool) : O := .lst [.int d, .int c, .int k, .bl b]
theorem mod_abs {i j : Int} (h : 0 < j) : (i % j).natAbs < j.natAbs := by
  have h1 := Int.emod_nonneg i (by omega : j ≠ 0)
  have h2 := Int.emod_lt_of_pos i h
  omega
theorem mul_lt {i j : Int} {a b n : Nat} (h1 : i.natAbs < 2 ^ a) (h2 : j.natAbs < 2 ^ b) (h3 : a + b ≤ n) : (i * j).natAbs < 2 ^ n := by
  rw [Int.natAbs_mul]
  refine Nat.lt_of_lt_of_le (Nat.mul_lt_mul'' h1 h2) ?_
  rw [← Nat.pow_add]
  exact Nat.pow_le_pow_right (by decide) h3
theorem up {i : Int} {n : Nat} (h : i.natAbs < 2 ^ n) (hn : n ≤ 400) : i.natAbs < 2 ^ 400 := Nat.lt_of_lt_of_le h (Nat.pow_le_pow_right (by decide) hn)
theorem m31 (i j : Int) (h : j = 2147483647 ∨ j = 2147483629 ∨ j = 2147483587) : (i % j).natAbs < 2 ^ 31 := by
  have := mod_abs (i := i) (j := j) (by omega)
  have e31 : (2 : Nat) ^ 31 = 2147483648 := by decide
  omega
theorem mixed_ok (c k : Int) (m : Mem) (hk : k.natAbs < 2 ^ 60) : ∃ r : Int, d__law_mixed [.int c, .int k] m = .ok (.int r) m := by
  unfold d__law_mixed b__law_mixed
  have h1 := fun m => wMul_ok (m := m) (up (m31 c 2147483647 (.inl rfl)) (by decide)) (show (48271 : Int).natAbs < 2 ^ 400 by decide)
  have h2 := fun m => wMul_ok (m := m) (up hk (by decide)) (show (69621 : Int).natAbs < 2 ^ 400 by decide)
  have h3 := fun y m => wMul_ok (m := m) (up (m31 y 2147483647 (.inl rfl)) (by decide)) (up (m31 y 2147483647 (.inl rfl)) (by decide))
  have h4 := fun z m => wMul_ok (m := m) (up (m31 z 2147483629 (.inr (.inl rfl))) (by decide)) (up (m31 z 2147483629 (.inr (.inl rfl))) (by decide))
  simp only [List.length_cons, List.length_nil, Nat.reduceAdd, Nat.reduceEqDiff, if_true, List.map_cons, List.map_nil, Nat.reduceSub, List.replicate, List.cons_append, List.nil_append, R.bind_ok, R.bind_exc, R.bind_bad, R.nox_ok, RS.of_ok, RS.of_exc, List.getElem?_cons_zero, List.getElem?_cons_succ, List.set_cons_zero, List.set_cons_succ, Bool.not_true, Bool.not_false, Bool.false_eq_true, if_false, isNon, gSet, Int.reduceLT, Int.reduceLE, Int.reduceNeg, and_self, Nat.reduceLeDiff, Nat.reduceMul, decide_true, decide_false, Int.reduceEq, eq_self, reduceCtorEq, seq_nx, seq_rt, seq_bad, of_rt, of_nx, trd_rt, trd_nx, r_defn, r_seq, r_try, r_nil, r_expr, r_ret, r_if, r_set, r_asg, r_put, r_attr, r_var, r_c, r_bin, r_un, r_fn, r_fnL, r_call, r_make, made_ok, made_exc, r_eattr, r_ixL, r_new, r_tup, r_disp, r_few, r_eif, r_eand, r_eor, r_enot, r_acons, r_anil, r_astar, r_astarL, r_val, r_tru, r_not, r_and, r_or, r_chain, r_inL, r_m1, r_joinL, r_sl, r_pno, r_pat, v_add, v_sub, v_mod, v_div, v_neg, v_lt, v_le, v_gt, v_ge, v_isN, v_notN, v_intI, v_intB, v_abs, v_strS, v_len, v_ixT, v_ixF, v_eqI, v_neI, v_eqS, v_neS, r_lcomp, r_pval, r_pseq, r_plist, r_planT, r_planS, r_tryO, r_tryA, seq_exc, of_exc, tryO_rt, tryO_nx, tryA_rt, tryA_nx, r_raise, r_raise1, r_xattr, r_slS, r_join, r_dget, r_dict0, r_dput, r_mkx, r_app, h1, h2, h3, h4]
  exact ⟨_, rfl⟩
theorem p50 (m : Mem) : wPow (.int 10) (.int 50) m = .ok (.int (10 ^ 50)) m := wPow_ok (by decide) (by decide) (by decide)
theorem p18 (m : Mem) : wPow (.int 10) (.int 18) m = .ok (.int (10 ^ 18)) m := wPow_ok (by decide) (by decide) (by decide)
theorem p100 (m : Mem) : wMul (.int (10 ^ 50)) (.int (10 ^ 50)) m = .ok (.int (10 ^ 50 * 10 ^ 50)) m := wMul_ok (by decide) (by decide)
theorem p150 (m : Mem) : wMul (.int (10 ^ 50 * 10 ^ 50)) (.int (10 ^ 50)) m = .ok (.int (10 ^ 50 * 10 ^ 50 * 10 ^ 50)) m := wMul_ok (by decide) (by decide)
theorem at_ints {ns : List Int} {k : Int} {m : Mem} (h0 : 0 ≤ k) (h : k < (ns.length : Int)) : ∃ c, atW (ns.map W.int) k m = .ok (.int c) m := by
  have hk : k.toNat < ns.length := by omega
  have q := v_at (m := m) (atI_nat (ws := ns.map W.int) (k := k.toNat) (v := .int ns[k.toNat]) (by simp [hk]))
  have e : ((k.toNat : Nat) : Int) = k := by omega
  rw [e] at q
  exact ⟨_, q⟩
theorem at_b2 (i j : Int) (q : Bool) (m : Mem) : atW [.int i, .int j] (b2 q) m = .ok (.int (if q = true then j else i)) m := by
  cases q
  · exact v_at (atI_nat (k := 0) rfl)
  · exact v_at (atI_nat (k := 1) rfl)
theorem pos150 : (0 : Int) < 10 ^ 50 * 10 ^ 50 * 10 ^ 50 := by decide
theorem pile_ok (ns : List Int) (k : Int) (m : Mem) (h0 : 0 ≤ k) (hk : k < 1000000) : ∃ d c : Int, ∃ b : Bool, d__law_pile [.frz (ns.map .int), .int k] m = .ok (.ref m.length) (m ++ [pileO d c (97 * k) b]) := by
  unfold d__law_pile b__law_pile
  have hk30 : k.natAbs < 2 ^ 30 := by
    have : (2 : Nat) ^ 30 = 1073741824 := by decide
    omega
  have h97 : ∀ m, wMul (.int 97) (.int k) m = .ok (.int (97 * k)) m := fun m => wMul_ok (by decide) (up hk30 (by decide))
  by_cases hlt : k < (ns.length : Int)
  · obtain ⟨c, hc⟩ := at_ints (m := m) h0 hlt
    simp only [List.length_cons, List.length_nil, Nat.reduceAdd, Nat.reduceEqDiff, if_true, List.map_cons, List.map_nil, Nat.reduceSub, List.replicate, List.cons_append, List.nil_append, R.bind_ok, R.bind_exc, R.bind_bad, R.nox_ok, RS.of_ok, RS.of_exc, List.getElem?_cons_zero, List.getElem?_cons_succ, List.set_cons_zero, List.set_cons_succ, Bool.not_true, Bool.not_false, Bool.false_eq_true, if_false, isNon, gSet, Int.reduceLT, Int.reduceLE, Int.reduceNeg, and_self, Nat.reduceLeDiff, Nat.reduceMul, decide_true, decide_false, Int.reduceEq, eq_self, reduceCtorEq, seq_nx, seq_rt, seq_bad, of_rt, of_nx, trd_rt, trd_nx, r_defn, r_seq, r_try, r_nil, r_expr, r_ret, r_if, r_set, r_asg, r_put, r_attr, r_var, r_c, r_bin, r_un, r_fn, r_fnL, r_call, r_make, made_ok, made_exc, r_eattr, r_ixL, r_new, r_tup, r_disp, r_few, r_eif, r_eand, r_eor, r_enot, r_acons, r_anil, r_astar, r_astarL, r_val, r_tru, r_not, r_and, r_or, r_chain, r_inL, r_m1, r_joinL, r_sl, r_pno, r_pat, v_add, v_sub, v_mod, v_div, v_neg, v_lt, v_le, v_gt, v_ge, v_isN, v_notN, v_intI, v_intB, v_abs, v_strS, v_len, v_ixT, v_ixF, v_eqI, v_neI, v_eqS, v_neS, r_lcomp, r_pval, r_pseq, r_plist, r_planT, r_planS, r_tryO, r_tryA, seq_exc, of_exc, tryO_rt, tryO_nx, tryA_rt, tryA_nx, r_raise, r_raise1, r_xattr, r_slS, r_join, r_dget, r_dict0, r_dput, r_mkx, r_app, lenW, List.length_map, hlt, decide_true, hc, p50, p100, p150, p18, pos150, h97, at_b2]
    exact ⟨_, _, _, rfl⟩
  · simp only [List.length_cons, List.length_nil, Nat.reduceAdd, Nat.reduceEqDiff, if_true, List.map_cons, List.map_nil, Nat.reduceSub, List.replicate, List.cons_append, List.nil_append, R.bind_ok, R.bind_exc, R.bind_bad, R.nox_ok, RS.of_ok, RS.of_exc, List.getElem?_cons_zero, List.getElem?_cons_succ, List.set_cons_zero, List.set_cons_succ, Bool.not_true, Bool.not_false, Bool.false_eq_true, if_false, isNon, gSet, Int.reduceLT, Int.reduceLE, Int.reduceNeg, and_self, Nat.reduceLeDiff, Nat.reduceMul, decide_true, decide_false, Int.reduceEq, eq_self, reduceCtorEq, seq_nx, seq_rt, seq_bad, of_rt, of_nx, trd_rt, trd_nx, r_defn, r_seq, r_try, r_nil, r_expr, r_ret, r_if, r_set, r_asg, r_put, r_attr, r_var, r_c, r_bin, r_un, r_fn, r_fnL, r_call, r_make, made_ok, made_exc, r_eattr, r_ixL, r_new, r_tup, r_disp, r_few, r_eif, r_eand, r_eor, r_enot, r_acons, r_anil, r_astar, r_astarL, r_val, r_tru, r_not, r_and, r_or, r_chain, r_inL, r_m1, r_joinL, r_sl, r_pno, r_pat, v_add, v_sub, v_mod, v_div, v_neg, v_lt, v_le, v_gt, v_ge, v_isN, v_notN, v_intI, v_intB, v_abs, v_strS, v_len, v_ixT, v_ixF, v_eqI, v_neI, v_eqS, v_neS, r_lcomp, r_pval, r_pseq, r_plist, r_planT, r_planS, r_tryO, r_tryA, seq_exc, of_exc, tryO_rt, tryO_nx, tryA_rt, tryA_nx, r_raise, r_raise1, r_xattr, r_slS, r_join, r_dget, r_dict0, r_dput, r_mkx, r_app, lenW, List.length_map, hlt, decide_false, p50, p100, p150, p18, pos150, h97, at_b2]
    exact ⟨_, _, _, rfl⟩
/-- memory grows; of the old only the pile at p is written -/
structure Keep (p : Nat) (m m' : Mem) : Prop where
  le : m.length ≤ m'.length
  at_ : ∀ i o, i ≠ p → m[i]? = some o → m'[i]? = some o
  pile : ∃ d c k b, m'[p]? = some (pileO d c k b) ∧ 0 ≤ k ∧ k < 2 ^ 50
def PileAt (p : Nat) (m : Mem) (n : Int) : Prop := ∃ d c k b, m[p]? = some (pileO d c k b) ∧ 0 ≤ k ∧ k ≤ n
theorem take_ok (p : Nat) (m : Mem) (n z : Int) (h : PileAt p m z) (hz : z < 2 ^ 50) (h0 : 0 < n) (h1 : n < 1073741824) : ∃ (r : Int) (o : O), d__law_take [.ref p, .int n] m = .ok (.int r) (m.set p o) ∧ 0 ≤ r ∧ r < n ∧ PileAt p (m.set p o) (z + 1) := by
  obtain ⟨d, c, k, b, hm, hk0, hk⟩ := h
  have hp := (List.getElem?_eq_some_iff.mp hm).1
  unfold d__law_take b__law_take
  have i0 : wIx (.ref p) (.int 0) m = .ok (.int d) m := (v_ixR hm).trans (v_at (atI_nat (k := 0) rfl))
  have i2 : wIx (.ref p) (.int 2) m = .ok (.int k) m := (v_ixR hm).trans (v_at (atI_nat (k := 2) rfl))
  have hset : ∀ (j : Nat) (w : W), j < 4 → putAt m (.ref p) (.int (j : Int)) w = some (m.set p (.lst ([W.int d, .int c, .int k, .bl b].set j w))) := fun j w hj => by
    have e : L2.ixN 4 (j : Int) = some j := by
      unfold L2.ixN
      rw [if_pos (by omega), if_pos (by omega)]
      simp
    show (match m[p]? with | some (.lst ws) => (match L2.ixN ws.length (j : Int) with | some j => some (m.set p (.lst (ws.set j w))) | none => none) | _ => none) = _
    rw [hm]
    show (match L2.ixN 4 (j : Int) with | some j => some (m.set p (.lst ([W.int d, .int c, .int k, .bl b].set j w))) | none => none) = _
    rw [e]
  have s0 := hset 0 (.int (d / n)) (by decide)
  have s2 := hset 2 (.int (k + 1)) (by decide)
  by_cases hin : inW (.int d) [.int 0, .int (-1)] = true
  · have g1 : wIx (.ref p) (.int 1) (m.set p (.lst [.int d, .int c, .int (k + 1), .bl b])) = .ok (.int c) (m.set p (.lst [.int d, .int c, .int (k + 1), .bl b])) := (v_ixR (List.getElem?_set_self hp)).trans (v_at (atI_nat (k := 1) rfl))
    have g2 : wIx (.ref p) (.int 2) (m.set p (.lst [.int d, .int c, .int (k + 1), .bl b])) = .ok (.int (k + 1)) (m.set p (.lst [.int d, .int c, .int (k + 1), .bl b])) := (v_ixR (List.getElem?_set_self hp)).trans (v_at (atI_nat (k := 2) rfl))
    have e50 : (2 : Int) ^ 50 = 1125899906842624 := by decide
    have e60 : (2 : Nat) ^ 60 = 1152921504606846976 := by decide
    obtain ⟨y, hy⟩ := mixed_ok c (k + 1) (m.set p (.lst [.int d, .int c, .int (k + 1), .bl b])) (by omega)
    refine ⟨y % n, .lst [.int d, .int c, .int (k + 1), .bl b], ?_, Int.emod_nonneg _ (by omega), Int.emod_lt_of_pos _ h0, d, c, k + 1, b, List.getElem?_set_self hp, by omega, by omega⟩
    simp only [List.length_cons, List.length_nil, Nat.reduceAdd, Nat.reduceEqDiff, if_true, List.map_cons, List.map_nil, Nat.reduceSub, List.replicate, List.cons_append, List.nil_append, R.bind_ok, R.bind_exc, R.bind_bad, R.nox_ok, RS.of_ok, RS.of_exc, List.getElem?_cons_zero, List.getElem?_cons_succ, List.set_cons_zero, List.set_cons_succ, Bool.not_true, Bool.not_false, Bool.false_eq_true, if_false, isNon, gSet, Int.reduceLT, Int.reduceLE, Int.reduceNeg, and_self, Nat.reduceLeDiff, Nat.reduceMul, decide_true, decide_false, Int.reduceEq, eq_self, reduceCtorEq, seq_nx, seq_rt, seq_bad, of_rt, of_nx, trd_rt, trd_nx, r_defn, r_seq, r_try, r_nil, r_expr, r_ret, r_if, r_set, r_asg, r_put, r_attr, r_var, r_c, r_bin, r_un, r_fn, r_fnL, r_call, r_make, made_ok, made_exc, r_eattr, r_ixL, r_new, r_tup, r_disp, r_few, r_eif, r_eand, r_eor, r_enot, r_acons, r_anil, r_astar, r_astarL, r_val, r_tru, r_not, r_and, r_or, r_chain, r_inL, r_m1, r_joinL, r_sl, r_pno, r_pat, v_add, v_sub, v_mod, v_div, v_neg, v_lt, v_le, v_gt, v_ge, v_isN, v_notN, v_intI, v_intB, v_abs, v_strS, v_len, v_ixT, v_ixF, v_eqI, v_neI, v_eqS, v_neS, r_lcomp, r_pval, r_pseq, r_plist, r_planT, r_planS, r_tryO, r_tryA, seq_exc, of_exc, tryO_rt, tryO_nx, tryA_rt, tryA_nx, r_raise, r_raise1, r_xattr, r_slS, r_join, r_dget, r_dict0, r_dput, r_mkx, r_app, i0, i2, inD, flatW, List.all_cons, List.all_nil, Bool.and_self, hin]
    have s2' : putAt m (.ref p) (.int 2) (.int (k + 1)) = some (m.set p (.lst [.int d, .int c, .int (k + 1), .bl b])) := s2
    simp only [s2', List.length_cons, List.length_nil, Nat.reduceAdd, Nat.reduceEqDiff, if_true, List.map_cons, List.map_nil, Nat.reduceSub, List.replicate, List.cons_append, List.nil_append, R.bind_ok, R.bind_exc, R.bind_bad, R.nox_ok, RS.of_ok, RS.of_exc, List.getElem?_cons_zero, List.getElem?_cons_succ, List.set_cons_zero, List.set_cons_succ, Bool.not_true, Bool.not_false, Bool.false_eq_true, if_false, isNon, gSet, Int.reduceLT, Int.reduceLE, Int.reduceNeg, and_self, Nat.reduceLeDiff, Nat.reduceMul, decide_true, decide_false, Int.reduceEq, eq_self, reduceCtorEq, seq_nx, seq_rt, seq_bad, of_rt, of_nx, trd_rt, trd_nx, r_defn, r_seq, r_try, r_nil, r_expr, r_ret, r_if, r_set, r_asg, r_put, r_attr, r_var, r_c, r_bin, r_un, r_fn, r_fnL, r_call, r_make, made_ok, made_exc, r_eattr, r_ixL, r_new, r_tup, r_disp, r_few, r_eif, r_eand, r_eor, r_enot, r_acons, r_anil, r_astar, r_astarL, r_val, r_tru, r_not, r_and, r_or, r_chain, r_inL, r_m1, r_joinL, r_sl, r_pno, r_pat, v_add, v_sub, v_mod, v_div, v_neg, v_lt, v_le, v_gt, v_ge, v_isN, v_notN, v_intI, v_intB, v_abs, v_strS, v_len, v_ixT, v_ixF, v_eqI, v_neI, v_eqS, v_neS, r_lcomp, r_pval, r_pseq, r_plist, r_planT, r_planS, r_tryO, r_tryA, seq_exc, of_exc, tryO_rt, tryO_nx, tryA_rt, tryA_nx, r_raise, r_raise1, r_xattr, r_slS, r_join, r_dget, r_dict0, r_dput, r_mkx, r_app, g1, g2, hy, h0]
  · refine ⟨d % n, .lst [.int (d / n), .int c, .int k, .bl b], ?_, Int.emod_nonneg _ (by omega), Int.emod_lt_of_pos _ h0, d / n, c, k, b, List.getElem?_set_self hp, by omega, by omega⟩
    have s0' : putAt m (.ref p) (.int 0) (.int (d / n)) = some (m.set p (.lst [.int (d / n), .int c, .int k, .bl b])) := s0
    simp only [List.length_cons, List.length_nil, Nat.reduceAdd, Nat.reduceEqDiff, if_true, List.map_cons, List.map_nil, Nat.reduceSub, List.replicate, List.cons_append, List.nil_append, R.bind_ok, R.bind_exc, R.bind_bad, R.nox_ok, RS.of_ok, RS.of_exc, List.getElem?_cons_zero, List.getElem?_cons_succ, List.set_cons_zero, List.set_cons_succ, Bool.not_true, Bool.not_false, Bool.false_eq_true, if_false, isNon, gSet, Int.reduceLT, Int.reduceLE, Int.reduceNeg, and_self, Nat.reduceLeDiff, Nat.reduceMul, decide_true, decide_false, Int.reduceEq, eq_self, reduceCtorEq, seq_nx, seq_rt, seq_bad, of_rt, of_nx, trd_rt, trd_nx, r_defn, r_seq, r_try, r_nil, r_expr, r_ret, r_if, r_set, r_asg, r_put, r_attr, r_var, r_c, r_bin, r_un, r_fn, r_fnL, r_call, r_make, made_ok, made_exc, r_eattr, r_ixL, r_new, r_tup, r_disp, r_few, r_eif, r_eand, r_eor, r_enot, r_acons, r_anil, r_astar, r_astarL, r_val, r_tru, r_not, r_and, r_or, r_chain, r_inL, r_m1, r_joinL, r_sl, r_pno, r_pat, v_add, v_sub, v_mod, v_div, v_neg, v_lt, v_le, v_gt, v_ge, v_isN, v_notN, v_intI, v_intB, v_abs, v_strS, v_len, v_ixT, v_ixF, v_eqI, v_neI, v_eqS, v_neS, r_lcomp, r_pval, r_pseq, r_plist, r_planT, r_planS, r_tryO, r_tryA, seq_exc, of_exc, tryO_rt, tryO_nx, tryA_rt, tryA_nx, r_raise, r_raise1, r_xattr, r_slS, r_join, r_dget, r_dict0, r_dput, r_mkx, r_app, i0, i2, inD, flatW, List.all_cons, List.all_nil, Bool.and_self, hin, h0, h1, s0']
end K02

namespace K02
open PySem Sh
/-! ### drawn statements -/
theorem at_mem {ws : List W} {r : Int} {m : Mem} (h0 : 0 ≤ r) (h : r < (ws.length : Int)) : ∃ w, w ∈ ws ∧ atW ws r m = .ok w m := by
  have hk : r.toNat < ws.length := by omega
  have q := v_at (m := m) (atI_nat (ws := ws) (k := r.toNat) (v := ws[r.toNat]) (by simp [hk]))
  have e : ((r.toNat : Nat) : Int) = r := by omega
  rw [e] at q
  exact ⟨_, List.getElem_mem hk, q⟩
/-- memory grows; of the old only the pile at p may be written -/
structure Grow (p : Nat) (m m' : Mem) : Prop where
  le : m.length ≤ m'.length
  at_ : ∀ i, i ≠ p → i < m.length → m'[i]? = m[i]?
theorem Grow.refl {p : Nat} {m : Mem} : Grow p m m := ⟨Nat.le_refl _, fun _ _ _ => rfl⟩
theorem Grow.trans {p : Nat} {m m1 m2 : Mem} (a : Grow p m m1) (b : Grow p m1 m2) : Grow p m m2 := ⟨Nat.le_trans a.le b.le, fun i h1 h2 => (b.at_ i h1 (Nat.lt_of_lt_of_le h2 a.le)).trans (a.at_ i h1 h2)⟩
theorem Grow.app {p : Nat} {m l : Mem} : Grow p m (m ++ l) := ⟨by simp, fun i _ h => List.getElem?_append_left h⟩
theorem Grow.set {p : Nat} {m : Mem} {o : O} : Grow p m (m.set p o) := ⟨by simp, fun i h _ => List.getElem?_set_ne (Ne.symm h)⟩
theorem Grow.get {p i : Nat} {m m' : Mem} {o : O} (g : Grow p m m') (hi : i ≠ p) (h : m[i]? = some o) : m'[i]? = some o := (g.at_ i hi (List.getElem?_eq_some_iff.mp h).1).trans h
theorem PileAt.app {p : Nat} {m l : Mem} {z : Int} (h : PileAt p m z) : PileAt p (m ++ l) z := by
  obtain ⟨d, c, k, b, h1, h2⟩ := h
  exact ⟨d, c, k, b, by rw [List.getElem?_append_left (List.getElem?_eq_some_iff.mp h1).1]; exact h1, h2⟩
theorem PileAt.lt {p : Nat} {m : Mem} {z : Int} (h : PileAt p m z) : p < m.length := by
  obtain ⟨d, c, k, b, h1, h2⟩ := h
  exact (List.getElem?_eq_some_iff.mp h1).1
theorem take_g (p : Nat) (m : Mem) (n z : Int) (h : PileAt p m z) (hz : z < 1000000) (h0 : 0 < n) (h1 : n < 1073741824) : ∃ (r : Int) (m' : Mem), d__law_take [.ref p, .int n] m = .ok (.int r) m' ∧ 0 ≤ r ∧ r < n ∧ PileAt p m' (z + 1) ∧ Grow p m m' ∧ m'.length = m.length := by
  obtain ⟨r, o, h2, h3, h4, h5⟩ := take_ok p m n z h (by omega) h0 h1
  exact ⟨r, _, h2, h3, h4, h5, .set, by simp⟩
def menu : List (List Nat) := [[97], [98], [120], [115, 101, 116], [97, 100, 100], [110, 111, 110, 101], [99, 111, 112, 121], [105, 102], [106, 107, 113, 118, 119, 120, 121, 122], [114, 101, 97, 100], [104], [109, 117, 108]]
theorem word_ok (p : Nat) (m : Mem) (z : Int) (h : PileAt p m z) (hz : z < 1000000) : ∃ (l : List Nat) (m' : Mem), d__law_drawn_word [.ref p] m = .ok (.str l) m' ∧ l ∈ menu ∧ PileAt p m' (z + 1) ∧ Grow p m m' := by
  unfold d__law_drawn_word b__law_drawn_word
  obtain ⟨r, m', h1, h2, h3, h4, h5, h6⟩ := take_g p (m ++ [.lst (menu.map W.str)]) 12 z h.app hz (by decide) (by decide)
  have hn : m.length ≠ p := by have := h.lt; omega
  have hm : m'[m.length]? = some (.lst (menu.map W.str)) := h5.get hn (by simp)
  obtain ⟨w, hw, e⟩ := at_mem (ws := menu.map W.str) (m := m') h2 (by simpa [menu] using h3)
  have e2 := (v_ixR (i := r) hm).trans e
  obtain ⟨l, hl, rfl⟩ := List.mem_map.mp hw
  refine ⟨l, m', ?_, hl, h4, Grow.app.trans h5⟩
  simp only [menu, List.map_cons, List.map_nil] at h1
  simp only [List.length_cons, List.length_nil, Nat.reduceAdd, Nat.reduceEqDiff, if_true, List.map_cons, List.map_nil, Nat.reduceSub, List.replicate, List.cons_append, List.nil_append, R.bind_ok, R.bind_exc, R.bind_bad, R.nox_ok, RS.of_ok, RS.of_exc, List.getElem?_cons_zero, List.getElem?_cons_succ, List.set_cons_zero, List.set_cons_succ, Bool.not_true, Bool.not_false, Bool.false_eq_true, if_false, isNon, gSet, Int.reduceLT, Int.reduceLE, Int.reduceNeg, and_self, Nat.reduceLeDiff, Nat.reduceMul, decide_true, decide_false, Int.reduceEq, eq_self, reduceCtorEq, seq_nx, seq_rt, seq_bad, of_rt, of_nx, trd_rt, trd_nx, r_defn, r_seq, r_try, r_nil, r_expr, r_ret, r_if, r_set, r_asg, r_put, r_attr, r_var, r_c, r_bin, r_un, r_fn, r_fnL, r_call, r_make, made_ok, made_exc, r_eattr, r_ixL, r_new, r_tup, r_disp, r_few, r_eif, r_eand, r_eor, r_enot, r_acons, r_anil, r_astar, r_astarL, r_val, r_tru, r_not, r_and, r_or, r_chain, r_inL, r_m1, r_joinL, r_sl, r_pno, r_pat, v_add, v_sub, v_mod, v_div, v_neg, v_lt, v_le, v_gt, v_ge, v_isN, v_notN, v_intI, v_intB, v_abs, v_strS, v_len, v_ixT, v_ixF, v_eqI, v_neI, v_eqS, v_neS, r_lcomp, r_pval, r_pseq, r_plist, r_planT, r_planS, r_tryO, r_tryA, seq_exc, of_exc, tryO_rt, tryO_nx, tryA_rt, tryA_nx, r_raise, r_raise1, r_xattr, r_slS, r_join, r_dget, r_dict0, r_dput, r_mkx, r_app, h1, e2]
inductive Vl where | nm (l : List Nat) | nu (i : Int)
def Vl.w : Vl → W | .nm l => .str l | .nu i => .int i
def Vl.ok : Vl → Prop | .nm l => l ∈ menu | .nu i => -999999 ≤ i ∧ i ≤ 999999
theorem value_ok (p : Nat) (m : Mem) (z : Int) (h : PileAt p m z) (hz : z < 900000) : ∃ (v : Vl) (m' : Mem), d__law_drawn_value [.ref p] m = .ok v.w m' ∧ v.ok ∧ PileAt p m' (z + 4) ∧ Grow p m m' := by
  unfold d__law_drawn_value b__law_drawn_value
  obtain ⟨r1, m1, a1, a2, a3, a4, a5, a6⟩ := take_g p m 1999999 z h (by omega) (by decide) (by decide)
  obtain ⟨r2, m2, b1, b2, b3, b4, b5, b6⟩ := take_g p m1 7 (z + 1) a4 (by omega) (by decide) (by decide)
  obtain ⟨w, hw, e⟩ := at_mem (ws := [.int 0, .int 1, .int (-1), .int 7, .int 999999, .int (-999999), .int (r1 - 999999)]) (m := m2) b2 b3
  obtain ⟨l, m3, c1, c2, c3, c4⟩ := word_ok p m2 (z + 1 + 1) b4 (by omega)
  obtain ⟨r4, m4, d1, d2, d3, d4, d5, d6⟩ := take_g p m3 2 (z + 1 + 1 + 1) c3 (by omega) (by decide) (by decide)
  obtain ⟨w2, hw2, e2⟩ := at_mem (ws := [.str l, w]) (m := m4) d2 d3
  have hv : ∃ v : Vl, w2 = v.w ∧ v.ok := by
    simp only [List.mem_cons, List.not_mem_nil, or_false] at hw2 hw
    rcases hw2 with rfl | rfl
    · exact ⟨.nm l, rfl, c2⟩
    · rcases hw with rfl | rfl | rfl | rfl | rfl | rfl | rfl
      · exact ⟨.nu 0, rfl, by decide, by decide⟩
      · exact ⟨.nu 1, rfl, by decide, by decide⟩
      · exact ⟨.nu (-1), rfl, by decide, by decide⟩
      · exact ⟨.nu 7, rfl, by decide, by decide⟩
      · exact ⟨.nu 999999, rfl, by decide, by decide⟩
      · exact ⟨.nu (-999999), rfl, by decide, by decide⟩
      · exact ⟨.nu (r1 - 999999), rfl, by omega, by omega⟩
  obtain ⟨v, rfl, hv⟩ := hv
  have e4 : z + 1 + 1 + 1 + 1 = z + 4 := by omega
  refine ⟨v, m4, ?_, hv, e4 ▸ d4, ((a5.trans b5).trans c4).trans d5⟩
  simp only [List.length_cons, List.length_nil, Nat.reduceAdd, Nat.reduceEqDiff, if_true, List.map_cons, List.map_nil, Nat.reduceSub, List.replicate, List.cons_append, List.nil_append, R.bind_ok, R.bind_exc, R.bind_bad, R.nox_ok, RS.of_ok, RS.of_exc, List.getElem?_cons_zero, List.getElem?_cons_succ, List.set_cons_zero, List.set_cons_succ, Bool.not_true, Bool.not_false, Bool.false_eq_true, if_false, isNon, gSet, Int.reduceLT, Int.reduceLE, Int.reduceNeg, and_self, Nat.reduceLeDiff, Nat.reduceMul, decide_true, decide_false, Int.reduceEq, eq_self, reduceCtorEq, seq_nx, seq_rt, seq_bad, of_rt, of_nx, trd_rt, trd_nx, r_defn, r_seq, r_try, r_nil, r_expr, r_ret, r_if, r_set, r_asg, r_put, r_attr, r_var, r_c, r_bin, r_un, r_fn, r_fnL, r_call, r_make, made_ok, made_exc, r_eattr, r_ixL, r_new, r_tup, r_disp, r_few, r_eif, r_eand, r_eor, r_enot, r_acons, r_anil, r_astar, r_astarL, r_val, r_tru, r_not, r_and, r_or, r_chain, r_inL, r_m1, r_joinL, r_sl, r_pno, r_pat, v_add, v_sub, v_mod, v_div, v_neg, v_lt, v_le, v_gt, v_ge, v_isN, v_notN, v_intI, v_intB, v_abs, v_strS, v_len, v_ixT, v_ixF, v_eqI, v_neI, v_eqS, v_neS, r_lcomp, r_pval, r_pseq, r_plist, r_planT, r_planS, r_tryO, r_tryA, seq_exc, of_exc, tryO_rt, tryO_nx, tryA_rt, tryA_nx, r_raise, r_raise1, r_xattr, r_slS, r_join, r_dget, r_dict0, r_dput, r_mkx, r_app, a1, b1, e, c1, d1, e2]
inductive St where | set (x : List Nat) (a : Vl) (op : List Nat) (b : Vl) | copy (x : List Nat) (a : Vl) | read (x : List Nat) | write (a : Vl)
def ops : List (List Nat) := [[97, 100, 100], [115, 117, 98], [109, 117, 108]]
def St.ok : St → Prop
  | .set x a op b => x ∈ menu ∧ a.ok ∧ op ∈ ops ∧ b.ok
  | .copy x a => x ∈ menu ∧ a.ok
  | .read x => x ∈ menu
  | .write a => a.ok
def kSet : List Nat := [115, 101, 116]
def kCopy : List Nat := [99, 111, 112, 121]
def kRead : List Nat := [114, 101, 97, 100]
def kWrite : List Nat := [119, 114, 105, 116, 101]
def St.tup : St → W
  | .set x a op b => .tup [.str kSet, .str x, a.w, .str op, b.w]
  | .copy x a => .tup [.str kCopy, .str x, a.w]
  | .read x => .tup [.str kRead, .str x]
  | .write a => .tup [.str kWrite, a.w]
theorem any_ok (p : Nat) (m : Mem) (z : Int) (h : PileAt p m z) (hz : z < 800000) : ∃ (s : St) (m' : Mem) (z' : Int), d__law_any_statement [.ref p] m = .ok s.tup m' ∧ s.ok ∧ PileAt p m' z' ∧ z' ≤ z + 20 ∧ Grow p m m' := by
  unfold d__law_any_statement b__law_any_statement
  obtain ⟨r1, m1, a1, a2, a3, a4, a5, a6⟩ := take_g p m 4 z h (by omega) (by decide) (by decide)
  have hr : r1 = 0 ∨ r1 = 1 ∨ r1 = 2 ∨ r1 = 3 := by omega
  rcases hr with rfl | rfl | rfl | rfl
  · obtain ⟨r2, m2, b1, b2, b3, b4, b5, b6⟩ := take_g p m1 3 (z + 1) a4 (by omega) (by decide) (by decide)
    obtain ⟨w, hw, e⟩ := at_mem (ws := ops.map W.str) (m := m2) b2 (by simpa [ops] using b3)
    obtain ⟨op, hop, rfl⟩ := List.mem_map.mp hw
    obtain ⟨x, m3, c1, c2, c3, c4⟩ := word_ok p m2 _ b4 (by omega)
    obtain ⟨v, m4, d1, d2, d3, d4⟩ := value_ok p m3 _ c3 (by omega)
    obtain ⟨u, m5, e1, e2, e3, e4⟩ := value_ok p m4 _ d3 (by omega)
    refine ⟨.set x v op u, m5, _, ?_, ⟨c2, d2, hop, e2⟩, e3, by omega, (((a5.trans b5).trans c4).trans d4).trans e4⟩
    simp only [ops, List.map_cons, List.map_nil] at e
    simp only [List.length_cons, List.length_nil, Nat.reduceAdd, Nat.reduceEqDiff, if_true, List.map_cons, List.map_nil, Nat.reduceSub, List.replicate, List.cons_append, List.nil_append, R.bind_ok, R.bind_exc, R.bind_bad, R.nox_ok, RS.of_ok, RS.of_exc, List.getElem?_cons_zero, List.getElem?_cons_succ, List.set_cons_zero, List.set_cons_succ, Bool.not_true, Bool.not_false, Bool.false_eq_true, if_false, isNon, gSet, Int.reduceLT, Int.reduceLE, Int.reduceNeg, and_self, Nat.reduceLeDiff, Nat.reduceMul, decide_true, decide_false, Int.reduceEq, eq_self, reduceCtorEq, seq_nx, seq_rt, seq_bad, of_rt, of_nx, trd_rt, trd_nx, r_defn, r_seq, r_try, r_nil, r_expr, r_ret, r_if, r_set, r_asg, r_put, r_attr, r_var, r_c, r_bin, r_un, r_fn, r_fnL, r_call, r_make, made_ok, made_exc, r_eattr, r_ixL, r_new, r_tup, r_disp, r_few, r_eif, r_eand, r_eor, r_enot, r_acons, r_anil, r_astar, r_astarL, r_val, r_tru, r_not, r_and, r_or, r_chain, r_inL, r_m1, r_joinL, r_sl, r_pno, r_pat, v_add, v_sub, v_mod, v_div, v_neg, v_lt, v_le, v_gt, v_ge, v_isN, v_notN, v_intI, v_intB, v_abs, v_strS, v_len, v_ixT, v_ixF, v_eqI, v_neI, v_eqS, v_neS, r_lcomp, r_pval, r_pseq, r_plist, r_planT, r_planS, r_tryO, r_tryA, seq_exc, of_exc, tryO_rt, tryO_nx, tryA_rt, tryA_nx, r_raise, r_raise1, r_xattr, r_slS, r_join, r_dget, r_dict0, r_dput, r_mkx, r_app, a1, b1, e, c1, d1, e1, St.tup, kSet]
  · obtain ⟨x, m3, c1, c2, c3, c4⟩ := word_ok p m1 _ a4 (by omega)
    obtain ⟨v, m4, d1, d2, d3, d4⟩ := value_ok p m3 _ c3 (by omega)
    refine ⟨.copy x v, m4, _, ?_, ⟨c2, d2⟩, d3, by omega, (a5.trans c4).trans d4⟩
    simp only [List.length_cons, List.length_nil, Nat.reduceAdd, Nat.reduceEqDiff, if_true, List.map_cons, List.map_nil, Nat.reduceSub, List.replicate, List.cons_append, List.nil_append, R.bind_ok, R.bind_exc, R.bind_bad, R.nox_ok, RS.of_ok, RS.of_exc, List.getElem?_cons_zero, List.getElem?_cons_succ, List.set_cons_zero, List.set_cons_succ, Bool.not_true, Bool.not_false, Bool.false_eq_true, if_false, isNon, gSet, Int.reduceLT, Int.reduceLE, Int.reduceNeg, and_self, Nat.reduceLeDiff, Nat.reduceMul, decide_true, decide_false, Int.reduceEq, eq_self, reduceCtorEq, seq_nx, seq_rt, seq_bad, of_rt, of_nx, trd_rt, trd_nx, r_defn, r_seq, r_try, r_nil, r_expr, r_ret, r_if, r_set, r_asg, r_put, r_attr, r_var, r_c, r_bin, r_un, r_fn, r_fnL, r_call, r_make, made_ok, made_exc, r_eattr, r_ixL, r_new, r_tup, r_disp, r_few, r_eif, r_eand, r_eor, r_enot, r_acons, r_anil, r_astar, r_astarL, r_val, r_tru, r_not, r_and, r_or, r_chain, r_inL, r_m1, r_joinL, r_sl, r_pno, r_pat, v_add, v_sub, v_mod, v_div, v_neg, v_lt, v_le, v_gt, v_ge, v_isN, v_notN, v_intI, v_intB, v_abs, v_strS, v_len, v_ixT, v_ixF, v_eqI, v_neI, v_eqS, v_neS, r_lcomp, r_pval, r_pseq, r_plist, r_planT, r_planS, r_tryO, r_tryA, seq_exc, of_exc, tryO_rt, tryO_nx, tryA_rt, tryA_nx, r_raise, r_raise1, r_xattr, r_slS, r_join, r_dget, r_dict0, r_dput, r_mkx, r_app, a1, c1, d1, St.tup, kCopy]
  · obtain ⟨x, m3, c1, c2, c3, c4⟩ := word_ok p m1 _ a4 (by omega)
    refine ⟨.read x, m3, _, ?_, c2, c3, by omega, a5.trans c4⟩
    simp only [List.length_cons, List.length_nil, Nat.reduceAdd, Nat.reduceEqDiff, if_true, List.map_cons, List.map_nil, Nat.reduceSub, List.replicate, List.cons_append, List.nil_append, R.bind_ok, R.bind_exc, R.bind_bad, R.nox_ok, RS.of_ok, RS.of_exc, List.getElem?_cons_zero, List.getElem?_cons_succ, List.set_cons_zero, List.set_cons_succ, Bool.not_true, Bool.not_false, Bool.false_eq_true, if_false, isNon, gSet, Int.reduceLT, Int.reduceLE, Int.reduceNeg, and_self, Nat.reduceLeDiff, Nat.reduceMul, decide_true, decide_false, Int.reduceEq, eq_self, reduceCtorEq, seq_nx, seq_rt, seq_bad, of_rt, of_nx, trd_rt, trd_nx, r_defn, r_seq, r_try, r_nil, r_expr, r_ret, r_if, r_set, r_asg, r_put, r_attr, r_var, r_c, r_bin, r_un, r_fn, r_fnL, r_call, r_make, made_ok, made_exc, r_eattr, r_ixL, r_new, r_tup, r_disp, r_few, r_eif, r_eand, r_eor, r_enot, r_acons, r_anil, r_astar, r_astarL, r_val, r_tru, r_not, r_and, r_or, r_chain, r_inL, r_m1, r_joinL, r_sl, r_pno, r_pat, v_add, v_sub, v_mod, v_div, v_neg, v_lt, v_le, v_gt, v_ge, v_isN, v_notN, v_intI, v_intB, v_abs, v_strS, v_len, v_ixT, v_ixF, v_eqI, v_neI, v_eqS, v_neS, r_lcomp, r_pval, r_pseq, r_plist, r_planT, r_planS, r_tryO, r_tryA, seq_exc, of_exc, tryO_rt, tryO_nx, tryA_rt, tryA_nx, r_raise, r_raise1, r_xattr, r_slS, r_join, r_dget, r_dict0, r_dput, r_mkx, r_app, a1, c1, St.tup, kRead]
  · obtain ⟨v, m4, d1, d2, d3, d4⟩ := value_ok p m1 _ a4 (by omega)
    refine ⟨.write v, m4, _, ?_, d2, d3, by omega, a5.trans d4⟩
    simp only [List.length_cons, List.length_nil, Nat.reduceAdd, Nat.reduceEqDiff, if_true, List.map_cons, List.map_nil, Nat.reduceSub, List.replicate, List.cons_append, List.nil_append, R.bind_ok, R.bind_exc, R.bind_bad, R.nox_ok, RS.of_ok, RS.of_exc, List.getElem?_cons_zero, List.getElem?_cons_succ, List.set_cons_zero, List.set_cons_succ, Bool.not_true, Bool.not_false, Bool.false_eq_true, if_false, isNon, gSet, Int.reduceLT, Int.reduceLE, Int.reduceNeg, and_self, Nat.reduceLeDiff, Nat.reduceMul, decide_true, decide_false, Int.reduceEq, eq_self, reduceCtorEq, seq_nx, seq_rt, seq_bad, of_rt, of_nx, trd_rt, trd_nx, r_defn, r_seq, r_try, r_nil, r_expr, r_ret, r_if, r_set, r_asg, r_put, r_attr, r_var, r_c, r_bin, r_un, r_fn, r_fnL, r_call, r_make, made_ok, made_exc, r_eattr, r_ixL, r_new, r_tup, r_disp, r_few, r_eif, r_eand, r_eor, r_enot, r_acons, r_anil, r_astar, r_astarL, r_val, r_tru, r_not, r_and, r_or, r_chain, r_inL, r_m1, r_joinL, r_sl, r_pno, r_pat, v_add, v_sub, v_mod, v_div, v_neg, v_lt, v_le, v_gt, v_ge, v_isN, v_notN, v_intI, v_intB, v_abs, v_strS, v_len, v_ixT, v_ixF, v_eqI, v_neI, v_eqS, v_neS, r_lcomp, r_pval, r_pseq, r_plist, r_planT, r_planS, r_tryO, r_tryA, seq_exc, of_exc, tryO_rt, tryO_nx, tryA_rt, tryA_nx, r_raise, r_raise1, r_xattr, r_slS, r_join, r_dget, r_dict0, r_dput, r_mkx, r_app, a1, d1, St.tup, kWrite]
end K02

namespace K02
open PySem Sh
/-! ### memory only grows -/
def Ext (m m' : Mem) : Prop := ∃ l : Mem, m' = m ++ l
theorem Ext.refl (m : Mem) : Ext m m := ⟨[], by simp⟩
theorem Ext.add {m m' : Mem} (h : Ext m m') (l : Mem) : Ext m (m' ++ l) := by
  obtain ⟨k, rfl⟩ := h
  exact ⟨k ++ l, by simp⟩
theorem Ext.app (m l : Mem) : Ext m (m ++ l) := ⟨l, rfl⟩
theorem Ext.trans {m m' m'' : Mem} (h : Ext m m') (h' : Ext m' m'') : Ext m m'' := by
  obtain ⟨k, rfl⟩ := h'
  exact h.add k
theorem Ext.get {m m' : Mem} (h : Ext m m') {i : Nat} {o : O} (g : m[i]? = some o) : m'[i]? = some o := by
  obtain ⟨k, rfl⟩ := h
  rw [List.getElem?_append_left (List.getElem?_eq_some_iff.mp g).1]
  exact g
/-! ### isinstance of plain things -/
theorem isi_si (m : Mem) (l : List Nat) : bIsi isiT [.str l, .ty "str"] m = .ok (.bl true) m := by rfl
theorem isi_is (m : Mem) (i : Int) : bIsi isiT [.int i, .ty "int"] m = .ok (.bl true) m := by rfl
theorem isi_ib (m : Mem) (i : Int) : bIsi isiT [.int i, .ty "bool"] m = .ok (.bl false) m := by rfl
theorem isi_st (m : Mem) (l : List Nat) : bIsi isiT [.str l, .ty "int"] m = .ok (.bl false) m := by rfl
theorem isi_nt (m : Mem) : bIsi isiT [.non, .ty "int"] m = .ok (.bl false) m := by rfl
theorem isi_ns (m : Mem) : bIsi isiT [.non, .ty "str"] m = .ok (.bl false) m := by rfl
theorem integer_s (l : List Nat) (m : Mem) : d_is_integer [.str l] m = .ok (.bl false) m := by rfl
theorem integer_i (i : Int) (m : Mem) : d_is_integer [.int i] m = .ok (.bl true) m := by rfl
theorem whole_s (l : List Nat) (m : Mem) : d__law_whole [.str l] m = .ok (.bl false) m := by rfl
theorem whole_i (i : Int) (m : Mem) : d__law_whole [.int i] m = .ok (.bl true) m := by rfl
theorem whole_n (m : Mem) : d__law_whole [.non] m = .ok (.bl false) m := by rfl
/-! ### names -/
abbrev letters : List Nat := [97, 98, 99, 100, 101, 102, 103, 104, 105, 106, 107, 108, 109, 110, 111, 112, 113, 114, 115, 116, 117, 118, 119, 120, 121, 122]
abbrev digits : List Nat := [48, 49, 50, 51, 52, 53, 54, 55, 56, 57]
def allB (S l : List Nat) : Bool := l.all fun c => decide (c ∈ S)
def nameB (l : List Nat) : Bool := decide (1 ≤ l.length) && (decide (l.length ≤ 8) && allB letters l)
def fIn (S : List Nat) : W → W | .str [c] => .bl (decide (c ∈ S)) | _ => .non
theorem in_str (S : List Nat) (c : Nat) (m : Mem) : wIn (.str [c]) (.str S) m = .ok (.bl (decide (c ∈ S))) m := rfl
theorem notIn_str (S : List Nat) (c : Nat) (m : Mem) : wNotIn (.str [c]) (.str S) m = .ok (.bl (!decide (c ∈ S))) m := rfl
theorem comp_filter {src : Src} {ws : List W} {m : Mem} {k : Nat} {t : DB} {e : DE} {σ : Sh.Loc} {p : W → Bool} (hl : ws.length ≤ 1000000) (hs : ∀ i, src i m = some ws[i]?) (ht : ∀ w, w ∈ ws → t (σ.set k (some w)) m = .ok (p w) m) (he : ∀ w, w ∈ ws → e (σ.set k (some w)) m = .ok w m) :
    compLoop src (gSet k) t e σ (ws.length + 1) 0 [] m = .ok (ws.filter p) m := by
  have go : ∀ (n i : Nat) (acc : List W), i + n = ws.length → acc.length ≤ i → compLoop src (gSet k) t e σ (n + 1) i acc m = .ok (acc ++ (ws.drop i).filter p) m := by
    intro n
    induction n with
    | zero =>
      intro i acc hi _
      unfold compLoop
      have : ws[i]? = none := by simp; omega
      simp only [hs, this]
      have : ws.drop i = [] := by simp; omega
      simp [this]
    | succ n ih =>
      intro i acc hi ha
      have hlt : i < ws.length := by omega
      have hm := List.getElem_mem hlt
      unfold compLoop
      simp only [hs, List.getElem?_eq_getElem hlt, gSet, R.nox_ok, R.bind_ok, ht _ hm, he _ hm]
      have hd : ws.drop i = ws[i] :: ws.drop (i + 1) := List.drop_eq_getElem_cons hlt
      cases hp : p ws[i] with
      | true =>
        simp only [if_true]
        rw [if_pos (by omega), ih (i + 1) (acc ++ [ws[i]]) (by omega) (by simp; omega), hd, List.filter_cons_of_pos hp]
        simp
      | false =>
        simp only [Bool.false_eq_true, if_false]
        rw [ih (i + 1) acc (by omega) (by omega), hd, List.filter_cons_of_neg (by simp [hp])]
  have := go ws.length 0 [] (by omega) (by simp)
  simpa using this
theorem src_str (l : List Nat) (i : Nat) (m : Mem) : srcStr l i m = some (l.map fun c => W.str [c])[i]? := by simp [srcStr]
theorem bls_of (f : Nat → Bool) : ∀ l : List Nat, blsW (l.map fun c => W.bl (f c)) = some (l.map f)
  | [] => rfl
  | c :: l => by simp [blsW, bls_of f l]
theorem all_map (f : Nat → Bool) : ∀ l : List Nat, (l.map f).all id = l.all f
  | [] => rfl
  | c :: l => by simp
theorem all_str (S l : List Nat) (hl : l.length ≤ 1000000) (k : Nat) (σ : Sh.Loc) (m : Mem) (hk : k < σ.length) :
    (compLoop (srcStr l) (gSet k) tYesB (eBin wIn (eVar k) (eC (.str S))) σ (l.length + 1) 0 [] m).bind bAll = .ok (.bl (allB S l)) m := by
  have hc := comp_map (src := srcStr l) (ws := l.map fun c => W.str [c]) (m := m) (k := k) (e := eBin wIn (eVar k) (eC (.str S))) (σ := σ) (f := fIn S) (by simpa using hl) (fun i => src_str l i m) (fun x hx => by
    obtain ⟨c, hc, rfl⟩ := List.mem_map.mp hx
    have e : eVar k (σ.set k (some (.str [c]))) m = .ok (.str [c]) m := by
      rw [r_var, List.getElem?_set_self hk]
    rw [r_bin, e]
    rfl)
  rw [List.length_map] at hc
  rw [hc, List.map_map]
  have e : (l.map (fIn S ∘ fun c => W.str [c])) = l.map fun c => W.bl (decide (c ∈ S)) := List.map_congr_left fun c _ => rfl
  rw [e]
  show bAll _ m = _
  unfold bAll
  rw [bls_of]
  simp only [all_map, allB]
theorem len_str {l : List Nat} (h : l.length ≤ 1000000) (m : Mem) : lenW (.str l) m = some l.length := if_pos h
theorem dec_le (a b : Nat) : decide ((a : Int) ≤ (b : Int)) = decide (a ≤ b) := by
  by_cases h : a ≤ b
  · rw [decide_eq_true h, decide_eq_true (by omega)]
  · rw [decide_eq_false h, decide_eq_false (by omega)]
theorem dec_lt (a b : Nat) : decide ((a : Int) < (b : Int)) = decide (a < b) := by
  by_cases h : a < b
  · rw [decide_eq_true h, decide_eq_true (by omega)]
  · rw [decide_eq_false h, decide_eq_false (by omega)]
theorem name_ok (l : List Nat) (h : l.length ≤ 1000) (m : Mem) : d_is_name [.str l] m = .ok (.bl (nameB l)) m := by
  unfold d_is_name b_is_name nameB
  have h1 := len_str (l := l) (by omega) m
  have e1 : decide (1 ≤ (l.length : Int)) = decide (1 ≤ l.length) := dec_le 1 _
  have e8 : decide ((l.length : Int) ≤ 8) = decide (l.length ≤ 8) := dec_le _ 8
  have hall := all_str letters l (by omega) 1 [some (.str l), none] m (by simp)
  by_cases c1 : 1 ≤ l.length
  · by_cases c8 : l.length ≤ 8
    · simp only [List.length_cons, List.length_nil, Nat.reduceAdd, Nat.reduceEqDiff, if_true, List.map_cons, List.map_nil, Nat.reduceSub, List.replicate, List.cons_append, List.nil_append, R.bind_ok, R.bind_exc, R.bind_bad, R.nox_ok, RS.of_ok, RS.of_exc, List.getElem?_cons_zero, List.getElem?_cons_succ, List.set_cons_zero, List.set_cons_succ, Bool.not_true, Bool.not_false, Bool.false_eq_true, if_false, isNon, gSet, Int.reduceLT, Int.reduceLE, Int.reduceNeg, and_self, Nat.reduceLeDiff, Nat.reduceMul, decide_true, decide_false, Int.reduceEq, eq_self, reduceCtorEq, seq_nx, seq_rt, seq_bad, of_rt, of_nx, trd_rt, trd_nx, r_defn, r_seq, r_try, r_nil, r_expr, r_ret, r_if, r_set, r_asg, r_put, r_attr, r_var, r_c, r_bin, r_un, r_fn, r_fnL, r_call, r_make, made_ok, made_exc, r_eattr, r_ixL, r_new, r_tup, r_disp, r_few, r_eif, r_eand, r_eor, r_enot, r_acons, r_anil, r_astar, r_astarL, r_val, r_tru, r_not, r_and, r_or, r_chain, r_inL, r_m1, r_joinL, r_sl, r_pno, r_pat, v_add, v_sub, v_mod, v_div, v_neg, v_lt, v_le, v_gt, v_ge, v_isN, v_notN, v_intI, v_intB, v_abs, v_strS, v_len, v_ixT, v_ixF, v_eqI, v_neI, v_eqS, v_neS, r_lcomp, r_pval, r_pseq, r_plist, r_planT, r_planS, r_tryO, r_tryA, seq_exc, of_exc, tryO_rt, tryO_nx, tryA_rt, tryA_nx, r_raise, r_raise1, r_xattr, r_slS, r_join, r_dget, r_dict0, r_dput, r_mkx, r_app, isi_si, h1, e1, e8, c1, c8, r_planS, wipeW, Bool.true_and, hall]
    · simp only [List.length_cons, List.length_nil, Nat.reduceAdd, Nat.reduceEqDiff, if_true, List.map_cons, List.map_nil, Nat.reduceSub, List.replicate, List.cons_append, List.nil_append, R.bind_ok, R.bind_exc, R.bind_bad, R.nox_ok, RS.of_ok, RS.of_exc, List.getElem?_cons_zero, List.getElem?_cons_succ, List.set_cons_zero, List.set_cons_succ, Bool.not_true, Bool.not_false, Bool.false_eq_true, if_false, isNon, gSet, Int.reduceLT, Int.reduceLE, Int.reduceNeg, and_self, Nat.reduceLeDiff, Nat.reduceMul, decide_true, decide_false, Int.reduceEq, eq_self, reduceCtorEq, seq_nx, seq_rt, seq_bad, of_rt, of_nx, trd_rt, trd_nx, r_defn, r_seq, r_try, r_nil, r_expr, r_ret, r_if, r_set, r_asg, r_put, r_attr, r_var, r_c, r_bin, r_un, r_fn, r_fnL, r_call, r_make, made_ok, made_exc, r_eattr, r_ixL, r_new, r_tup, r_disp, r_few, r_eif, r_eand, r_eor, r_enot, r_acons, r_anil, r_astar, r_astarL, r_val, r_tru, r_not, r_and, r_or, r_chain, r_inL, r_m1, r_joinL, r_sl, r_pno, r_pat, v_add, v_sub, v_mod, v_div, v_neg, v_lt, v_le, v_gt, v_ge, v_isN, v_notN, v_intI, v_intB, v_abs, v_strS, v_len, v_ixT, v_ixF, v_eqI, v_neI, v_eqS, v_neS, r_lcomp, r_pval, r_pseq, r_plist, r_planT, r_planS, r_tryO, r_tryA, seq_exc, of_exc, tryO_rt, tryO_nx, tryA_rt, tryA_nx, r_raise, r_raise1, r_xattr, r_slS, r_join, r_dget, r_dict0, r_dput, r_mkx, r_app, isi_si, h1, e1, e8, c1, c8, Bool.true_and, Bool.false_and]
  · simp only [List.length_cons, List.length_nil, Nat.reduceAdd, Nat.reduceEqDiff, if_true, List.map_cons, List.map_nil, Nat.reduceSub, List.replicate, List.cons_append, List.nil_append, R.bind_ok, R.bind_exc, R.bind_bad, R.nox_ok, RS.of_ok, RS.of_exc, List.getElem?_cons_zero, List.getElem?_cons_succ, List.set_cons_zero, List.set_cons_succ, Bool.not_true, Bool.not_false, Bool.false_eq_true, if_false, isNon, gSet, Int.reduceLT, Int.reduceLE, Int.reduceNeg, and_self, Nat.reduceLeDiff, Nat.reduceMul, decide_true, decide_false, Int.reduceEq, eq_self, reduceCtorEq, seq_nx, seq_rt, seq_bad, of_rt, of_nx, trd_rt, trd_nx, r_defn, r_seq, r_try, r_nil, r_expr, r_ret, r_if, r_set, r_asg, r_put, r_attr, r_var, r_c, r_bin, r_un, r_fn, r_fnL, r_call, r_make, made_ok, made_exc, r_eattr, r_ixL, r_new, r_tup, r_disp, r_few, r_eif, r_eand, r_eor, r_enot, r_acons, r_anil, r_astar, r_astarL, r_val, r_tru, r_not, r_and, r_or, r_chain, r_inL, r_m1, r_joinL, r_sl, r_pno, r_pat, v_add, v_sub, v_mod, v_div, v_neg, v_lt, v_le, v_gt, v_ge, v_isN, v_notN, v_intI, v_intB, v_abs, v_strS, v_len, v_ixT, v_ixF, v_eqI, v_neI, v_eqS, v_neS, r_lcomp, r_pval, r_pseq, r_plist, r_planT, r_planS, r_tryO, r_tryA, seq_exc, of_exc, tryO_rt, tryO_nx, tryA_rt, tryA_nx, r_raise, r_raise1, r_xattr, r_slS, r_join, r_dget, r_dict0, r_dput, r_mkx, r_app, isi_si, h1, e1, e8, c1, Bool.false_and]
theorem name_n (m : Mem) : d__law_is_name [.non] m = .ok (.bl false) m := by
  unfold d__law_is_name b__law_is_name
  simp only [List.length_cons, List.length_nil, Nat.reduceAdd, Nat.reduceEqDiff, if_true, List.map_cons, List.map_nil, Nat.reduceSub, List.replicate, List.cons_append, List.nil_append, R.bind_ok, R.bind_exc, R.bind_bad, R.nox_ok, RS.of_ok, RS.of_exc, List.getElem?_cons_zero, List.getElem?_cons_succ, List.set_cons_zero, List.set_cons_succ, Bool.not_true, Bool.not_false, Bool.false_eq_true, if_false, isNon, gSet, Int.reduceLT, Int.reduceLE, Int.reduceNeg, and_self, Nat.reduceLeDiff, Nat.reduceMul, decide_true, decide_false, Int.reduceEq, eq_self, reduceCtorEq, seq_nx, seq_rt, seq_bad, of_rt, of_nx, trd_rt, trd_nx, r_defn, r_seq, r_try, r_nil, r_expr, r_ret, r_if, r_set, r_asg, r_put, r_attr, r_var, r_c, r_bin, r_un, r_fn, r_fnL, r_call, r_make, made_ok, made_exc, r_eattr, r_ixL, r_new, r_tup, r_disp, r_few, r_eif, r_eand, r_eor, r_enot, r_acons, r_anil, r_astar, r_astarL, r_val, r_tru, r_not, r_and, r_or, r_chain, r_inL, r_m1, r_joinL, r_sl, r_pno, r_pat, v_add, v_sub, v_mod, v_div, v_neg, v_lt, v_le, v_gt, v_ge, v_isN, v_notN, v_intI, v_intB, v_abs, v_strS, v_len, v_ixT, v_ixF, v_eqI, v_neI, v_eqS, v_neS, r_lcomp, r_pval, r_pseq, r_plist, r_planT, r_planS, r_tryO, r_tryA, seq_exc, of_exc, tryO_rt, tryO_nx, tryA_rt, tryA_nx, r_raise, r_raise1, r_xattr, r_slS, r_join, r_dget, r_dict0, r_dput, r_mkx, r_app, isi_ns]
theorem filter_none (S l : List Nat) : ((l.map fun c => W.str [c]).filter fun w => match w with | .str [c] => !decide (c ∈ S) | _ => true) = (l.filter fun c => !decide (c ∈ S)).map fun c => W.str [c] := by
  induction l with
  | nil => rfl
  | cons c l ih =>
    simp only [List.map_cons, List.filter_cons, ih]
    split <;> rfl
theorem filter_empty (S l : List Nat) : (l.filter fun c => !decide (c ∈ S)) = [] ↔ allB S l = true := by
  unfold allB
  simp [List.filter_eq_nil_iff]
theorem dat_ss (m : Mem) (d : Nat) : ∀ l : List Nat, dats m d (l.map fun c => W.str [c]) = some (l.map fun c => PyData.str (Sh.S [c]))
  | [] => by simp [dats]
  | c :: l => by
    have : dat m d (.str [c]) = some (.str (Sh.S [c])) := by cases d <;> simp [dat]
    simp [dats, this, dat_ss m d l]
theorem canLay_ss : ∀ l : List Nat, (∀ c ∈ l, c < 128) → PyData.canLayAll0 (l.map fun c => PyData.str (Sh.S [c])) = true
  | [], _ => by simp [PyData.canLayAll0]
  | c :: l, h => by
    have h1 : c < 128 := h c List.mem_cons_self
    have h2 : c < 1114112 := by omega
    simp [PyData.canLayAll0, PyData.canLay0, PyData.strOk, h2, canLay_ss l fun x hx => h x (List.mem_cons_of_mem _ hx)]
theorem depth_ss : ∀ l : List Nat, PyData.depthAll (l.map fun c => PyData.str (Sh.S [c])) = 0
  | [] => by simp [PyData.depthAll]
  | c :: l => by simp [PyData.depthAll, PyData.depth, depth_ss l]
theorem eqD_ss {a b : Nat} {l : List Nat} {m : Mem} (hl : ∀ c ∈ l, c < 128) (h1 : m[a]? = some (.lst (l.map fun c => W.str [c]))) (h2 : m[b]? = some (.lst [])) : eqD (.ref a) (.ref b) m = .ok (l.isEmpty) m := by
  have e1 : dat m 30 (.ref a) = some (.list (l.map fun c => PyData.str (Sh.S [c]))) := by simp only [dat, h1, dat_ss, Option.map_some]
  have e2 : dat m 30 (.ref b) = some (.list []) := by simp only [dat, h2, dats, Option.map_some]
  unfold eqD
  simp only [e1, e2]
  have s1 : SeqAt.shaped (.list (l.map fun c => PyData.str (Sh.S [c]))) = true := by
    unfold SeqAt.shaped
    simp [PyData.canLay0, canLay_ss l hl, PyData.depth, depth_ss]
  have s2 : SeqAt.shaped (.list []) = true := by decide
  rw [if_pos ⟨s1, s2⟩]
  cases l <;> simp [PyData.eqv, PyData.eqvAll]
theorem eq_ss {a b : Nat} {l : List Nat} {m : Mem} (hl : ∀ c ∈ l, c < 128) (h1 : m[a]? = some (.lst (l.map fun c => W.str [c]))) (h2 : m[b]? = some (.lst [])) : wEq0 (.ref a) (.ref b) m = .ok (.bl (l.isEmpty)) m := by
  show (eqD (.ref a) (.ref b) m).bind _ = _
  rw [eqD_ss hl h1 h2]; rfl
theorem ne_ss {a b : Nat} {l : List Nat} {m : Mem} (hl : ∀ c ∈ l, c < 128) (h1 : m[a]? = some (.lst (l.map fun c => W.str [c]))) (h2 : m[b]? = some (.lst [])) : wNe0 (.ref a) (.ref b) m = .ok (.bl (!l.isEmpty)) m := by
  show (eqD (.ref a) (.ref b) m).bind _ = _
  rw [eqD_ss hl h1 h2]; rfl
theorem comp_not (S l : List Nat) (hl : l.length ≤ 1000000) (k : Nat) (σ : Sh.Loc) (m : Mem) (hk : k < σ.length) :
    compLoop (srcStr l) (gSet k) (tVal (eBin wNotIn (eVar k) (eC (.str S)))) (eVar k) σ (l.length + 1) 0 [] m = .ok ((l.filter fun c => !decide (c ∈ S)).map fun c => W.str [c]) m := by
  have hv : ∀ w, eVar k (σ.set k (some w)) m = .ok w m := fun w => by rw [r_var, List.getElem?_set_self hk]
  have hc := comp_filter (src := srcStr l) (ws := l.map fun c => W.str [c]) (m := m) (k := k) (t := tVal (eBin wNotIn (eVar k) (eC (.str S)))) (e := eVar k) (σ := σ) (p := fun w => match w with | .str [c] => !decide (c ∈ S) | _ => true) (by simpa using hl) (fun i => src_str l i m) (fun x hx => by
    obtain ⟨c, hc, rfl⟩ := List.mem_map.mp hx
    rw [r_val, r_bin, hv]
    rfl) (fun x hx => hv x)
  rw [List.length_map, filter_none] at hc
  exact hc
theorem isEmpty_filter (S l : List Nat) : ((l.filter fun c => !decide (c ∈ S))).isEmpty = allB S l := by
  cases h : allB S l with
  | true => rw [(filter_empty S l).mpr h]; rfl
  | false =>
    cases q : l.filter fun c => !decide (c ∈ S) with
    | nil => rw [(filter_empty S l).mp q] at h; cases h
    | cons a b => rfl
def Good (l : List Nat) : Prop := l.length ≤ 1000 ∧ ∀ c ∈ l, c < 128
theorem lname_ok (l : List Nat) (hg : Good l) (m : Mem) : ∃ m', d__law_is_name [.str l] m = .ok (.bl (nameB l)) m' ∧ Ext m m' := by
  obtain ⟨h, hcs⟩ := hg
  unfold d__law_is_name b__law_is_name nameB
  have h1 := len_str (l := l) (by omega) m
  have e1 : decide (0 < (l.length : Int)) = decide (1 ≤ l.length) := dec_lt 0 _
  have e8 : decide ((l.length : Int) < 9) = decide (l.length ≤ 8) := by
    rw [show ((9 : Int)) = ((9 : Nat) : Int) from rfl, dec_lt]
    by_cases c : l.length ≤ 8
    · rw [decide_eq_true c, decide_eq_true (by omega)]
    · rw [decide_eq_false c, decide_eq_false (by omega)]
  have hc := comp_not letters l (by omega) 1 [some (.str l), none] m (by simp)
  by_cases c1 : 1 ≤ l.length
  · by_cases c8 : l.length ≤ 8
    · refine ⟨m ++ [.lst ((l.filter fun c => !decide (c ∈ letters)).map fun c => W.str [c])] ++ [.lst []], ?_, (Ext.app _ _).add _⟩
      have g1 : (m ++ [O.lst ((l.filter fun c => !decide (c ∈ letters)).map fun c => W.str [c])] ++ [.lst []])[m.length]? = some (.lst ((l.filter fun c => !decide (c ∈ letters)).map fun c => W.str [c])) := by simp
      have g2 : (m ++ [O.lst ((l.filter fun c => !decide (c ∈ letters)).map fun c => W.str [c])] ++ [.lst []])[(m ++ [O.lst ((l.filter fun c => !decide (c ∈ letters)).map fun c => W.str [c])]).length]? = some (.lst []) := by simp
      have q := eq_ss (fun c hc => hcs c (List.mem_filter.mp hc).1) g1 g2
      rw [isEmpty_filter] at q
      simp only [List.length_cons, List.length_nil, Nat.reduceAdd, Nat.reduceEqDiff, if_true, List.map_cons, List.map_nil, Nat.reduceSub, List.replicate, List.cons_append, List.nil_append, R.bind_ok, R.bind_exc, R.bind_bad, R.nox_ok, RS.of_ok, RS.of_exc, List.getElem?_cons_zero, List.getElem?_cons_succ, List.set_cons_zero, List.set_cons_succ, Bool.not_true, Bool.not_false, Bool.false_eq_true, if_false, isNon, gSet, Int.reduceLT, Int.reduceLE, Int.reduceNeg, and_self, Nat.reduceLeDiff, Nat.reduceMul, decide_true, decide_false, Int.reduceEq, eq_self, reduceCtorEq, seq_nx, seq_rt, seq_bad, of_rt, of_nx, trd_rt, trd_nx, r_defn, r_seq, r_try, r_nil, r_expr, r_ret, r_if, r_set, r_asg, r_put, r_attr, r_var, r_c, r_bin, r_un, r_fn, r_fnL, r_call, r_make, made_ok, made_exc, r_eattr, r_ixL, r_new, r_tup, r_disp, r_few, r_eif, r_eand, r_eor, r_enot, r_acons, r_anil, r_astar, r_astarL, r_val, r_tru, r_not, r_and, r_or, r_chain, r_inL, r_m1, r_joinL, r_sl, r_pno, r_pat, v_add, v_sub, v_mod, v_div, v_neg, v_lt, v_le, v_gt, v_ge, v_isN, v_notN, v_intI, v_intB, v_abs, v_strS, v_len, v_ixT, v_ixF, v_eqI, v_neI, v_eqS, v_neS, r_lcomp, r_pval, r_pseq, r_plist, r_planT, r_planS, r_tryO, r_tryA, seq_exc, of_exc, tryO_rt, tryO_nx, tryA_rt, tryA_nx, r_raise, r_raise1, r_xattr, r_slS, r_join, r_dget, r_dict0, r_dput, r_mkx, r_app, isi_si, h1, e1, e8, c1, c8, r_planS, wipeW, Bool.true_and, hc, q]
    · refine ⟨m, ?_, .refl m⟩
      simp only [List.length_cons, List.length_nil, Nat.reduceAdd, Nat.reduceEqDiff, if_true, List.map_cons, List.map_nil, Nat.reduceSub, List.replicate, List.cons_append, List.nil_append, R.bind_ok, R.bind_exc, R.bind_bad, R.nox_ok, RS.of_ok, RS.of_exc, List.getElem?_cons_zero, List.getElem?_cons_succ, List.set_cons_zero, List.set_cons_succ, Bool.not_true, Bool.not_false, Bool.false_eq_true, if_false, isNon, gSet, Int.reduceLT, Int.reduceLE, Int.reduceNeg, and_self, Nat.reduceLeDiff, Nat.reduceMul, decide_true, decide_false, Int.reduceEq, eq_self, reduceCtorEq, seq_nx, seq_rt, seq_bad, of_rt, of_nx, trd_rt, trd_nx, r_defn, r_seq, r_try, r_nil, r_expr, r_ret, r_if, r_set, r_asg, r_put, r_attr, r_var, r_c, r_bin, r_un, r_fn, r_fnL, r_call, r_make, made_ok, made_exc, r_eattr, r_ixL, r_new, r_tup, r_disp, r_few, r_eif, r_eand, r_eor, r_enot, r_acons, r_anil, r_astar, r_astarL, r_val, r_tru, r_not, r_and, r_or, r_chain, r_inL, r_m1, r_joinL, r_sl, r_pno, r_pat, v_add, v_sub, v_mod, v_div, v_neg, v_lt, v_le, v_gt, v_ge, v_isN, v_notN, v_intI, v_intB, v_abs, v_strS, v_len, v_ixT, v_ixF, v_eqI, v_neI, v_eqS, v_neS, r_lcomp, r_pval, r_pseq, r_plist, r_planT, r_planS, r_tryO, r_tryA, seq_exc, of_exc, tryO_rt, tryO_nx, tryA_rt, tryA_nx, r_raise, r_raise1, r_xattr, r_slS, r_join, r_dget, r_dict0, r_dput, r_mkx, r_app, isi_si, h1, e1, e8, c1, c8, Bool.true_and, Bool.false_and]
  · refine ⟨m, ?_, .refl m⟩
    simp only [List.length_cons, List.length_nil, Nat.reduceAdd, Nat.reduceEqDiff, if_true, List.map_cons, List.map_nil, Nat.reduceSub, List.replicate, List.cons_append, List.nil_append, R.bind_ok, R.bind_exc, R.bind_bad, R.nox_ok, RS.of_ok, RS.of_exc, List.getElem?_cons_zero, List.getElem?_cons_succ, List.set_cons_zero, List.set_cons_succ, Bool.not_true, Bool.not_false, Bool.false_eq_true, if_false, isNon, gSet, Int.reduceLT, Int.reduceLE, Int.reduceNeg, and_self, Nat.reduceLeDiff, Nat.reduceMul, decide_true, decide_false, Int.reduceEq, eq_self, reduceCtorEq, seq_nx, seq_rt, seq_bad, of_rt, of_nx, trd_rt, trd_nx, r_defn, r_seq, r_try, r_nil, r_expr, r_ret, r_if, r_set, r_asg, r_put, r_attr, r_var, r_c, r_bin, r_un, r_fn, r_fnL, r_call, r_make, made_ok, made_exc, r_eattr, r_ixL, r_new, r_tup, r_disp, r_few, r_eif, r_eand, r_eor, r_enot, r_acons, r_anil, r_astar, r_astarL, r_val, r_tru, r_not, r_and, r_or, r_chain, r_inL, r_m1, r_joinL, r_sl, r_pno, r_pat, v_add, v_sub, v_mod, v_div, v_neg, v_lt, v_le, v_gt, v_ge, v_isN, v_notN, v_intI, v_intB, v_abs, v_strS, v_len, v_ixT, v_ixF, v_eqI, v_neI, v_eqS, v_neS, r_lcomp, r_pval, r_pseq, r_plist, r_planT, r_planS, r_tryO, r_tryA, seq_exc, of_exc, tryO_rt, tryO_nx, tryA_rt, tryA_nx, r_raise, r_raise1, r_xattr, r_slS, r_join, r_dget, r_dict0, r_dput, r_mkx, r_app, isi_si, h1, e1, e8, c1, Bool.false_and]
end K02

namespace K02
open PySem Sh
/-! ### the signs of a number -/
theorem dec_nat (n : Nat) : dec (n : Int) = TL.numL n := TL.tl_num n
theorem dec_neg (n : Nat) : dec (-((n + 1 : Nat) : Int)) = 45 :: TL.numL (n + 1) := by
  unfold dec TL.numL
  show (Str.ofString (toString (Int.negSucc n))).cps.toList = _
  have e : toString (Int.negSucc n) = "-" ++ Nat.repr (n + 1) := rfl
  rw [e, PyProof.Rows.signs_ofString, String.toList_append, List.map_append, Nat.toList_repr]
  rfl
theorem dec_len {i : Int} (h : -999999 ≤ i ∧ i ≤ 999999) : (dec i).length ≤ 8 := by
  rcases Int.lt_or_le i 0 with hn | hp
  · obtain ⟨n, rfl⟩ : ∃ n : Nat, i = -((n + 1 : Nat) : Int) := ⟨(-i - 1).toNat, by omega⟩
    rw [dec_neg]
    have := TL.numL_len (n := n + 1) (k := 6) (by decide) (by omega)
    simp only [List.length_cons]; omega
  · obtain ⟨n, rfl⟩ : ∃ n : Nat, i = (n : Int) := ⟨i.toNat, by omega⟩
    rw [dec_nat]
    have := TL.numL_len (n := n) (k := 6) (by decide) (by omega)
    omega
theorem dec_ch (i : Int) : ∀ c ∈ dec i, c = 45 ∨ (48 ≤ c ∧ c ≤ 57) := by
  intro c hc
  rcases Int.lt_or_le i 0 with hn | hp
  · obtain ⟨n, rfl⟩ : ∃ n : Nat, i = -((n + 1 : Nat) : Int) := ⟨(-i - 1).toNat, by omega⟩
    rw [dec_neg] at hc
    rcases List.mem_cons.mp hc with rfl | hc
    · exact .inl rfl
    · exact .inr (TL.numL_digits _ c hc)
  · obtain ⟨n, rfl⟩ : ∃ n : Nat, i = (n : Int) := ⟨i.toNat, by omega⟩
    rw [dec_nat] at hc
    exact .inr (TL.numL_digits _ c hc)
theorem val_lt : ∀ (cs : List Nat) (a : Nat), NumText.AllDigits cs → cs.foldl (fun acc c => acc * 10 + (c - 48)) a < (a + 1) * 10 ^ cs.length
  | [], a, _ => by simp
  | c :: cs, a, h => by
    have h1 := h.head
    have ih := val_lt cs (a * 10 + (c - 48)) h.tail
    simp only [List.foldl_cons, List.length_cons]
    have h2 : (a * 10 + (c - 48) + 1) * 10 ^ cs.length ≤ (a + 1) * 10 ^ (cs.length + 1) := by
      rw [Nat.pow_succ, Nat.mul_comm (10 ^ cs.length) 10, ← Nat.mul_assoc]
      exact Nat.mul_le_mul_right _ (by omega)
    omega
theorem digitsVal_lt {cs : List Nat} (h : NumText.AllDigits cs) : NumText.digitsVal cs < 10 ^ cs.length := by
  have := val_lt cs 0 h
  simpa [NumText.digitsVal] using this
theorem all_digits {l : List Nat} : allB digits l = true ↔ NumText.AllDigits l := by
  unfold allB NumText.AllDigits
  simp only [List.all_eq_true, decide_eq_true_eq, List.mem_cons, List.not_mem_nil, or_false]
  exact ⟨fun h c hc => by have := h c hc; omega, fun h c hc => by have := h c hc; omega⟩
def figs : List Nat → List Nat
  | 45 :: r => r
  | l => l
def num : List Nat → Int
  | 45 :: r => -((NumText.digitsVal r : Nat) : Int)
  | l => ((NumText.digitsVal l : Nat) : Int)
theorem figs_minus (r : List Nat) : figs (45 :: r) = r := rfl
theorem figs_other {c : Nat} {r : List Nat} (h : c ≠ 45) : figs (c :: r) = c :: r := by
  unfold figs
  split
  · rename_i e; injection e with e1 e2; exact absurd e1 h
  · rfl
theorem num_minus (r : List Nat) : num (45 :: r) = -((NumText.digitsVal r : Nat) : Int) := rfl
theorem num_other {c : Nat} {r : List Nat} (h : c ≠ 45) : num (c :: r) = ((NumText.digitsVal (c :: r) : Nat) : Int) := by
  unfold num
  split
  · rename_i e; injection e with e1 e2; exact absurd e1 h
  · rfl
def digC (l : List Nat) : Bool := decide (1 ≤ (figs l).length) && (decide ((figs l).length ≤ 6) && allB digits (figs l))
theorem digC_iff {l : List Nat} : digC l = true ↔ 1 ≤ (figs l).length ∧ (figs l).length ≤ 6 ∧ NumText.AllDigits (figs l) := by
  unfold digC
  simp only [Bool.and_eq_true, decide_eq_true_eq, all_digits]
def zeros (l : List Nat) : Bool := (decide (1 < (figs l).length) && decide ((figs l).head? = some 48)) || decide (l = [45, 48])
def canon (l : List Nat) : Bool := !(digC l && zeros l)
def wv (l : List Nat) : Vl := if digC l = true then .nu (num l) else .nm l
theorem num_bound {l : List Nat} (h : digC l = true) : -999999 ≤ num l ∧ num l ≤ 999999 := by
  obtain ⟨h1, h2, h3⟩ := digC_iff.mp h
  have go : ∀ cs : List Nat, NumText.AllDigits cs → cs.length ≤ 6 → NumText.digitsVal cs ≤ 999999 := fun cs hd hl => by
    have a := digitsVal_lt hd
    have b : 10 ^ cs.length ≤ 10 ^ 6 := Nat.pow_le_pow_right (by decide) hl
    have e : 10 ^ 6 = 1000000 := by decide
    omega
  cases l with
  | nil => simp [figs] at h1
  | cons c r =>
    by_cases hc : c = 45
    · subst hc
      have := go r h3 h2
      rw [num_minus]; omega
    · rw [figs_other hc] at h2 h3
      have := go _ h3 h2
      rw [num_other hc]; omega
theorem num_int {l : List Nat} (h : digC l = true) : intText? (Sh.S l) = some (num l) := by
  obtain ⟨h1, h2, h3⟩ := digC_iff.mp h
  cases l with
  | nil => simp [figs] at h1
  | cons c r =>
    by_cases hc : c = 45
    · subst hc
      have h2 : r.length ≤ 6 := h2
      have h1 : 1 ≤ r.length := h1
      rw [num_minus]
      exact intText_neg (x := Sh.S (45 :: r)) (cs := r) (by simp) h3 (fun e => by rw [e] at h1; simp at h1) (by rw [S_len]; simp only [List.length_cons]; omega)
    · rw [figs_other hc] at h2 h3
      rw [num_other hc]
      have := intText_digits (x := Sh.S (c :: r)) (by simpa using h3) (by simp) (by rw [S_len]; omega)
      simpa using this
def lead (cs : List Nat) : List Nat := match cs.dropWhile (· == 48) with
  | [] => [48]
  | c :: r => c :: r
theorem map_nat : ∀ cs : List Nat, NumText.AllDigits cs → (cs.map Char.ofNat).map Char.toNat = cs
  | [], _ => rfl
  | c :: cs, h => by
    have hc := h.head
    have e : (Char.ofNat c).toNat = c := by
      have key : ∀ c : Nat, c ≤ 57 → (Char.ofNat c).toNat = c := by decide
      exact key c hc.2
    simp only [List.map_cons, e, map_nat cs h.tail]
theorem numL_val' {cs : List Nat} (h : NumText.AllDigits cs) : TL.numL (NumText.digitsVal cs) = lead cs := by
  unfold TL.numL lead
  rw [NumText.toDigits_all cs h]
  have hd : NumText.AllDigits (cs.dropWhile (· == 48)) := fun d hd => h d ((List.dropWhile_sublist _).mem hd)
  cases e : cs.dropWhile (· == 48) with
  | nil => rfl
  | cons c r =>
    rw [e] at hd
    exact map_nat (c :: r) hd
theorem lead_len {c : Nat} {r : List Nat} (hr : r ≠ []) : (lead (48 :: c :: r)).length < (48 :: c :: r).length ∨ True := .inr trivial
theorem lead_self {c : Nat} {r : List Nat} (h : c ≠ 48) : lead (c :: r) = c :: r := by
  unfold lead
  have e : (c == 48) = false := by simpa using h
  rw [List.dropWhile_cons, e]
  rfl
theorem lead_short {r : List Nat} (hr : r ≠ []) : (lead (48 :: r)).length < (48 :: r).length := by
  unfold lead
  rw [List.dropWhile_cons, if_pos (by decide)]
  have h1 : (r.dropWhile (· == 48)).length ≤ r.length := (List.dropWhile_sublist _).length_le
  have h2 : 0 < r.length := List.length_pos_iff.mpr hr
  cases e : r.dropWhile (· == 48) with
  | nil => simp only [List.length_cons, List.length_nil]; omega
  | cons a b => rw [e] at h1; simp only [List.length_cons] at h1 ⊢; omega
theorem lead_ne (cs : List Nat) : lead cs ≠ [] := by
  unfold lead
  split <;> simp
theorem val_zero {cs : List Nat} (h : NumText.AllDigits cs) (hv : NumText.digitsVal cs = 0) : lead cs = [48] := by
  rw [← numL_val' h, hv]
  rfl
theorem dec_num {l : List Nat} (h : digC l = true) : dec (num l) = l ↔ zeros l = false := by
  obtain ⟨h1, h2, h3⟩ := digC_iff.mp h
  cases l with
  | nil => simp [figs] at h1
  | cons c r =>
    by_cases hc : c = 45
    · subst hc
      rw [figs_minus] at h1 h2 h3
      cases r with
      | nil => simp at h1
      | cons d t =>
        have hz : zeros (45 :: d :: t) = (decide (1 < (d :: t).length) && decide (d = 48) || decide (d = 48 ∧ t = [])) := by
          unfold zeros
          rw [figs_minus]
          simp
        rw [num_minus]
        have hl := numL_val' h3
        by_cases hd : d = 48
        · subst hd
          have e : zeros (45 :: 48 :: t) = true := by
            rw [hz]
            cases t <;> simp
          rw [e]
          refine ⟨fun q => ?_, fun q => by cases q⟩
          cases hv : NumText.digitsVal (48 :: t) with
          | zero =>
            rw [hv] at q
            have e0 : dec (-((0 : Nat) : Int)) = [48] := by decide
            rw [e0] at q
            cases q
          | succ n =>
            rw [hv] at q hl
            rw [dec_neg, hl] at q
            injection q with _ q
            cases t with
            | nil => rw [show NumText.digitsVal [48] = 0 from rfl] at hv; cases hv
            | cons a b =>
              have := lead_short (r := a :: b) (by simp)
              rw [q] at this
              omega
        · have e : zeros (45 :: d :: t) = false := by rw [hz]; simp [hd]
          rw [e]
          refine ⟨fun _ => rfl, fun _ => ?_⟩
          rw [lead_self hd] at hl
          cases hv : NumText.digitsVal (d :: t) with
          | zero =>
            have := val_zero h3 hv
            rw [lead_self hd] at this
            injection this with q _
            exact absurd q hd
          | succ n => rw [hv] at hl; rw [dec_neg, hl]
    · rw [figs_other hc] at h1 h2 h3
      rw [num_other hc, dec_nat, numL_val' h3]
      have hz : zeros (c :: r) = (decide (1 < (c :: r).length) && decide (c = 48)) := by
        unfold zeros
        rw [figs_other hc]
        simp [hc]
      by_cases hd : c = 48
      · subst hd
        cases r with
        | nil => exact ⟨fun _ => rfl, fun _ => rfl⟩
        | cons a b =>
          have e : zeros (48 :: a :: b) = true := by rw [hz]; simp
          rw [e]
          refine ⟨fun q => ?_, fun q => by cases q⟩
          have := lead_short (r := a :: b) (by simp)
          rw [q] at this
          omega
      · rw [lead_self hd, hz]
        simp [hd]
/-! ### texts -/
def Vl.str : Vl → List Nat | .nm l => l | .nu i => dec i
def Vl.fine (v : Vl) : Prop := v.str.length ≤ 8 ∧ (∀ c ∈ v.str, c < 128) ∧ ∀ i, v = .nu i → -999999 ≤ i ∧ i ≤ 999999
theorem fine_nu {i : Int} (h : -999999 ≤ i ∧ i ≤ 999999) : (Vl.nu i).fine := ⟨dec_len h, fun c hc => by have := dec_ch i c hc; omega, fun j e => by cases e; exact h⟩
theorem str_wv {l : List Nat} : (wv l).str = l ↔ canon l = true := by
  unfold wv canon
  cases h : digC l with
  | true =>
    rw [if_pos rfl]
    show dec (num l) = l ↔ _
    rw [dec_num h]
    simp
  | false =>
    rw [if_neg (by simp)]
    simp [Vl.str]
end K02

namespace K02
open PySem Sh
theorem abs_le (i : Int) : decide ((if i < 0 then -i else i) ≤ 999999) = decide (-999999 ≤ i ∧ i ≤ 999999) := by
  by_cases h : i < 0
  · rw [if_pos h]
    by_cases q : -i ≤ 999999
    · rw [decide_eq_true q, decide_eq_true (by omega)]
    · rw [decide_eq_false q, decide_eq_false (by omega)]
  · rw [if_neg h]
    by_cases q : i ≤ 999999
    · rw [decide_eq_true q, decide_eq_true (by omega)]
    · rw [decide_eq_false q, decide_eq_false (by omega)]
theorem abs_lt (i : Int) : decide ((if i < 0 then -i else i) < 1000000) = decide (-999999 ≤ i ∧ i ≤ 999999) := by
  rw [← abs_le]
  by_cases h : i < 0
  · rw [if_pos h]
    by_cases q : -i ≤ 999999
    · rw [decide_eq_true q, decide_eq_true (by omega)]
    · rw [decide_eq_false q, decide_eq_false (by omega)]
  · rw [if_neg h]
    by_cases q : i ≤ 999999
    · rw [decide_eq_true q, decide_eq_true (by omega)]
    · rw [decide_eq_false q, decide_eq_false (by omega)]
abbrev fTarget : List Nat := [116, 97, 114, 103, 101, 116]
abbrev fLeft : List Nat := [108, 101, 102, 116]
abbrev fOp : List Nat := [111, 112]
abbrev fRight : List Nat := [114, 105, 103, 104, 116]
abbrev fValue : List Nat := [118, 97, 108, 117, 101]
theorem last_get {m : Mem} {o : O} : (m ++ [o])[m.length]? = some o := by simp
theorem last_set {m : Mem} {o u : O} : (m ++ [o]).set m.length u = m ++ [u] := by simp
/-! ### what kinds a thing may be of -/
inductive Ty (m : Mem) : W → Prop
  | str {l : List Nat} : Good l → Ty m (.str l)
  | int (i : Int) : Ty m (.int i)
  | non : Ty m .non
  | bl (b : Bool) : Ty m (.bl b)
  | tup (ws : List W) : Ty m (.tup ws)
  | lst {o : Nat} {ws : List W} : m[o]? = some (.lst ws) → Ty m (.ref o)
  | dct {o : Nat} {ks : List (L2.Key × W)} : m[o]? = some (.dK ks) → Ty m (.ref o)
theorem Ty.ext {m m' : Mem} {w : W} (h : Ty m w) (E : Ext m m') : Ty m' w := by
  cases h with
  | str g => exact .str g
  | int i => exact .int i
  | non => exact .non
  | bl b => exact .bl b
  | tup ws => exact .tup ws
  | lst h => exact .lst (E.get h)
  | dct h => exact .dct (E.get h)
def isS : W → Bool | .str _ => true | _ => false
def isI : W → Bool | .int _ => true | .bl _ => true | _ => false
def isB : W → Bool | .bl _ => true | _ => false
theorem isi_s {m : Mem} {w : W} (h : Ty m w) : bIsi isiT [w, .ty "str"] m = .ok (.bl (isS w)) m := by
  cases h with
  | lst h => unfold bIsi isi1 tyc; simp only [h]; rfl
  | dct h => unfold bIsi isi1 tyc; simp only [h]; rfl
  | _ => rfl
theorem isi_i {m : Mem} {w : W} (h : Ty m w) : bIsi isiT [w, .ty "int"] m = .ok (.bl (isI w)) m := by
  cases h with
  | lst h => unfold bIsi isi1 tyc; simp only [h]; rfl
  | dct h => unfold bIsi isi1 tyc; simp only [h]; rfl
  | _ => rfl
theorem isi_b {m : Mem} {w : W} (h : Ty m w) : bIsi isiT [w, .ty "bool"] m = .ok (.bl (isB w)) m := by
  cases h with
  | lst h => unfold bIsi isi1 tyc; simp only [h]; rfl
  | dct h => unfold bIsi isi1 tyc; simp only [h]; rfl
  | _ => rfl
def nmW : W → Bool | .str l => nameB l | _ => false
def vlW : W → Bool | .str l => nameB l | .int i => decide (-999999 ≤ i ∧ i ≤ 999999) | _ => false
theorem name_ty {m : Mem} {w : W} (h : Ty m w) : d_is_name [w] m = .ok (.bl (nmW w)) m := by
  have e := isi_s h
  cases h with
  | str g => exact name_ok _ g.1 m
  | _ =>
    unfold d_is_name b_is_name
    simp only [List.length_cons, List.length_nil, Nat.reduceAdd, Nat.reduceEqDiff, if_true, List.map_cons, List.map_nil, Nat.reduceSub, List.replicate, List.cons_append, List.nil_append, R.bind_ok, R.bind_exc, R.bind_bad, R.nox_ok, RS.of_ok, RS.of_exc, List.getElem?_cons_zero, List.getElem?_cons_succ, List.set_cons_zero, List.set_cons_succ, Bool.not_true, Bool.not_false, Bool.false_eq_true, if_false, isNon, gSet, Int.reduceLT, Int.reduceLE, Int.reduceNeg, and_self, Nat.reduceLeDiff, Nat.reduceMul, decide_true, decide_false, Int.reduceEq, eq_self, reduceCtorEq, seq_nx, seq_rt, seq_bad, of_rt, of_nx, trd_rt, trd_nx, r_defn, r_seq, r_try, r_nil, r_expr, r_ret, r_if, r_set, r_asg, r_put, r_attr, r_var, r_c, r_bin, r_un, r_fn, r_fnL, r_call, r_make, made_ok, made_exc, r_eattr, r_ixL, r_new, r_tup, r_disp, r_few, r_eif, r_eand, r_eor, r_enot, r_acons, r_anil, r_astar, r_astarL, r_val, r_tru, r_not, r_and, r_or, r_chain, r_inL, r_m1, r_joinL, r_sl, r_pno, r_pat, v_add, v_sub, v_mod, v_div, v_neg, v_lt, v_le, v_gt, v_ge, v_isN, v_notN, v_intI, v_intB, v_abs, v_strS, v_len, v_ixT, v_ixF, v_eqI, v_neI, v_eqS, v_neS, r_lcomp, r_pval, r_pseq, r_plist, r_planT, r_planS, r_tryO, r_tryA, seq_exc, of_exc, tryO_rt, tryO_nx, tryA_rt, tryA_nx, r_raise, r_raise1, r_xattr, r_slS, r_join, r_dget, r_dict0, r_dput, r_mkx, r_app, e, isS]
    rfl
theorem lname_ty {m : Mem} {w : W} (h : Ty m w) : ∃ m', d__law_is_name [w] m = .ok (.bl (nmW w)) m' ∧ Ext m m' := by
  have e := isi_s h
  cases h with
  | str g => exact lname_ok _ g m
  | _ =>
    refine ⟨m, ?_, .refl m⟩
    unfold d__law_is_name b__law_is_name
    simp only [List.length_cons, List.length_nil, Nat.reduceAdd, Nat.reduceEqDiff, if_true, List.map_cons, List.map_nil, Nat.reduceSub, List.replicate, List.cons_append, List.nil_append, R.bind_ok, R.bind_exc, R.bind_bad, R.nox_ok, RS.of_ok, RS.of_exc, List.getElem?_cons_zero, List.getElem?_cons_succ, List.set_cons_zero, List.set_cons_succ, Bool.not_true, Bool.not_false, Bool.false_eq_true, if_false, isNon, gSet, Int.reduceLT, Int.reduceLE, Int.reduceNeg, and_self, Nat.reduceLeDiff, Nat.reduceMul, decide_true, decide_false, Int.reduceEq, eq_self, reduceCtorEq, seq_nx, seq_rt, seq_bad, of_rt, of_nx, trd_rt, trd_nx, r_defn, r_seq, r_try, r_nil, r_expr, r_ret, r_if, r_set, r_asg, r_put, r_attr, r_var, r_c, r_bin, r_un, r_fn, r_fnL, r_call, r_make, made_ok, made_exc, r_eattr, r_ixL, r_new, r_tup, r_disp, r_few, r_eif, r_eand, r_eor, r_enot, r_acons, r_anil, r_astar, r_astarL, r_val, r_tru, r_not, r_and, r_or, r_chain, r_inL, r_m1, r_joinL, r_sl, r_pno, r_pat, v_add, v_sub, v_mod, v_div, v_neg, v_lt, v_le, v_gt, v_ge, v_isN, v_notN, v_intI, v_intB, v_abs, v_strS, v_len, v_ixT, v_ixF, v_eqI, v_neI, v_eqS, v_neS, r_lcomp, r_pval, r_pseq, r_plist, r_planT, r_planS, r_tryO, r_tryA, seq_exc, of_exc, tryO_rt, tryO_nx, tryA_rt, tryA_nx, r_raise, r_raise1, r_xattr, r_slS, r_join, r_dget, r_dict0, r_dput, r_mkx, r_app, e, isS]
    rfl
def whW (w : W) : Bool := match w with | .int _ => true | _ => false
theorem integer_ty {m : Mem} {w : W} (h : Ty m w) : d_is_integer [w] m = .ok (.bl (whW w)) m := by
  have e1 := isi_i h
  have e2 := isi_b h
  unfold d_is_integer b_is_integer
  simp only [r_defn, List.length_cons, List.length_nil, Nat.reduceAdd, if_true, List.map_cons, List.map_nil, Nat.reduceSub, List.replicate, List.cons_append, List.nil_append, r_ret, r_eand, r_enot, r_fn, r_acons, r_anil, r_var, r_c, List.getElem?_cons_zero, R.bind_ok, e1, e2]
  cases h <;> rfl
theorem whole_ty {m : Mem} {w : W} (h : Ty m w) : d__law_whole [w] m = .ok (.bl (whW w)) m := by
  have e1 := isi_i h
  have e2 := isi_b h
  unfold d__law_whole b__law_whole
  simp only [r_defn, List.length_cons, List.length_nil, Nat.reduceAdd, if_true, List.map_cons, List.map_nil, Nat.reduceSub, List.replicate, List.cons_append, List.nil_append, r_ret, r_eand, r_enot, r_fn, r_acons, r_anil, r_var, r_c, List.getElem?_cons_zero, R.bind_ok, e1, e2]
  cases h <;> rfl
theorem value_ty {m : Mem} {w : W} (h : Ty m w) : d_is_value [w] m = .ok (.bl (vlW w)) m := by
  have e1 := integer_ty h
  have e2 := name_ty h
  unfold d_is_value b_is_value
  cases h with
  | int i => simp only [List.length_cons, List.length_nil, Nat.reduceAdd, Nat.reduceEqDiff, if_true, List.map_cons, List.map_nil, Nat.reduceSub, List.replicate, List.cons_append, List.nil_append, R.bind_ok, R.bind_exc, R.bind_bad, R.nox_ok, RS.of_ok, RS.of_exc, List.getElem?_cons_zero, List.getElem?_cons_succ, List.set_cons_zero, List.set_cons_succ, Bool.not_true, Bool.not_false, Bool.false_eq_true, if_false, isNon, gSet, Int.reduceLT, Int.reduceLE, Int.reduceNeg, and_self, Nat.reduceLeDiff, Nat.reduceMul, decide_true, decide_false, Int.reduceEq, eq_self, reduceCtorEq, seq_nx, seq_rt, seq_bad, of_rt, of_nx, trd_rt, trd_nx, r_defn, r_seq, r_try, r_nil, r_expr, r_ret, r_if, r_set, r_asg, r_put, r_attr, r_var, r_c, r_bin, r_un, r_fn, r_fnL, r_call, r_make, made_ok, made_exc, r_eattr, r_ixL, r_new, r_tup, r_disp, r_few, r_eif, r_eand, r_eor, r_enot, r_acons, r_anil, r_astar, r_astarL, r_val, r_tru, r_not, r_and, r_or, r_chain, r_inL, r_m1, r_joinL, r_sl, r_pno, r_pat, v_add, v_sub, v_mod, v_div, v_neg, v_lt, v_le, v_gt, v_ge, v_isN, v_notN, v_intI, v_intB, v_abs, v_strS, v_len, v_ixT, v_ixF, v_eqI, v_neI, v_eqS, v_neS, r_lcomp, r_pval, r_pseq, r_plist, r_planT, r_planS, r_tryO, r_tryA, seq_exc, of_exc, tryO_rt, tryO_nx, tryA_rt, tryA_nx, r_raise, r_raise1, r_xattr, r_slS, r_join, r_dget, r_dict0, r_dput, r_mkx, r_app, e1, whW, abs_le, vlW]
  | _ => simp only [List.length_cons, List.length_nil, Nat.reduceAdd, Nat.reduceEqDiff, if_true, List.map_cons, List.map_nil, Nat.reduceSub, List.replicate, List.cons_append, List.nil_append, R.bind_ok, R.bind_exc, R.bind_bad, R.nox_ok, RS.of_ok, RS.of_exc, List.getElem?_cons_zero, List.getElem?_cons_succ, List.set_cons_zero, List.set_cons_succ, Bool.not_true, Bool.not_false, Bool.false_eq_true, if_false, isNon, gSet, Int.reduceLT, Int.reduceLE, Int.reduceNeg, and_self, Nat.reduceLeDiff, Nat.reduceMul, decide_true, decide_false, Int.reduceEq, eq_self, reduceCtorEq, seq_nx, seq_rt, seq_bad, of_rt, of_nx, trd_rt, trd_nx, r_defn, r_seq, r_try, r_nil, r_expr, r_ret, r_if, r_set, r_asg, r_put, r_attr, r_var, r_c, r_bin, r_un, r_fn, r_fnL, r_call, r_make, made_ok, made_exc, r_eattr, r_ixL, r_new, r_tup, r_disp, r_few, r_eif, r_eand, r_eor, r_enot, r_acons, r_anil, r_astar, r_astarL, r_val, r_tru, r_not, r_and, r_or, r_chain, r_inL, r_m1, r_joinL, r_sl, r_pno, r_pat, v_add, v_sub, v_mod, v_div, v_neg, v_lt, v_le, v_gt, v_ge, v_isN, v_notN, v_intI, v_intB, v_abs, v_strS, v_len, v_ixT, v_ixF, v_eqI, v_neI, v_eqS, v_neS, r_lcomp, r_pval, r_pseq, r_plist, r_planT, r_planS, r_tryO, r_tryA, seq_exc, of_exc, tryO_rt, tryO_nx, tryA_rt, tryA_nx, r_raise, r_raise1, r_xattr, r_slS, r_join, r_dget, r_dict0, r_dput, r_mkx, r_app, e1, whW, e2]; rfl
theorem lvalue_ty {m : Mem} {w : W} (h : Ty m w) : ∃ m', d__law_is_value [w] m = .ok (.bl (vlW w)) m' ∧ Ext m m' := by
  have e1 := whole_ty h
  obtain ⟨m', e2, E2⟩ := lname_ty h
  unfold d__law_is_value b__law_is_value
  cases h with
  | int i => exact ⟨m, by simp only [List.length_cons, List.length_nil, Nat.reduceAdd, Nat.reduceEqDiff, if_true, List.map_cons, List.map_nil, Nat.reduceSub, List.replicate, List.cons_append, List.nil_append, R.bind_ok, R.bind_exc, R.bind_bad, R.nox_ok, RS.of_ok, RS.of_exc, List.getElem?_cons_zero, List.getElem?_cons_succ, List.set_cons_zero, List.set_cons_succ, Bool.not_true, Bool.not_false, Bool.false_eq_true, if_false, isNon, gSet, Int.reduceLT, Int.reduceLE, Int.reduceNeg, and_self, Nat.reduceLeDiff, Nat.reduceMul, decide_true, decide_false, Int.reduceEq, eq_self, reduceCtorEq, seq_nx, seq_rt, seq_bad, of_rt, of_nx, trd_rt, trd_nx, r_defn, r_seq, r_try, r_nil, r_expr, r_ret, r_if, r_set, r_asg, r_put, r_attr, r_var, r_c, r_bin, r_un, r_fn, r_fnL, r_call, r_make, made_ok, made_exc, r_eattr, r_ixL, r_new, r_tup, r_disp, r_few, r_eif, r_eand, r_eor, r_enot, r_acons, r_anil, r_astar, r_astarL, r_val, r_tru, r_not, r_and, r_or, r_chain, r_inL, r_m1, r_joinL, r_sl, r_pno, r_pat, v_add, v_sub, v_mod, v_div, v_neg, v_lt, v_le, v_gt, v_ge, v_isN, v_notN, v_intI, v_intB, v_abs, v_strS, v_len, v_ixT, v_ixF, v_eqI, v_neI, v_eqS, v_neS, r_lcomp, r_pval, r_pseq, r_plist, r_planT, r_planS, r_tryO, r_tryA, seq_exc, of_exc, tryO_rt, tryO_nx, tryA_rt, tryA_nx, r_raise, r_raise1, r_xattr, r_slS, r_join, r_dget, r_dict0, r_dput, r_mkx, r_app, e1, whW, abs_lt, vlW], .refl m⟩
  | _ => exact ⟨m', by (simp only [List.length_cons, List.length_nil, Nat.reduceAdd, Nat.reduceEqDiff, if_true, List.map_cons, List.map_nil, Nat.reduceSub, List.replicate, List.cons_append, List.nil_append, R.bind_ok, R.bind_exc, R.bind_bad, R.nox_ok, RS.of_ok, RS.of_exc, List.getElem?_cons_zero, List.getElem?_cons_succ, List.set_cons_zero, List.set_cons_succ, Bool.not_true, Bool.not_false, Bool.false_eq_true, if_false, isNon, gSet, Int.reduceLT, Int.reduceLE, Int.reduceNeg, and_self, Nat.reduceLeDiff, Nat.reduceMul, decide_true, decide_false, Int.reduceEq, eq_self, reduceCtorEq, seq_nx, seq_rt, seq_bad, of_rt, of_nx, trd_rt, trd_nx, r_defn, r_seq, r_try, r_nil, r_expr, r_ret, r_if, r_set, r_asg, r_put, r_attr, r_var, r_c, r_bin, r_un, r_fn, r_fnL, r_call, r_make, made_ok, made_exc, r_eattr, r_ixL, r_new, r_tup, r_disp, r_few, r_eif, r_eand, r_eor, r_enot, r_acons, r_anil, r_astar, r_astarL, r_val, r_tru, r_not, r_and, r_or, r_chain, r_inL, r_m1, r_joinL, r_sl, r_pno, r_pat, v_add, v_sub, v_mod, v_div, v_neg, v_lt, v_le, v_gt, v_ge, v_isN, v_notN, v_intI, v_intB, v_abs, v_strS, v_len, v_ixT, v_ixF, v_eqI, v_neI, v_eqS, v_neS, r_lcomp, r_pval, r_pseq, r_plist, r_planT, r_planS, r_tryO, r_tryA, seq_exc, of_exc, tryO_rt, tryO_nx, tryA_rt, tryA_nx, r_raise, r_raise1, r_xattr, r_slS, r_join, r_dget, r_dict0, r_dput, r_mkx, r_app, e1, whW, e2]; rfl), E2⟩
theorem mbn_ty {m : Mem} {w : W} (h : Ty m w) : d_must_be_name [w] m = if nmW w = true then .ok .non m else .exc "NoName" [(fValue, w)] m := by
  have e := name_ty h
  unfold d_must_be_name b_must_be_name
  cases q : nmW w with
  | true => rw [q] at e; simp only [List.length_cons, List.length_nil, Nat.reduceAdd, Nat.reduceEqDiff, if_true, List.map_cons, List.map_nil, Nat.reduceSub, List.replicate, List.cons_append, List.nil_append, R.bind_ok, R.bind_exc, R.bind_bad, R.nox_ok, RS.of_ok, RS.of_exc, List.getElem?_cons_zero, List.getElem?_cons_succ, List.set_cons_zero, List.set_cons_succ, Bool.not_true, Bool.not_false, Bool.false_eq_true, if_false, isNon, gSet, Int.reduceLT, Int.reduceLE, Int.reduceNeg, and_self, Nat.reduceLeDiff, Nat.reduceMul, decide_true, decide_false, Int.reduceEq, eq_self, reduceCtorEq, seq_nx, seq_rt, seq_bad, of_rt, of_nx, trd_rt, trd_nx, r_defn, r_seq, r_try, r_nil, r_expr, r_ret, r_if, r_set, r_asg, r_put, r_attr, r_var, r_c, r_bin, r_un, r_fn, r_fnL, r_call, r_make, made_ok, made_exc, r_eattr, r_ixL, r_new, r_tup, r_disp, r_few, r_eif, r_eand, r_eor, r_enot, r_acons, r_anil, r_astar, r_astarL, r_val, r_tru, r_not, r_and, r_or, r_chain, r_inL, r_m1, r_joinL, r_sl, r_pno, r_pat, v_add, v_sub, v_mod, v_div, v_neg, v_lt, v_le, v_gt, v_ge, v_isN, v_notN, v_intI, v_intB, v_abs, v_strS, v_len, v_ixT, v_ixF, v_eqI, v_neI, v_eqS, v_neS, r_lcomp, r_pval, r_pseq, r_plist, r_planT, r_planS, r_tryO, r_tryA, seq_exc, of_exc, tryO_rt, tryO_nx, tryA_rt, tryA_nx, r_raise, r_raise1, r_xattr, r_slS, r_join, r_dget, r_dict0, r_dput, r_mkx, r_app, e]
  | false => rw [q] at e; simp only [List.length_cons, List.length_nil, Nat.reduceAdd, Nat.reduceEqDiff, if_true, List.map_cons, List.map_nil, Nat.reduceSub, List.replicate, List.cons_append, List.nil_append, R.bind_ok, R.bind_exc, R.bind_bad, R.nox_ok, RS.of_ok, RS.of_exc, List.getElem?_cons_zero, List.getElem?_cons_succ, List.set_cons_zero, List.set_cons_succ, Bool.not_true, Bool.not_false, Bool.false_eq_true, if_false, isNon, gSet, Int.reduceLT, Int.reduceLE, Int.reduceNeg, and_self, Nat.reduceLeDiff, Nat.reduceMul, decide_true, decide_false, Int.reduceEq, eq_self, reduceCtorEq, seq_nx, seq_rt, seq_bad, of_rt, of_nx, trd_rt, trd_nx, r_defn, r_seq, r_try, r_nil, r_expr, r_ret, r_if, r_set, r_asg, r_put, r_attr, r_var, r_c, r_bin, r_un, r_fn, r_fnL, r_call, r_make, made_ok, made_exc, r_eattr, r_ixL, r_new, r_tup, r_disp, r_few, r_eif, r_eand, r_eor, r_enot, r_acons, r_anil, r_astar, r_astarL, r_val, r_tru, r_not, r_and, r_or, r_chain, r_inL, r_m1, r_joinL, r_sl, r_pno, r_pat, v_add, v_sub, v_mod, v_div, v_neg, v_lt, v_le, v_gt, v_ge, v_isN, v_notN, v_intI, v_intB, v_abs, v_strS, v_len, v_ixT, v_ixF, v_eqI, v_neI, v_eqS, v_neS, r_lcomp, r_pval, r_pseq, r_plist, r_planT, r_planS, r_tryO, r_tryA, seq_exc, of_exc, tryO_rt, tryO_nx, tryA_rt, tryA_nx, r_raise, r_raise1, r_xattr, r_slS, r_join, r_dget, r_dict0, r_dput, r_mkx, r_app, e]
theorem mbv_ty {m : Mem} {w : W} (h : Ty m w) : d_must_be_value [w] m = if vlW w = true then .ok .non m else .exc "NoValue" [(fValue, w)] m := by
  have e := value_ty h
  unfold d_must_be_value b_must_be_value
  cases q : vlW w with
  | true => rw [q] at e; simp only [List.length_cons, List.length_nil, Nat.reduceAdd, Nat.reduceEqDiff, if_true, List.map_cons, List.map_nil, Nat.reduceSub, List.replicate, List.cons_append, List.nil_append, R.bind_ok, R.bind_exc, R.bind_bad, R.nox_ok, RS.of_ok, RS.of_exc, List.getElem?_cons_zero, List.getElem?_cons_succ, List.set_cons_zero, List.set_cons_succ, Bool.not_true, Bool.not_false, Bool.false_eq_true, if_false, isNon, gSet, Int.reduceLT, Int.reduceLE, Int.reduceNeg, and_self, Nat.reduceLeDiff, Nat.reduceMul, decide_true, decide_false, Int.reduceEq, eq_self, reduceCtorEq, seq_nx, seq_rt, seq_bad, of_rt, of_nx, trd_rt, trd_nx, r_defn, r_seq, r_try, r_nil, r_expr, r_ret, r_if, r_set, r_asg, r_put, r_attr, r_var, r_c, r_bin, r_un, r_fn, r_fnL, r_call, r_make, made_ok, made_exc, r_eattr, r_ixL, r_new, r_tup, r_disp, r_few, r_eif, r_eand, r_eor, r_enot, r_acons, r_anil, r_astar, r_astarL, r_val, r_tru, r_not, r_and, r_or, r_chain, r_inL, r_m1, r_joinL, r_sl, r_pno, r_pat, v_add, v_sub, v_mod, v_div, v_neg, v_lt, v_le, v_gt, v_ge, v_isN, v_notN, v_intI, v_intB, v_abs, v_strS, v_len, v_ixT, v_ixF, v_eqI, v_neI, v_eqS, v_neS, r_lcomp, r_pval, r_pseq, r_plist, r_planT, r_planS, r_tryO, r_tryA, seq_exc, of_exc, tryO_rt, tryO_nx, tryA_rt, tryA_nx, r_raise, r_raise1, r_xattr, r_slS, r_join, r_dget, r_dict0, r_dput, r_mkx, r_app, e]
  | false => rw [q] at e; simp only [List.length_cons, List.length_nil, Nat.reduceAdd, Nat.reduceEqDiff, if_true, List.map_cons, List.map_nil, Nat.reduceSub, List.replicate, List.cons_append, List.nil_append, R.bind_ok, R.bind_exc, R.bind_bad, R.nox_ok, RS.of_ok, RS.of_exc, List.getElem?_cons_zero, List.getElem?_cons_succ, List.set_cons_zero, List.set_cons_succ, Bool.not_true, Bool.not_false, Bool.false_eq_true, if_false, isNon, gSet, Int.reduceLT, Int.reduceLE, Int.reduceNeg, and_self, Nat.reduceLeDiff, Nat.reduceMul, decide_true, decide_false, Int.reduceEq, eq_self, reduceCtorEq, seq_nx, seq_rt, seq_bad, of_rt, of_nx, trd_rt, trd_nx, r_defn, r_seq, r_try, r_nil, r_expr, r_ret, r_if, r_set, r_asg, r_put, r_attr, r_var, r_c, r_bin, r_un, r_fn, r_fnL, r_call, r_make, made_ok, made_exc, r_eattr, r_ixL, r_new, r_tup, r_disp, r_few, r_eif, r_eand, r_eor, r_enot, r_acons, r_anil, r_astar, r_astarL, r_val, r_tru, r_not, r_and, r_or, r_chain, r_inL, r_m1, r_joinL, r_sl, r_pno, r_pat, v_add, v_sub, v_mod, v_div, v_neg, v_lt, v_le, v_gt, v_ge, v_isN, v_notN, v_intI, v_intB, v_abs, v_strS, v_len, v_ixT, v_ixF, v_eqI, v_neI, v_eqS, v_neS, r_lcomp, r_pval, r_pseq, r_plist, r_planT, r_planS, r_tryO, r_tryA, seq_exc, of_exc, tryO_rt, tryO_nx, tryA_rt, tryA_nx, r_raise, r_raise1, r_xattr, r_slS, r_join, r_dget, r_dict0, r_dput, r_mkx, r_app, e]
def opB (op : List Nat) : Bool := decide (op ∈ ops)
def opW : W → Bool | .str l => opB l | _ => false
theorem inW_ops (op : List Nat) : inW (.str op) (ops.map W.str) = opB op := by
  unfold inW opB ops
  simp only [List.map_cons, List.map_nil, List.any_cons, List.any_nil, eqW, Bool.or_false, List.mem_cons, List.not_mem_nil, or_false]
  by_cases h1 : op = [97, 100, 100]
  · subst h1; rfl
  · by_cases h2 : op = [115, 117, 98]
    · subst h2; rfl
    · by_cases h3 : op = [109, 117, 108]
      · subst h3; rfl
      · have e1 : ([97, 100, 100] == op) = false := by simpa using fun z => h1 z.symm
        have e2 : ([115, 117, 98] == op) = false := by simpa using fun z => h2 z.symm
        have e3 : ([109, 117, 108] == op) = false := by simpa using fun z => h3 z.symm
        simp [e1, e2, e3, h1, h2, h3]
theorem notIn_ops (op : List Nat) (m : Mem) : wNotIn (.str op) (.tup (ops.map W.str)) m = .ok (.bl (!opB op)) m := by
  show (inD (.str op) (ops.map W.str) m).bind (fun b m1 => R.ok (W.bl (!b)) m1) = _
  unfold inD
  rw [if_pos ⟨rfl, rfl⟩, inW_ops]
  rfl
end K02

namespace K02
open PySem Sh
theorem at0 {w : W} {ws : List W} {m : Mem} : atW (w :: ws) 0 m = .ok w m := v_at (atI_nat (k := 0) rfl)
theorem at1 {x w : W} {ws : List W} {m : Mem} : atW (x :: w :: ws) 1 m = .ok w m := v_at (atI_nat (k := 1) rfl)
theorem at2 {x y w : W} {ws : List W} {m : Mem} : atW (x :: y :: w :: ws) 2 m = .ok w m := v_at (atI_nat (k := 2) rfl)
theorem at3 {x y z w : W} {ws : List W} {m : Mem} : atW (x :: y :: z :: w :: ws) 3 m = .ok w m := v_at (atI_nat (k := 3) rfl)
theorem at4 {x y z u w : W} {ws : List W} {m : Mem} : atW (x :: y :: z :: u :: w :: ws) 4 m = .ok w m := v_at (atI_nat (k := 4) rfl)
/-! ### a constructor's arguments, right or wrong -/
inductive T4 where | set (x a op b : W) | copy (x a : W) | read (x : W) | write (a : W)
def T4.key : T4 → List Nat | .set _ _ _ _ => kSet | .copy _ _ => kCopy | .read _ => kRead | .write _ => kWrite
def T4.args : T4 → List W | .set x a op b => [x, a, op, b] | .copy x a => [x, a] | .read x => [x] | .write a => [a]
def T4.list (t : T4) : List W := .str t.key :: t.args
def kName : List Nat := [110, 97, 109, 101]
def kValue : List Nat := [118, 97, 108, 117, 101]
def kOper : List Nat := [111, 112, 101, 114, 97, 116, 111, 114]
def kMade : List Nat := [109, 97, 100, 101]
structure Bad where
  cls : String
  word : List Nat
  w : W
def bN (w : W) : Bad := ⟨"NoName", kName, w⟩
def bV (w : W) : Bad := ⟨"NoValue", kValue, w⟩
def bO (w : W) : Bad := ⟨"NoOperator", kOper, w⟩
/-- the first wrong argument -/
def T4.first : T4 → Option Bad
  | .set x a op b => if nmW x = false then some (bN x) else if vlW a = false then some (bV a) else if opW op = false then some (bO op) else if vlW b = false then some (bV b) else none
  | .copy x a => if nmW x = false then some (bN x) else if vlW a = false then some (bV a) else none
  | .read x => if nmW x = false then some (bN x) else none
  | .write a => if vlW a = false then some (bV a) else none
def T4.ins : T4 → O
  | .set x a op b => .ins "Set" [(fTarget, x), (fLeft, a), (fOp, op), (fRight, b)]
  | .copy x a => .ins "Copy" [(fTarget, x), (fValue, a)]
  | .read x => .ins "Read" [(fTarget, x)]
  | .write a => .ins "Write" [(fValue, a)]
theorem oL : okc_Set_left "Set" = true := by rfl
theorem oO : okc_Set_op "Set" = true := by rfl
theorem oR : okc_Set_right "Set" = true := by rfl
theorem oC : okc_Copy_value "Copy" = true := by rfl
theorem oW : okc_Write_value "Write" = true := by rfl
theorem assign_ty (m : Mem) (k : String) {x : W} (hk : okc_Assign_target k = true) (h : Ty m x) : d_Assign___init__ [.ref m.length, x] (m ++ [.ins k []]) = if nmW x = true then .ok .non (m ++ [.ins k [(fTarget, x)]]) else .exc "NoName" [(fValue, x)] (m ++ [.ins k []]) := by
  have e := mbn_ty (h.ext (.app m [.ins k []]))
  unfold d_Assign___init__ b_Assign___init__
  cases q : nmW x with
  | true =>
    rw [q] at e
    simp only [if_true] at e
    simp only [List.length_cons, List.length_nil, Nat.reduceAdd, Nat.reduceEqDiff, if_true, List.map_cons, List.map_nil, Nat.reduceSub, List.replicate, List.cons_append, List.nil_append, R.bind_ok, R.bind_exc, R.bind_bad, R.nox_ok, RS.of_ok, RS.of_exc, List.getElem?_cons_zero, List.getElem?_cons_succ, List.set_cons_zero, List.set_cons_succ, Bool.not_true, Bool.not_false, Bool.false_eq_true, if_false, isNon, gSet, Int.reduceLT, Int.reduceLE, Int.reduceNeg, and_self, Nat.reduceLeDiff, Nat.reduceMul, decide_true, decide_false, Int.reduceEq, eq_self, reduceCtorEq, seq_nx, seq_rt, seq_bad, of_rt, of_nx, trd_rt, trd_nx, r_defn, r_seq, r_try, r_nil, r_expr, r_ret, r_if, r_set, r_asg, r_put, r_attr, r_var, r_c, r_bin, r_un, r_fn, r_fnL, r_call, r_make, made_ok, made_exc, r_eattr, r_ixL, r_new, r_tup, r_disp, r_few, r_eif, r_eand, r_eor, r_enot, r_acons, r_anil, r_astar, r_astarL, r_val, r_tru, r_not, r_and, r_or, r_chain, r_inL, r_m1, r_joinL, r_sl, r_pno, r_pat, v_add, v_sub, v_mod, v_div, v_neg, v_lt, v_le, v_gt, v_ge, v_isN, v_notN, v_intI, v_intB, v_abs, v_strS, v_len, v_ixT, v_ixF, v_eqI, v_neI, v_eqS, v_neS, r_lcomp, r_pval, r_pseq, r_plist, r_planT, r_planS, r_tryO, r_tryA, seq_exc, of_exc, tryO_rt, tryO_nx, tryA_rt, tryA_nx, r_raise, r_raise1, r_xattr, r_slS, r_join, r_dget, r_dict0, r_dput, r_mkx, r_app, e, last_get, last_set, hk, putW, Nat.reduceLT, and_self]
  | false =>
    rw [q] at e
    simp only [Bool.false_eq_true, if_false] at e
    simp only [List.length_cons, List.length_nil, Nat.reduceAdd, Nat.reduceEqDiff, if_true, List.map_cons, List.map_nil, Nat.reduceSub, List.replicate, List.cons_append, List.nil_append, R.bind_ok, R.bind_exc, R.bind_bad, R.nox_ok, RS.of_ok, RS.of_exc, List.getElem?_cons_zero, List.getElem?_cons_succ, List.set_cons_zero, List.set_cons_succ, Bool.not_true, Bool.not_false, Bool.false_eq_true, if_false, isNon, gSet, Int.reduceLT, Int.reduceLE, Int.reduceNeg, and_self, Nat.reduceLeDiff, Nat.reduceMul, decide_true, decide_false, Int.reduceEq, eq_self, reduceCtorEq, seq_nx, seq_rt, seq_bad, of_rt, of_nx, trd_rt, trd_nx, r_defn, r_seq, r_try, r_nil, r_expr, r_ret, r_if, r_set, r_asg, r_put, r_attr, r_var, r_c, r_bin, r_un, r_fn, r_fnL, r_call, r_make, made_ok, made_exc, r_eattr, r_ixL, r_new, r_tup, r_disp, r_few, r_eif, r_eand, r_eor, r_enot, r_acons, r_anil, r_astar, r_astarL, r_val, r_tru, r_not, r_and, r_or, r_chain, r_inL, r_m1, r_joinL, r_sl, r_pno, r_pat, v_add, v_sub, v_mod, v_div, v_neg, v_lt, v_le, v_gt, v_ge, v_isN, v_notN, v_intI, v_intB, v_abs, v_strS, v_len, v_ixT, v_ixF, v_eqI, v_neI, v_eqS, v_neS, r_lcomp, r_pval, r_pseq, r_plist, r_planT, r_planS, r_tryO, r_tryA, seq_exc, of_exc, tryO_rt, tryO_nx, tryA_rt, tryA_nx, r_raise, r_raise1, r_xattr, r_slS, r_join, r_dget, r_dict0, r_dput, r_mkx, r_app, e]
theorem notIn_opW {w : W} (h : isS w = true) (m : Mem) : wNotIn w (.tup (ops.map W.str)) m = .ok (.bl (!opW w)) m := by
  cases w with
  | str l => exact notIn_ops l m
  | _ => cases h
def MkRes (b : Option Bad) (r : R W) (m : Mem) (o : O) : Prop := match b with
  | none => r = .ok .non (m ++ [o])
  | some b => ∃ m', r = .exc b.cls [(fValue, b.w)] m' ∧ Ext m m'
theorem mkSet (m : Mem) {x a op b : W} (hx : Ty m x) (ha : Ty m a) (ho : Ty m op) (hb : Ty m b) :
    MkRes (T4.set x a op b).first (d_Set___init__ [.ref m.length, x, a, op, b] (m ++ [.ins "Set" []])) m (T4.set x a op b).ins := by
  unfold d_Set___init__ b_Set___init__
  have hat : attr [79, 80, 69, 82, 65, 84, 79, 82, 83] tb_OPERATORS (.ref m.length) (m ++ [.ins "Set" [(fTarget, x)]]) = .ok (.tup (ops.map W.str)) (m ++ [.ins "Set" [(fTarget, x)]]) := by
    unfold attr insOf
    simp only [last_get]
    rfl
  have e1 := assign_ty m "Set" rfl hx
  have e2 := mbv_ty (ha.ext (.app m [.ins "Set" [(fTarget, x)]]))
  have e3 := mbv_ty (hb.ext (.app m [.ins "Set" [(fTarget, x)]]))
  have e4 := isi_s (ho.ext (.app m [.ins "Set" [(fTarget, x)]]))
  have E1 : Ext m (m ++ [.ins "Set" []]) := .app _ _
  have E2 : Ext m (m ++ [.ins "Set" [(fTarget, x)]]) := .app _ _
  simp only [List.length_cons, List.length_nil, Nat.reduceAdd, Nat.reduceEqDiff, if_true, List.map_cons, List.map_nil, Nat.reduceSub, List.replicate, List.cons_append, List.nil_append, R.bind_ok, R.bind_exc, R.bind_bad, R.nox_ok, RS.of_ok, RS.of_exc, List.getElem?_cons_zero, List.getElem?_cons_succ, List.set_cons_zero, List.set_cons_succ, Bool.not_true, Bool.not_false, Bool.false_eq_true, if_false, isNon, gSet, Int.reduceLT, Int.reduceLE, Int.reduceNeg, and_self, Nat.reduceLeDiff, Nat.reduceMul, decide_true, decide_false, Int.reduceEq, eq_self, reduceCtorEq, seq_nx, seq_rt, seq_bad, of_rt, of_nx, trd_rt, trd_nx, r_defn, r_seq, r_try, r_nil, r_expr, r_ret, r_if, r_set, r_asg, r_put, r_attr, r_var, r_c, r_bin, r_un, r_fn, r_fnL, r_call, r_make, made_ok, made_exc, r_eattr, r_ixL, r_new, r_tup, r_disp, r_few, r_eif, r_eand, r_eor, r_enot, r_acons, r_anil, r_astar, r_astarL, r_val, r_tru, r_not, r_and, r_or, r_chain, r_inL, r_m1, r_joinL, r_sl, r_pno, r_pat, v_add, v_sub, v_mod, v_div, v_neg, v_lt, v_le, v_gt, v_ge, v_isN, v_notN, v_intI, v_intB, v_abs, v_strS, v_len, v_ixT, v_ixF, v_eqI, v_neI, v_eqS, v_neS, r_lcomp, r_pval, r_pseq, r_plist, r_planT, r_planS, r_tryO, r_tryA, seq_exc, of_exc, tryO_rt, tryO_nx, tryA_rt, tryA_nx, r_raise, r_raise1, r_xattr, r_slS, r_join, r_dget, r_dict0, r_dput, r_mkx, r_app]
  rw [r_sub rfl last_get]
  cases q1 : nmW x with
  | false =>
    rw [q1] at e1
    simp only [Bool.false_eq_true, if_false] at e1
    have hf : (T4.set x a op b).first = some (bN x) := by simp [T4.first, q1]
    rw [hf]
    exact ⟨_, (by simp only [List.length_cons, List.length_nil, Nat.reduceAdd, Nat.reduceEqDiff, if_true, List.map_cons, List.map_nil, Nat.reduceSub, List.replicate, List.cons_append, List.nil_append, R.bind_ok, R.bind_exc, R.bind_bad, R.nox_ok, RS.of_ok, RS.of_exc, List.getElem?_cons_zero, List.getElem?_cons_succ, List.set_cons_zero, List.set_cons_succ, Bool.not_true, Bool.not_false, Bool.false_eq_true, if_false, isNon, gSet, Int.reduceLT, Int.reduceLE, Int.reduceNeg, and_self, Nat.reduceLeDiff, Nat.reduceMul, decide_true, decide_false, Int.reduceEq, eq_self, reduceCtorEq, seq_nx, seq_rt, seq_bad, of_rt, of_nx, trd_rt, trd_nx, r_defn, r_seq, r_try, r_nil, r_expr, r_ret, r_if, r_set, r_asg, r_put, r_attr, r_var, r_c, r_bin, r_un, r_fn, r_fnL, r_call, r_make, made_ok, made_exc, r_eattr, r_ixL, r_new, r_tup, r_disp, r_few, r_eif, r_eand, r_eor, r_enot, r_acons, r_anil, r_astar, r_astarL, r_val, r_tru, r_not, r_and, r_or, r_chain, r_inL, r_m1, r_joinL, r_sl, r_pno, r_pat, v_add, v_sub, v_mod, v_div, v_neg, v_lt, v_le, v_gt, v_ge, v_isN, v_notN, v_intI, v_intB, v_abs, v_strS, v_len, v_ixT, v_ixF, v_eqI, v_neI, v_eqS, v_neS, r_lcomp, r_pval, r_pseq, r_plist, r_planT, r_planS, r_tryO, r_tryA, seq_exc, of_exc, tryO_rt, tryO_nx, tryA_rt, tryA_nx, r_raise, r_raise1, r_xattr, r_slS, r_join, r_dget, r_dict0, r_dput, r_mkx, r_app, e1]; rfl), E1⟩
  | true =>
    rw [q1] at e1
    simp only [if_true] at e1
    have n1 : ¬ nmW x = false := by rw [q1]; decide
    cases q2 : vlW a with
    | false =>
      rw [q2] at e2
      simp only [Bool.false_eq_true, if_false] at e2
      have hf : (T4.set x a op b).first = some (bV a) := by simp [T4.first, q1, q2]
      rw [hf]
      exact ⟨_, (by simp only [List.length_cons, List.length_nil, Nat.reduceAdd, Nat.reduceEqDiff, if_true, List.map_cons, List.map_nil, Nat.reduceSub, List.replicate, List.cons_append, List.nil_append, R.bind_ok, R.bind_exc, R.bind_bad, R.nox_ok, RS.of_ok, RS.of_exc, List.getElem?_cons_zero, List.getElem?_cons_succ, List.set_cons_zero, List.set_cons_succ, Bool.not_true, Bool.not_false, Bool.false_eq_true, if_false, isNon, gSet, Int.reduceLT, Int.reduceLE, Int.reduceNeg, and_self, Nat.reduceLeDiff, Nat.reduceMul, decide_true, decide_false, Int.reduceEq, eq_self, reduceCtorEq, seq_nx, seq_rt, seq_bad, of_rt, of_nx, trd_rt, trd_nx, r_defn, r_seq, r_try, r_nil, r_expr, r_ret, r_if, r_set, r_asg, r_put, r_attr, r_var, r_c, r_bin, r_un, r_fn, r_fnL, r_call, r_make, made_ok, made_exc, r_eattr, r_ixL, r_new, r_tup, r_disp, r_few, r_eif, r_eand, r_eor, r_enot, r_acons, r_anil, r_astar, r_astarL, r_val, r_tru, r_not, r_and, r_or, r_chain, r_inL, r_m1, r_joinL, r_sl, r_pno, r_pat, v_add, v_sub, v_mod, v_div, v_neg, v_lt, v_le, v_gt, v_ge, v_isN, v_notN, v_intI, v_intB, v_abs, v_strS, v_len, v_ixT, v_ixF, v_eqI, v_neI, v_eqS, v_neS, r_lcomp, r_pval, r_pseq, r_plist, r_planT, r_planS, r_tryO, r_tryA, seq_exc, of_exc, tryO_rt, tryO_nx, tryA_rt, tryA_nx, r_raise, r_raise1, r_xattr, r_slS, r_join, r_dget, r_dict0, r_dput, r_mkx, r_app, e1, e2]; rfl), E2⟩
    | true =>
      rw [q2] at e2
      simp only [if_true] at e2
      have n2 : ¬ vlW a = false := by rw [q2]; decide
      cases q3 : opW op with
      | false =>
        have hf : (T4.set x a op b).first = some (bO op) := by simp [T4.first, q1, q2, q3]
        rw [hf]
        cases qs : isS op with
        | false =>
          rw [qs] at e4
          exact ⟨_, (by simp only [List.length_cons, List.length_nil, Nat.reduceAdd, Nat.reduceEqDiff, if_true, List.map_cons, List.map_nil, Nat.reduceSub, List.replicate, List.cons_append, List.nil_append, R.bind_ok, R.bind_exc, R.bind_bad, R.nox_ok, RS.of_ok, RS.of_exc, List.getElem?_cons_zero, List.getElem?_cons_succ, List.set_cons_zero, List.set_cons_succ, Bool.not_true, Bool.not_false, Bool.false_eq_true, if_false, isNon, gSet, Int.reduceLT, Int.reduceLE, Int.reduceNeg, and_self, Nat.reduceLeDiff, Nat.reduceMul, decide_true, decide_false, Int.reduceEq, eq_self, reduceCtorEq, seq_nx, seq_rt, seq_bad, of_rt, of_nx, trd_rt, trd_nx, r_defn, r_seq, r_try, r_nil, r_expr, r_ret, r_if, r_set, r_asg, r_put, r_attr, r_var, r_c, r_bin, r_un, r_fn, r_fnL, r_call, r_make, made_ok, made_exc, r_eattr, r_ixL, r_new, r_tup, r_disp, r_few, r_eif, r_eand, r_eor, r_enot, r_acons, r_anil, r_astar, r_astarL, r_val, r_tru, r_not, r_and, r_or, r_chain, r_inL, r_m1, r_joinL, r_sl, r_pno, r_pat, v_add, v_sub, v_mod, v_div, v_neg, v_lt, v_le, v_gt, v_ge, v_isN, v_notN, v_intI, v_intB, v_abs, v_strS, v_len, v_ixT, v_ixF, v_eqI, v_neI, v_eqS, v_neS, r_lcomp, r_pval, r_pseq, r_plist, r_planT, r_planS, r_tryO, r_tryA, seq_exc, of_exc, tryO_rt, tryO_nx, tryA_rt, tryA_nx, r_raise, r_raise1, r_xattr, r_slS, r_join, r_dget, r_dict0, r_dput, r_mkx, r_app, e1, e2, e4]; rfl), E2⟩
        | true =>
          rw [qs] at e4
          have e5 := notIn_opW qs (m ++ [.ins "Set" [(fTarget, x)]])
          rw [q3] at e5
          exact ⟨_, (by simp only [List.length_cons, List.length_nil, Nat.reduceAdd, Nat.reduceEqDiff, if_true, List.map_cons, List.map_nil, Nat.reduceSub, List.replicate, List.cons_append, List.nil_append, R.bind_ok, R.bind_exc, R.bind_bad, R.nox_ok, RS.of_ok, RS.of_exc, List.getElem?_cons_zero, List.getElem?_cons_succ, List.set_cons_zero, List.set_cons_succ, Bool.not_true, Bool.not_false, Bool.false_eq_true, if_false, isNon, gSet, Int.reduceLT, Int.reduceLE, Int.reduceNeg, and_self, Nat.reduceLeDiff, Nat.reduceMul, decide_true, decide_false, Int.reduceEq, eq_self, reduceCtorEq, seq_nx, seq_rt, seq_bad, of_rt, of_nx, trd_rt, trd_nx, r_defn, r_seq, r_try, r_nil, r_expr, r_ret, r_if, r_set, r_asg, r_put, r_attr, r_var, r_c, r_bin, r_un, r_fn, r_fnL, r_call, r_make, made_ok, made_exc, r_eattr, r_ixL, r_new, r_tup, r_disp, r_few, r_eif, r_eand, r_eor, r_enot, r_acons, r_anil, r_astar, r_astarL, r_val, r_tru, r_not, r_and, r_or, r_chain, r_inL, r_m1, r_joinL, r_sl, r_pno, r_pat, v_add, v_sub, v_mod, v_div, v_neg, v_lt, v_le, v_gt, v_ge, v_isN, v_notN, v_intI, v_intB, v_abs, v_strS, v_len, v_ixT, v_ixF, v_eqI, v_neI, v_eqS, v_neS, r_lcomp, r_pval, r_pseq, r_plist, r_planT, r_planS, r_tryO, r_tryA, seq_exc, of_exc, tryO_rt, tryO_nx, tryA_rt, tryA_nx, r_raise, r_raise1, r_xattr, r_slS, r_join, r_dget, r_dict0, r_dput, r_mkx, r_app, e1, e2, e4, hat, e5]; rfl), E2⟩
      | true =>
        have n3 : ¬ opW op = false := by rw [q3]; decide
        have qs : isS op = true := by cases op <;> first | rfl | cases q3
        rw [qs] at e4
        have e5 := notIn_opW qs (m ++ [.ins "Set" [(fTarget, x)]])
        rw [q3] at e5
        cases q4 : vlW b with
        | false =>
          rw [q4] at e3
          simp only [Bool.false_eq_true, if_false] at e3
          have hf : (T4.set x a op b).first = some (bV b) := by simp [T4.first, q1, q2, q3, q4]
          rw [hf]
          exact ⟨_, (by simp only [List.length_cons, List.length_nil, Nat.reduceAdd, Nat.reduceEqDiff, if_true, List.map_cons, List.map_nil, Nat.reduceSub, List.replicate, List.cons_append, List.nil_append, R.bind_ok, R.bind_exc, R.bind_bad, R.nox_ok, RS.of_ok, RS.of_exc, List.getElem?_cons_zero, List.getElem?_cons_succ, List.set_cons_zero, List.set_cons_succ, Bool.not_true, Bool.not_false, Bool.false_eq_true, if_false, isNon, gSet, Int.reduceLT, Int.reduceLE, Int.reduceNeg, and_self, Nat.reduceLeDiff, Nat.reduceMul, decide_true, decide_false, Int.reduceEq, eq_self, reduceCtorEq, seq_nx, seq_rt, seq_bad, of_rt, of_nx, trd_rt, trd_nx, r_defn, r_seq, r_try, r_nil, r_expr, r_ret, r_if, r_set, r_asg, r_put, r_attr, r_var, r_c, r_bin, r_un, r_fn, r_fnL, r_call, r_make, made_ok, made_exc, r_eattr, r_ixL, r_new, r_tup, r_disp, r_few, r_eif, r_eand, r_eor, r_enot, r_acons, r_anil, r_astar, r_astarL, r_val, r_tru, r_not, r_and, r_or, r_chain, r_inL, r_m1, r_joinL, r_sl, r_pno, r_pat, v_add, v_sub, v_mod, v_div, v_neg, v_lt, v_le, v_gt, v_ge, v_isN, v_notN, v_intI, v_intB, v_abs, v_strS, v_len, v_ixT, v_ixF, v_eqI, v_neI, v_eqS, v_neS, r_lcomp, r_pval, r_pseq, r_plist, r_planT, r_planS, r_tryO, r_tryA, seq_exc, of_exc, tryO_rt, tryO_nx, tryA_rt, tryA_nx, r_raise, r_raise1, r_xattr, r_slS, r_join, r_dget, r_dict0, r_dput, r_mkx, r_app, e1, e2, e3, e4, hat, e5]; rfl), E2⟩
        | true =>
          rw [q4] at e3
          simp only [if_true] at e3
          have n4 : ¬ vlW b = false := by rw [q4]; decide
          have hf : (T4.set x a op b).first = none := by simp [T4.first, q1, q2, q3, q4]
          rw [hf]
          unfold MkRes
          simp only [List.length_cons, List.length_nil, Nat.reduceAdd, Nat.reduceEqDiff, if_true, List.map_cons, List.map_nil, Nat.reduceSub, List.replicate, List.cons_append, List.nil_append, R.bind_ok, R.bind_exc, R.bind_bad, R.nox_ok, RS.of_ok, RS.of_exc, List.getElem?_cons_zero, List.getElem?_cons_succ, List.set_cons_zero, List.set_cons_succ, Bool.not_true, Bool.not_false, Bool.false_eq_true, if_false, isNon, gSet, Int.reduceLT, Int.reduceLE, Int.reduceNeg, and_self, Nat.reduceLeDiff, Nat.reduceMul, decide_true, decide_false, Int.reduceEq, eq_self, reduceCtorEq, seq_nx, seq_rt, seq_bad, of_rt, of_nx, trd_rt, trd_nx, r_defn, r_seq, r_try, r_nil, r_expr, r_ret, r_if, r_set, r_asg, r_put, r_attr, r_var, r_c, r_bin, r_un, r_fn, r_fnL, r_call, r_make, made_ok, made_exc, r_eattr, r_ixL, r_new, r_tup, r_disp, r_few, r_eif, r_eand, r_eor, r_enot, r_acons, r_anil, r_astar, r_astarL, r_val, r_tru, r_not, r_and, r_or, r_chain, r_inL, r_m1, r_joinL, r_sl, r_pno, r_pat, v_add, v_sub, v_mod, v_div, v_neg, v_lt, v_le, v_gt, v_ge, v_isN, v_notN, v_intI, v_intB, v_abs, v_strS, v_len, v_ixT, v_ixF, v_eqI, v_neI, v_eqS, v_neS, r_lcomp, r_pval, r_pseq, r_plist, r_planT, r_planS, r_tryO, r_tryA, seq_exc, of_exc, tryO_rt, tryO_nx, tryA_rt, tryA_nx, r_raise, r_raise1, r_xattr, r_slS, r_join, r_dget, r_dict0, r_dput, r_mkx, r_app, e1, e2, e3, e4, hat, e5, last_get, last_set, putW, Nat.reduceLT, and_self, and_true, oL, oO, oR, fTarget, List.cons.injEq, Nat.reduceEqDiff, false_and, and_false, Nat.reduceAdd]
          rfl
theorem mkCopy (m : Mem) {x a : W} (hx : Ty m x) (ha : Ty m a) :
    MkRes (T4.copy x a).first (d_Copy___init__ [.ref m.length, x, a] (m ++ [.ins "Copy" []])) m (T4.copy x a).ins := by
  unfold d_Copy___init__ b_Copy___init__
  have e1 := assign_ty m "Copy" rfl hx
  have e2 := mbv_ty (ha.ext (.app m [.ins "Copy" [(fTarget, x)]]))
  have E1 : Ext m (m ++ [.ins "Copy" []]) := .app _ _
  have E2 : Ext m (m ++ [.ins "Copy" [(fTarget, x)]]) := .app _ _
  simp only [List.length_cons, List.length_nil, Nat.reduceAdd, Nat.reduceEqDiff, if_true, List.map_cons, List.map_nil, Nat.reduceSub, List.replicate, List.cons_append, List.nil_append, R.bind_ok, R.bind_exc, R.bind_bad, R.nox_ok, RS.of_ok, RS.of_exc, List.getElem?_cons_zero, List.getElem?_cons_succ, List.set_cons_zero, List.set_cons_succ, Bool.not_true, Bool.not_false, Bool.false_eq_true, if_false, isNon, gSet, Int.reduceLT, Int.reduceLE, Int.reduceNeg, and_self, Nat.reduceLeDiff, Nat.reduceMul, decide_true, decide_false, Int.reduceEq, eq_self, reduceCtorEq, seq_nx, seq_rt, seq_bad, of_rt, of_nx, trd_rt, trd_nx, r_defn, r_seq, r_try, r_nil, r_expr, r_ret, r_if, r_set, r_asg, r_put, r_attr, r_var, r_c, r_bin, r_un, r_fn, r_fnL, r_call, r_make, made_ok, made_exc, r_eattr, r_ixL, r_new, r_tup, r_disp, r_few, r_eif, r_eand, r_eor, r_enot, r_acons, r_anil, r_astar, r_astarL, r_val, r_tru, r_not, r_and, r_or, r_chain, r_inL, r_m1, r_joinL, r_sl, r_pno, r_pat, v_add, v_sub, v_mod, v_div, v_neg, v_lt, v_le, v_gt, v_ge, v_isN, v_notN, v_intI, v_intB, v_abs, v_strS, v_len, v_ixT, v_ixF, v_eqI, v_neI, v_eqS, v_neS, r_lcomp, r_pval, r_pseq, r_plist, r_planT, r_planS, r_tryO, r_tryA, seq_exc, of_exc, tryO_rt, tryO_nx, tryA_rt, tryA_nx, r_raise, r_raise1, r_xattr, r_slS, r_join, r_dget, r_dict0, r_dput, r_mkx, r_app]
  rw [r_sub rfl last_get]
  cases q1 : nmW x with
  | false =>
    rw [q1] at e1
    simp only [Bool.false_eq_true, if_false] at e1
    have hf : (T4.copy x a).first = some (bN x) := by simp [T4.first, q1]
    rw [hf]
    exact ⟨_, (by simp only [List.length_cons, List.length_nil, Nat.reduceAdd, Nat.reduceEqDiff, if_true, List.map_cons, List.map_nil, Nat.reduceSub, List.replicate, List.cons_append, List.nil_append, R.bind_ok, R.bind_exc, R.bind_bad, R.nox_ok, RS.of_ok, RS.of_exc, List.getElem?_cons_zero, List.getElem?_cons_succ, List.set_cons_zero, List.set_cons_succ, Bool.not_true, Bool.not_false, Bool.false_eq_true, if_false, isNon, gSet, Int.reduceLT, Int.reduceLE, Int.reduceNeg, and_self, Nat.reduceLeDiff, Nat.reduceMul, decide_true, decide_false, Int.reduceEq, eq_self, reduceCtorEq, seq_nx, seq_rt, seq_bad, of_rt, of_nx, trd_rt, trd_nx, r_defn, r_seq, r_try, r_nil, r_expr, r_ret, r_if, r_set, r_asg, r_put, r_attr, r_var, r_c, r_bin, r_un, r_fn, r_fnL, r_call, r_make, made_ok, made_exc, r_eattr, r_ixL, r_new, r_tup, r_disp, r_few, r_eif, r_eand, r_eor, r_enot, r_acons, r_anil, r_astar, r_astarL, r_val, r_tru, r_not, r_and, r_or, r_chain, r_inL, r_m1, r_joinL, r_sl, r_pno, r_pat, v_add, v_sub, v_mod, v_div, v_neg, v_lt, v_le, v_gt, v_ge, v_isN, v_notN, v_intI, v_intB, v_abs, v_strS, v_len, v_ixT, v_ixF, v_eqI, v_neI, v_eqS, v_neS, r_lcomp, r_pval, r_pseq, r_plist, r_planT, r_planS, r_tryO, r_tryA, seq_exc, of_exc, tryO_rt, tryO_nx, tryA_rt, tryA_nx, r_raise, r_raise1, r_xattr, r_slS, r_join, r_dget, r_dict0, r_dput, r_mkx, r_app, e1]; rfl), E1⟩
  | true =>
    rw [q1] at e1
    simp only [if_true] at e1
    have n1 : ¬ nmW x = false := by rw [q1]; decide
    cases q2 : vlW a with
    | false =>
      rw [q2] at e2
      simp only [Bool.false_eq_true, if_false] at e2
      have hf : (T4.copy x a).first = some (bV a) := by simp [T4.first, q1, q2]
      rw [hf]
      exact ⟨_, (by simp only [List.length_cons, List.length_nil, Nat.reduceAdd, Nat.reduceEqDiff, if_true, List.map_cons, List.map_nil, Nat.reduceSub, List.replicate, List.cons_append, List.nil_append, R.bind_ok, R.bind_exc, R.bind_bad, R.nox_ok, RS.of_ok, RS.of_exc, List.getElem?_cons_zero, List.getElem?_cons_succ, List.set_cons_zero, List.set_cons_succ, Bool.not_true, Bool.not_false, Bool.false_eq_true, if_false, isNon, gSet, Int.reduceLT, Int.reduceLE, Int.reduceNeg, and_self, Nat.reduceLeDiff, Nat.reduceMul, decide_true, decide_false, Int.reduceEq, eq_self, reduceCtorEq, seq_nx, seq_rt, seq_bad, of_rt, of_nx, trd_rt, trd_nx, r_defn, r_seq, r_try, r_nil, r_expr, r_ret, r_if, r_set, r_asg, r_put, r_attr, r_var, r_c, r_bin, r_un, r_fn, r_fnL, r_call, r_make, made_ok, made_exc, r_eattr, r_ixL, r_new, r_tup, r_disp, r_few, r_eif, r_eand, r_eor, r_enot, r_acons, r_anil, r_astar, r_astarL, r_val, r_tru, r_not, r_and, r_or, r_chain, r_inL, r_m1, r_joinL, r_sl, r_pno, r_pat, v_add, v_sub, v_mod, v_div, v_neg, v_lt, v_le, v_gt, v_ge, v_isN, v_notN, v_intI, v_intB, v_abs, v_strS, v_len, v_ixT, v_ixF, v_eqI, v_neI, v_eqS, v_neS, r_lcomp, r_pval, r_pseq, r_plist, r_planT, r_planS, r_tryO, r_tryA, seq_exc, of_exc, tryO_rt, tryO_nx, tryA_rt, tryA_nx, r_raise, r_raise1, r_xattr, r_slS, r_join, r_dget, r_dict0, r_dput, r_mkx, r_app, e1, e2]; rfl), E2⟩
    | true =>
      rw [q2] at e2
      simp only [if_true] at e2
      have n2 : ¬ vlW a = false := by rw [q2]; decide
      have hf : (T4.copy x a).first = none := by simp [T4.first, q1, q2]
      rw [hf]
      unfold MkRes
      simp only [List.length_cons, List.length_nil, Nat.reduceAdd, Nat.reduceEqDiff, if_true, List.map_cons, List.map_nil, Nat.reduceSub, List.replicate, List.cons_append, List.nil_append, R.bind_ok, R.bind_exc, R.bind_bad, R.nox_ok, RS.of_ok, RS.of_exc, List.getElem?_cons_zero, List.getElem?_cons_succ, List.set_cons_zero, List.set_cons_succ, Bool.not_true, Bool.not_false, Bool.false_eq_true, if_false, isNon, gSet, Int.reduceLT, Int.reduceLE, Int.reduceNeg, and_self, Nat.reduceLeDiff, Nat.reduceMul, decide_true, decide_false, Int.reduceEq, eq_self, reduceCtorEq, seq_nx, seq_rt, seq_bad, of_rt, of_nx, trd_rt, trd_nx, r_defn, r_seq, r_try, r_nil, r_expr, r_ret, r_if, r_set, r_asg, r_put, r_attr, r_var, r_c, r_bin, r_un, r_fn, r_fnL, r_call, r_make, made_ok, made_exc, r_eattr, r_ixL, r_new, r_tup, r_disp, r_few, r_eif, r_eand, r_eor, r_enot, r_acons, r_anil, r_astar, r_astarL, r_val, r_tru, r_not, r_and, r_or, r_chain, r_inL, r_m1, r_joinL, r_sl, r_pno, r_pat, v_add, v_sub, v_mod, v_div, v_neg, v_lt, v_le, v_gt, v_ge, v_isN, v_notN, v_intI, v_intB, v_abs, v_strS, v_len, v_ixT, v_ixF, v_eqI, v_neI, v_eqS, v_neS, r_lcomp, r_pval, r_pseq, r_plist, r_planT, r_planS, r_tryO, r_tryA, seq_exc, of_exc, tryO_rt, tryO_nx, tryA_rt, tryA_nx, r_raise, r_raise1, r_xattr, r_slS, r_join, r_dget, r_dict0, r_dput, r_mkx, r_app, e1, e2, last_get, last_set, putW, Nat.reduceLT, and_self, and_true, oC, fTarget, List.cons.injEq, Nat.reduceEqDiff, false_and, and_false, Nat.reduceAdd]
      rfl
theorem mkRead (m : Mem) {x : W} (hx : Ty m x) : MkRes (T4.read x).first (d_Assign___init__ [.ref m.length, x] (m ++ [.ins "Read" []])) m (T4.read x).ins := by
  have e1 := assign_ty m "Read" rfl hx
  cases q1 : nmW x with
  | false =>
    rw [q1] at e1
    have hf : (T4.read x).first = some (bN x) := by simp [T4.first, q1]
    rw [hf]
    exact ⟨_, e1, .app _ _⟩
  | true =>
    rw [q1] at e1
    have n1 : ¬ nmW x = false := by rw [q1]; decide
    have hf : (T4.read x).first = none := by simp [T4.first, q1]
    rw [hf]
    exact e1
theorem mkWrite (m : Mem) {a : W} (ha : Ty m a) : MkRes (T4.write a).first (d_Write___init__ [.ref m.length, a] (m ++ [.ins "Write" []])) m (T4.write a).ins := by
  unfold d_Write___init__ b_Write___init__
  have e2 := mbv_ty (ha.ext (.app m [.ins "Write" []]))
  cases q2 : vlW a with
  | false =>
    rw [q2] at e2
    simp only [Bool.false_eq_true, if_false] at e2
    have hf : (T4.write a).first = some (bV a) := by simp [T4.first, q2]
    rw [hf]
    exact ⟨_, (by simp only [List.length_cons, List.length_nil, Nat.reduceAdd, Nat.reduceEqDiff, if_true, List.map_cons, List.map_nil, Nat.reduceSub, List.replicate, List.cons_append, List.nil_append, R.bind_ok, R.bind_exc, R.bind_bad, R.nox_ok, RS.of_ok, RS.of_exc, List.getElem?_cons_zero, List.getElem?_cons_succ, List.set_cons_zero, List.set_cons_succ, Bool.not_true, Bool.not_false, Bool.false_eq_true, if_false, isNon, gSet, Int.reduceLT, Int.reduceLE, Int.reduceNeg, and_self, Nat.reduceLeDiff, Nat.reduceMul, decide_true, decide_false, Int.reduceEq, eq_self, reduceCtorEq, seq_nx, seq_rt, seq_bad, of_rt, of_nx, trd_rt, trd_nx, r_defn, r_seq, r_try, r_nil, r_expr, r_ret, r_if, r_set, r_asg, r_put, r_attr, r_var, r_c, r_bin, r_un, r_fn, r_fnL, r_call, r_make, made_ok, made_exc, r_eattr, r_ixL, r_new, r_tup, r_disp, r_few, r_eif, r_eand, r_eor, r_enot, r_acons, r_anil, r_astar, r_astarL, r_val, r_tru, r_not, r_and, r_or, r_chain, r_inL, r_m1, r_joinL, r_sl, r_pno, r_pat, v_add, v_sub, v_mod, v_div, v_neg, v_lt, v_le, v_gt, v_ge, v_isN, v_notN, v_intI, v_intB, v_abs, v_strS, v_len, v_ixT, v_ixF, v_eqI, v_neI, v_eqS, v_neS, r_lcomp, r_pval, r_pseq, r_plist, r_planT, r_planS, r_tryO, r_tryA, seq_exc, of_exc, tryO_rt, tryO_nx, tryA_rt, tryA_nx, r_raise, r_raise1, r_xattr, r_slS, r_join, r_dget, r_dict0, r_dput, r_mkx, r_app, e2]; rfl), .app _ _⟩
  | true =>
    rw [q2] at e2
    simp only [if_true] at e2
    have n2 : ¬ vlW a = false := by rw [q2]; decide
    have hf : (T4.write a).first = none := by simp [T4.first, q2]
    rw [hf]
    unfold MkRes
    simp only [List.length_cons, List.length_nil, Nat.reduceAdd, Nat.reduceEqDiff, if_true, List.map_cons, List.map_nil, Nat.reduceSub, List.replicate, List.cons_append, List.nil_append, R.bind_ok, R.bind_exc, R.bind_bad, R.nox_ok, RS.of_ok, RS.of_exc, List.getElem?_cons_zero, List.getElem?_cons_succ, List.set_cons_zero, List.set_cons_succ, Bool.not_true, Bool.not_false, Bool.false_eq_true, if_false, isNon, gSet, Int.reduceLT, Int.reduceLE, Int.reduceNeg, and_self, Nat.reduceLeDiff, Nat.reduceMul, decide_true, decide_false, Int.reduceEq, eq_self, reduceCtorEq, seq_nx, seq_rt, seq_bad, of_rt, of_nx, trd_rt, trd_nx, r_defn, r_seq, r_try, r_nil, r_expr, r_ret, r_if, r_set, r_asg, r_put, r_attr, r_var, r_c, r_bin, r_un, r_fn, r_fnL, r_call, r_make, made_ok, made_exc, r_eattr, r_ixL, r_new, r_tup, r_disp, r_few, r_eif, r_eand, r_eor, r_enot, r_acons, r_anil, r_astar, r_astarL, r_val, r_tru, r_not, r_and, r_or, r_chain, r_inL, r_m1, r_joinL, r_sl, r_pno, r_pat, v_add, v_sub, v_mod, v_div, v_neg, v_lt, v_le, v_gt, v_ge, v_isN, v_notN, v_intI, v_intB, v_abs, v_strS, v_len, v_ixT, v_ixF, v_eqI, v_neI, v_eqS, v_neS, r_lcomp, r_pval, r_pseq, r_plist, r_planT, r_planS, r_tryO, r_tryA, seq_exc, of_exc, tryO_rt, tryO_nx, tryA_rt, tryA_nx, r_raise, r_raise1, r_xattr, r_slS, r_join, r_dget, r_dict0, r_dput, r_mkx, r_app, e2, last_get, last_set, putW, Nat.reduceLT, and_self, and_true, oW]
    rfl
def GotRes (b : Option Bad) (r : R W) (m : Mem) (o : O) : Prop := match b with
  | none => r = .ok (.ref m.length) (m ++ [o])
  | some b => ∃ m', r = .exc b.cls [(fValue, b.w)] m' ∧ Ext m m'
theorem got_of {b : Option Bad} {r : R W} {m : Mem} {o : O} (h : MkRes b r m o) : GotRes b (R.made m.length r) m o := by
  cases b with
  | none => have h : r = _ := h; rw [h]; exact made_ok
  | some b => obtain ⟨m', e, E⟩ := h; rw [e]; exact ⟨m', made_exc, E⟩
theorem made_ty (t : T4) (m : Mem) (h : ∀ w ∈ t.args, Ty m w) : GotRes t.first (d__law_made [.tup t.list] m) m t.ins := by
  cases t with
  | set x a op b =>
    have g := got_of (mkSet m (h x (by simp [T4.args])) (h a (by simp [T4.args])) (h op (by simp [T4.args])) (h b (by simp [T4.args])))
    have e : d__law_made [.tup (T4.set x a op b).list] m = R.made m.length (d_Set___init__ [.ref m.length, x, a, op, b] (m ++ [.ins "Set" []])) := by
      unfold d__law_made b__law_made
      simp only [List.length_cons, List.length_nil, Nat.reduceAdd, Nat.reduceEqDiff, if_true, List.map_cons, List.map_nil, Nat.reduceSub, List.replicate, List.cons_append, List.nil_append, R.bind_ok, R.bind_exc, R.bind_bad, R.nox_ok, RS.of_ok, RS.of_exc, List.getElem?_cons_zero, List.getElem?_cons_succ, List.set_cons_zero, List.set_cons_succ, Bool.not_true, Bool.not_false, Bool.false_eq_true, if_false, isNon, gSet, Int.reduceLT, Int.reduceLE, Int.reduceNeg, and_self, Nat.reduceLeDiff, Nat.reduceMul, decide_true, decide_false, Int.reduceEq, eq_self, reduceCtorEq, seq_nx, seq_rt, seq_bad, of_rt, of_nx, trd_rt, trd_nx, r_defn, r_seq, r_try, r_nil, r_expr, r_ret, r_if, r_set, r_asg, r_put, r_attr, r_var, r_c, r_bin, r_un, r_fn, r_fnL, r_call, r_make, made_ok, made_exc, r_eattr, r_ixL, r_new, r_tup, r_disp, r_few, r_eif, r_eand, r_eor, r_enot, r_acons, r_anil, r_astar, r_astarL, r_val, r_tru, r_not, r_and, r_or, r_chain, r_inL, r_m1, r_joinL, r_sl, r_pno, r_pat, v_add, v_sub, v_mod, v_div, v_neg, v_lt, v_le, v_gt, v_ge, v_isN, v_notN, v_intI, v_intB, v_abs, v_strS, v_len, v_ixT, v_ixF, v_eqI, v_neI, v_eqS, v_neS, r_lcomp, r_pval, r_pseq, r_plist, r_planT, r_planS, r_tryO, r_tryA, seq_exc, of_exc, tryO_rt, tryO_nx, tryA_rt, tryA_nx, r_raise, r_raise1, r_xattr, r_slS, r_join, r_dget, r_dict0, r_dput, r_mkx, r_app, T4.list, T4.key, T4.args, kSet, at0, at1, at2, at3, at4]
      cases hm : R.made m.length (d_Set___init__ [.ref m.length, x, a, op, b] (m ++ [.ins "Set" []])) <;> rfl
    exact e ▸ g
  | copy x a =>
    have g := got_of (mkCopy m (h x (by simp [T4.args])) (h a (by simp [T4.args])))
    have e : d__law_made [.tup (T4.copy x a).list] m = R.made m.length (d_Copy___init__ [.ref m.length, x, a] (m ++ [.ins "Copy" []])) := by
      unfold d__law_made b__law_made
      simp only [List.length_cons, List.length_nil, Nat.reduceAdd, Nat.reduceEqDiff, if_true, List.map_cons, List.map_nil, Nat.reduceSub, List.replicate, List.cons_append, List.nil_append, R.bind_ok, R.bind_exc, R.bind_bad, R.nox_ok, RS.of_ok, RS.of_exc, List.getElem?_cons_zero, List.getElem?_cons_succ, List.set_cons_zero, List.set_cons_succ, Bool.not_true, Bool.not_false, Bool.false_eq_true, if_false, isNon, gSet, Int.reduceLT, Int.reduceLE, Int.reduceNeg, and_self, Nat.reduceLeDiff, Nat.reduceMul, decide_true, decide_false, Int.reduceEq, eq_self, reduceCtorEq, seq_nx, seq_rt, seq_bad, of_rt, of_nx, trd_rt, trd_nx, r_defn, r_seq, r_try, r_nil, r_expr, r_ret, r_if, r_set, r_asg, r_put, r_attr, r_var, r_c, r_bin, r_un, r_fn, r_fnL, r_call, r_make, made_ok, made_exc, r_eattr, r_ixL, r_new, r_tup, r_disp, r_few, r_eif, r_eand, r_eor, r_enot, r_acons, r_anil, r_astar, r_astarL, r_val, r_tru, r_not, r_and, r_or, r_chain, r_inL, r_m1, r_joinL, r_sl, r_pno, r_pat, v_add, v_sub, v_mod, v_div, v_neg, v_lt, v_le, v_gt, v_ge, v_isN, v_notN, v_intI, v_intB, v_abs, v_strS, v_len, v_ixT, v_ixF, v_eqI, v_neI, v_eqS, v_neS, r_lcomp, r_pval, r_pseq, r_plist, r_planT, r_planS, r_tryO, r_tryA, seq_exc, of_exc, tryO_rt, tryO_nx, tryA_rt, tryA_nx, r_raise, r_raise1, r_xattr, r_slS, r_join, r_dget, r_dict0, r_dput, r_mkx, r_app, T4.list, T4.key, T4.args, kCopy, at0, at1, at2, at3, at4, List.cons.injEq, Nat.reduceEqDiff, false_and, and_false]
      cases hm : R.made m.length (d_Copy___init__ [.ref m.length, x, a] (m ++ [.ins "Copy" []])) <;> rfl
    exact e ▸ g
  | read x =>
    have g := got_of (mkRead m (h x (by simp [T4.args])))
    have e : d__law_made [.tup (T4.read x).list] m = R.made m.length (d_Assign___init__ [.ref m.length, x] (m ++ [.ins "Read" []])) := by
      unfold d__law_made b__law_made
      simp only [List.length_cons, List.length_nil, Nat.reduceAdd, Nat.reduceEqDiff, if_true, List.map_cons, List.map_nil, Nat.reduceSub, List.replicate, List.cons_append, List.nil_append, R.bind_ok, R.bind_exc, R.bind_bad, R.nox_ok, RS.of_ok, RS.of_exc, List.getElem?_cons_zero, List.getElem?_cons_succ, List.set_cons_zero, List.set_cons_succ, Bool.not_true, Bool.not_false, Bool.false_eq_true, if_false, isNon, gSet, Int.reduceLT, Int.reduceLE, Int.reduceNeg, and_self, Nat.reduceLeDiff, Nat.reduceMul, decide_true, decide_false, Int.reduceEq, eq_self, reduceCtorEq, seq_nx, seq_rt, seq_bad, of_rt, of_nx, trd_rt, trd_nx, r_defn, r_seq, r_try, r_nil, r_expr, r_ret, r_if, r_set, r_asg, r_put, r_attr, r_var, r_c, r_bin, r_un, r_fn, r_fnL, r_call, r_make, made_ok, made_exc, r_eattr, r_ixL, r_new, r_tup, r_disp, r_few, r_eif, r_eand, r_eor, r_enot, r_acons, r_anil, r_astar, r_astarL, r_val, r_tru, r_not, r_and, r_or, r_chain, r_inL, r_m1, r_joinL, r_sl, r_pno, r_pat, v_add, v_sub, v_mod, v_div, v_neg, v_lt, v_le, v_gt, v_ge, v_isN, v_notN, v_intI, v_intB, v_abs, v_strS, v_len, v_ixT, v_ixF, v_eqI, v_neI, v_eqS, v_neS, r_lcomp, r_pval, r_pseq, r_plist, r_planT, r_planS, r_tryO, r_tryA, seq_exc, of_exc, tryO_rt, tryO_nx, tryA_rt, tryA_nx, r_raise, r_raise1, r_xattr, r_slS, r_join, r_dget, r_dict0, r_dput, r_mkx, r_app, T4.list, T4.key, T4.args, kRead, at0, at1, at2, at3, at4, List.cons.injEq, Nat.reduceEqDiff, false_and, and_false]
      cases hm : R.made m.length (d_Assign___init__ [.ref m.length, x] (m ++ [.ins "Read" []])) <;> rfl
    exact e ▸ g
  | write a =>
    have g := got_of (mkWrite m (h a (by simp [T4.args])))
    have e : d__law_made [.tup (T4.write a).list] m = R.made m.length (d_Write___init__ [.ref m.length, a] (m ++ [.ins "Write" []])) := by
      unfold d__law_made b__law_made
      simp only [List.length_cons, List.length_nil, Nat.reduceAdd, Nat.reduceEqDiff, if_true, List.map_cons, List.map_nil, Nat.reduceSub, List.replicate, List.cons_append, List.nil_append, R.bind_ok, R.bind_exc, R.bind_bad, R.nox_ok, RS.of_ok, RS.of_exc, List.getElem?_cons_zero, List.getElem?_cons_succ, List.set_cons_zero, List.set_cons_succ, Bool.not_true, Bool.not_false, Bool.false_eq_true, if_false, isNon, gSet, Int.reduceLT, Int.reduceLE, Int.reduceNeg, and_self, Nat.reduceLeDiff, Nat.reduceMul, decide_true, decide_false, Int.reduceEq, eq_self, reduceCtorEq, seq_nx, seq_rt, seq_bad, of_rt, of_nx, trd_rt, trd_nx, r_defn, r_seq, r_try, r_nil, r_expr, r_ret, r_if, r_set, r_asg, r_put, r_attr, r_var, r_c, r_bin, r_un, r_fn, r_fnL, r_call, r_make, made_ok, made_exc, r_eattr, r_ixL, r_new, r_tup, r_disp, r_few, r_eif, r_eand, r_eor, r_enot, r_acons, r_anil, r_astar, r_astarL, r_val, r_tru, r_not, r_and, r_or, r_chain, r_inL, r_m1, r_joinL, r_sl, r_pno, r_pat, v_add, v_sub, v_mod, v_div, v_neg, v_lt, v_le, v_gt, v_ge, v_isN, v_notN, v_intI, v_intB, v_abs, v_strS, v_len, v_ixT, v_ixF, v_eqI, v_neI, v_eqS, v_neS, r_lcomp, r_pval, r_pseq, r_plist, r_planT, r_planS, r_tryO, r_tryA, seq_exc, of_exc, tryO_rt, tryO_nx, tryA_rt, tryA_nx, r_raise, r_raise1, r_xattr, r_slS, r_join, r_dget, r_dict0, r_dput, r_mkx, r_app, T4.list, T4.key, T4.args, kWrite, at0, at1, at2, at3, at4, List.cons.injEq, Nat.reduceEqDiff, false_and, and_false]
      cases hm : R.made m.length (d_Write___init__ [.ref m.length, a] (m ++ [.ins "Write" []])) <;> rfl
    exact e ▸ g
end K02

namespace K02
open PySem Sh
def St.ins : St → O
  | .set x a op b => .ins "Set" [(fTarget, .str x), (fLeft, a.w), (fOp, .str op), (fRight, b.w)]
  | .copy x a => .ins "Copy" [(fTarget, .str x), (fValue, a.w)]
  | .read x => .ins "Read" [(fTarget, .str x)]
  | .write a => .ins "Write" [(fValue, a.w)]
/-! ### texts -/
def St.key : St → List Nat | .set _ _ _ _ => kSet | .copy _ _ => kCopy | .read _ => kRead | .write _ => kWrite
def St.vals : St → List Vl | .set x a op b => [.nm x, a, .nm op, b] | .copy x a => [.nm x, a] | .read x => [.nm x] | .write a => [a]
def parts (s : St) : List (List Nat) := s.key :: s.vals.map Vl.str
def text (s : St) : List Nat := TL.joinL [32] (parts s)
def St.good (s : St) : Prop := ∀ v ∈ s.vals, v.fine
theorem key_len (s : St) : s.key.length ≤ 8 := by cases s <;> (simp only [St.key]; decide)
theorem key_ch (s : St) : ∀ c ∈ s.key, c < 128 := by cases s <;> (simp only [St.key]; decide)
theorem parts_len {s : St} (h : s.good) : ∀ p ∈ parts s, p.length ≤ 8 := by
  intro p hp
  rcases List.mem_cons.mp hp with rfl | hp
  · exact key_len s
  · obtain ⟨v, hv, rfl⟩ := List.mem_map.mp hp
    exact (h v hv).1
theorem parts_ch {s : St} (h : s.good) : ∀ p ∈ parts s, ∀ c ∈ p, c < 128 := by
  intro p hp
  rcases List.mem_cons.mp hp with rfl | hp
  · exact key_ch s
  · obtain ⟨v, hv, rfl⟩ := List.mem_map.mp hp
    exact (h v hv).2.1
theorem sum_len : ∀ {ys : List (List Nat)}, (∀ p ∈ ys, p.length ≤ 8) → (ys.map (·.length)).sum ≤ 8 * ys.length
  | [], _ => Nat.le_refl _
  | y :: ys, h => by
    have h1 := h y List.mem_cons_self
    have h2 := sum_len fun p hp => h p (List.mem_cons_of_mem _ hp)
    simp only [List.map_cons, List.sum_cons, List.length_cons]
    omega
theorem parts_n (s : St) : (parts s).length ≤ 5 := by cases s <;> simp [parts, St.vals]
theorem join_parts {s : St} (h : s.good) (m : Mem) : joinW [32] ((parts s).map W.str) m = .ok (.str (text s)) m := by
  refine joinW_ok ?_
  have h1 := sum_len (parts_len h)
  have h2 := parts_n s
  simp only [List.length_cons, List.length_nil]
  omega
theorem bstr_ok {v : Vl} (h : v.fine) (m : Mem) : bStr [v.w] m = .ok (.str v.str) m := by
  cases v with
  | nm l => rfl
  | nu i =>
    have hi := h.2.2 i rfl
    show (if i.natAbs.log2 < 1920 then R.ok (W.str (dec i)) m else .bad) = _
    rw [if_pos]
    · rfl
    · have e20 : (2:Nat) ^ 20 = 1048576 := by decide
      have h1 : i.natAbs < 2 ^ 20 := by omega
      exact PySem.Flt.log2_lt_of (by decide) (Nat.lt_of_lt_of_le h1 (Nat.pow_le_pow_right (by decide) (by decide)))
def strV : W → W | .int i => .str (dec i) | w => w
theorem strV_w (v : Vl) : strV v.w = .str v.str := by cases v <;> rfl
theorem tup_eq (s : St) : s.tup = .tup (.str s.key :: s.vals.map Vl.w) := by cases s <;> rfl
/-! ### attributes of instances -/
theorem attr_fld {f : List Nat} {tb : String → Option (Option (DF ⊕ W))} {i : Nat} {m : Mem} {c : String} {fs : List (List Nat × W)} {w : W} (h : m[i]? = some (.ins c fs)) (ht : tb c = some none) (hl : fs.lookup f = some w) : attr f tb (.ref i) m = .ok w m := by
  unfold attr insOf
  simp only [h, ht, hl]
theorem attr_con {f : List Nat} {tb : String → Option (Option (DF ⊕ W))} {i : Nat} {m : Mem} {c : String} {fs : List (List Nat × W)} {w : W} (h : m[i]? = some (.ins c fs)) (ht : tb c = some (some (.inr w))) (hl : fs.lookup f = none) : attr f tb (.ref i) m = .ok w m := by
  unfold attr insOf
  simp only [h, ht, hl]
theorem attr_prop {f : List Nat} {tb : String → Option (Option (DF ⊕ W))} {i : Nat} {m : Mem} {c : String} {fs : List (List Nat × W)} {F : DF} (h : m[i]? = some (.ins c fs)) (ht : tb c = some (some (.inl F))) : attr f tb (.ref i) m = (F [.ref i] m).nox := by
  unfold attr insOf
  simp only [h, ht]
theorem words_ok (s : St) (i : Nat) (m : Mem) (h : m[i]? = some s.ins) : attr [119, 111, 114, 100, 115] tb_words (.ref i) m = .ok (.ref m.length) (m ++ [.lst (s.vals.map Vl.w)]) := by
  cases s with
  | set x a op b =>
    have h : m[i]? = some (.ins "Set" [(fTarget, .str x), (fLeft, a.w), (fOp, .str op), (fRight, b.w)]) := h
    have q1 : attr [116, 97, 114, 103, 101, 116] tb_target (.ref i) m = .ok (.str x) m := attr_fld h rfl rfl
    have q2 : attr [108, 101, 102, 116] tb_left (.ref i) m = .ok a.w m := attr_fld h rfl rfl
    have q3 : attr [111, 112] tb_op (.ref i) m = .ok (.str op) m := attr_fld h rfl rfl
    have q4 : attr [114, 105, 103, 104, 116] tb_right (.ref i) m = .ok b.w m := attr_fld h rfl rfl
    rw [attr_prop (F := d_Set_words) h rfl]
    unfold d_Set_words b_Set_words
    simp only [List.length_cons, List.length_nil, Nat.reduceAdd, Nat.reduceEqDiff, if_true, List.map_cons, List.map_nil, Nat.reduceSub, List.replicate, List.cons_append, List.nil_append, R.bind_ok, R.bind_exc, R.bind_bad, R.nox_ok, RS.of_ok, RS.of_exc, List.getElem?_cons_zero, List.getElem?_cons_succ, List.set_cons_zero, List.set_cons_succ, Bool.not_true, Bool.not_false, Bool.false_eq_true, if_false, isNon, gSet, Int.reduceLT, Int.reduceLE, Int.reduceNeg, and_self, Nat.reduceLeDiff, Nat.reduceMul, decide_true, decide_false, Int.reduceEq, eq_self, reduceCtorEq, seq_nx, seq_rt, seq_bad, of_rt, of_nx, trd_rt, trd_nx, r_defn, r_seq, r_try, r_nil, r_expr, r_ret, r_if, r_set, r_asg, r_put, r_attr, r_var, r_c, r_bin, r_un, r_fn, r_fnL, r_call, r_make, made_ok, made_exc, r_eattr, r_ixL, r_new, r_tup, r_disp, r_few, r_eif, r_eand, r_eor, r_enot, r_acons, r_anil, r_astar, r_astarL, r_val, r_tru, r_not, r_and, r_or, r_chain, r_inL, r_m1, r_joinL, r_sl, r_pno, r_pat, v_add, v_sub, v_mod, v_div, v_neg, v_lt, v_le, v_gt, v_ge, v_isN, v_notN, v_intI, v_intB, v_abs, v_strS, v_len, v_ixT, v_ixF, v_eqI, v_neI, v_eqS, v_neS, r_lcomp, r_pval, r_pseq, r_plist, r_planT, r_planS, r_tryO, r_tryA, seq_exc, of_exc, tryO_rt, tryO_nx, tryA_rt, tryA_nx, r_raise, r_raise1, r_xattr, r_slS, r_join, r_dget, r_dict0, r_dput, r_mkx, r_app, q1, q2, q3, q4, St.vals, Vl.w]
  | copy x a =>
    have h : m[i]? = some (.ins "Copy" [(fTarget, .str x), (fValue, a.w)]) := h
    have q1 : attr [116, 97, 114, 103, 101, 116] tb_target (.ref i) m = .ok (.str x) m := attr_fld h rfl rfl
    have q2 : attr [118, 97, 108, 117, 101] tb_value (.ref i) m = .ok a.w m := attr_fld h rfl rfl
    rw [attr_prop (F := d_Copy_words) h rfl]
    unfold d_Copy_words b_Copy_words
    simp only [List.length_cons, List.length_nil, Nat.reduceAdd, Nat.reduceEqDiff, if_true, List.map_cons, List.map_nil, Nat.reduceSub, List.replicate, List.cons_append, List.nil_append, R.bind_ok, R.bind_exc, R.bind_bad, R.nox_ok, RS.of_ok, RS.of_exc, List.getElem?_cons_zero, List.getElem?_cons_succ, List.set_cons_zero, List.set_cons_succ, Bool.not_true, Bool.not_false, Bool.false_eq_true, if_false, isNon, gSet, Int.reduceLT, Int.reduceLE, Int.reduceNeg, and_self, Nat.reduceLeDiff, Nat.reduceMul, decide_true, decide_false, Int.reduceEq, eq_self, reduceCtorEq, seq_nx, seq_rt, seq_bad, of_rt, of_nx, trd_rt, trd_nx, r_defn, r_seq, r_try, r_nil, r_expr, r_ret, r_if, r_set, r_asg, r_put, r_attr, r_var, r_c, r_bin, r_un, r_fn, r_fnL, r_call, r_make, made_ok, made_exc, r_eattr, r_ixL, r_new, r_tup, r_disp, r_few, r_eif, r_eand, r_eor, r_enot, r_acons, r_anil, r_astar, r_astarL, r_val, r_tru, r_not, r_and, r_or, r_chain, r_inL, r_m1, r_joinL, r_sl, r_pno, r_pat, v_add, v_sub, v_mod, v_div, v_neg, v_lt, v_le, v_gt, v_ge, v_isN, v_notN, v_intI, v_intB, v_abs, v_strS, v_len, v_ixT, v_ixF, v_eqI, v_neI, v_eqS, v_neS, r_lcomp, r_pval, r_pseq, r_plist, r_planT, r_planS, r_tryO, r_tryA, seq_exc, of_exc, tryO_rt, tryO_nx, tryA_rt, tryA_nx, r_raise, r_raise1, r_xattr, r_slS, r_join, r_dget, r_dict0, r_dput, r_mkx, r_app, q1, q2, St.vals, Vl.w]
  | read x =>
    have h : m[i]? = some (.ins "Read" [(fTarget, .str x)]) := h
    have q1 : attr [116, 97, 114, 103, 101, 116] tb_target (.ref i) m = .ok (.str x) m := attr_fld h rfl rfl
    rw [attr_prop (F := d_Read_words) h rfl]
    unfold d_Read_words b_Read_words
    simp only [List.length_cons, List.length_nil, Nat.reduceAdd, Nat.reduceEqDiff, if_true, List.map_cons, List.map_nil, Nat.reduceSub, List.replicate, List.cons_append, List.nil_append, R.bind_ok, R.bind_exc, R.bind_bad, R.nox_ok, RS.of_ok, RS.of_exc, List.getElem?_cons_zero, List.getElem?_cons_succ, List.set_cons_zero, List.set_cons_succ, Bool.not_true, Bool.not_false, Bool.false_eq_true, if_false, isNon, gSet, Int.reduceLT, Int.reduceLE, Int.reduceNeg, and_self, Nat.reduceLeDiff, Nat.reduceMul, decide_true, decide_false, Int.reduceEq, eq_self, reduceCtorEq, seq_nx, seq_rt, seq_bad, of_rt, of_nx, trd_rt, trd_nx, r_defn, r_seq, r_try, r_nil, r_expr, r_ret, r_if, r_set, r_asg, r_put, r_attr, r_var, r_c, r_bin, r_un, r_fn, r_fnL, r_call, r_make, made_ok, made_exc, r_eattr, r_ixL, r_new, r_tup, r_disp, r_few, r_eif, r_eand, r_eor, r_enot, r_acons, r_anil, r_astar, r_astarL, r_val, r_tru, r_not, r_and, r_or, r_chain, r_inL, r_m1, r_joinL, r_sl, r_pno, r_pat, v_add, v_sub, v_mod, v_div, v_neg, v_lt, v_le, v_gt, v_ge, v_isN, v_notN, v_intI, v_intB, v_abs, v_strS, v_len, v_ixT, v_ixF, v_eqI, v_neI, v_eqS, v_neS, r_lcomp, r_pval, r_pseq, r_plist, r_planT, r_planS, r_tryO, r_tryA, seq_exc, of_exc, tryO_rt, tryO_nx, tryA_rt, tryA_nx, r_raise, r_raise1, r_xattr, r_slS, r_join, r_dget, r_dict0, r_dput, r_mkx, r_app, q1, St.vals, Vl.w]
  | write a =>
    have h : m[i]? = some (.ins "Write" [(fValue, a.w)]) := h
    have q2 : attr [118, 97, 108, 117, 101] tb_value (.ref i) m = .ok a.w m := attr_fld h rfl rfl
    rw [attr_prop (F := d_Write_words) h rfl]
    unfold d_Write_words b_Write_words
    simp only [List.length_cons, List.length_nil, Nat.reduceAdd, Nat.reduceEqDiff, if_true, List.map_cons, List.map_nil, Nat.reduceSub, List.replicate, List.cons_append, List.nil_append, R.bind_ok, R.bind_exc, R.bind_bad, R.nox_ok, RS.of_ok, RS.of_exc, List.getElem?_cons_zero, List.getElem?_cons_succ, List.set_cons_zero, List.set_cons_succ, Bool.not_true, Bool.not_false, Bool.false_eq_true, if_false, isNon, gSet, Int.reduceLT, Int.reduceLE, Int.reduceNeg, and_self, Nat.reduceLeDiff, Nat.reduceMul, decide_true, decide_false, Int.reduceEq, eq_self, reduceCtorEq, seq_nx, seq_rt, seq_bad, of_rt, of_nx, trd_rt, trd_nx, r_defn, r_seq, r_try, r_nil, r_expr, r_ret, r_if, r_set, r_asg, r_put, r_attr, r_var, r_c, r_bin, r_un, r_fn, r_fnL, r_call, r_make, made_ok, made_exc, r_eattr, r_ixL, r_new, r_tup, r_disp, r_few, r_eif, r_eand, r_eor, r_enot, r_acons, r_anil, r_astar, r_astarL, r_val, r_tru, r_not, r_and, r_or, r_chain, r_inL, r_m1, r_joinL, r_sl, r_pno, r_pat, v_add, v_sub, v_mod, v_div, v_neg, v_lt, v_le, v_gt, v_ge, v_isN, v_notN, v_intI, v_intB, v_abs, v_strS, v_len, v_ixT, v_ixF, v_eqI, v_neI, v_eqS, v_neS, r_lcomp, r_pval, r_pseq, r_plist, r_planT, r_planS, r_tryO, r_tryA, seq_exc, of_exc, tryO_rt, tryO_nx, tryA_rt, tryA_nx, r_raise, r_raise1, r_xattr, r_slS, r_join, r_dget, r_dict0, r_dput, r_mkx, r_app, q2, St.vals, Vl.w]
theorem word_key (s : St) (i : Nat) (m : Mem) (h : m[i]? = some s.ins) : attr [87, 79, 82, 68] tb_WORD (.ref i) m = .ok (.str s.key) m := by
  cases s <;> exact attr_con h rfl rfl
theorem Text_ok {s : St} (hs : s.good) (i : Nat) (m : Mem) (h : m[i]? = some s.ins) : d_Statement_text [.ref i] m = .ok (.str (text s)) (m ++ [.lst (s.vals.map Vl.w)]) := by
  unfold d_Statement_text b_Statement_text
  have hc := comp_map (src := srcLive m.length) (ws := s.vals.map Vl.w) (m := m ++ [.lst (s.vals.map Vl.w)]) (k := 1) (e := eFn bStr (aCons (eVar 1) aNil)) (σ := [some (.ref i), none]) (f := strV) (by have := parts_n s; simp [parts] at this ⊢; omega) (live_at last_get) (fun w hw => by
    obtain ⟨v, hv, rfl⟩ := List.mem_map.mp hw
    simp only [List.length_cons, List.length_nil, Nat.reduceAdd, Nat.reduceEqDiff, if_true, List.map_cons, List.map_nil, Nat.reduceSub, List.replicate, List.cons_append, List.nil_append, R.bind_ok, R.bind_exc, R.bind_bad, R.nox_ok, RS.of_ok, RS.of_exc, List.getElem?_cons_zero, List.getElem?_cons_succ, List.set_cons_zero, List.set_cons_succ, Bool.not_true, Bool.not_false, Bool.false_eq_true, if_false, isNon, gSet, Int.reduceLT, Int.reduceLE, Int.reduceNeg, and_self, Nat.reduceLeDiff, Nat.reduceMul, decide_true, decide_false, Int.reduceEq, eq_self, reduceCtorEq, seq_nx, seq_rt, seq_bad, of_rt, of_nx, trd_rt, trd_nx, r_defn, r_seq, r_try, r_nil, r_expr, r_ret, r_if, r_set, r_asg, r_put, r_attr, r_var, r_c, r_bin, r_un, r_fn, r_fnL, r_call, r_make, made_ok, made_exc, r_eattr, r_ixL, r_new, r_tup, r_disp, r_few, r_eif, r_eand, r_eor, r_enot, r_acons, r_anil, r_astar, r_astarL, r_val, r_tru, r_not, r_and, r_or, r_chain, r_inL, r_m1, r_joinL, r_sl, r_pno, r_pat, v_add, v_sub, v_mod, v_div, v_neg, v_lt, v_le, v_gt, v_ge, v_isN, v_notN, v_intI, v_intB, v_abs, v_strS, v_len, v_ixT, v_ixF, v_eqI, v_neI, v_eqS, v_neS, r_lcomp, r_pval, r_pseq, r_plist, r_planT, r_planS, r_tryO, r_tryA, seq_exc, of_exc, tryO_rt, tryO_nx, tryA_rt, tryA_nx, r_raise, r_raise1, r_xattr, r_slS, r_join, r_dget, r_dict0, r_dput, r_mkx, r_app, bstr_ok (hs v hv), strV_w])
  have e1 : (s.vals.map Vl.w).map strV = (s.vals.map Vl.str).map W.str := by
    simp only [List.map_map]
    exact List.map_congr_left fun v _ => strV_w v
  rw [e1] at hc
  have hp := planR (m := m ++ [.lst (s.vals.map Vl.w)]) (n := m.length) (ws := s.vals.map Vl.w) last_get
  have hf : W.str s.key :: ((s.vals.map Vl.str).map W.str ++ []) = (parts s).map W.str := by simp [parts]
  have hn : ((parts s).map W.str).length ≤ 1000000 := by have := parts_n s; simp; omega
  simp only [List.length_cons, List.length_nil, Nat.reduceAdd, Nat.reduceEqDiff, if_true, List.map_cons, List.map_nil, Nat.reduceSub, List.replicate, List.cons_append, List.nil_append, R.bind_ok, R.bind_exc, R.bind_bad, R.nox_ok, RS.of_ok, RS.of_exc, List.getElem?_cons_zero, List.getElem?_cons_succ, List.set_cons_zero, List.set_cons_succ, Bool.not_true, Bool.not_false, Bool.false_eq_true, if_false, isNon, gSet, Int.reduceLT, Int.reduceLE, Int.reduceNeg, and_self, Nat.reduceLeDiff, Nat.reduceMul, decide_true, decide_false, Int.reduceEq, eq_self, reduceCtorEq, seq_nx, seq_rt, seq_bad, of_rt, of_nx, trd_rt, trd_nx, r_defn, r_seq, r_try, r_nil, r_expr, r_ret, r_if, r_set, r_asg, r_put, r_attr, r_var, r_c, r_bin, r_un, r_fn, r_fnL, r_call, r_make, made_ok, made_exc, r_eattr, r_ixL, r_new, r_tup, r_disp, r_few, r_eif, r_eand, r_eor, r_enot, r_acons, r_anil, r_astar, r_astarL, r_val, r_tru, r_not, r_and, r_or, r_chain, r_inL, r_m1, r_joinL, r_sl, r_pno, r_pat, v_add, v_sub, v_mod, v_div, v_neg, v_lt, v_le, v_gt, v_ge, v_isN, v_notN, v_intI, v_intB, v_abs, v_strS, v_len, v_ixT, v_ixF, v_eqI, v_neI, v_eqS, v_neS, r_lcomp, r_pval, r_pseq, r_plist, r_planT, r_planS, r_tryO, r_tryA, seq_exc, of_exc, tryO_rt, tryO_nx, tryA_rt, tryA_nx, r_raise, r_raise1, r_xattr, r_slS, r_join, r_dget, r_dict0, r_dput, r_mkx, r_app, word_key s i m h, words_ok s i m h, wipeW, hp]
  rw [hc]
  simp only [R.bind_ok, hf]
  rw [r_few, if_pos hn]
  simp only [R.bind_ok, join_parts hs, List.length_cons, List.length_nil, Nat.reduceAdd, Nat.reduceEqDiff, if_true, List.map_cons, List.map_nil, Nat.reduceSub, List.replicate, List.cons_append, List.nil_append, R.bind_ok, R.bind_exc, R.bind_bad, R.nox_ok, RS.of_ok, RS.of_exc, List.getElem?_cons_zero, List.getElem?_cons_succ, List.set_cons_zero, List.set_cons_succ, Bool.not_true, Bool.not_false, Bool.false_eq_true, if_false, isNon, gSet, Int.reduceLT, Int.reduceLE, Int.reduceNeg, and_self, Nat.reduceLeDiff, Nat.reduceMul, decide_true, decide_false, Int.reduceEq, eq_self, reduceCtorEq, seq_nx, seq_rt, seq_bad, of_rt, of_nx, trd_rt, trd_nx, r_defn, r_seq, r_try, r_nil, r_expr, r_ret, r_if, r_set, r_asg, r_put, r_attr, r_var, r_c, r_bin, r_un, r_fn, r_fnL, r_call, r_make, made_ok, made_exc, r_eattr, r_ixL, r_new, r_tup, r_disp, r_few, r_eif, r_eand, r_eor, r_enot, r_acons, r_anil, r_astar, r_astarL, r_val, r_tru, r_not, r_and, r_or, r_chain, r_inL, r_m1, r_joinL, r_sl, r_pno, r_pat, v_add, v_sub, v_mod, v_div, v_neg, v_lt, v_le, v_gt, v_ge, v_isN, v_notN, v_intI, v_intB, v_abs, v_strS, v_len, v_ixT, v_ixF, v_eqI, v_neI, v_eqS, v_neS, r_lcomp, r_pval, r_pseq, r_plist, r_planT, r_planS, r_tryO, r_tryA, seq_exc, of_exc, tryO_rt, tryO_nx, tryA_rt, tryA_nx, r_raise, r_raise1, r_xattr, r_slS, r_join, r_dget, r_dict0, r_dput, r_mkx, r_app]
theorem atext_ok {s : St} (hs : s.good) (i : Nat) (m : Mem) (h : m[i]? = some s.ins) : attr [116, 101, 120, 116] tb_text (.ref i) m = .ok (.str (text s)) (m ++ [.lst (s.vals.map Vl.w)]) := by
  have e : ∃ c fs, s.ins = .ins c fs ∧ tb_text c = some (some (.inl d_Statement_text)) := by cases s <;> exact ⟨_, _, rfl, rfl⟩
  obtain ⟨c, fs, e1, e2⟩ := e
  rw [attr_prop (h.trans (congrArg some e1)) e2, Text_ok hs i m h]
  rfl
end K02

namespace K02
open PySem Sh
/-! ### right arguments make a statement -/
def ofSt : St → T4
  | .set x a op b => .set (.str x) a.w (.str op) b.w
  | .copy x a => .copy (.str x) a.w
  | .read x => .read (.str x)
  | .write a => .write a.w
theorem ofSt_ins (s : St) : (ofSt s).ins = s.ins := by cases s <;> rfl
theorem ofSt_list (s : St) : (ofSt s).list = .str s.key :: s.vals.map Vl.w := by cases s <;> rfl
theorem fine_name {x : List Nat} (hg : Good x) (h : nameB x = true) : (Vl.nm x).fine := by
  unfold nameB at h
  simp only [Bool.and_eq_true, decide_eq_true_eq] at h
  exact ⟨h.2.1, hg.2, fun i e => by cases e⟩
theorem fine_nm {m : Mem} {w : W} (h : Ty m w) (q : nmW w = true) : ∃ l, w = .str l ∧ (Vl.nm l).fine := by
  cases h with
  | str g => exact ⟨_, rfl, fine_name g q⟩
  | _ => cases q
theorem fine_vw {m : Mem} {w : W} (h : Ty m w) (q : vlW w = true) : ∃ v : Vl, w = v.w ∧ v.fine := by
  cases h with
  | str g => exact ⟨.nm _, rfl, fine_name g q⟩
  | int i => exact ⟨.nu i, rfl, fine_nu (of_decide_eq_true q)⟩
  | _ => cases q
theorem fine_ow {w : W} (q : opW w = true) : ∃ l, w = .str l ∧ (Vl.nm l).fine := by
  cases w with
  | str l =>
    have h := of_decide_eq_true q
    have key : ∀ l ∈ ops, l.length ≤ 8 ∧ ∀ c ∈ l, c < 128 := by decide
    exact ⟨l, rfl, (key l h).1, (key l h).2, fun i e => by cases e⟩
  | _ => cases q
theorem none_of {t : T4} {m : Mem} (h : ∀ w ∈ t.args, Ty m w) (q : t.first = none) : ∃ s : St, t = ofSt s ∧ s.good := by
  have tt : ∀ {b : Bool}, ¬ b = false → b = true := fun {b} h => by cases b <;> simp_all
  cases t with
  | set x a op b =>
    simp only [T4.first] at q
    split at q
    · cases q
    · rename_i q1
      split at q
      · cases q
      · rename_i q2
        split at q
        · cases q
        · rename_i q3
          split at q
          · cases q
          · rename_i q4
            obtain ⟨l, rfl, f1⟩ := fine_nm (h x (by simp [T4.args])) (tt q1)
            obtain ⟨v, rfl, f2⟩ := fine_vw (h a (by simp [T4.args])) (tt q2)
            obtain ⟨o, rfl, f3⟩ := fine_ow (tt q3)
            obtain ⟨u, rfl, f4⟩ := fine_vw (h b (by simp [T4.args])) (tt q4)
            refine ⟨.set l v o u, rfl, fun w hw => ?_⟩
            simp only [St.vals, List.mem_cons, List.not_mem_nil, or_false] at hw
            rcases hw with rfl | rfl | rfl | rfl
            · exact f1
            · exact f2
            · exact f3
            · exact f4
  | copy x a =>
    simp only [T4.first] at q
    split at q
    · cases q
    · rename_i q1
      split at q
      · cases q
      · rename_i q2
        obtain ⟨l, rfl, f1⟩ := fine_nm (h x (by simp [T4.args])) (tt q1)
        obtain ⟨v, rfl, f2⟩ := fine_vw (h a (by simp [T4.args])) (tt q2)
        refine ⟨.copy l v, rfl, fun w hw => ?_⟩
        simp only [St.vals, List.mem_cons, List.not_mem_nil, or_false] at hw
        rcases hw with rfl | rfl
        · exact f1
        · exact f2
  | read x =>
    simp only [T4.first] at q
    split at q
    · cases q
    · rename_i q1
      obtain ⟨l, rfl, f1⟩ := fine_nm (h x (by simp [T4.args])) (tt q1)
      refine ⟨.read l, rfl, fun w hw => ?_⟩
      simp only [St.vals, List.mem_cons, List.not_mem_nil, or_false] at hw
      subst hw; exact f1
  | write a =>
    simp only [T4.first] at q
    split at q
    · cases q
    · rename_i q2
      obtain ⟨v, rfl, f2⟩ := fine_vw (h a (by simp [T4.args])) (tt q2)
      refine ⟨.write v, rfl, fun w hw => ?_⟩
      simp only [St.vals, List.mem_cons, List.not_mem_nil, or_false] at hw
      subst hw; exact f2
theorem first_kind {t : T4} {b : Bad} (q : t.first = some b) : ∃ w ∈ t.args, b = bN w ∨ b = bV w ∨ b = bO w := by
  cases t with
  | set x a op c =>
    simp only [T4.first] at q
    split at q
    · cases q; exact ⟨x, by simp [T4.args], .inl rfl⟩
    · split at q
      · cases q; exact ⟨a, by simp [T4.args], .inr (.inl rfl)⟩
      · split at q
        · cases q; exact ⟨op, by simp [T4.args], .inr (.inr rfl)⟩
        · split at q
          · cases q; exact ⟨c, by simp [T4.args], .inr (.inl rfl)⟩
          · cases q
  | copy x a =>
    simp only [T4.first] at q
    split at q
    · cases q; exact ⟨x, by simp [T4.args], .inl rfl⟩
    · split at q
      · cases q; exact ⟨a, by simp [T4.args], .inr (.inl rfl)⟩
      · cases q
  | read x =>
    simp only [T4.first] at q
    split at q
    · cases q; exact ⟨x, by simp [T4.args], .inl rfl⟩
    · cases q
  | write a =>
    simp only [T4.first] at q
    split at q
    · cases q; exact ⟨a, by simp [T4.args], .inr (.inl rfl)⟩
    · cases q
/-! ### what is told -/
def strOf : W → List Nat | .str l => l | .int i => dec i | _ => []
def txt (t : T4) : List Nat := TL.joinL [32] (t.list.map strOf)
theorem txt_ofSt (s : St) : txt (ofSt s) = text s := by
  unfold txt text parts
  rw [ofSt_list]
  congr 1
  simp only [List.map_cons, List.map_map, strOf]
  congr 1
  exact List.map_congr_left fun v _ => by cases v <;> rfl
def OutW (t : T4) : List W := match t.first with | some b => [.str b.word, b.w] | none => [.str kMade, .str (txt t)]
def tellRest : DS := sSeq (sIf (tVal (eFn (bIsi isiT) (aCons (eVar 1) (aCons (eC (.cls "NoName")) (aNil))))) (sRet (eNew (lDisp (aCons (eC (.str [110, 97, 109, 101])) (aCons (eXAttr [118, 97, 108, 117, 101] okx_value (eVar 1)) (aNil)))))) (sNil)) (sSeq (sIf (tVal (eFn (bIsi isiT) (aCons (eVar 1) (aCons (eC (.cls "NoValue")) (aNil))))) (sRet (eNew (lDisp (aCons (eC (.str [118, 97, 108, 117, 101])) (aCons (eXAttr [118, 97, 108, 117, 101] okx_value (eVar 1)) (aNil)))))) (sNil)) (sSeq (sIf (tVal (eFn (bIsi isiT) (aCons (eVar 1) (aCons (eC (.cls "NoOperator")) (aNil))))) (sRet (eNew (lDisp (aCons (eC (.str [111, 112, 101, 114, 97, 116, 111, 114])) (aCons (eXAttr [118, 97, 108, 117, 101] okx_value (eVar 1)) (aNil)))))) (sNil)) (sSeq (sIf (tVal (eBin wNotN (eVar 1) (eC .non))) (sRet (eNew (lDisp (aCons (eC (.str [97, 110, 111, 116, 104, 101, 114])) (aNil))))) (sNil)) (sRet (eNew (lDisp (aCons (eC (.str [109, 97, 100, 101])) (aCons (eAttr [116, 101, 120, 116] tb_text (eVar 2)) (aNil)))))))))
theorem isi_nx (k : String) (hk : k = "NoName" ∨ k = "NoValue" ∨ k = "NoOperator") (m : Mem) : bIsi isiT [.non, .cls k] m = .ok (.bl false) m := by rcases hk with rfl | rfl | rfl <;> rfl
theorem isi_x {j : Nat} {c : String} {fs : List (List Nat × W)} {m : Mem} {q : Bool} (k : String) (h : m[j]? = some (.exc c fs)) (e : isiT (.xc c) (.own k) = some q) : bIsi isiT [.ref j, .cls k] m = .ok (.bl q) m := by
  unfold bIsi isi1 tyc
  simp only [h]
  show (match isiT (.xc c) (.own k) with | some b => R.ok (W.bl b) m | none => .bad) = _
  rw [e]
theorem xval {j : Nat} {c : String} {w : W} {m : Mem} (h : m[j]? = some (.exc c [(fValue, w)])) (ok : okx_value c = true) : xattr [118, 97, 108, 117, 101] okx_value (.ref j) m = .ok w m := by
  unfold xattr
  simp only [h, ok]
  rfl
theorem tell_err {b : Bad} {w : W} (hb : b = bN w ∨ b = bV w ∨ b = bO w) (w0 : W) (j : Nat) (x2 x3 : Option W) (m : Mem) (h : m[j]? = some (.exc b.cls [(fValue, b.w)])) : tellRest [some w0, some (.ref j), x2, x3] m = .rt (.ref m.length) (m ++ [.lst [.str b.word, b.w]]) := by
  unfold tellRest
  rcases hb with rfl | rfl | rfl
  · have h : m[j]? = some (.exc "NoName" [(fValue, w)]) := h
    have i1 := isi_x (q := true) "NoName" h rfl
    simp only [List.length_cons, List.length_nil, Nat.reduceAdd, Nat.reduceEqDiff, if_true, List.map_cons, List.map_nil, Nat.reduceSub, List.replicate, List.cons_append, List.nil_append, R.bind_ok, R.bind_exc, R.bind_bad, R.nox_ok, RS.of_ok, RS.of_exc, List.getElem?_cons_zero, List.getElem?_cons_succ, List.set_cons_zero, List.set_cons_succ, Bool.not_true, Bool.not_false, Bool.false_eq_true, if_false, isNon, gSet, Int.reduceLT, Int.reduceLE, Int.reduceNeg, and_self, Nat.reduceLeDiff, Nat.reduceMul, decide_true, decide_false, Int.reduceEq, eq_self, reduceCtorEq, seq_nx, seq_rt, seq_bad, of_rt, of_nx, trd_rt, trd_nx, r_defn, r_seq, r_try, r_nil, r_expr, r_ret, r_if, r_set, r_asg, r_put, r_attr, r_var, r_c, r_bin, r_un, r_fn, r_fnL, r_call, r_make, made_ok, made_exc, r_eattr, r_ixL, r_new, r_tup, r_disp, r_few, r_eif, r_eand, r_eor, r_enot, r_acons, r_anil, r_astar, r_astarL, r_val, r_tru, r_not, r_and, r_or, r_chain, r_inL, r_m1, r_joinL, r_sl, r_pno, r_pat, v_add, v_sub, v_mod, v_div, v_neg, v_lt, v_le, v_gt, v_ge, v_isN, v_notN, v_intI, v_intB, v_abs, v_strS, v_len, v_ixT, v_ixF, v_eqI, v_neI, v_eqS, v_neS, r_lcomp, r_pval, r_pseq, r_plist, r_planT, r_planS, r_tryO, r_tryA, seq_exc, of_exc, tryO_rt, tryO_nx, tryA_rt, tryA_nx, r_raise, r_raise1, r_xattr, r_slS, r_join, r_dget, r_dict0, r_dput, r_mkx, r_app, i1, xval h rfl]
    rfl
  · have h : m[j]? = some (.exc "NoValue" [(fValue, w)]) := h
    have i1 := isi_x (q := false) "NoName" h rfl
    have i2 := isi_x (q := true) "NoValue" h rfl
    simp only [List.length_cons, List.length_nil, Nat.reduceAdd, Nat.reduceEqDiff, if_true, List.map_cons, List.map_nil, Nat.reduceSub, List.replicate, List.cons_append, List.nil_append, R.bind_ok, R.bind_exc, R.bind_bad, R.nox_ok, RS.of_ok, RS.of_exc, List.getElem?_cons_zero, List.getElem?_cons_succ, List.set_cons_zero, List.set_cons_succ, Bool.not_true, Bool.not_false, Bool.false_eq_true, if_false, isNon, gSet, Int.reduceLT, Int.reduceLE, Int.reduceNeg, and_self, Nat.reduceLeDiff, Nat.reduceMul, decide_true, decide_false, Int.reduceEq, eq_self, reduceCtorEq, seq_nx, seq_rt, seq_bad, of_rt, of_nx, trd_rt, trd_nx, r_defn, r_seq, r_try, r_nil, r_expr, r_ret, r_if, r_set, r_asg, r_put, r_attr, r_var, r_c, r_bin, r_un, r_fn, r_fnL, r_call, r_make, made_ok, made_exc, r_eattr, r_ixL, r_new, r_tup, r_disp, r_few, r_eif, r_eand, r_eor, r_enot, r_acons, r_anil, r_astar, r_astarL, r_val, r_tru, r_not, r_and, r_or, r_chain, r_inL, r_m1, r_joinL, r_sl, r_pno, r_pat, v_add, v_sub, v_mod, v_div, v_neg, v_lt, v_le, v_gt, v_ge, v_isN, v_notN, v_intI, v_intB, v_abs, v_strS, v_len, v_ixT, v_ixF, v_eqI, v_neI, v_eqS, v_neS, r_lcomp, r_pval, r_pseq, r_plist, r_planT, r_planS, r_tryO, r_tryA, seq_exc, of_exc, tryO_rt, tryO_nx, tryA_rt, tryA_nx, r_raise, r_raise1, r_xattr, r_slS, r_join, r_dget, r_dict0, r_dput, r_mkx, r_app, i1, i2, xval h rfl]
    rfl
  · have h : m[j]? = some (.exc "NoOperator" [(fValue, w)]) := h
    have i1 := isi_x (q := false) "NoName" h rfl
    have i2 := isi_x (q := false) "NoValue" h rfl
    have i3 := isi_x (q := true) "NoOperator" h rfl
    simp only [List.length_cons, List.length_nil, Nat.reduceAdd, Nat.reduceEqDiff, if_true, List.map_cons, List.map_nil, Nat.reduceSub, List.replicate, List.cons_append, List.nil_append, R.bind_ok, R.bind_exc, R.bind_bad, R.nox_ok, RS.of_ok, RS.of_exc, List.getElem?_cons_zero, List.getElem?_cons_succ, List.set_cons_zero, List.set_cons_succ, Bool.not_true, Bool.not_false, Bool.false_eq_true, if_false, isNon, gSet, Int.reduceLT, Int.reduceLE, Int.reduceNeg, and_self, Nat.reduceLeDiff, Nat.reduceMul, decide_true, decide_false, Int.reduceEq, eq_self, reduceCtorEq, seq_nx, seq_rt, seq_bad, of_rt, of_nx, trd_rt, trd_nx, r_defn, r_seq, r_try, r_nil, r_expr, r_ret, r_if, r_set, r_asg, r_put, r_attr, r_var, r_c, r_bin, r_un, r_fn, r_fnL, r_call, r_make, made_ok, made_exc, r_eattr, r_ixL, r_new, r_tup, r_disp, r_few, r_eif, r_eand, r_eor, r_enot, r_acons, r_anil, r_astar, r_astarL, r_val, r_tru, r_not, r_and, r_or, r_chain, r_inL, r_m1, r_joinL, r_sl, r_pno, r_pat, v_add, v_sub, v_mod, v_div, v_neg, v_lt, v_le, v_gt, v_ge, v_isN, v_notN, v_intI, v_intB, v_abs, v_strS, v_len, v_ixT, v_ixF, v_eqI, v_neI, v_eqS, v_neS, r_lcomp, r_pval, r_pseq, r_plist, r_planT, r_planS, r_tryO, r_tryA, seq_exc, of_exc, tryO_rt, tryO_nx, tryA_rt, tryA_nx, r_raise, r_raise1, r_xattr, r_slS, r_join, r_dget, r_dict0, r_dput, r_mkx, r_app, i1, i2, i3, xval h rfl]
    rfl
theorem told_ty (t : T4) (m : Mem) (h : ∀ w ∈ t.args, Ty m w) : ∃ n m', d__law_told [.tup t.list] m = .ok (.ref n) m' ∧ Ext m m' ∧ m'[n]? = some (.lst (OutW t)) := by
  have e0 : d__law_told [.tup t.list] m = R.ofRS (RS.seq (RS.tryA (sSet 2 (eCall d__law_made (aCons (eVar 0) (aNil))) [some (.tup t.list), some .non, some .non, none] m) isa_PlaceError 3 (sSet 1 (eVar 3))) tellRest) := rfl
  rw [e0]
  have g := made_ty t m h
  unfold OutW
  cases q : t.first with
  | none =>
    rw [q] at g
    have g : d__law_made [.tup t.list] m = .ok (.ref m.length) (m ++ [t.ins]) := g
    obtain ⟨s, rfl, hs⟩ := none_of h q
    have hl : (m ++ [(ofSt s).ins])[m.length]? = some s.ins := by rw [ofSt_ins]; exact last_get
    have ht := atext_ok hs m.length (m ++ [(ofSt s).ins]) hl
    have n1 := isi_nx "NoName" (by simp)
    have n2 := isi_nx "NoValue" (by simp)
    have n3 := isi_nx "NoOperator" (by simp)
    have e2 : tellRest [some (.tup (ofSt s).list), some .non, some (.ref m.length), none] (m ++ [(ofSt s).ins]) = .rt (.ref ((m ++ [(ofSt s).ins]) ++ [O.lst (s.vals.map Vl.w)]).length) (((m ++ [(ofSt s).ins]) ++ [.lst (s.vals.map Vl.w)]) ++ [.lst [.str kMade, .str (text s)]]) := by
      unfold tellRest
      simp only [List.length_cons, List.length_nil, Nat.reduceAdd, Nat.reduceEqDiff, if_true, List.map_cons, List.map_nil, Nat.reduceSub, List.replicate, List.cons_append, List.nil_append, R.bind_ok, R.bind_exc, R.bind_bad, R.nox_ok, RS.of_ok, RS.of_exc, List.getElem?_cons_zero, List.getElem?_cons_succ, List.set_cons_zero, List.set_cons_succ, Bool.not_true, Bool.not_false, Bool.false_eq_true, if_false, isNon, gSet, Int.reduceLT, Int.reduceLE, Int.reduceNeg, and_self, Nat.reduceLeDiff, Nat.reduceMul, decide_true, decide_false, Int.reduceEq, eq_self, reduceCtorEq, seq_nx, seq_rt, seq_bad, of_rt, of_nx, trd_rt, trd_nx, r_defn, r_seq, r_try, r_nil, r_expr, r_ret, r_if, r_set, r_asg, r_put, r_attr, r_var, r_c, r_bin, r_un, r_fn, r_fnL, r_call, r_make, made_ok, made_exc, r_eattr, r_ixL, r_new, r_tup, r_disp, r_few, r_eif, r_eand, r_eor, r_enot, r_acons, r_anil, r_astar, r_astarL, r_val, r_tru, r_not, r_and, r_or, r_chain, r_inL, r_m1, r_joinL, r_sl, r_pno, r_pat, v_add, v_sub, v_mod, v_div, v_neg, v_lt, v_le, v_gt, v_ge, v_isN, v_notN, v_intI, v_intB, v_abs, v_strS, v_len, v_ixT, v_ixF, v_eqI, v_neI, v_eqS, v_neS, r_lcomp, r_pval, r_pseq, r_plist, r_planT, r_planS, r_tryO, r_tryA, seq_exc, of_exc, tryO_rt, tryO_nx, tryA_rt, tryA_nx, r_raise, r_raise1, r_xattr, r_slS, r_join, r_dget, r_dict0, r_dput, r_mkx, r_app, n1, n2, n3, ht]
      rfl
    rw [txt_ofSt]
    refine ⟨((m ++ [(ofSt s).ins]) ++ [O.lst (s.vals.map Vl.w)]).length, ((m ++ [(ofSt s).ins]) ++ [.lst (s.vals.map Vl.w)]) ++ [.lst [.str kMade, .str (text s)]], ?_, ((Ext.app m _).add _).add _, last_get⟩
    simp only [List.length_cons, List.length_nil, Nat.reduceAdd, Nat.reduceEqDiff, if_true, List.map_cons, List.map_nil, Nat.reduceSub, List.replicate, List.cons_append, List.nil_append, R.bind_ok, R.bind_exc, R.bind_bad, R.nox_ok, RS.of_ok, RS.of_exc, List.getElem?_cons_zero, List.getElem?_cons_succ, List.set_cons_zero, List.set_cons_succ, Bool.not_true, Bool.not_false, Bool.false_eq_true, if_false, isNon, gSet, Int.reduceLT, Int.reduceLE, Int.reduceNeg, and_self, Nat.reduceLeDiff, Nat.reduceMul, decide_true, decide_false, Int.reduceEq, eq_self, reduceCtorEq, seq_nx, seq_rt, seq_bad, of_rt, of_nx, trd_rt, trd_nx, r_defn, r_seq, r_try, r_nil, r_expr, r_ret, r_if, r_set, r_asg, r_put, r_attr, r_var, r_c, r_bin, r_un, r_fn, r_fnL, r_call, r_make, made_ok, made_exc, r_eattr, r_ixL, r_new, r_tup, r_disp, r_few, r_eif, r_eand, r_eor, r_enot, r_acons, r_anil, r_astar, r_astarL, r_val, r_tru, r_not, r_and, r_or, r_chain, r_inL, r_m1, r_joinL, r_sl, r_pno, r_pat, v_add, v_sub, v_mod, v_div, v_neg, v_lt, v_le, v_gt, v_ge, v_isN, v_notN, v_intI, v_intB, v_abs, v_strS, v_ixT, v_ixF, v_eqI, v_neI, v_eqS, v_neS, r_lcomp, r_pval, r_pseq, r_plist, r_planT, r_planS, r_tryO, r_tryA, seq_exc, of_exc, tryO_rt, tryO_nx, tryA_rt, tryA_nx, r_raise, r_raise1, r_xattr, r_slS, r_join, r_dget, r_dict0, r_dput, r_mkx, r_app, g, e2]
  | some b =>
    rw [q] at g
    obtain ⟨m', e, E⟩ := g
    obtain ⟨w, _, hb⟩ := first_kind q
    have gj : (m' ++ [O.exc b.cls [(fValue, b.w)]])[m'.length]? = some (.exc b.cls [(fValue, b.w)]) := last_get
    have e2 := tell_err hb (.tup t.list) m'.length (some .non) none _ gj
    have hc : isa_PlaceError b.cls = some true := by rcases hb with rfl | rfl | rfl <;> rfl
    refine ⟨(m' ++ [O.exc b.cls [(fValue, b.w)]]).length, (m' ++ [O.exc b.cls [(fValue, b.w)]]) ++ [.lst [.str b.word, b.w]], ?_, (E.add _).add _, last_get⟩
    simp only [List.length_cons, List.length_nil, Nat.reduceAdd, Nat.reduceEqDiff, if_true, List.map_cons, List.map_nil, Nat.reduceSub, List.replicate, List.cons_append, List.nil_append, R.bind_ok, R.bind_exc, R.bind_bad, R.nox_ok, RS.of_ok, RS.of_exc, List.getElem?_cons_zero, List.getElem?_cons_succ, List.set_cons_zero, List.set_cons_succ, Bool.not_true, Bool.not_false, Bool.false_eq_true, if_false, isNon, gSet, Int.reduceLT, Int.reduceLE, Int.reduceNeg, and_self, Nat.reduceLeDiff, Nat.reduceMul, decide_true, decide_false, Int.reduceEq, eq_self, reduceCtorEq, seq_nx, seq_rt, seq_bad, of_rt, of_nx, trd_rt, trd_nx, r_defn, r_seq, r_try, r_nil, r_expr, r_ret, r_if, r_set, r_asg, r_put, r_attr, r_var, r_c, r_bin, r_un, r_fn, r_fnL, r_call, r_make, made_ok, made_exc, r_eattr, r_ixL, r_new, r_tup, r_disp, r_few, r_eif, r_eand, r_eor, r_enot, r_acons, r_anil, r_astar, r_astarL, r_val, r_tru, r_not, r_and, r_or, r_chain, r_inL, r_m1, r_joinL, r_sl, r_pno, r_pat, v_add, v_sub, v_mod, v_div, v_neg, v_lt, v_le, v_gt, v_ge, v_isN, v_notN, v_intI, v_intB, v_abs, v_strS, v_ixT, v_ixF, v_eqI, v_neI, v_eqS, v_neS, r_lcomp, r_pval, r_pseq, r_plist, r_planT, r_planS, r_tryO, r_tryA, seq_exc, of_exc, tryO_rt, tryO_nx, tryA_rt, tryA_nx, r_raise, r_raise1, r_xattr, r_slS, r_join, r_dget, r_dict0, r_dput, r_mkx, r_app, e, tryA_exc hc, e2]
end K02

namespace K02
open PySem Sh
/-! ### what is due -/
def DueRes (t : T4) (r : R W) (m : Mem) : Prop := ∃ n m', r = .ok (.ref n) m' ∧ Ext m m' ∧ m'[n]? = some (.lst (OutW t))
theorem due_bad {t : T4} {b : Bad} {r : R W} {m m1 : Mem} (q : t.first = some b) (E : Ext m m1) (e : r = .ok (.ref m1.length) (m1 ++ [.lst [.str b.word, b.w]])) : DueRes t r m := by
  refine ⟨m1.length, m1 ++ [.lst [.str b.word, b.w]], e, E.add _, ?_⟩
  unfold OutW
  rw [q]
  exact last_get
theorem inD_ops (op : List Nat) (m : Mem) : inD (.str op) [.str [97, 100, 100], .str [115, 117, 98], .str [109, 117, 108]] m = .ok (opB op) m := by
  show inD (.str op) (ops.map W.str) m = _
  unfold inD
  rw [if_pos ⟨rfl, rfl⟩, inW_ops]
def lastS : DS := sRet (eNew (lDisp (aCons (eC (.str [109, 97, 100, 101])) (aCons (eJoinL (eC (.str [32])) (lComp (pVal (eVar 0)) (gSet 2) (tYesB) (eFn bStr (aCons (eVar 2) (aNil))) [2])) (aNil)))))
def dueH (t : DS) : DS := sSeq (sSet 1 (eBin wIx (eVar 0) (eC (.int 0)))) (sSeq (sIf (tAnd (tVal (eBin wNe0 (eVar 1) (eC (.str [119, 114, 105, 116, 101])))) (tNot (tVal (eCall d__law_is_name (aCons (eBin wIx (eVar 0) (eC (.int 1))) (aNil)))))) (sRet (eNew (lDisp (aCons (eC (.str [110, 97, 109, 101])) (aCons (eBin wIx (eVar 0) (eC (.int 1))) (aNil)))))) (sNil)) (sSeq (sIf (tVal (eBin wEq0 (eVar 1) (eC (.str [115, 101, 116])))) (sSeq (sIf (tNot (tVal (eCall d__law_is_value (aCons (eBin wIx (eVar 0) (eC (.int 2))) (aNil))))) (sRet (eNew (lDisp (aCons (eC (.str [118, 97, 108, 117, 101])) (aCons (eBin wIx (eVar 0) (eC (.int 2))) (aNil)))))) (sNil)) (sIf (tOr (tNot (tVal (eFn (bIsi isiT) (aCons (eBin wIx (eVar 0) (eC (.int 3))) (aCons (eC (.ty "str")) (aNil)))))) (tVal (eInL true (eBin wIx (eVar 0) (eC (.int 3))) (lDisp (aCons (eC (.str [97, 100, 100])) (aCons (eC (.str [115, 117, 98])) (aCons (eC (.str [109, 117, 108])) (aNil)))))))) (sRet (eNew (lDisp (aCons (eC (.str [111, 112, 101, 114, 97, 116, 111, 114])) (aCons (eBin wIx (eVar 0) (eC (.int 3))) (aNil)))))) (sNil))) (sNil)) (sSeq (sIf (tAnd (tVal (eBin wNe0 (eVar 1) (eC (.str [114, 101, 97, 100])))) (tNot (tVal (eCall d__law_is_value (aCons (eBin wIx (eVar 0) (eUn wNeg (eC (.int 1)))) (aNil)))))) (sRet (eNew (lDisp (aCons (eC (.str [118, 97, 108, 117, 101])) (aCons (eBin wIx (eVar 0) (eUn wNeg (eC (.int 1)))) (aNil)))))) (sNil)) t)))
theorem due_eq : d__law_due = defn 1 3 (dueH lastS) := rfl
theorem strs_list (s : St) : (ofSt s).list.map strV = (parts s).map W.str := by
  rw [ofSt_list]
  simp only [parts, List.map_cons, List.map_map]
  congr 1
  exact List.map_congr_left fun v _ => strV_w v
theorem due_good {t : T4} (h : ∀ m' w, w ∈ t.args → Ty m' w ∨ True) {s : St} (ht : t = ofSt s) (hs : s.good) (q : t.first = none) {L : Nat} {m m1 : Mem} (hL : m1[L]? = some (.lst t.list)) (E : Ext m m1) (x1 : Option W) : ∃ n m', lastS [some (.ref L), x1, none] m1 = .rt (.ref n) m' ∧ Ext m m' ∧ m'[n]? = some (.lst (OutW t)) := by
  subst ht
  have hc := comp_map (src := srcLive L) (ws := (ofSt s).list) (m := m1) (k := 2) (e := eFn bStr (aCons (eVar 2) aNil)) (σ := [some (.ref L), x1, none]) (f := strV) (by rw [ofSt_list]; have := parts_n s; simp [parts] at this ⊢; omega) (live_at hL) (fun w hw => by
    have hw' : ∃ v : Vl, w = v.w ∧ v.fine := by
      rw [ofSt_list] at hw
      rcases List.mem_cons.mp hw with rfl | hw
      · exact ⟨.nm s.key, rfl, key_len s, key_ch s, fun i e => by cases e⟩
      · obtain ⟨v, hv, rfl⟩ := List.mem_map.mp hw
        exact ⟨v, rfl, hs v hv⟩
    obtain ⟨v, rfl, hv⟩ := hw'
    simp only [List.length_cons, List.length_nil, Nat.reduceAdd, Nat.reduceEqDiff, if_true, List.map_cons, List.map_nil, Nat.reduceSub, List.replicate, List.cons_append, List.nil_append, R.bind_ok, R.bind_exc, R.bind_bad, R.nox_ok, RS.of_ok, RS.of_exc, List.getElem?_cons_zero, List.getElem?_cons_succ, List.set_cons_zero, List.set_cons_succ, Bool.not_true, Bool.not_false, Bool.false_eq_true, if_false, isNon, gSet, Int.reduceLT, Int.reduceLE, Int.reduceNeg, and_self, Nat.reduceLeDiff, Nat.reduceMul, decide_true, decide_false, Int.reduceEq, eq_self, reduceCtorEq, seq_nx, seq_rt, seq_bad, of_rt, of_nx, trd_rt, trd_nx, r_defn, r_seq, r_try, r_nil, r_expr, r_ret, r_if, r_set, r_asg, r_put, r_attr, r_var, r_c, r_bin, r_un, r_fn, r_fnL, r_call, r_make, made_ok, made_exc, r_eattr, r_ixL, r_new, r_tup, r_disp, r_few, r_eif, r_eand, r_eor, r_enot, r_acons, r_anil, r_astar, r_astarL, r_val, r_tru, r_not, r_and, r_or, r_chain, r_inL, r_m1, r_joinL, r_sl, r_pno, r_pat, v_add, v_sub, v_mod, v_div, v_neg, v_lt, v_le, v_gt, v_ge, v_isN, v_notN, v_intI, v_intB, v_abs, v_strS, v_len, v_ixT, v_ixF, v_eqI, v_neI, v_eqS, v_neS, r_lcomp, r_pval, r_pseq, r_plist, r_planT, r_planS, r_tryO, r_tryA, seq_exc, of_exc, tryO_rt, tryO_nx, tryA_rt, tryA_nx, r_raise, r_raise1, r_xattr, r_slS, r_join, r_dget, r_dict0, r_dput, r_mkx, r_app, bstr_ok hv, strV_w])
  rw [strs_list] at hc
  have hp := planR (m := m1) (n := L) hL
  refine ⟨m1.length, m1 ++ [.lst [.str kMade, .str (text s)]], ?_, E.add _, ?_⟩
  · unfold lastS
    simp only [List.length_cons, List.length_nil, Nat.reduceAdd, Nat.reduceEqDiff, if_true, List.map_cons, List.map_nil, Nat.reduceSub, List.replicate, List.cons_append, List.nil_append, R.bind_ok, R.bind_exc, R.bind_bad, R.nox_ok, RS.of_ok, RS.of_exc, List.getElem?_cons_zero, List.getElem?_cons_succ, List.set_cons_zero, List.set_cons_succ, Bool.not_true, Bool.not_false, Bool.false_eq_true, if_false, isNon, gSet, Int.reduceLT, Int.reduceLE, Int.reduceNeg, and_self, Nat.reduceLeDiff, Nat.reduceMul, decide_true, decide_false, Int.reduceEq, eq_self, reduceCtorEq, seq_nx, seq_rt, seq_bad, of_rt, of_nx, trd_rt, trd_nx, r_defn, r_seq, r_try, r_nil, r_expr, r_ret, r_if, r_set, r_asg, r_put, r_attr, r_var, r_c, r_bin, r_un, r_fn, r_fnL, r_call, r_make, made_ok, made_exc, r_eattr, r_ixL, r_new, r_tup, r_disp, r_few, r_eif, r_eand, r_eor, r_enot, r_acons, r_anil, r_astar, r_astarL, r_val, r_tru, r_not, r_and, r_or, r_chain, r_inL, r_m1, r_joinL, r_sl, r_pno, r_pat, v_add, v_sub, v_mod, v_div, v_neg, v_lt, v_le, v_gt, v_ge, v_isN, v_notN, v_intI, v_intB, v_abs, v_strS, v_ixT, v_ixF, v_eqI, v_neI, v_eqS, v_neS, r_lcomp, r_pval, r_pseq, r_plist, r_planT, r_planS, r_tryO, r_tryA, seq_exc, of_exc, tryO_rt, tryO_nx, tryA_rt, tryA_nx, r_raise, r_raise1, r_xattr, r_slS, r_join, r_dget, r_dict0, r_dput, r_mkx, r_app, hp, wipeW]
    rw [hc]
    simp only [List.length_cons, List.length_nil, Nat.reduceAdd, Nat.reduceEqDiff, if_true, List.map_cons, List.map_nil, Nat.reduceSub, List.replicate, List.cons_append, List.nil_append, R.bind_ok, R.bind_exc, R.bind_bad, R.nox_ok, RS.of_ok, RS.of_exc, List.getElem?_cons_zero, List.getElem?_cons_succ, List.set_cons_zero, List.set_cons_succ, Bool.not_true, Bool.not_false, Bool.false_eq_true, if_false, isNon, gSet, Int.reduceLT, Int.reduceLE, Int.reduceNeg, and_self, Nat.reduceLeDiff, Nat.reduceMul, decide_true, decide_false, Int.reduceEq, eq_self, reduceCtorEq, seq_nx, seq_rt, seq_bad, of_rt, of_nx, trd_rt, trd_nx, r_defn, r_seq, r_try, r_nil, r_expr, r_ret, r_if, r_set, r_asg, r_put, r_attr, r_var, r_c, r_bin, r_un, r_fn, r_fnL, r_call, r_make, made_ok, made_exc, r_eattr, r_ixL, r_new, r_tup, r_disp, r_few, r_eif, r_eand, r_eor, r_enot, r_acons, r_anil, r_astar, r_astarL, r_val, r_tru, r_not, r_and, r_or, r_chain, r_inL, r_m1, r_joinL, r_sl, r_pno, r_pat, v_add, v_sub, v_mod, v_div, v_neg, v_lt, v_le, v_gt, v_ge, v_isN, v_notN, v_intI, v_intB, v_abs, v_strS, v_ixT, v_ixF, v_eqI, v_neI, v_eqS, v_neS, r_lcomp, r_pval, r_pseq, r_plist, r_planT, r_planS, r_tryO, r_tryA, seq_exc, of_exc, tryO_rt, tryO_nx, tryA_rt, tryA_nx, r_raise, r_raise1, r_xattr, r_slS, r_join, r_dget, r_dict0, r_dput, r_mkx, r_app, join_parts hs]
    rfl
  · unfold OutW
    rw [q, txt_ofSt]
    exact last_get
theorem due_set {x a op b : W} {m : Mem} {L : Nat} (hL : m[L]? = some (.lst (T4.set x a op b).list)) (h : ∀ w ∈ (T4.set x a op b).args, Ty m w) : DueRes (T4.set x a op b) (d__law_due [.ref L] m) m := by
  have tt : ∀ {b : Bool}, ¬ b = false → b = true := fun {b} h => by cases b <;> simp_all
  have hx := h x (by simp [T4.args])
  have ha := h a (by simp [T4.args])
  have ho := h op (by simp [T4.args])
  have hb := h b (by simp [T4.args])
  have i0 : ∀ {M : Mem}, M[L]? = some (.lst (T4.set x a op b).list) → wIx (.ref L) (.int 0) M = .ok (.str [115, 101, 116]) M := fun h => (v_ixR h).trans at0
  have i1 : ∀ {M : Mem}, M[L]? = some (.lst (T4.set x a op b).list) → wIx (.ref L) (.int 1) M = .ok x M := fun h => (v_ixR h).trans at1
  have i2 : ∀ {M : Mem}, M[L]? = some (.lst (T4.set x a op b).list) → wIx (.ref L) (.int 2) M = .ok a M := fun h => (v_ixR h).trans at2
  have i3 : ∀ {M : Mem}, M[L]? = some (.lst (T4.set x a op b).list) → wIx (.ref L) (.int 3) M = .ok op M := fun h => (v_ixR h).trans at3
  have il : ∀ {M : Mem}, M[L]? = some (.lst (T4.set x a op b).list) → wIx (.ref L) (.int (-1)) M = .ok b M := fun h => (v_ixR h).trans (v_at rfl)
  obtain ⟨m1, e1, E1⟩ := lname_ty hx
  cases q1 : nmW x with
  | false =>
    rw [q1] at e1
    refine due_bad (b := bN x) (by simp [T4.first, q1]) E1 ?_
    unfold d__law_due b__law_due
    simp only [List.length_cons, List.length_nil, Nat.reduceAdd, Nat.reduceEqDiff, if_true, List.map_cons, List.map_nil, Nat.reduceSub, List.replicate, List.cons_append, List.nil_append, R.bind_ok, R.bind_exc, R.bind_bad, R.nox_ok, RS.of_ok, RS.of_exc, List.getElem?_cons_zero, List.getElem?_cons_succ, List.set_cons_zero, List.set_cons_succ, Bool.not_true, Bool.not_false, Bool.false_eq_true, if_false, isNon, gSet, Int.reduceLT, Int.reduceLE, Int.reduceNeg, and_self, Nat.reduceLeDiff, Nat.reduceMul, decide_true, decide_false, Int.reduceEq, eq_self, reduceCtorEq, seq_nx, seq_rt, seq_bad, of_rt, of_nx, trd_rt, trd_nx, r_defn, r_seq, r_try, r_nil, r_expr, r_ret, r_if, r_set, r_asg, r_put, r_attr, r_var, r_c, r_bin, r_un, r_fn, r_fnL, r_call, r_make, made_ok, made_exc, r_eattr, r_ixL, r_new, r_tup, r_disp, r_few, r_eif, r_eand, r_eor, r_enot, r_acons, r_anil, r_astar, r_astarL, r_val, r_tru, r_not, r_and, r_or, r_chain, r_inL, r_m1, r_joinL, r_sl, r_pno, r_pat, v_add, v_sub, v_mod, v_div, v_neg, v_lt, v_le, v_gt, v_ge, v_isN, v_notN, v_intI, v_intB, v_abs, v_strS, v_ixT, v_ixF, v_eqI, v_neI, v_eqS, v_neS, r_lcomp, r_pval, r_pseq, r_plist, r_planT, r_planS, r_tryO, r_tryA, seq_exc, of_exc, tryO_rt, tryO_nx, tryA_rt, tryA_nx, r_raise, r_raise1, r_xattr, r_slS, r_join, r_dget, r_dict0, r_dput, r_mkx, r_app, i0 hL, i1 hL, e1, i1 (E1.get hL), List.cons.injEq, Nat.reduceEqDiff, false_and, and_false]
    rfl
  | true =>
    rw [q1] at e1
    have L1 := E1.get hL
    obtain ⟨m2, e2, E2⟩ := lvalue_ty (ha.ext E1)
    have L2 := E2.get L1
    cases q2 : vlW a with
    | false =>
      rw [q2] at e2
      refine due_bad (b := bV a) (by simp [T4.first, q1, q2]) (E1.trans E2) ?_
      unfold d__law_due b__law_due
      simp only [List.length_cons, List.length_nil, Nat.reduceAdd, Nat.reduceEqDiff, if_true, List.map_cons, List.map_nil, Nat.reduceSub, List.replicate, List.cons_append, List.nil_append, R.bind_ok, R.bind_exc, R.bind_bad, R.nox_ok, RS.of_ok, RS.of_exc, List.getElem?_cons_zero, List.getElem?_cons_succ, List.set_cons_zero, List.set_cons_succ, Bool.not_true, Bool.not_false, Bool.false_eq_true, if_false, isNon, gSet, Int.reduceLT, Int.reduceLE, Int.reduceNeg, and_self, Nat.reduceLeDiff, Nat.reduceMul, decide_true, decide_false, Int.reduceEq, eq_self, reduceCtorEq, seq_nx, seq_rt, seq_bad, of_rt, of_nx, trd_rt, trd_nx, r_defn, r_seq, r_try, r_nil, r_expr, r_ret, r_if, r_set, r_asg, r_put, r_attr, r_var, r_c, r_bin, r_un, r_fn, r_fnL, r_call, r_make, made_ok, made_exc, r_eattr, r_ixL, r_new, r_tup, r_disp, r_few, r_eif, r_eand, r_eor, r_enot, r_acons, r_anil, r_astar, r_astarL, r_val, r_tru, r_not, r_and, r_or, r_chain, r_inL, r_m1, r_joinL, r_sl, r_pno, r_pat, v_add, v_sub, v_mod, v_div, v_neg, v_lt, v_le, v_gt, v_ge, v_isN, v_notN, v_intI, v_intB, v_abs, v_strS, v_ixT, v_ixF, v_eqI, v_neI, v_eqS, v_neS, r_lcomp, r_pval, r_pseq, r_plist, r_planT, r_planS, r_tryO, r_tryA, seq_exc, of_exc, tryO_rt, tryO_nx, tryA_rt, tryA_nx, r_raise, r_raise1, r_xattr, r_slS, r_join, r_dget, r_dict0, r_dput, r_mkx, r_app, i0 hL, i1 hL, e1, i2 L1, e2, i2 L2, List.cons.injEq, Nat.reduceEqDiff, false_and, and_false]
      rfl
    | true =>
      rw [q2] at e2
      have e4 := isi_s (ho.ext (E1.trans E2))
      cases q3 : opW op with
      | false =>
        refine due_bad (b := bO op) (by simp [T4.first, q1, q2, q3]) (E1.trans E2) ?_
        unfold d__law_due b__law_due
        cases qs : isS op with
        | false =>
          rw [qs] at e4
          simp only [List.length_cons, List.length_nil, Nat.reduceAdd, Nat.reduceEqDiff, if_true, List.map_cons, List.map_nil, Nat.reduceSub, List.replicate, List.cons_append, List.nil_append, R.bind_ok, R.bind_exc, R.bind_bad, R.nox_ok, RS.of_ok, RS.of_exc, List.getElem?_cons_zero, List.getElem?_cons_succ, List.set_cons_zero, List.set_cons_succ, Bool.not_true, Bool.not_false, Bool.false_eq_true, if_false, isNon, gSet, Int.reduceLT, Int.reduceLE, Int.reduceNeg, and_self, Nat.reduceLeDiff, Nat.reduceMul, decide_true, decide_false, Int.reduceEq, eq_self, reduceCtorEq, seq_nx, seq_rt, seq_bad, of_rt, of_nx, trd_rt, trd_nx, r_defn, r_seq, r_try, r_nil, r_expr, r_ret, r_if, r_set, r_asg, r_put, r_attr, r_var, r_c, r_bin, r_un, r_fn, r_fnL, r_call, r_make, made_ok, made_exc, r_eattr, r_ixL, r_new, r_tup, r_disp, r_few, r_eif, r_eand, r_eor, r_enot, r_acons, r_anil, r_astar, r_astarL, r_val, r_tru, r_not, r_and, r_or, r_chain, r_inL, r_m1, r_joinL, r_sl, r_pno, r_pat, v_add, v_sub, v_mod, v_div, v_neg, v_lt, v_le, v_gt, v_ge, v_isN, v_notN, v_intI, v_intB, v_abs, v_strS, v_ixT, v_ixF, v_eqI, v_neI, v_eqS, v_neS, r_lcomp, r_pval, r_pseq, r_plist, r_planT, r_planS, r_tryO, r_tryA, seq_exc, of_exc, tryO_rt, tryO_nx, tryA_rt, tryA_nx, r_raise, r_raise1, r_xattr, r_slS, r_join, r_dget, r_dict0, r_dput, r_mkx, r_app, i0 hL, i1 hL, e1, i2 L1, e2, i3 L2, e4, List.cons.injEq, Nat.reduceEqDiff, false_and, and_false]
          rfl
        | true =>
          rw [qs] at e4
          have e5 : ∀ M, inD op [.str [97, 100, 100], .str [115, 117, 98], .str [109, 117, 108]] M = .ok false M := fun M => by
            cases op with
            | str l => rw [inD_ops]; exact congrArg (fun q => R.ok q M) q3
            | _ => cases qs
          simp only [List.length_cons, List.length_nil, Nat.reduceAdd, Nat.reduceEqDiff, if_true, List.map_cons, List.map_nil, Nat.reduceSub, List.replicate, List.cons_append, List.nil_append, R.bind_ok, R.bind_exc, R.bind_bad, R.nox_ok, RS.of_ok, RS.of_exc, List.getElem?_cons_zero, List.getElem?_cons_succ, List.set_cons_zero, List.set_cons_succ, Bool.not_true, Bool.not_false, Bool.false_eq_true, if_false, isNon, gSet, Int.reduceLT, Int.reduceLE, Int.reduceNeg, and_self, Nat.reduceLeDiff, Nat.reduceMul, decide_true, decide_false, Int.reduceEq, eq_self, reduceCtorEq, seq_nx, seq_rt, seq_bad, of_rt, of_nx, trd_rt, trd_nx, r_defn, r_seq, r_try, r_nil, r_expr, r_ret, r_if, r_set, r_asg, r_put, r_attr, r_var, r_c, r_bin, r_un, r_fn, r_fnL, r_call, r_make, made_ok, made_exc, r_eattr, r_ixL, r_new, r_tup, r_disp, r_few, r_eif, r_eand, r_eor, r_enot, r_acons, r_anil, r_astar, r_astarL, r_val, r_tru, r_not, r_and, r_or, r_chain, r_inL, r_m1, r_joinL, r_sl, r_pno, r_pat, v_add, v_sub, v_mod, v_div, v_neg, v_lt, v_le, v_gt, v_ge, v_isN, v_notN, v_intI, v_intB, v_abs, v_strS, v_ixT, v_ixF, v_eqI, v_neI, v_eqS, v_neS, r_lcomp, r_pval, r_pseq, r_plist, r_planT, r_planS, r_tryO, r_tryA, seq_exc, of_exc, tryO_rt, tryO_nx, tryA_rt, tryA_nx, r_raise, r_raise1, r_xattr, r_slS, r_join, r_dget, r_dict0, r_dput, r_mkx, r_app, i0 hL, i1 hL, e1, i2 L1, e2, i3 L2, e4, e5, List.cons.injEq, Nat.reduceEqDiff, false_and, and_false]
          rfl
      | true =>
        have qs : isS op = true := by cases op <;> first | rfl | cases q3
        rw [qs] at e4
        have e5 : ∀ M, inD op [.str [97, 100, 100], .str [115, 117, 98], .str [109, 117, 108]] M = .ok true M := fun M => by
          cases op with
          | str l => rw [inD_ops]; exact congrArg (fun q => R.ok q M) q3
          | _ => cases qs
        obtain ⟨m3, e6, E6⟩ := lvalue_ty (hb.ext (E1.trans E2))
        have L3 := E6.get L2
        cases q4 : vlW b with
        | false =>
          rw [q4] at e6
          refine due_bad (b := bV b) (by simp [T4.first, q1, q2, q3, q4]) ((E1.trans E2).trans E6) ?_
          unfold d__law_due b__law_due
          simp only [List.length_cons, List.length_nil, Nat.reduceAdd, Nat.reduceEqDiff, if_true, List.map_cons, List.map_nil, Nat.reduceSub, List.replicate, List.cons_append, List.nil_append, R.bind_ok, R.bind_exc, R.bind_bad, R.nox_ok, RS.of_ok, RS.of_exc, List.getElem?_cons_zero, List.getElem?_cons_succ, List.set_cons_zero, List.set_cons_succ, Bool.not_true, Bool.not_false, Bool.false_eq_true, if_false, isNon, gSet, Int.reduceLT, Int.reduceLE, Int.reduceNeg, and_self, Nat.reduceLeDiff, Nat.reduceMul, decide_true, decide_false, Int.reduceEq, eq_self, reduceCtorEq, seq_nx, seq_rt, seq_bad, of_rt, of_nx, trd_rt, trd_nx, r_defn, r_seq, r_try, r_nil, r_expr, r_ret, r_if, r_set, r_asg, r_put, r_attr, r_var, r_c, r_bin, r_un, r_fn, r_fnL, r_call, r_make, made_ok, made_exc, r_eattr, r_ixL, r_new, r_tup, r_disp, r_few, r_eif, r_eand, r_eor, r_enot, r_acons, r_anil, r_astar, r_astarL, r_val, r_tru, r_not, r_and, r_or, r_chain, r_inL, r_m1, r_joinL, r_sl, r_pno, r_pat, v_add, v_sub, v_mod, v_div, v_neg, v_lt, v_le, v_gt, v_ge, v_isN, v_notN, v_intI, v_intB, v_abs, v_strS, v_ixT, v_ixF, v_eqI, v_neI, v_eqS, v_neS, r_lcomp, r_pval, r_pseq, r_plist, r_planT, r_planS, r_tryO, r_tryA, seq_exc, of_exc, tryO_rt, tryO_nx, tryA_rt, tryA_nx, r_raise, r_raise1, r_xattr, r_slS, r_join, r_dget, r_dict0, r_dput, r_mkx, r_app, i0 hL, i1 hL, e1, i2 L1, e2, i3 L2, e4, e5, il L2, e6, il L3, List.cons.injEq, Nat.reduceEqDiff, false_and, and_false]
          rfl
        | true =>
          rw [q4] at e6
          have qn : (T4.set x a op b).first = none := by simp [T4.first, q1, q2, q3, q4]
          obtain ⟨s, hs, hg⟩ := none_of h qn
          obtain ⟨n, m', e7, E7, g7⟩ := due_good (fun _ _ _ => .inr trivial) hs hg qn L3 ((E1.trans E2).trans E6) (some (.str [115, 101, 116]))
          refine ⟨n, m', ?_, E7, g7⟩
          rw [due_eq]
          unfold dueH
          simp only [List.length_cons, List.length_nil, Nat.reduceAdd, Nat.reduceEqDiff, if_true, List.map_cons, List.map_nil, Nat.reduceSub, List.replicate, List.cons_append, List.nil_append, R.bind_ok, R.bind_exc, R.bind_bad, R.nox_ok, RS.of_ok, RS.of_exc, List.getElem?_cons_zero, List.getElem?_cons_succ, List.set_cons_zero, List.set_cons_succ, Bool.not_true, Bool.not_false, Bool.false_eq_true, if_false, isNon, gSet, Int.reduceLT, Int.reduceLE, Int.reduceNeg, and_self, Nat.reduceLeDiff, Nat.reduceMul, decide_true, decide_false, Int.reduceEq, eq_self, reduceCtorEq, seq_nx, seq_rt, seq_bad, of_rt, of_nx, trd_rt, trd_nx, r_defn, r_seq, r_try, r_nil, r_expr, r_ret, r_if, r_set, r_asg, r_put, r_attr, r_var, r_c, r_bin, r_un, r_fn, r_fnL, r_call, r_make, made_ok, made_exc, r_eattr, r_ixL, r_new, r_tup, r_disp, r_few, r_eif, r_eand, r_eor, r_enot, r_acons, r_anil, r_astar, r_astarL, r_val, r_tru, r_not, r_and, r_or, r_chain, r_inL, r_m1, r_joinL, r_sl, r_pno, r_pat, v_add, v_sub, v_mod, v_div, v_neg, v_lt, v_le, v_gt, v_ge, v_isN, v_notN, v_intI, v_intB, v_abs, v_strS, v_ixT, v_ixF, v_eqI, v_neI, v_eqS, v_neS, r_lcomp, r_pval, r_pseq, r_plist, r_planT, r_planS, r_tryO, r_tryA, seq_exc, of_exc, tryO_rt, tryO_nx, tryA_rt, tryA_nx, r_raise, r_raise1, r_xattr, r_slS, r_join, r_dget, r_dict0, r_dput, r_mkx, r_app, i0 hL, i1 hL, e1, i2 L1, e2, i3 L2, e4, e5, il L2, e6, e7, List.cons.injEq, Nat.reduceEqDiff, false_and, and_false]
theorem due_copy {x a : W} {m : Mem} {L : Nat} (hL : m[L]? = some (.lst (T4.copy x a).list)) (h : ∀ w ∈ (T4.copy x a).args, Ty m w) : DueRes (T4.copy x a) (d__law_due [.ref L] m) m := by
  have hx := h x (by simp [T4.args])
  have ha := h a (by simp [T4.args])
  have i0 : ∀ {M : Mem}, M[L]? = some (.lst (T4.copy x a).list) → wIx (.ref L) (.int 0) M = .ok (.str [99, 111, 112, 121]) M := fun h => (v_ixR h).trans at0
  have i1 : ∀ {M : Mem}, M[L]? = some (.lst (T4.copy x a).list) → wIx (.ref L) (.int 1) M = .ok x M := fun h => (v_ixR h).trans at1
  have il : ∀ {M : Mem}, M[L]? = some (.lst (T4.copy x a).list) → wIx (.ref L) (.int (-1)) M = .ok a M := fun h => (v_ixR h).trans (v_at rfl)
  obtain ⟨m1, e1, E1⟩ := lname_ty hx
  cases q1 : nmW x with
  | false =>
    rw [q1] at e1
    refine due_bad (b := bN x) (by simp [T4.first, q1]) E1 ?_
    unfold d__law_due b__law_due
    simp only [List.length_cons, List.length_nil, Nat.reduceAdd, Nat.reduceEqDiff, if_true, List.map_cons, List.map_nil, Nat.reduceSub, List.replicate, List.cons_append, List.nil_append, R.bind_ok, R.bind_exc, R.bind_bad, R.nox_ok, RS.of_ok, RS.of_exc, List.getElem?_cons_zero, List.getElem?_cons_succ, List.set_cons_zero, List.set_cons_succ, Bool.not_true, Bool.not_false, Bool.false_eq_true, if_false, isNon, gSet, Int.reduceLT, Int.reduceLE, Int.reduceNeg, and_self, Nat.reduceLeDiff, Nat.reduceMul, decide_true, decide_false, Int.reduceEq, eq_self, reduceCtorEq, seq_nx, seq_rt, seq_bad, of_rt, of_nx, trd_rt, trd_nx, r_defn, r_seq, r_try, r_nil, r_expr, r_ret, r_if, r_set, r_asg, r_put, r_attr, r_var, r_c, r_bin, r_un, r_fn, r_fnL, r_call, r_make, made_ok, made_exc, r_eattr, r_ixL, r_new, r_tup, r_disp, r_few, r_eif, r_eand, r_eor, r_enot, r_acons, r_anil, r_astar, r_astarL, r_val, r_tru, r_not, r_and, r_or, r_chain, r_inL, r_m1, r_joinL, r_sl, r_pno, r_pat, v_add, v_sub, v_mod, v_div, v_neg, v_lt, v_le, v_gt, v_ge, v_isN, v_notN, v_intI, v_intB, v_abs, v_strS, v_ixT, v_ixF, v_eqI, v_neI, v_eqS, v_neS, r_lcomp, r_pval, r_pseq, r_plist, r_planT, r_planS, r_tryO, r_tryA, seq_exc, of_exc, tryO_rt, tryO_nx, tryA_rt, tryA_nx, r_raise, r_raise1, r_xattr, r_slS, r_join, r_dget, r_dict0, r_dput, r_mkx, r_app, i0 hL, i1 hL, e1, i1 (E1.get hL), List.cons.injEq, Nat.reduceEqDiff, false_and, and_false]
    rfl
  | true =>
    rw [q1] at e1
    have L1 := E1.get hL
    obtain ⟨m2, e2, E2⟩ := lvalue_ty (ha.ext E1)
    have L2 := E2.get L1
    cases q2 : vlW a with
    | false =>
      rw [q2] at e2
      refine due_bad (b := bV a) (by simp [T4.first, q1, q2]) (E1.trans E2) ?_
      unfold d__law_due b__law_due
      simp only [List.length_cons, List.length_nil, Nat.reduceAdd, Nat.reduceEqDiff, if_true, List.map_cons, List.map_nil, Nat.reduceSub, List.replicate, List.cons_append, List.nil_append, R.bind_ok, R.bind_exc, R.bind_bad, R.nox_ok, RS.of_ok, RS.of_exc, List.getElem?_cons_zero, List.getElem?_cons_succ, List.set_cons_zero, List.set_cons_succ, Bool.not_true, Bool.not_false, Bool.false_eq_true, if_false, isNon, gSet, Int.reduceLT, Int.reduceLE, Int.reduceNeg, and_self, Nat.reduceLeDiff, Nat.reduceMul, decide_true, decide_false, Int.reduceEq, eq_self, reduceCtorEq, seq_nx, seq_rt, seq_bad, of_rt, of_nx, trd_rt, trd_nx, r_defn, r_seq, r_try, r_nil, r_expr, r_ret, r_if, r_set, r_asg, r_put, r_attr, r_var, r_c, r_bin, r_un, r_fn, r_fnL, r_call, r_make, made_ok, made_exc, r_eattr, r_ixL, r_new, r_tup, r_disp, r_few, r_eif, r_eand, r_eor, r_enot, r_acons, r_anil, r_astar, r_astarL, r_val, r_tru, r_not, r_and, r_or, r_chain, r_inL, r_m1, r_joinL, r_sl, r_pno, r_pat, v_add, v_sub, v_mod, v_div, v_neg, v_lt, v_le, v_gt, v_ge, v_isN, v_notN, v_intI, v_intB, v_abs, v_strS, v_ixT, v_ixF, v_eqI, v_neI, v_eqS, v_neS, r_lcomp, r_pval, r_pseq, r_plist, r_planT, r_planS, r_tryO, r_tryA, seq_exc, of_exc, tryO_rt, tryO_nx, tryA_rt, tryA_nx, r_raise, r_raise1, r_xattr, r_slS, r_join, r_dget, r_dict0, r_dput, r_mkx, r_app, i0 hL, i1 hL, e1, il L1, e2, il L2, List.cons.injEq, Nat.reduceEqDiff, false_and, and_false]
      rfl
    | true =>
      rw [q2] at e2
      have qn : (T4.copy x a).first = none := by simp [T4.first, q1, q2]
      obtain ⟨s, hs, hg⟩ := none_of h qn
      obtain ⟨n, m', e7, E7, g7⟩ := due_good (fun _ _ _ => .inr trivial) hs hg qn L2 (E1.trans E2) (some (.str [99, 111, 112, 121]))
      refine ⟨n, m', ?_, E7, g7⟩
      rw [due_eq]
      unfold dueH
      simp only [List.length_cons, List.length_nil, Nat.reduceAdd, Nat.reduceEqDiff, if_true, List.map_cons, List.map_nil, Nat.reduceSub, List.replicate, List.cons_append, List.nil_append, R.bind_ok, R.bind_exc, R.bind_bad, R.nox_ok, RS.of_ok, RS.of_exc, List.getElem?_cons_zero, List.getElem?_cons_succ, List.set_cons_zero, List.set_cons_succ, Bool.not_true, Bool.not_false, Bool.false_eq_true, if_false, isNon, gSet, Int.reduceLT, Int.reduceLE, Int.reduceNeg, and_self, Nat.reduceLeDiff, Nat.reduceMul, decide_true, decide_false, Int.reduceEq, eq_self, reduceCtorEq, seq_nx, seq_rt, seq_bad, of_rt, of_nx, trd_rt, trd_nx, r_defn, r_seq, r_try, r_nil, r_expr, r_ret, r_if, r_set, r_asg, r_put, r_attr, r_var, r_c, r_bin, r_un, r_fn, r_fnL, r_call, r_make, made_ok, made_exc, r_eattr, r_ixL, r_new, r_tup, r_disp, r_few, r_eif, r_eand, r_eor, r_enot, r_acons, r_anil, r_astar, r_astarL, r_val, r_tru, r_not, r_and, r_or, r_chain, r_inL, r_m1, r_joinL, r_sl, r_pno, r_pat, v_add, v_sub, v_mod, v_div, v_neg, v_lt, v_le, v_gt, v_ge, v_isN, v_notN, v_intI, v_intB, v_abs, v_strS, v_ixT, v_ixF, v_eqI, v_neI, v_eqS, v_neS, r_lcomp, r_pval, r_pseq, r_plist, r_planT, r_planS, r_tryO, r_tryA, seq_exc, of_exc, tryO_rt, tryO_nx, tryA_rt, tryA_nx, r_raise, r_raise1, r_xattr, r_slS, r_join, r_dget, r_dict0, r_dput, r_mkx, r_app, i0 hL, i1 hL, e1, il L1, e2, e7, List.cons.injEq, Nat.reduceEqDiff, false_and, and_false]
theorem due_read {x : W} {m : Mem} {L : Nat} (hL : m[L]? = some (.lst (T4.read x).list)) (h : ∀ w ∈ (T4.read x).args, Ty m w) : DueRes (T4.read x) (d__law_due [.ref L] m) m := by
  have hx := h x (by simp [T4.args])
  have i0 : ∀ {M : Mem}, M[L]? = some (.lst (T4.read x).list) → wIx (.ref L) (.int 0) M = .ok (.str [114, 101, 97, 100]) M := fun h => (v_ixR h).trans at0
  have i1 : ∀ {M : Mem}, M[L]? = some (.lst (T4.read x).list) → wIx (.ref L) (.int 1) M = .ok x M := fun h => (v_ixR h).trans at1
  obtain ⟨m1, e1, E1⟩ := lname_ty hx
  cases q1 : nmW x with
  | false =>
    rw [q1] at e1
    refine due_bad (b := bN x) (by simp [T4.first, q1]) E1 ?_
    unfold d__law_due b__law_due
    simp only [List.length_cons, List.length_nil, Nat.reduceAdd, Nat.reduceEqDiff, if_true, List.map_cons, List.map_nil, Nat.reduceSub, List.replicate, List.cons_append, List.nil_append, R.bind_ok, R.bind_exc, R.bind_bad, R.nox_ok, RS.of_ok, RS.of_exc, List.getElem?_cons_zero, List.getElem?_cons_succ, List.set_cons_zero, List.set_cons_succ, Bool.not_true, Bool.not_false, Bool.false_eq_true, if_false, isNon, gSet, Int.reduceLT, Int.reduceLE, Int.reduceNeg, and_self, Nat.reduceLeDiff, Nat.reduceMul, decide_true, decide_false, Int.reduceEq, eq_self, reduceCtorEq, seq_nx, seq_rt, seq_bad, of_rt, of_nx, trd_rt, trd_nx, r_defn, r_seq, r_try, r_nil, r_expr, r_ret, r_if, r_set, r_asg, r_put, r_attr, r_var, r_c, r_bin, r_un, r_fn, r_fnL, r_call, r_make, made_ok, made_exc, r_eattr, r_ixL, r_new, r_tup, r_disp, r_few, r_eif, r_eand, r_eor, r_enot, r_acons, r_anil, r_astar, r_astarL, r_val, r_tru, r_not, r_and, r_or, r_chain, r_inL, r_m1, r_joinL, r_sl, r_pno, r_pat, v_add, v_sub, v_mod, v_div, v_neg, v_lt, v_le, v_gt, v_ge, v_isN, v_notN, v_intI, v_intB, v_abs, v_strS, v_ixT, v_ixF, v_eqI, v_neI, v_eqS, v_neS, r_lcomp, r_pval, r_pseq, r_plist, r_planT, r_planS, r_tryO, r_tryA, seq_exc, of_exc, tryO_rt, tryO_nx, tryA_rt, tryA_nx, r_raise, r_raise1, r_xattr, r_slS, r_join, r_dget, r_dict0, r_dput, r_mkx, r_app, i0 hL, i1 hL, e1, i1 (E1.get hL), List.cons.injEq, Nat.reduceEqDiff, false_and, and_false]
    rfl
  | true =>
    rw [q1] at e1
    have L1 := E1.get hL
    have qn : (T4.read x).first = none := by simp [T4.first, q1]
    obtain ⟨s, hs, hg⟩ := none_of h qn
    obtain ⟨n, m', e7, E7, g7⟩ := due_good (fun _ _ _ => .inr trivial) hs hg qn L1 E1 (some (.str [114, 101, 97, 100]))
    refine ⟨n, m', ?_, E7, g7⟩
    rw [due_eq]
    unfold dueH
    simp only [List.length_cons, List.length_nil, Nat.reduceAdd, Nat.reduceEqDiff, if_true, List.map_cons, List.map_nil, Nat.reduceSub, List.replicate, List.cons_append, List.nil_append, R.bind_ok, R.bind_exc, R.bind_bad, R.nox_ok, RS.of_ok, RS.of_exc, List.getElem?_cons_zero, List.getElem?_cons_succ, List.set_cons_zero, List.set_cons_succ, Bool.not_true, Bool.not_false, Bool.false_eq_true, if_false, isNon, gSet, Int.reduceLT, Int.reduceLE, Int.reduceNeg, and_self, Nat.reduceLeDiff, Nat.reduceMul, decide_true, decide_false, Int.reduceEq, eq_self, reduceCtorEq, seq_nx, seq_rt, seq_bad, of_rt, of_nx, trd_rt, trd_nx, r_defn, r_seq, r_try, r_nil, r_expr, r_ret, r_if, r_set, r_asg, r_put, r_attr, r_var, r_c, r_bin, r_un, r_fn, r_fnL, r_call, r_make, made_ok, made_exc, r_eattr, r_ixL, r_new, r_tup, r_disp, r_few, r_eif, r_eand, r_eor, r_enot, r_acons, r_anil, r_astar, r_astarL, r_val, r_tru, r_not, r_and, r_or, r_chain, r_inL, r_m1, r_joinL, r_sl, r_pno, r_pat, v_add, v_sub, v_mod, v_div, v_neg, v_lt, v_le, v_gt, v_ge, v_isN, v_notN, v_intI, v_intB, v_abs, v_strS, v_ixT, v_ixF, v_eqI, v_neI, v_eqS, v_neS, r_lcomp, r_pval, r_pseq, r_plist, r_planT, r_planS, r_tryO, r_tryA, seq_exc, of_exc, tryO_rt, tryO_nx, tryA_rt, tryA_nx, r_raise, r_raise1, r_xattr, r_slS, r_join, r_dget, r_dict0, r_dput, r_mkx, r_app, i0 hL, i1 hL, e1, e7, List.cons.injEq, Nat.reduceEqDiff, false_and, and_false]
theorem due_write {a : W} {m : Mem} {L : Nat} (hL : m[L]? = some (.lst (T4.write a).list)) (h : ∀ w ∈ (T4.write a).args, Ty m w) : DueRes (T4.write a) (d__law_due [.ref L] m) m := by
  have ha := h a (by simp [T4.args])
  have i0 : ∀ {M : Mem}, M[L]? = some (.lst (T4.write a).list) → wIx (.ref L) (.int 0) M = .ok (.str [119, 114, 105, 116, 101]) M := fun h => (v_ixR h).trans at0
  have il : ∀ {M : Mem}, M[L]? = some (.lst (T4.write a).list) → wIx (.ref L) (.int (-1)) M = .ok a M := fun h => (v_ixR h).trans (v_at rfl)
  obtain ⟨m2, e2, E2⟩ := lvalue_ty ha
  have L2 := E2.get hL
  cases q2 : vlW a with
  | false =>
    rw [q2] at e2
    refine due_bad (b := bV a) (by simp [T4.first, q2]) E2 ?_
    unfold d__law_due b__law_due
    simp only [List.length_cons, List.length_nil, Nat.reduceAdd, Nat.reduceEqDiff, if_true, List.map_cons, List.map_nil, Nat.reduceSub, List.replicate, List.cons_append, List.nil_append, R.bind_ok, R.bind_exc, R.bind_bad, R.nox_ok, RS.of_ok, RS.of_exc, List.getElem?_cons_zero, List.getElem?_cons_succ, List.set_cons_zero, List.set_cons_succ, Bool.not_true, Bool.not_false, Bool.false_eq_true, if_false, isNon, gSet, Int.reduceLT, Int.reduceLE, Int.reduceNeg, and_self, Nat.reduceLeDiff, Nat.reduceMul, decide_true, decide_false, Int.reduceEq, eq_self, reduceCtorEq, seq_nx, seq_rt, seq_bad, of_rt, of_nx, trd_rt, trd_nx, r_defn, r_seq, r_try, r_nil, r_expr, r_ret, r_if, r_set, r_asg, r_put, r_attr, r_var, r_c, r_bin, r_un, r_fn, r_fnL, r_call, r_make, made_ok, made_exc, r_eattr, r_ixL, r_new, r_tup, r_disp, r_few, r_eif, r_eand, r_eor, r_enot, r_acons, r_anil, r_astar, r_astarL, r_val, r_tru, r_not, r_and, r_or, r_chain, r_inL, r_m1, r_joinL, r_sl, r_pno, r_pat, v_add, v_sub, v_mod, v_div, v_neg, v_lt, v_le, v_gt, v_ge, v_isN, v_notN, v_intI, v_intB, v_abs, v_strS, v_ixT, v_ixF, v_eqI, v_neI, v_eqS, v_neS, r_lcomp, r_pval, r_pseq, r_plist, r_planT, r_planS, r_tryO, r_tryA, seq_exc, of_exc, tryO_rt, tryO_nx, tryA_rt, tryA_nx, r_raise, r_raise1, r_xattr, r_slS, r_join, r_dget, r_dict0, r_dput, r_mkx, r_app, i0 hL, il hL, e2, il L2, List.cons.injEq, Nat.reduceEqDiff, false_and, and_false]
    rfl
  | true =>
    rw [q2] at e2
    have qn : (T4.write a).first = none := by simp [T4.first, q2]
    obtain ⟨s, hs, hg⟩ := none_of h qn
    obtain ⟨n, m', e7, E7, g7⟩ := due_good (fun _ _ _ => .inr trivial) hs hg qn L2 E2 (some (.str [119, 114, 105, 116, 101]))
    refine ⟨n, m', ?_, E7, g7⟩
    rw [due_eq]
    unfold dueH
    simp only [List.length_cons, List.length_nil, Nat.reduceAdd, Nat.reduceEqDiff, if_true, List.map_cons, List.map_nil, Nat.reduceSub, List.replicate, List.cons_append, List.nil_append, R.bind_ok, R.bind_exc, R.bind_bad, R.nox_ok, RS.of_ok, RS.of_exc, List.getElem?_cons_zero, List.getElem?_cons_succ, List.set_cons_zero, List.set_cons_succ, Bool.not_true, Bool.not_false, Bool.false_eq_true, if_false, isNon, gSet, Int.reduceLT, Int.reduceLE, Int.reduceNeg, and_self, Nat.reduceLeDiff, Nat.reduceMul, decide_true, decide_false, Int.reduceEq, eq_self, reduceCtorEq, seq_nx, seq_rt, seq_bad, of_rt, of_nx, trd_rt, trd_nx, r_defn, r_seq, r_try, r_nil, r_expr, r_ret, r_if, r_set, r_asg, r_put, r_attr, r_var, r_c, r_bin, r_un, r_fn, r_fnL, r_call, r_make, made_ok, made_exc, r_eattr, r_ixL, r_new, r_tup, r_disp, r_few, r_eif, r_eand, r_eor, r_enot, r_acons, r_anil, r_astar, r_astarL, r_val, r_tru, r_not, r_and, r_or, r_chain, r_inL, r_m1, r_joinL, r_sl, r_pno, r_pat, v_add, v_sub, v_mod, v_div, v_neg, v_lt, v_le, v_gt, v_ge, v_isN, v_notN, v_intI, v_intB, v_abs, v_strS, v_ixT, v_ixF, v_eqI, v_neI, v_eqS, v_neS, r_lcomp, r_pval, r_pseq, r_plist, r_planT, r_planS, r_tryO, r_tryA, seq_exc, of_exc, tryO_rt, tryO_nx, tryA_rt, tryA_nx, r_raise, r_raise1, r_xattr, r_slS, r_join, r_dget, r_dict0, r_dput, r_mkx, r_app, i0 hL, il hL, e2, e7, List.cons.injEq, Nat.reduceEqDiff, false_and, and_false]
theorem due_ty {t : T4} {m : Mem} {L : Nat} (hL : m[L]? = some (.lst t.list)) (h : ∀ w ∈ t.args, Ty m w) : DueRes t (d__law_due [.ref L] m) m := by
  cases t with
  | set x a op b => exact due_set hL h
  | copy x a => exact due_copy hL h
  | read x => exact due_read hL h
  | write a => exact due_write hL h
end K02

namespace K02
open PySem Sh
/-! ### repr of lists of small things -/
theorem app_len (a b : Str) : (a ++ b).length = a.length + b.length := by
  show (a.cps ++ b.cps).size = _
  rw [Array.size_append]; rfl
theorem from_le : ∀ (ts : List Str) (k : Nat) (acc : Str) (B : Nat), (∀ t ∈ ts, t.length ≤ B) → (PySem.textFrom k acc ts).length ≤ acc.length + ts.length * (B + 2)
  | [], k, acc, B, h => by show acc.length ≤ _; omega
  | t :: ts, k, acc, B, h => by
    have ih := from_le ts (k + 1) (acc ++ (if k > 0 then ", " else "" : String) ++ t) B fun x hx => h x (List.mem_cons_of_mem _ hx)
    have ht := h t List.mem_cons_self
    have e : (acc ++ (if k > 0 then ", " else "" : String) ++ t).length = acc.length + (if k > 0 then 2 else 0) + t.length := by
      rw [app_len, app_len]
      split <;> rfl
    show (PySem.textFrom (k + 1) _ ts).length ≤ _
    rw [e] at ih
    have hk : (if k > 0 then 2 else 0 : Nat) ≤ 2 := by split <;> omega
    simp only [List.length_cons, Nat.add_mul, Nat.one_mul]
    omega
structure Small (d : PyData) : Prop where
  show_ : d.showable = true
  dep : d.depth ≤ 5
  len : d.shown.length ≤ 11000
theorem small_all : ∀ {ds : List PyData}, (∀ d ∈ ds, Small d) → PyData.showableAll ds = true ∧ PyData.depthAll ds ≤ 5 ∧ (∀ t ∈ PyData.shownAll ds, t.length ≤ 11000) ∧ (PyData.shownAll ds).length = ds.length
  | [], _ => ⟨rfl, by simp [PyData.depthAll], fun _ h => (by cases h), rfl⟩
  | d :: ds, h => by
    obtain ⟨h1, h2, h3, h4⟩ := small_all fun x hx => h x (List.mem_cons_of_mem _ hx)
    have hd := h d List.mem_cons_self
    have d1 := hd.show_
    have d2 := hd.dep
    refine ⟨by simp [PyData.showableAll, d1, h1], by simp [PyData.depthAll]; omega, fun t ht => ?_, by simp [PyData.shownAll, h4]⟩
    simp only [PyData.shownAll, List.mem_cons] at ht
    rcases ht with rfl | ht
    · exact hd.len
    · exact h3 t ht
theorem repr_small {n : Nat} {ws : List W} {ds : List PyData} {m : Mem} (h : m[n]? = some (.lst ws)) (hd : datsX m 29 ws = some ds) (hs : ∀ d ∈ ds, Small d) (hl : ds.length ≤ 20) : bRepr [.ref n] m = .ok (.str (PyData.list ds).shown.cps.toList) m := by
  have e : datX m 30 (.ref n) = some (.list ds) := by simp only [datX, h, hd, Option.map_some]
  show (match datX m 30 (.ref n) with | some d => reprD d m | none => .bad) = _
  rw [e]
  show reprD (.list ds) m = _
  obtain ⟨h1, h2, h3, h4⟩ := small_all hs
  unfold reprD
  rw [if_pos]
  refine ⟨by simpa [PyData.showable] using h1, by simp [PyData.depth]; omega, ?_⟩
  show (PySem.textFrom 0 "[" (PyData.shownAll ds) ++ "]" : Str).length ≤ _
  have h5 := from_le (PyData.shownAll ds) 0 "[" 11000 h3
  have h6 : (Str.ofString "[").length = 1 := rfl
  have h7 : (Str.ofString "]").length = 1 := rfl
  rw [app_len]
  have h8 : ("[" : Str).length = 1 := rfl
  have h9 : ("]" : Str).length = 1 := rfl
  rw [h4] at h5
  have : ds.length * (11000 + 2) ≤ 20 * (11000 + 2) := Nat.mul_le_mul_right _ hl
  omega
theorem alike_small {a b : Nat} {ws vs : List W} {ds : List PyData} {m : Mem} (h1 : m[a]? = some (.lst ws)) (h2 : m[b]? = some (.lst vs)) (hd1 : datsX m 29 ws = some ds) (hd2 : datsX m 29 vs = some ds) (hs : ∀ d ∈ ds, Small d) (hl : ds.length ≤ 20) : d__law_alike [.ref a, .ref b] m = .ok (.bl true) m := by
  unfold d__law_alike b__law_alike
  simp only [List.length_cons, List.length_nil, Nat.reduceAdd, Nat.reduceEqDiff, if_true, List.map_cons, List.map_nil, Nat.reduceSub, List.replicate, List.cons_append, List.nil_append, R.bind_ok, R.bind_exc, R.bind_bad, R.nox_ok, RS.of_ok, RS.of_exc, List.getElem?_cons_zero, List.getElem?_cons_succ, List.set_cons_zero, List.set_cons_succ, Bool.not_true, Bool.not_false, Bool.false_eq_true, if_false, isNon, gSet, Int.reduceLT, Int.reduceLE, Int.reduceNeg, and_self, Nat.reduceLeDiff, Nat.reduceMul, decide_true, decide_false, Int.reduceEq, eq_self, reduceCtorEq, seq_nx, seq_rt, seq_bad, of_rt, of_nx, trd_rt, trd_nx, r_defn, r_seq, r_try, r_nil, r_expr, r_ret, r_if, r_set, r_asg, r_put, r_attr, r_var, r_c, r_bin, r_un, r_fn, r_fnL, r_call, r_make, made_ok, made_exc, r_eattr, r_ixL, r_new, r_tup, r_disp, r_few, r_eif, r_eand, r_eor, r_enot, r_acons, r_anil, r_astar, r_astarL, r_val, r_tru, r_not, r_and, r_or, r_chain, r_inL, r_m1, r_joinL, r_sl, r_pno, r_pat, v_add, v_sub, v_mod, v_div, v_neg, v_lt, v_le, v_gt, v_ge, v_isN, v_notN, v_intI, v_intB, v_abs, v_strS, v_len, v_ixT, v_ixF, v_eqI, v_neI, v_eqS, v_neS, r_lcomp, r_pval, r_pseq, r_plist, r_planT, r_planS, r_tryO, r_tryA, seq_exc, of_exc, tryO_rt, tryO_nx, tryA_rt, tryA_nx, r_raise, r_raise1, r_xattr, r_slS, r_join, r_dget, r_dict0, r_dput, r_mkx, r_app, repr_small h1 hd1 hs hl, repr_small h2 hd2 hs hl]
theorem small_str {l : List Nat} (h : Good l) : Small (.str (Sh.S l)) := by
  refine ⟨rfl, by simp [PyData.depth], ?_⟩
  have h2 := PySem.StrLaws.reprText_len (Sh.S l) (fun c hc => by
    have := h.2 c (by simpa using hc)
    exact Nat.lt_of_lt_of_le this (by decide))
  have e : (Sh.S l).length = l.length := S_len l
  show (PySem.reprText (Sh.S l)).length ≤ _
  have := h.1
  omega
theorem small_int {i : Int} (h : -1000000 ≤ i ∧ i ≤ 1000000) : Small (.int i) := by
  have e20 : (2:Nat) ^ 20 = 1048576 := by decide
  have h1 : i.natAbs < 2 ^ 20 := by omega
  have h2 : i.natAbs.log2 < 1920 := Nat.lt_of_lt_of_le (PySem.Flt.log2_lt_of (by decide) h1) (by decide)
  refine ⟨by simp [PyData.showable, h2], by simp [PyData.depth], ?_⟩
  have h3 : (dec i).length ≤ 8 := by
    by_cases e1 : i = 1000000
    · subst e1; decide
    · by_cases e2 : i = -1000000
      · subst e2; decide
      · exact dec_len (by omega)
  show (Str.ofString (toString i)).length ≤ _
  have : (Str.ofString (toString i)).length = (dec i).length := by unfold dec; simp [Str.length]
  omega
theorem small_none : Small .none := ⟨rfl, by simp [PyData.depth], by decide⟩
theorem small_bool (b : Bool) : Small (.bool b) := ⟨rfl, by simp [PyData.depth], by cases b <;> decide⟩
theorem lenR {n : Nat} {ws : List W} {m : Mem} (h : m[n]? = some (.lst ws)) : bLen [.ref n] m = .ok (.int (ws.length : Int)) m := by
  have e : lenW (.ref n) m = some ws.length := by unfold lenW; simp only [h]
  show (match lenW (.ref n) m with | some n => R.ok (W.int (n : Int)) m | none => .bad) = _
  rw [e]
def mark : List Nat := [109, 97, 114, 107]
theorem held_flat {wd : List Nat} {a b : Nat} {w : W} {ds : List PyData} {M : Mem} (ha : M[a]? = some (.lst [.str wd, w])) (hb : M[b]? = some (.lst [.str wd, w])) (hd : datsX M 29 [.str wd, w] = some ds) (hs : ∀ d ∈ ds, Small d) (hl : ds.length ≤ 20)
    (h1 : bIsi isiT [w, .ty "list"] M = .ok (.bl false) M) (h2 : bIsi isiT [w, .ty "dict"] M = .ok (.bl false) M) : d__law_held [.ref a, .ref b] M = .ok (.bl true) M := by
  have e1 := alike_small ha hb hd hd hs hl
  have i1 : wIx (.ref b) (.int 1) M = .ok w M := (v_ixR hb).trans at1
  have l1 : bLen [.ref b] M = .ok (.int 2) M := lenR hb
  unfold d__law_held b__law_held
  simp only [List.length_cons, List.length_nil, Nat.reduceAdd, Nat.reduceEqDiff, if_true, List.map_cons, List.map_nil, Nat.reduceSub, List.replicate, List.cons_append, List.nil_append, R.bind_ok, R.bind_exc, R.bind_bad, R.nox_ok, RS.of_ok, RS.of_exc, List.getElem?_cons_zero, List.getElem?_cons_succ, List.set_cons_zero, List.set_cons_succ, Bool.not_true, Bool.not_false, Bool.false_eq_true, if_false, isNon, gSet, Int.reduceLT, Int.reduceLE, Int.reduceNeg, and_self, Nat.reduceLeDiff, Nat.reduceMul, decide_true, decide_false, Int.reduceEq, eq_self, reduceCtorEq, seq_nx, seq_rt, seq_bad, of_rt, of_nx, trd_rt, trd_nx, r_defn, r_seq, r_try, r_nil, r_expr, r_ret, r_if, r_set, r_asg, r_put, r_attr, r_var, r_c, r_bin, r_un, r_fn, r_fnL, r_call, r_make, made_ok, made_exc, r_eattr, r_ixL, r_new, r_tup, r_disp, r_few, r_eif, r_eand, r_eor, r_enot, r_acons, r_anil, r_astar, r_astarL, r_val, r_tru, r_not, r_and, r_or, r_chain, r_inL, r_m1, r_joinL, r_sl, r_pno, r_pat, v_add, v_sub, v_mod, v_div, v_neg, v_lt, v_le, v_gt, v_ge, v_isN, v_notN, v_intI, v_intB, v_abs, v_strS, v_ixT, v_ixF, v_eqI, v_neI, v_eqS, v_neS, r_lcomp, r_pval, r_pseq, r_plist, r_planT, r_planS, r_tryO, r_tryA, seq_exc, of_exc, tryO_rt, tryO_nx, tryA_rt, tryA_nx, r_raise, r_raise1, r_xattr, r_slS, r_join, r_dget, r_dict0, r_dput, r_mkx, r_app, e1, i1, l1, h1, h2]
theorem held_list {wd : List Nat} {a b o : Nat} {ws : List W} {ds ds' : List PyData} {M : Mem} (ha : M[a]? = some (.lst [.str wd, .ref o])) (hb : M[b]? = some (.lst [.str wd, .ref o])) (ho : M[o]? = some (.lst ws)) (hoa : o ≠ a) (hob : o ≠ b) (hn : ws.length ≤ 10)
    (hd : datsX M 29 [.str wd, .ref o] = some ds) (hs : ∀ d ∈ ds, Small d) (hl : ds.length ≤ 20) (hd' : datsX (M.set o (.lst (ws ++ [.str mark]))) 29 [.str wd, .ref o] = some ds') (hs' : ∀ d ∈ ds', Small d) (hl' : ds'.length ≤ 20) : d__law_held [.ref a, .ref b] M = .ok (.bl true) (M.set o (.lst (ws ++ [.str mark]))) := by
  have e1 := alike_small ha hb hd hd hs hl
  have i1 : ∀ {M : Mem}, M[b]? = some (.lst [.str wd, .ref o]) → wIx (.ref b) (.int 1) M = .ok (.ref o) M := fun h => (v_ixR h).trans at1
  have l1 : ∀ {M : Mem}, M[b]? = some (.lst [.str wd, .ref o]) → bLen [.ref b] M = .ok (.int 2) M := fun h => lenR h
  have ha' : (M.set o (.lst (ws ++ [.str mark])))[a]? = some (.lst [.str wd, .ref o]) := (List.getElem?_set_ne hoa).trans ha
  have hb' : (M.set o (.lst (ws ++ [.str mark])))[b]? = some (.lst [.str wd, .ref o]) := (List.getElem?_set_ne hob).trans hb
  have ho' : (M.set o (.lst (ws ++ [.str mark])))[o]? = some (.lst (ws ++ [.str mark])) := List.getElem?_set_self (List.getElem?_eq_some_iff.mp ho).1
  have e2 := alike_small ha' hb' hd' hd' hs' hl'
  have t1 : bIsi isiT [.ref o, .ty "list"] M = .ok (.bl true) M := by
    unfold bIsi isi1 tyc
    simp only [ho]
    rfl
  have t2 : bIsi isiT [.ref o, .ty "dict"] (M.set o (.lst (ws ++ [.str mark]))) = .ok (.bl false) (M.set o (.lst (ws ++ [.str mark]))) := by
    unfold bIsi isi1 tyc
    simp only [ho']
    rfl
  have il : isLst M (.ref o) = true := by
    unfold isLst
    simp only [ho]
  have wa : wApp (.ref o) (.str [109, 97, 114, 107]) M = .ok .non (M.set o (.lst (ws ++ [.str mark]))) := by
    unfold wApp
    simp only [ho]
    exact if_pos (by omega)
  unfold d__law_held b__law_held
  simp only [List.length_cons, List.length_nil, Nat.reduceAdd, Nat.reduceEqDiff, if_true, List.map_cons, List.map_nil, Nat.reduceSub, List.replicate, List.cons_append, List.nil_append, R.bind_ok, R.bind_exc, R.bind_bad, R.nox_ok, RS.of_ok, RS.of_exc, List.getElem?_cons_zero, List.getElem?_cons_succ, List.set_cons_zero, List.set_cons_succ, Bool.not_true, Bool.not_false, Bool.false_eq_true, if_false, isNon, gSet, Int.reduceLT, Int.reduceLE, Int.reduceNeg, and_self, Nat.reduceLeDiff, Nat.reduceMul, decide_true, decide_false, Int.reduceEq, eq_self, reduceCtorEq, seq_nx, seq_rt, seq_bad, of_rt, of_nx, trd_rt, trd_nx, r_defn, r_seq, r_try, r_nil, r_expr, r_ret, r_if, r_set, r_asg, r_put, r_attr, r_var, r_c, r_bin, r_un, r_fn, r_fnL, r_call, r_make, made_ok, made_exc, r_eattr, r_ixL, r_new, r_tup, r_disp, r_few, r_eif, r_eand, r_eor, r_enot, r_acons, r_anil, r_astar, r_astarL, r_val, r_tru, r_not, r_and, r_or, r_chain, r_inL, r_m1, r_joinL, r_sl, r_pno, r_pat, v_add, v_sub, v_mod, v_div, v_neg, v_lt, v_le, v_gt, v_ge, v_isN, v_notN, v_intI, v_intB, v_abs, v_strS, v_ixT, v_ixF, v_eqI, v_neI, v_eqS, v_neS, r_lcomp, r_pval, r_pseq, r_plist, r_planT, r_planS, r_tryO, r_tryA, seq_exc, of_exc, tryO_rt, tryO_nx, tryA_rt, tryA_nx, r_raise, r_raise1, r_xattr, r_slS, r_join, r_dget, r_dict0, r_dput, r_mkx, r_app, e1, i1 hb, l1 hb, t1, il, wa, i1 hb', l1 hb', t2, e2]
theorem held_dict {wd : List Nat} {a b o : Nat} {ds ds' : List PyData} {M : Mem} (ha : M[a]? = some (.lst [.str wd, .ref o])) (hb : M[b]? = some (.lst [.str wd, .ref o])) (ho : M[o]? = some (.dK [])) (hoa : o ≠ a) (hob : o ≠ b)
    (hd : datsX M 29 [.str wd, .ref o] = some ds) (hs : ∀ d ∈ ds, Small d) (hl : ds.length ≤ 20) (hd' : datsX (M.set o (.dK [(.inr (Sh.S mark), .int 0)])) 29 [.str wd, .ref o] = some ds') (hs' : ∀ d ∈ ds', Small d) (hl' : ds'.length ≤ 20) : d__law_held [.ref a, .ref b] M = .ok (.bl true) (M.set o (.dK [(.inr (Sh.S mark), .int 0)])) := by
  have e1 := alike_small ha hb hd hd hs hl
  have i1 : ∀ {M : Mem}, M[b]? = some (.lst [.str wd, .ref o]) → wIx (.ref b) (.int 1) M = .ok (.ref o) M := fun h => (v_ixR h).trans at1
  have l1 : ∀ {M : Mem}, M[b]? = some (.lst [.str wd, .ref o]) → bLen [.ref b] M = .ok (.int 2) M := fun h => lenR h
  have ha' : (M.set o (.dK [(.inr (Sh.S mark), .int 0)]))[a]? = some (.lst [.str wd, .ref o]) := (List.getElem?_set_ne hoa).trans ha
  have hb' : (M.set o (.dK [(.inr (Sh.S mark), .int 0)]))[b]? = some (.lst [.str wd, .ref o]) := (List.getElem?_set_ne hob).trans hb
  have e2 := alike_small ha' hb' hd' hd' hs' hl'
  have t1 : bIsi isiT [.ref o, .ty "list"] M = .ok (.bl false) M := by
    unfold bIsi isi1 tyc
    simp only [ho]
    rfl
  have t2 : bIsi isiT [.ref o, .ty "dict"] M = .ok (.bl true) M := by
    unfold bIsi isi1 tyc
    simp only [ho]
    rfl
  have wa : dPutM (.ref o) (.str [109, 97, 114, 107]) (.int 0) M = some (M.set o (.dK [(.inr (Sh.S mark), .int 0)])) := by
    unfold dPutM
    simp only [ho, keyW]
    rfl
  unfold d__law_held b__law_held
  simp only [List.length_cons, List.length_nil, Nat.reduceAdd, Nat.reduceEqDiff, if_true, List.map_cons, List.map_nil, Nat.reduceSub, List.replicate, List.cons_append, List.nil_append, R.bind_ok, R.bind_exc, R.bind_bad, R.nox_ok, RS.of_ok, RS.of_exc, List.getElem?_cons_zero, List.getElem?_cons_succ, List.set_cons_zero, List.set_cons_succ, Bool.not_true, Bool.not_false, Bool.false_eq_true, if_false, isNon, gSet, Int.reduceLT, Int.reduceLE, Int.reduceNeg, and_self, Nat.reduceLeDiff, Nat.reduceMul, decide_true, decide_false, Int.reduceEq, eq_self, reduceCtorEq, seq_nx, seq_rt, seq_bad, of_rt, of_nx, trd_rt, trd_nx, r_defn, r_seq, r_try, r_nil, r_expr, r_ret, r_if, r_set, r_asg, r_put, r_attr, r_var, r_c, r_bin, r_un, r_fn, r_fnL, r_call, r_make, made_ok, made_exc, r_eattr, r_ixL, r_new, r_tup, r_disp, r_few, r_eif, r_eand, r_eor, r_enot, r_acons, r_anil, r_astar, r_astarL, r_val, r_tru, r_not, r_and, r_or, r_chain, r_inL, r_m1, r_joinL, r_sl, r_pno, r_pat, v_add, v_sub, v_mod, v_div, v_neg, v_lt, v_le, v_gt, v_ge, v_isN, v_notN, v_intI, v_intB, v_abs, v_strS, v_ixT, v_ixF, v_eqI, v_neI, v_eqS, v_neS, r_lcomp, r_pval, r_pseq, r_plist, r_planT, r_planS, r_tryO, r_tryA, seq_exc, of_exc, tryO_rt, tryO_nx, tryA_rt, tryA_nx, r_raise, r_raise1, r_xattr, r_slS, r_join, r_dget, r_dict0, r_dput, r_mkx, r_app, e1, i1 hb, l1 hb, t1, t2, wa, e2]
/-! ### lists of plain values against the empty list -/
def plain : W → Prop | .str l => ∀ c ∈ l, c < 128 | .int _ => True | .non => True | .bl _ => True | _ => False
theorem dats_plain (m : Mem) (d : Nat) : ∀ ws : List W, (∀ w ∈ ws, plain w) → ∃ ds, dats m d ws = some ds ∧ ds.isEmpty = ws.isEmpty ∧ PyData.canLayAll0 ds = true ∧ PyData.depthAll ds = 0 ∧ PyData.eqvAll ds ds = true
  | [], _ => ⟨[], by simp [dats], rfl, rfl, rfl, rfl⟩
  | w :: ws, h => by
    obtain ⟨ds, h1, h2, h3, h4, h5⟩ := dats_plain m d ws fun x hx => h x (List.mem_cons_of_mem _ hx)
    have hw := h w List.mem_cons_self
    have : ∃ x, dat m d w = some x ∧ PyData.canLay0 x = true ∧ PyData.depth x = 0 ∧ PyData.eqv x x = true := by
      cases w with
      | str l => exact ⟨.str (Sh.S l), by cases d <;> simp [dat], by
          have key : ∀ c ∈ l, c < 1114112 ∧ ¬ (55296 ≤ c ∧ c ≤ 57343) := fun c hc => by have := hw c hc; omega
          show (PyData.str (Sh.S l)).canLay0 = true
          simp only [PyData.canLay0, PyData.strOk]
          simpa using fun c hc => (key c hc).1, rfl, by simp [PyData.eqv]⟩
      | int i => exact ⟨.int i, by cases d <;> simp [dat], rfl, rfl, by simp [PyData.eqv]⟩
      | non => exact ⟨.none, by cases d <;> simp [dat], rfl, rfl, by simp [PyData.eqv]⟩
      | bl b => exact ⟨.bool b, by cases d <;> simp [dat], rfl, rfl, by simp [PyData.eqv]⟩
      | _ => exact hw.elim
    obtain ⟨x, e1, e2, e3, e4⟩ := this
    exact ⟨x :: ds, by simp [dats, e1, h1], rfl, by simp [PyData.canLayAll0, e2, h3], by simp [PyData.depthAll, e3, h4], by simp [PyData.eqvAll, e4, h5]⟩
theorem ne_same {a b : Nat} {ws : List W} {m : Mem} (hl : ∀ w ∈ ws, plain w) (h1 : m[a]? = some (.lst ws)) (h2 : m[b]? = some (.lst ws)) : wNe0 (.ref a) (.ref b) m = .ok (.bl false) m := by
  show (eqD (.ref a) (.ref b) m).bind _ = _
  obtain ⟨ds, e, e0, e1, e2, e3⟩ := dats_plain m 29 ws hl
  have q1 : dat m 30 (.ref a) = some (.list ds) := by simp only [dat, h1, e, Option.map_some]
  have q2 : dat m 30 (.ref b) = some (.list ds) := by simp only [dat, h2, e, Option.map_some]
  have : eqD (.ref a) (.ref b) m = .ok true m := by
    unfold eqD
    simp only [q1, q2]
    have s1 : SeqAt.shaped (.list ds) = true := by
      unfold SeqAt.shaped
      simp [PyData.canLay0, e1, PyData.depth, e2]
    rw [if_pos ⟨s1, s1⟩]
    simp [PyData.eqv, e3]
  rw [this]; rfl
/-! ### things of the main part -/
inductive Thing (m : Mem) : W → Prop
  | str {l : List Nat} : Good l → Thing m (.str l)
  | int {i : Int} : -1000000 ≤ i → i ≤ 1000000 → Thing m (.int i)
  | non : Thing m .non
  | bl (b : Bool) : Thing m (.bl b)
  | tup {ws : List W} {x : PyData} : (∀ M : Mem, datX M 29 (.tup ws) = some x) → Small x → Thing m (.tup ws)
  | l0 {o : Nat} : m[o]? = some (.lst []) → Thing m (.ref o)
  | l1 {o : Nat} : m[o]? = some (.lst [.str [97]]) → Thing m (.ref o)
  | d0 {o : Nat} : m[o]? = some (.dK []) → Thing m (.ref o)
theorem Thing.ty {m : Mem} {w : W} (h : Thing m w) : Ty m w := by
  cases h with
  | str g => exact .str g
  | int _ _ => exact .int _
  | non => exact .non
  | bl b => exact .bl b
  | tup _ _ => exact .tup _
  | l0 h => exact .lst h
  | l1 h => exact .lst h
  | d0 h => exact .dct h
theorem Thing.ext {m m' : Mem} {w : W} (h : Thing m w) (E : Ext m m') : Thing m' w := by
  cases h with
  | str g => exact .str g
  | int a b => exact .int a b
  | non => exact .non
  | bl b => exact .bl b
  | tup a b => exact .tup a b
  | l0 h => exact .l0 (E.get h)
  | l1 h => exact .l1 (E.get h)
  | d0 h => exact .d0 (E.get h)
abbrev cA : List Nat := [97]
theorem goodA : Good cA := ⟨by decide, by decide⟩
theorem small_l0 : Small (.list []) := ⟨by decide, by decide, by decide +kernel⟩
theorem small_l1 : Small (.list [.str (Sh.S cA)]) := ⟨by decide, by decide, by decide +kernel⟩
theorem small_l2 : Small (.list [.str (Sh.S cA), .str (Sh.S mark)]) := ⟨by decide, by decide, by decide +kernel⟩
theorem small_l3 : Small (.list [.str (Sh.S mark)]) := ⟨by decide, by decide, by decide +kernel⟩
theorem small_d0 : Small (.dict []) := ⟨by decide, by decide, by decide +kernel⟩
theorem small_d1 : Small (.dict [(.str (Sh.S mark), .int 0)]) := ⟨by decide, by decide, by decide +kernel⟩
theorem small_two {wd : List Nat} (hw : Good wd) {x : PyData} (h : Small x) : ∀ d ∈ ([.str (Sh.S wd), x] : List PyData), Small d := by
  intro d hd
  simp only [List.mem_cons, List.not_mem_nil, or_false] at hd
  rcases hd with rfl | rfl
  · exact small_str hw
  · exact h
theorem dats_two {wd : List Nat} {w : W} {x : PyData} {M : Mem} (h : datX M 29 w = some x) : datsX M 29 [.str wd, w] = some [.str (Sh.S wd), x] := by
  have : datX M 29 (.str wd) = some (.str (Sh.S wd)) := by simp [datX]
  simp only [datsX, this, h]
theorem held_thing {wd : List Nat} (hw : Good wd) {a b : Nat} {w : W} {M : Mem} (ha : M[a]? = some (.lst [.str wd, w])) (hb : M[b]? = some (.lst [.str wd, w])) (h : Thing M w) : ∃ M', d__law_held [.ref a, .ref b] M = .ok (.bl true) M' := by
  have ne : ∀ {o q : Nat} {ws : List W}, M[o]? = some (.lst ws) → ws.length ≤ 1 → M[q]? = some (.lst [.str wd, .ref o]) → o ≠ q := fun {o q ws} h1 h2 h3 e => by
    subst e
    rw [h1] at h3
    cases h3
    simp at h2
  cases h with
  | str g => exact ⟨M, held_flat ha hb (dats_two (by simp [datX])) (small_two hw (small_str g)) (by simp) rfl rfl⟩
  | @int i h1 h2 => exact ⟨M, held_flat ha hb (dats_two (by simp [datX])) (small_two hw (small_int ⟨h1, h2⟩)) (by simp) rfl rfl⟩
  | non => exact ⟨M, held_flat ha hb (dats_two (by simp [datX])) (small_two hw small_none) (by simp) rfl rfl⟩
  | bl q => exact ⟨M, held_flat ha hb (dats_two (by simp [datX])) (small_two hw (small_bool q)) (by simp) rfl rfl⟩
  | tup h1 h2 => exact ⟨M, held_flat ha hb (dats_two (h1 M)) (small_two hw h2) (by simp) rfl rfl⟩
  | @l0 o h =>
    have g := (List.getElem?_eq_some_iff.mp h).1
    exact ⟨_, held_list ha hb h (ne h (by simp) ha) (ne h (by simp) hb) (by simp) (dats_two (x := .list []) (by simp [datX, h, datsX])) (small_two hw small_l0) (by simp) (dats_two (x := .list [.str (Sh.S mark)]) (by simp [datX, List.getElem?_set_self g, datsX])) (small_two hw small_l3) (by simp)⟩
  | @l1 o h =>
    have g := (List.getElem?_eq_some_iff.mp h).1
    exact ⟨_, held_list ha hb h (ne h (by simp) ha) (ne h (by simp) hb) (by simp) (dats_two (x := .list [.str (Sh.S cA)]) (by simp [datX, h, datsX])) (small_two hw small_l1) (by simp) (dats_two (x := .list [.str (Sh.S cA), .str (Sh.S mark)]) (by simp [datX, List.getElem?_set_self g, datsX])) (small_two hw small_l2) (by simp)⟩
  | @d0 o h =>
    have g := (List.getElem?_eq_some_iff.mp h).1
    have nd : ∀ {q : Nat}, M[q]? = some (.lst [.str wd, .ref o]) → o ≠ q := fun h3 e => by
      subst e
      rw [h] at h3
      cases h3
    exact ⟨_, held_dict ha hb h (nd ha) (nd hb) (dats_two (x := .dict []) (by simp [datX, h, datsX])) (small_two hw small_d0) (by simp) (dats_two (x := .dict [(.str (Sh.S mark), .int 0)]) (by simp [datX, List.getElem?_set_self g, datsX, keyD])) (small_two hw small_d1) (by simp)⟩
end K02

namespace K02
open PySem Sh
/-! ### things drawn -/
def TAt (p L : Nat) (m : Mem) (w : W) : Prop := Thing m w ∧ w ≠ .ref p ∧ w ≠ .ref L
theorem Thing.grow {p : Nat} {m m' : Mem} {w : W} (h : Thing m w) (hp : w ≠ .ref p) (g : Grow p m m') : Thing m' w := by
  cases h with
  | str g => exact .str g
  | int a b => exact .int a b
  | non => exact .non
  | bl b => exact .bl b
  | tup a b => exact .tup a b
  | l0 h => exact .l0 (g.get (fun e => hp (by rw [e])) h)
  | l1 h => exact .l1 (g.get (fun e => hp (by rw [e])) h)
  | d0 h => exact .d0 (g.get (fun e => hp (by rw [e])) h)
def odds (n : Nat) : List W := [.non, .bl true, .int 0, .str [65], .str [], .tup [], .ref n, .ref (n + 1), .str [97, 49], .str [97, 98, 99, 100, 101, 102, 103, 104, 105], .int (-1), .tup [.str [97]], .ref (n + 2), .tup [.int 1, .int 2], .str [97, 32, 98], .str [49]]
def odds2 : List W := [.str [32, 97], .str [97, 95], .str [97, 10], .bl false, .str [97, 123], .str [96, 97], .str [97, 126]]
theorem gd (l : List Nat) (h : (decide (l.length ≤ 1000) && l.all (· < 128)) = true) : Good l := by
  simp only [Bool.and_eq_true, decide_eq_true_eq, List.all_eq_true] at h
  exact ⟨h.1, fun c hc => by simpa using h.2 c hc⟩
theorem small_t0 : Small (.tuple []) := ⟨by decide, by decide, by decide +kernel⟩
theorem small_t1 : Small (.tuple [.str (Sh.S cA)]) := ⟨by decide, by decide, by decide +kernel⟩
theorem small_t2 : Small (.tuple [.int 1, .int 2]) := ⟨by decide +kernel, by decide, by decide +kernel⟩
theorem small_t3 : Small (.tuple [.str (Sh.S [97]), .str (Sh.S [97, 100, 100]), .str (Sh.S [98])]) := ⟨by decide, by decide, by decide +kernel⟩
theorem odd_thing {m : Mem} {n : Nat} (h0 : m[n]? = some (.lst [])) (h1 : m[n + 1]? = some (.dK [])) (h2 : m[n + 2]? = some (.lst [.str cA])) : ∀ w ∈ odds n ++ odds2, Thing m w ∧ ∀ q, w = .ref q → n ≤ q := by
  intro w hw
  simp only [odds, odds2, List.cons_append, List.nil_append, List.mem_cons, List.not_mem_nil, or_false] at hw
  rcases hw with rfl | rfl | rfl | rfl | rfl | rfl | rfl | rfl | rfl | rfl | rfl | rfl | rfl | rfl | rfl | rfl | rfl | rfl | rfl | rfl | rfl | rfl | rfl
  · exact ⟨.non, fun q e => by cases e⟩
  · exact ⟨.bl _, fun q e => by cases e⟩
  · exact ⟨.int (by decide) (by decide), fun q e => by cases e⟩
  · exact ⟨.str (gd _ rfl), fun q e => by cases e⟩
  · exact ⟨.str (gd _ rfl), fun q e => by cases e⟩
  · exact ⟨.tup (x := .tuple []) (fun M => by simp [datX, datsX]) small_t0, fun q e => by cases e⟩
  · exact ⟨.l0 h0, fun q e => by cases e; omega⟩
  · exact ⟨.d0 h1, fun q e => by cases e; omega⟩
  · exact ⟨.str (gd _ rfl), fun q e => by cases e⟩
  · exact ⟨.str (gd _ rfl), fun q e => by cases e⟩
  · exact ⟨.int (by decide) (by decide), fun q e => by cases e⟩
  · exact ⟨.tup (x := .tuple [.str (Sh.S cA)]) (fun M => by simp [datX, datsX]) small_t1, fun q e => by cases e⟩
  · exact ⟨.l1 h2, fun q e => by cases e; omega⟩
  · exact ⟨.tup (x := .tuple [.int 1, .int 2]) (fun M => by simp [datX, datsX]) small_t2, fun q e => by cases e⟩
  · exact ⟨.str (gd _ rfl), fun q e => by cases e⟩
  · exact ⟨.str (gd _ rfl), fun q e => by cases e⟩
  · exact ⟨.str (gd _ rfl), fun q e => by cases e⟩
  · exact ⟨.str (gd _ rfl), fun q e => by cases e⟩
  · exact ⟨.str (gd _ rfl), fun q e => by cases e⟩
  · exact ⟨.bl _, fun q e => by cases e⟩
  · exact ⟨.str (gd _ rfl), fun q e => by cases e⟩
  · exact ⟨.str (gd _ rfl), fun q e => by cases e⟩
  · exact ⟨.str (gd _ rfl), fun q e => by cases e⟩
theorem odd_ok (p : Nat) (m : Mem) (z : Int) (h : PileAt p m z) (hz : z < 900000) : ∃ (w : W) (m' : Mem), d__law_odd [.ref p] m = .ok w m' ∧ Thing m' w ∧ (∀ q, w = .ref q → m.length ≤ q) ∧ PileAt p m' (z + 1) ∧ Grow p m m' := by
  unfold d__law_odd b__law_odd
  let M1 := ((m ++ [O.lst []]) ++ [O.dK []]) ++ [O.lst [.str cA]]
  let M2 := M1 ++ [O.lst (odds m.length)]
  let M3 := M2 ++ [O.lst odds2]
  let M4 := M3 ++ [O.lst (odds m.length ++ odds2)]
  have g2 : M2[M1.length]? = some (.lst (odds m.length)) := last_get
  have g3 : M3[M2.length]? = some (.lst odds2) := last_get
  have a1 : wAdd (.ref M1.length) (.ref M2.length) M3 = .ok (.ref M3.length) M4 := wAdd_lst ((Ext.app M2 _).get g2) g3 (by simp [odds, odds2])
  have E4 : Ext m M4 := (((((Ext.app m _).add _).add _).add _).add _).add _
  obtain ⟨r, m', h1, h2, h3, h4, h5, h6⟩ := take_g p M4 23 z (by obtain ⟨l, e⟩ := E4; rw [e]; exact h.app) (by omega) (by decide) (by decide)
  have hlt := h.lt
  have g4 : M4[M3.length]? = some (.lst (odds m.length ++ odds2)) := last_get
  have hne : M3.length ≠ p := by simp [M3, M2, M1]; omega
  have g4' := h5.get hne g4
  have r0 : M4[m.length]? = some (.lst []) := by simp [M4, M3, M2, M1]
  have r1 : M4[m.length + 1]? = some (.dK []) := by simp [M4, M3, M2, M1]
  have r2 : M4[m.length + 2]? = some (.lst [.str cA]) := by simp [M4, M3, M2, M1]
  obtain ⟨w, hw, e⟩ := at_mem (ws := odds m.length ++ odds2) (m := m') h2 (by simpa [odds, odds2] using h3)
  have e2 := (v_ixR (i := r) g4').trans e
  obtain ⟨t1, t2⟩ := odd_thing (h5.get (by omega) r0) (h5.get (by omega) r1) (h5.get (by omega) r2) w hw
  refine ⟨w, m', ?_, t1, t2, h4, (by obtain ⟨l, e⟩ := E4; rw [e] at h5; exact Grow.app.trans h5)⟩
  have e0 : ∀ σ, eNew (lDisp (aCons (eC .non) (aCons (eC (.bl true)) (aCons (eC (.int 0)) (aCons (eC (.str [65])) (aCons (eC (.str [])) (aCons (eTup (aNil)) (aCons (eNew (lDisp (aNil))) (aCons (eDict0) (aCons (eC (.str [97, 49])) (aCons (eC (.str [97, 98, 99, 100, 101, 102, 103, 104, 105])) (aCons (eUn wNeg (eC (.int 1))) (aCons (eTup (aCons (eC (.str [97])) (aNil))) (aCons (eNew (lDisp (aCons (eC (.str [97])) (aNil)))) (aCons (eTup (aCons (eC (.int 1)) (aCons (eC (.int 2)) (aNil)))) (aCons (eC (.str [97, 32, 98])) (aCons (eC (.str [49])) (aNil)))))))))))))))))) σ m = .ok (.ref M1.length) M2 := fun σ => by
    simp only [List.length_cons, List.length_nil, Nat.reduceAdd, Nat.reduceEqDiff, if_true, List.map_cons, List.map_nil, Nat.reduceSub, List.replicate, List.cons_append, List.nil_append, R.bind_ok, R.bind_exc, R.bind_bad, R.nox_ok, RS.of_ok, RS.of_exc, List.getElem?_cons_zero, List.getElem?_cons_succ, List.set_cons_zero, List.set_cons_succ, Bool.not_true, Bool.not_false, Bool.false_eq_true, if_false, isNon, gSet, Int.reduceLT, Int.reduceLE, Int.reduceNeg, and_self, Nat.reduceLeDiff, Nat.reduceMul, decide_true, decide_false, Int.reduceEq, eq_self, reduceCtorEq, seq_nx, seq_rt, seq_bad, of_rt, of_nx, trd_rt, trd_nx, r_defn, r_seq, r_try, r_nil, r_expr, r_ret, r_if, r_set, r_asg, r_put, r_attr, r_var, r_c, r_bin, r_un, r_fn, r_fnL, r_call, r_make, made_ok, made_exc, r_eattr, r_ixL, r_new, r_tup, r_disp, r_few, r_eif, r_eand, r_eor, r_enot, r_acons, r_anil, r_astar, r_astarL, r_val, r_tru, r_not, r_and, r_or, r_chain, r_inL, r_m1, r_joinL, r_sl, r_pno, r_pat, v_add, v_sub, v_mod, v_div, v_neg, v_lt, v_le, v_gt, v_ge, v_isN, v_notN, v_intI, v_intB, v_abs, v_strS, v_ixT, v_ixF, v_eqI, v_neI, v_eqS, v_neS, r_lcomp, r_pval, r_pseq, r_plist, r_planT, r_planS, r_tryO, r_tryA, seq_exc, of_exc, tryO_rt, tryO_nx, tryA_rt, tryA_nx, r_raise, r_raise1, r_xattr, r_slS, r_join, r_dget, r_dict0, r_dput, r_mkx, r_app, List.length_append, Nat.zero_le]
    have hl : M1.length = m.length + 1 + 1 + 1 := by simp [M1]
    rw [hl]
    rfl
  simp only [r_defn, List.length_cons, List.length_nil, Nat.reduceAdd, if_true, List.map_cons, List.map_nil, Nat.reduceSub, List.replicate, List.cons_append, List.nil_append]
  rw [r_seq, r_set, e0, RS.of_ok]
  have e1 : ∀ σ, eNew (lDisp (aCons (eC (.str [32, 97])) (aCons (eC (.str [97, 95])) (aCons (eC (.str [97, 10])) (aCons (eC (.bl false)) (aCons (eC (.str [97, 123])) (aCons (eC (.str [96, 97])) (aCons (eC (.str [97, 126])) (aNil))))))))) σ M2 = .ok (.ref M2.length) M3 := fun σ => by
    simp only [List.length_cons, List.length_nil, Nat.reduceAdd, Nat.reduceEqDiff, if_true, List.map_cons, List.map_nil, Nat.reduceSub, List.replicate, List.cons_append, List.nil_append, R.bind_ok, R.bind_exc, R.bind_bad, R.nox_ok, RS.of_ok, RS.of_exc, List.getElem?_cons_zero, List.getElem?_cons_succ, List.set_cons_zero, List.set_cons_succ, Bool.not_true, Bool.not_false, Bool.false_eq_true, if_false, isNon, gSet, Int.reduceLT, Int.reduceLE, Int.reduceNeg, and_self, Nat.reduceLeDiff, Nat.reduceMul, decide_true, decide_false, Int.reduceEq, eq_self, reduceCtorEq, seq_nx, seq_rt, seq_bad, of_rt, of_nx, trd_rt, trd_nx, r_defn, r_seq, r_try, r_nil, r_expr, r_ret, r_if, r_set, r_asg, r_put, r_attr, r_var, r_c, r_bin, r_un, r_fn, r_fnL, r_call, r_make, made_ok, made_exc, r_eattr, r_ixL, r_new, r_tup, r_disp, r_few, r_eif, r_eand, r_eor, r_enot, r_acons, r_anil, r_astar, r_astarL, r_val, r_tru, r_not, r_and, r_or, r_chain, r_inL, r_m1, r_joinL, r_sl, r_pno, r_pat, v_add, v_sub, v_mod, v_div, v_neg, v_lt, v_le, v_gt, v_ge, v_isN, v_notN, v_intI, v_intB, v_abs, v_strS, v_ixT, v_ixF, v_eqI, v_neI, v_eqS, v_neS, r_lcomp, r_pval, r_pseq, r_plist, r_planT, r_planS, r_tryO, r_tryA, seq_exc, of_exc, tryO_rt, tryO_nx, tryA_rt, tryA_nx, r_raise, r_raise1, r_xattr, r_slS, r_join, r_dget, r_dict0, r_dput, r_mkx, r_app]
    rfl
  simp only [seq_nx, r_ret, r_bin, r_var, List.set_cons_zero, List.set_cons_succ, List.getElem?_cons_zero, List.getElem?_cons_succ, R.bind_ok]
  rw [e1]
  simp only [R.bind_ok]
  rw [a1]
  simp only [List.length_cons, List.length_nil, Nat.reduceAdd, Nat.reduceEqDiff, if_true, List.map_cons, List.map_nil, Nat.reduceSub, List.replicate, List.cons_append, List.nil_append, R.bind_ok, R.bind_exc, R.bind_bad, R.nox_ok, RS.of_ok, RS.of_exc, List.getElem?_cons_zero, List.getElem?_cons_succ, List.set_cons_zero, List.set_cons_succ, Bool.not_true, Bool.not_false, Bool.false_eq_true, if_false, isNon, gSet, Int.reduceLT, Int.reduceLE, Int.reduceNeg, and_self, Nat.reduceLeDiff, Nat.reduceMul, decide_true, decide_false, Int.reduceEq, eq_self, reduceCtorEq, seq_nx, seq_rt, seq_bad, of_rt, of_nx, trd_rt, trd_nx, r_defn, r_seq, r_try, r_nil, r_expr, r_ret, r_if, r_set, r_asg, r_put, r_attr, r_var, r_c, r_bin, r_un, r_fn, r_fnL, r_call, r_make, made_ok, made_exc, r_eattr, r_ixL, r_new, r_tup, r_disp, r_few, r_eif, r_eand, r_eor, r_enot, r_acons, r_anil, r_astar, r_astarL, r_val, r_tru, r_not, r_and, r_or, r_chain, r_inL, r_m1, r_joinL, r_sl, r_pno, r_pat, v_add, v_sub, v_mod, v_div, v_neg, v_lt, v_le, v_gt, v_ge, v_isN, v_notN, v_intI, v_intB, v_abs, v_strS, v_ixT, v_ixF, v_eqI, v_neI, v_eqS, v_neS, r_lcomp, r_pval, r_pseq, r_plist, r_planT, r_planS, r_tryO, r_tryA, seq_exc, of_exc, tryO_rt, tryO_nx, tryA_rt, tryA_nx, r_raise, r_raise1, r_xattr, r_slS, r_join, r_dget, r_dict0, r_dput, r_mkx, r_app, h1, e2]
end K02

namespace K02
open PySem Sh
/-! ### arguments put in -/
theorem put_T4 (t : T4) (k : Nat) (h0 : 1 ≤ k) (hk : k < t.list.length) (w : W) : ∃ t' : T4, t'.list = t.list.set k w ∧ ∀ v ∈ t'.args, v = w ∨ v ∈ t.args := by
  cases t with
  | set x a op b =>
    have hk : k < 5 := hk
    have hc : k = 1 ∨ k = 2 ∨ k = 3 ∨ k = 4 := by omega
    rcases hc with rfl | rfl | rfl | rfl
    · exact ⟨.set w a op b, rfl, fun v hv => by simp [T4.args] at hv ⊢; rcases hv with h | h | h | h <;> simp [h]⟩
    · exact ⟨.set x w op b, rfl, fun v hv => by simp [T4.args] at hv ⊢; rcases hv with h | h | h | h <;> simp [h]⟩
    · exact ⟨.set x a w b, rfl, fun v hv => by simp [T4.args] at hv ⊢; rcases hv with h | h | h | h <;> simp [h]⟩
    · exact ⟨.set x a op w, rfl, fun v hv => by simp [T4.args] at hv ⊢; rcases hv with h | h | h | h <;> simp [h]⟩
  | copy x a =>
    have hk : k < 3 := hk
    have hc : k = 1 ∨ k = 2 := by omega
    rcases hc with rfl | rfl
    · exact ⟨.copy w a, rfl, fun v hv => by simp [T4.args] at hv ⊢; rcases hv with h | h <;> simp [h]⟩
    · exact ⟨.copy x w, rfl, fun v hv => by simp [T4.args] at hv ⊢; rcases hv with h | h <;> simp [h]⟩
  | read x =>
    have hk : k < 2 := hk
    have hc : k = 1 := by omega
    subst hc
    exact ⟨.read w, rfl, fun v hv => by simp [T4.args] at hv ⊢; simp [hv]⟩
  | write a =>
    have hk : k < 2 := hk
    have hc : k = 1 := by omega
    subst hc
    exact ⟨.write w, rfl, fun v hv => by simp [T4.args] at hv ⊢; simp [hv]⟩
theorem list_len (t : T4) : 2 ≤ t.list.length ∧ t.list.length ≤ 5 := by cases t <;> exact ⟨by simp [T4.list, T4.args], by simp [T4.list, T4.args]⟩
theorem list_key (t : T4) : ∃ ws, t.list = .str t.key :: ws := ⟨t.args, rfl⟩
def putB : DS := sSeq (sSet 7 (eBin wAdd (eC (.int 1)) (eCall d__law_take (aCons (eVar 2) (aCons (eBin wSub (eFn bLen (aCons (eVar 3) (aNil))) (eC (.int 1))) (aNil)))))) (sSeq (sSet 8 (eNew (lDisp (aCons (eCall d__law_odd (aCons (eVar 2) (aNil))) (aCons (eC (.int 1000000)) (aCons (eUn wNeg (eC (.int 1000000))) (aCons (eC (.str [97, 98, 99, 100, 101, 102, 103, 104])) (aCons (eC (.int 2)) (aCons (eC (.str [97, 100, 100])) (aCons (eC (.str [100, 105, 118])) (aCons (eTup (aCons (eC (.str [97])) (aCons (eC (.str [97, 100, 100])) (aCons (eC (.str [98])) (aNil))))) (aNil)))))))))))) (sPut (eVar 3) (eVar 7) (eBin wIx (eVar 8) (eCall d__law_take (aCons (eVar 2) (aCons (eC (.int 8)) (aNil)))))))
structure Args (p L : Nat) (t : T4) (m : Mem) : Prop where
  at_ : m[L]? = some (.lst t.list)
  th : ∀ w ∈ t.args, Thing m w ∧ w ≠ .ref p ∧ w ≠ .ref L
  ne : p < L
theorem at_mem' {ws : List W} {r : Int} (h0 : 0 ≤ r) (h : r < (ws.length : Int)) : ∃ w, w ∈ ws ∧ ∀ m : Mem, atW ws r m = .ok w m := by
  obtain ⟨k, rfl⟩ := Int.eq_ofNat_of_zero_le h0
  have hk : k < ws.length := by omega
  exact ⟨ws[k], List.getElem_mem hk, fun m => v_at (atI_nat (by simp [hk]))⟩
theorem put_step {p L : Nat} {t : T4} {m : Mem} {z : Int} (h : Args p L t m) (hp : PileAt p m z) (hz : z < 800000) (x0 x1 x4 x5 x6 x7 x8 : Option W) :
    ∃ t' x7' x8' m' z', putB [x0, x1, some (.ref p), some (.ref L), x4, x5, x6, x7, x8] m = .nx [x0, x1, some (.ref p), some (.ref L), x4, x5, x6, x7', x8'] m' ∧ Args p L t' m' ∧ PileAt p m' z' ∧ z' ≤ z + 10 := by
  have hLp : L ≠ p := by have := h.ne; omega
  obtain ⟨hn2, hn5⟩ := list_len t
  have ln : bLen [.ref L] m = .ok (.int (t.list.length : Int)) m := lenR h.at_
  obtain ⟨r, m1, a1, a2, a3, a4, a5, a6⟩ := take_g p m ((t.list.length : Int) - 1) z hp (by omega) (by omega) (by omega)
  obtain ⟨w, m2, b1, b2, b3, b4, b5⟩ := odd_ok p m1 (z + 1) a4 (by omega)
  have G12 := a5.trans b5
  let some8 : List W := [w, .int 1000000, .int (-1000000), .str [97, 98, 99, 100, 101, 102, 103, 104], .int 2, .str [97, 100, 100], .str [100, 105, 118], .tup [.str [97], .str [97, 100, 100], .str [98]]]
  have g3 : (m2 ++ [O.lst some8])[m2.length]? = some (.lst some8) := last_get
  obtain ⟨r2, m3, c1, c2, c3, c4, c5, c6⟩ := take_g p (m2 ++ [O.lst some8]) 8 (z + 1 + 1) b4.app (by omega) (by decide) (by decide)
  have hlt2 := b4.lt
  have hLlt : L < m.length := (List.getElem?_eq_some_iff.mp h.at_).1
  have hm1 : m1.length = m.length := a6
  have g3' := c5.get (by omega : m2.length ≠ p) g3
  obtain ⟨v, hv, e⟩ := at_mem' (ws := some8) c2 (by simpa [some8] using c3)
  have e2 : wIx (.ref m2.length) (.int r2) m3 = .ok v m3 := (v_ixR g3').trans (e m3)
  have Gm3 : Grow p m m3 := (G12.trans .app).trans c5
  have hthv : Thing m3 v ∧ v ≠ .ref p ∧ v ≠ .ref L := by
    have ref_no : ∀ (q : Nat), q = p ∨ q = L → w ≠ .ref q := fun q hq e => by
      have := b3 q e
      have hpl := hp.lt
      rcases hq with rfl | rfl <;> omega
    have hw3 : Thing m3 w := ((b2.ext (.app m2 [O.lst some8]))).grow (ref_no p (.inl rfl)) c5
    simp only [some8, List.mem_cons, List.not_mem_nil, or_false] at hv
    rcases hv with rfl | rfl | rfl | rfl | rfl | rfl | rfl | rfl
    · exact ⟨hw3, ref_no p (.inl rfl), ref_no L (.inr rfl)⟩
    · exact ⟨.int (by decide) (by decide), fun e => (by cases e), fun e => by cases e⟩
    · exact ⟨.int (by decide) (by decide), fun e => (by cases e), fun e => by cases e⟩
    · exact ⟨.str (gd _ rfl), fun e => (by cases e), fun e => by cases e⟩
    · exact ⟨.int (by decide) (by decide), fun e => (by cases e), fun e => by cases e⟩
    · exact ⟨.str (gd _ rfl), fun e => (by cases e), fun e => by cases e⟩
    · exact ⟨.str (gd _ rfl), fun e => (by cases e), fun e => by cases e⟩
    · exact ⟨.tup (x := .tuple [.str (Sh.S [97]), .str (Sh.S [97, 100, 100]), .str (Sh.S [98])]) (fun M => by simp [datX, datsX]) small_t3, fun e => (by cases e), fun e => by cases e⟩
  obtain ⟨k, rfl⟩ := Int.eq_ofNat_of_zero_le a2
  obtain ⟨t', ht', hta⟩ := put_T4 t (k + 1) (by omega) (by omega) v
  have L3 := Gm3.get hLp h.at_
  have ep : putAt m3 (.ref L) (.int (1 + (k : Int))) v = some (m3.set L (.lst t'.list)) := by
    have hx : L2.ixN t.list.length (1 + (k : Int)) = some (k + 1) := by
      unfold L2.ixN
      rw [if_pos (by omega), if_pos (by omega)]
      congr 1
      omega
    unfold Sh.putAt
    simp only [L3, hx, ht']
  have Gset : Grow L m3 (m3.set L (.lst t'.list)) := .set
  refine ⟨t', some (.int (1 + (k : Int))), some (.ref m2.length), m3.set L (.lst t'.list), z + 1 + 1 + 1, ?_, ⟨List.getElem?_set_self (List.getElem?_eq_some_iff.mp L3).1, fun u hu => ?_, h.ne⟩, ?_, by omega⟩
  · unfold putB
    simp only [some8] at c1 e2
    simp only [List.length_cons, List.length_nil, Nat.reduceAdd, Nat.reduceEqDiff, if_true, List.map_cons, List.map_nil, Nat.reduceSub, List.replicate, List.cons_append, List.nil_append, R.bind_ok, R.bind_exc, R.bind_bad, R.nox_ok, RS.of_ok, RS.of_exc, List.getElem?_cons_zero, List.getElem?_cons_succ, List.set_cons_zero, List.set_cons_succ, Bool.not_true, Bool.not_false, Bool.false_eq_true, if_false, isNon, gSet, Int.reduceLT, Int.reduceLE, Int.reduceNeg, and_self, Nat.reduceLeDiff, Nat.reduceMul, decide_true, decide_false, Int.reduceEq, eq_self, reduceCtorEq, seq_nx, seq_rt, seq_bad, of_rt, of_nx, trd_rt, trd_nx, r_defn, r_seq, r_try, r_nil, r_expr, r_ret, r_if, r_set, r_asg, r_put, r_attr, r_var, r_c, r_bin, r_un, r_fn, r_fnL, r_call, r_make, made_ok, made_exc, r_eattr, r_ixL, r_new, r_tup, r_disp, r_few, r_eif, r_eand, r_eor, r_enot, r_acons, r_anil, r_astar, r_astarL, r_val, r_tru, r_not, r_and, r_or, r_chain, r_inL, r_m1, r_joinL, r_sl, r_pno, r_pat, v_add, v_sub, v_mod, v_div, v_neg, v_lt, v_le, v_gt, v_ge, v_isN, v_notN, v_intI, v_intB, v_abs, v_strS, v_ixT, v_ixF, v_eqI, v_neI, v_eqS, v_neS, r_lcomp, r_pval, r_pseq, r_plist, r_planT, r_planS, r_tryO, r_tryA, seq_exc, of_exc, tryO_rt, tryO_nx, tryA_rt, tryA_nx, r_raise, r_raise1, r_xattr, r_slS, r_join, r_dget, r_dict0, r_dput, r_mkx, r_app, ln, a1, b1, c1, e2, ep]
  · have key : Thing m3 u ∧ u ≠ .ref p ∧ u ≠ .ref L := by
      rcases hta u hu with rfl | hu
      · exact hthv
      · obtain ⟨q1, q2, q3⟩ := h.th u hu
        exact ⟨q1.grow q2 Gm3, q2, q3⟩
    exact ⟨key.1.grow key.2.2 Gset, key.2⟩
  · obtain ⟨d', c', k', b', q1, q2, q3⟩ := c4
    exact ⟨d', c', k', b', Gset.get (Ne.symm hLp) q1, q2, q3⟩
def turnsP : DP := pRange1 (aCons (eCall d__law_take (aCons (eVar 2) (aCons (eC (.int 4)) (aNil)))) (aNil))
theorem puts_ok {p L : Nat} {t : T4} {m : Mem} {z : Int} (h : Args p L t m) (hp : PileAt p m z) (hz : z < 20000) (x0 x1 x4 x5 x6 x7 x8 : Option W) :
    ∃ t' x4' x7' x8' m', sFor turnsP (gSet 4) putB [x0, x1, some (.ref p), some (.ref L), x4, x5, x6, x7, x8] m = .nx [x0, x1, some (.ref p), some (.ref L), x4', x5, x6, x7', x8'] m' ∧ Args p L t' m' := by
  have hLp : L ≠ p := by have := h.ne; omega
  obtain ⟨r, m1, a1, a2, a3, a4, a5, a6⟩ := take_g p m 4 z hp (by omega) (by decide) (by decide)
  obtain ⟨k, rfl⟩ := Int.eq_ofNat_of_zero_le a2
  have hpl : turnsP [x0, x1, some (.ref p), some (.ref L), x4, x5, x6, x7, x8] m = .ok ⟨k, srcRange 0 k⟩ m1 := by
    unfold turnsP pRange1
    simp only [List.length_cons, List.length_nil, Nat.reduceAdd, Nat.reduceEqDiff, if_true, List.map_cons, List.map_nil, Nat.reduceSub, List.replicate, List.cons_append, List.nil_append, R.bind_ok, R.bind_exc, R.bind_bad, R.nox_ok, RS.of_ok, RS.of_exc, List.getElem?_cons_zero, List.getElem?_cons_succ, List.set_cons_zero, List.set_cons_succ, Bool.not_true, Bool.not_false, Bool.false_eq_true, if_false, isNon, gSet, Int.reduceLT, Int.reduceLE, Int.reduceNeg, and_self, Nat.reduceLeDiff, Nat.reduceMul, decide_true, decide_false, Int.reduceEq, eq_self, reduceCtorEq, seq_nx, seq_rt, seq_bad, of_rt, of_nx, trd_rt, trd_nx, r_defn, r_seq, r_try, r_nil, r_expr, r_ret, r_if, r_set, r_asg, r_put, r_attr, r_var, r_c, r_bin, r_un, r_fn, r_fnL, r_call, r_make, made_ok, made_exc, r_eattr, r_ixL, r_new, r_tup, r_disp, r_few, r_eif, r_eand, r_eor, r_enot, r_acons, r_anil, r_astar, r_astarL, r_val, r_tru, r_not, r_and, r_or, r_chain, r_inL, r_m1, r_joinL, r_sl, r_pno, r_pat, v_add, v_sub, v_mod, v_div, v_neg, v_lt, v_le, v_gt, v_ge, v_isN, v_notN, v_intI, v_intB, v_abs, v_strS, v_ixT, v_ixF, v_eqI, v_neI, v_eqS, v_neS, r_lcomp, r_pval, r_pseq, r_plist, r_planT, r_planS, r_tryO, r_tryA, seq_exc, of_exc, tryO_rt, tryO_nx, tryA_rt, tryA_nx, r_raise, r_raise1, r_xattr, r_slS, r_join, r_dget, r_dict0, r_dput, r_mkx, r_app, a1]
    rw [if_pos (by omega)]
    simp
  have h1 : Args p L t m1 := ⟨a5.get hLp h.at_, fun w hw => by obtain ⟨q1, q2, q3⟩ := h.th w hw; exact ⟨q1.grow q2 a5, q2, q3⟩, h.ne⟩
  unfold sFor
  rw [hpl, RS.of_ok]
  obtain ⟨σ', m', e, t', x4', x7', x8', z', rfl, hA, _⟩ := forLoop_nx (src := srcRange 0 k) (h := gSet 4) (b := putB) (N := k)
    (fun i σ' m' => ∃ t' x4' x7' x8' z', σ' = [x0, x1, some (.ref p), some (.ref L), x4', x5, x6, x7', x8'] ∧ Args p L t' m' ∧ PileAt p m' z' ∧ z' ≤ z + 1 + 10 * i)
    (fun i σ m2 hi ⟨t', y4, y7, y8, z', hσ, hA, hP, hz'⟩ => by
      subst hσ
      obtain ⟨t2, y7', y8', m3, z2, e2, hA2, hP2, hz2⟩ := put_step hA hP (by omega) x0 x1 (some (.int (0 + (i : Int)))) x5 x6 y7 y8
      exact ⟨.int (0 + (i : Int)), _, _, _, m3, by show some (if i < k then _ else _) = _; rw [if_pos hi], rfl, e2, t2, _, y7', y8', z2, rfl, hA2, hP2, by push_cast; omega⟩)
    (fun σ m' _ => by show some (if k < k then _ else _) = _; rw [if_neg (by omega)]) k 0 _ m1 (by omega) ⟨t, x4, x7, x8, z + 1, rfl, h1, a4, by omega⟩
  exact ⟨t', x4', x7', x8', m', e, hA⟩
/-! ### a cell -/
theorem list_ty {t : T4} {p L : Nat} {m m' : Mem} (h : Args p L t m) (E : Ext m m') : ∀ w ∈ t.args, Ty m' w := fun w hw => (h.th w hw).1.ty.ext E
theorem tupR {n : Nat} {ws : List W} {m : Mem} (h : m[n]? = some (.lst ws)) : bTup [.ref n] m = .ok (.tup ws) m := by
  unfold bTup
  simp only [h]
theorem txt_plain {t : T4} {m : Mem} (h : ∀ w ∈ t.args, Ty m w) (q : t.first = none) : plain (.str (txt t)) := by
  obtain ⟨s, rfl, hs⟩ := none_of h q
  rw [txt_ofSt]
  have hch := parts_ch hs
  intro c hc
  have key : ∀ ys : List (List Nat), (∀ p ∈ ys, ∀ c ∈ p, c < 128) → ∀ c ∈ TL.joinL [32] ys, c < 128 := by
    intro ys
    induction ys with
    | nil => intro _ c hc; cases hc
    | cons y r ih =>
      intro hy c hc
      cases r with
      | nil => exact hy y List.mem_cons_self c (by simpa [TL.joinL] using hc)
      | cons z r =>
        have hc : c ∈ y ++ ([32] ++ TL.joinL [32] (z :: r)) := hc
        rcases List.mem_append.mp hc with hc | hc
        · exact hy y List.mem_cons_self c hc
        · rcases List.mem_append.mp hc with hc | hc
          · have : c = 32 := by simpa using hc
            omega
          · exact ih (fun p hp => hy p (List.mem_cons_of_mem _ hp)) c hc
  exact key (parts s) hch c hc
def askB : DS := sIf (tOr (tAnd (tVal (eBin wEq0 (eBin wIx (eVar 5) (eC (.int 0))) (eC (.str [109, 97, 100, 101])))) (tVal (eBin wNe0 (eVar 6) (eVar 5)))) (tAnd (tVal (eBin wNe0 (eBin wIx (eVar 5) (eC (.int 0))) (eC (.str [109, 97, 100, 101])))) (tNot (tVal (eCall d__law_held (aCons (eVar 6) (aCons (eVar 5) (aNil)))))))) (sRet (eC (.bl false))) (sNil)
theorem ask_ok {t : T4} {p L n d : Nat} {m m' : Mem} (hA : Args p L t m) (E : Ext m m') (hn : m'[n]? = some (.lst (OutW t))) (hd : m'[d]? = some (.lst (OutW t))) (x0 x1 x2 x3 x4 x7 x8 : Option W) : ∃ m'', askB [x0, x1, x2, x3, x4, some (.ref d), some (.ref n), x7, x8] m' = .nx [x0, x1, x2, x3, x4, some (.ref d), some (.ref n), x7, x8] m'' := by
  have hT : ∀ w ∈ t.args, Ty m' w := list_ty hA E
  cases q : t.first with
  | none =>
    have hO : OutW t = [.str kMade, .str (txt t)] := by unfold OutW; rw [q]
    rw [hO] at hn hd
    have i0 : wIx (.ref d) (.int 0) m' = .ok (.str [109, 97, 100, 101]) m' := (v_ixR hd).trans at0
    have e1 := ne_same (a := n) (b := d) (m := m') (ws := [.str kMade, .str (txt t)]) (fun w hw => by
      simp only [List.mem_cons, List.not_mem_nil, or_false] at hw
      rcases hw with rfl | rfl
      · exact (by decide : ∀ c ∈ kMade, c < 128)
      · exact txt_plain hT q) hn hd
    refine ⟨m', ?_⟩
    unfold askB
    simp only [List.length_cons, List.length_nil, Nat.reduceAdd, Nat.reduceEqDiff, if_true, List.map_cons, List.map_nil, Nat.reduceSub, List.replicate, List.cons_append, List.nil_append, R.bind_ok, R.bind_exc, R.bind_bad, R.nox_ok, RS.of_ok, RS.of_exc, List.getElem?_cons_zero, List.getElem?_cons_succ, List.set_cons_zero, List.set_cons_succ, Bool.not_true, Bool.not_false, Bool.false_eq_true, if_false, isNon, gSet, Int.reduceLT, Int.reduceLE, Int.reduceNeg, and_self, Nat.reduceLeDiff, Nat.reduceMul, decide_true, decide_false, Int.reduceEq, eq_self, reduceCtorEq, seq_nx, seq_rt, seq_bad, of_rt, of_nx, trd_rt, trd_nx, r_defn, r_seq, r_try, r_nil, r_expr, r_ret, r_if, r_set, r_asg, r_put, r_attr, r_var, r_c, r_bin, r_un, r_fn, r_fnL, r_call, r_make, made_ok, made_exc, r_eattr, r_ixL, r_new, r_tup, r_disp, r_few, r_eif, r_eand, r_eor, r_enot, r_acons, r_anil, r_astar, r_astarL, r_val, r_tru, r_not, r_and, r_or, r_chain, r_inL, r_m1, r_joinL, r_sl, r_pno, r_pat, v_add, v_sub, v_mod, v_div, v_neg, v_lt, v_le, v_gt, v_ge, v_isN, v_notN, v_intI, v_intB, v_abs, v_strS, v_ixT, v_ixF, v_eqI, v_neI, v_eqS, v_neS, r_lcomp, r_pval, r_pseq, r_plist, r_planT, r_planS, r_tryO, r_tryA, seq_exc, of_exc, tryO_rt, tryO_nx, tryA_rt, tryA_nx, r_raise, r_raise1, r_xattr, r_slS, r_join, r_dget, r_dict0, r_dput, r_mkx, r_app, i0, e1]
  | some b =>
    have hO : OutW t = [.str b.word, b.w] := by unfold OutW; rw [q]
    rw [hO] at hn hd
    obtain ⟨w, hw, hb⟩ := first_kind q
    have hbw : b.w = w := by rcases hb with rfl | rfl | rfl <;> rfl
    have hwd : Good b.word ∧ decide (b.word = [109, 97, 100, 101]) = false := by rcases hb with rfl | rfl | rfl <;> exact ⟨gd _ rfl, rfl⟩
    have i0 : wIx (.ref d) (.int 0) m' = .ok (.str b.word) m' := (v_ixR hd).trans at0
    obtain ⟨M', e1⟩ := held_thing hwd.1 hn hd (by rw [hbw]; exact (hA.th w hw).1.ext E)
    refine ⟨M', ?_⟩
    unfold askB
    simp only [List.length_cons, List.length_nil, Nat.reduceAdd, Nat.reduceEqDiff, if_true, List.map_cons, List.map_nil, Nat.reduceSub, List.replicate, List.cons_append, List.nil_append, R.bind_ok, R.bind_exc, R.bind_bad, R.nox_ok, RS.of_ok, RS.of_exc, List.getElem?_cons_zero, List.getElem?_cons_succ, List.set_cons_zero, List.set_cons_succ, Bool.not_true, Bool.not_false, Bool.false_eq_true, if_false, isNon, gSet, Int.reduceLT, Int.reduceLE, Int.reduceNeg, and_self, Nat.reduceLeDiff, Nat.reduceMul, decide_true, decide_false, Int.reduceEq, eq_self, reduceCtorEq, seq_nx, seq_rt, seq_bad, of_rt, of_nx, trd_rt, trd_nx, r_defn, r_seq, r_try, r_nil, r_expr, r_ret, r_if, r_set, r_asg, r_put, r_attr, r_var, r_c, r_bin, r_un, r_fn, r_fnL, r_call, r_make, made_ok, made_exc, r_eattr, r_ixL, r_new, r_tup, r_disp, r_few, r_eif, r_eand, r_eor, r_enot, r_acons, r_anil, r_astar, r_astarL, r_val, r_tru, r_not, r_and, r_or, r_chain, r_inL, r_m1, r_joinL, r_sl, r_pno, r_pat, v_add, v_sub, v_mod, v_div, v_neg, v_lt, v_le, v_gt, v_ge, v_isN, v_notN, v_intI, v_intB, v_abs, v_strS, v_ixT, v_ixF, v_eqI, v_neI, v_eqS, v_neS, r_lcomp, r_pval, r_pseq, r_plist, r_planT, r_planS, r_tryO, r_tryA, seq_exc, of_exc, tryO_rt, tryO_nx, tryA_rt, tryA_nx, r_raise, r_raise1, r_xattr, r_slS, r_join, r_dget, r_dict0, r_dput, r_mkx, r_app, i0, hwd.2, e1]
end K02

namespace K02
open PySem Sh
/-! ### a cell's turn -/
def cellB : DS := sSeq (sSet 2 (eCall d__law_pile (aCons (eVar 0) (aCons (eVar 1) (aNil))))) (sSeq (sSet 3 (eFn bList (aCons (eCall d__law_any_statement (aCons (eVar 2) (aNil))) (aNil)))) (sSeq (sFor (pRange1 (aCons (eCall d__law_take (aCons (eVar 2) (aCons (eC (.int 4)) (aNil)))) (aNil))) (gSet 4) (sSeq (sSet 7 (eBin wAdd (eC (.int 1)) (eCall d__law_take (aCons (eVar 2) (aCons (eBin wSub (eFn bLen (aCons (eVar 3) (aNil))) (eC (.int 1))) (aNil)))))) (sSeq (sSet 8 (eNew (lDisp (aCons (eCall d__law_odd (aCons (eVar 2) (aNil))) (aCons (eC (.int 1000000)) (aCons (eUn wNeg (eC (.int 1000000))) (aCons (eC (.str [97, 98, 99, 100, 101, 102, 103, 104])) (aCons (eC (.int 2)) (aCons (eC (.str [97, 100, 100])) (aCons (eC (.str [100, 105, 118])) (aCons (eTup (aCons (eC (.str [97])) (aCons (eC (.str [97, 100, 100])) (aCons (eC (.str [98])) (aNil))))) (aNil)))))))))))) (sPut (eVar 3) (eVar 7) (eBin wIx (eVar 8) (eCall d__law_take (aCons (eVar 2) (aCons (eC (.int 8)) (aNil))))))))) (sSeq (sSet 5 (eCall d__law_due (aCons (eVar 3) (aNil)))) (sSeq (sSet 6 (eCall d__law_told (aCons (eFn bTup (aCons (eVar 3) (aNil))) (aNil)))) (sIf (tOr (tAnd (tVal (eBin wEq0 (eBin wIx (eVar 5) (eC (.int 0))) (eC (.str [109, 97, 100, 101])))) (tVal (eBin wNe0 (eVar 6) (eVar 5)))) (tAnd (tVal (eBin wNe0 (eBin wIx (eVar 5) (eC (.int 0))) (eC (.str [109, 97, 100, 101])))) (tNot (tVal (eCall d__law_held (aCons (eVar 6) (aCons (eVar 5) (aNil)))))))) (sRet (eC (.bl false))) (sNil))))))
theorem cell_eq : cellB = sSeq (sSet 2 (eCall d__law_pile (aCons (eVar 0) (aCons (eVar 1) (aNil))))) (sSeq (sSet 3 (eFn bList (aCons (eCall d__law_any_statement (aCons (eVar 2) (aNil))) (aNil)))) (sSeq (sFor turnsP (gSet 4) putB) (sSeq (sSet 5 (eCall d__law_due (aCons (eVar 3) (aNil)))) (sSeq (sSet 6 (eCall d__law_told (aCons (eFn bTup (aCons (eVar 3) (aNil))) (aNil)))) askB)))) := rfl
theorem listT (ws : List W) (m : Mem) : bList [.tup ws] m = .ok (.ref m.length) (m ++ [.lst ws]) := rfl
theorem things_ok {s : St} (h : s.ok) (p L : Nat) (m : Mem) : ∀ w ∈ (ofSt s).args, Thing m w ∧ w ≠ .ref p ∧ w ≠ .ref L := by
  have hm : ∀ l ∈ menu, (decide (l.length ≤ 1000) && l.all (· < 128)) = true := by decide
  have hop : ∀ l ∈ ops, (decide (l.length ≤ 1000) && l.all (· < 128)) = true := by decide
  have f1 : ∀ l ∈ menu, Thing m (.str l) ∧ W.str l ≠ .ref p ∧ W.str l ≠ .ref L := fun l hl => ⟨.str (gd l (hm l hl)), fun e => (by cases e), fun e => by cases e⟩
  have f2 : ∀ l ∈ ops, Thing m (.str l) ∧ W.str l ≠ .ref p ∧ W.str l ≠ .ref L := fun l hl => ⟨.str (gd l (hop l hl)), fun e => (by cases e), fun e => by cases e⟩
  have f3 : ∀ v : Vl, v.ok → Thing m v.w ∧ v.w ≠ .ref p ∧ v.w ≠ .ref L := fun v hv => by
    cases v with
    | nm l => exact f1 l hv
    | nu i =>
      have hv : -999999 ≤ i ∧ i ≤ 999999 := hv
      exact ⟨.int (by omega) (by omega), fun e => (by cases e), fun e => by cases e⟩
  cases s with
  | set x a op b =>
    obtain ⟨h1, h2, h3, h4⟩ := h
    intro w hw
    simp only [ofSt, T4.args, List.mem_cons, List.not_mem_nil, or_false] at hw
    rcases hw with rfl | rfl | rfl | rfl
    · exact f1 _ h1
    · exact f3 _ h2
    · exact f2 _ h3
    · exact f3 _ h4
  | copy x a =>
    obtain ⟨h1, h2⟩ := h
    intro w hw
    simp only [ofSt, T4.args, List.mem_cons, List.not_mem_nil, or_false] at hw
    rcases hw with rfl | rfl
    · exact f1 _ h1
    · exact f3 _ h2
  | read x =>
    intro w hw
    simp only [ofSt, T4.args, List.mem_cons, List.not_mem_nil, or_false] at hw
    subst hw; exact f1 _ h
  | write a =>
    intro w hw
    simp only [ofSt, T4.args, List.mem_cons, List.not_mem_nil, or_false] at hw
    subst hw; exact f3 _ h
theorem cell_ok (ns : List Int) (k : Nat) (hk : k < 40) (m : Mem) (x2 x3 x4 x5 x6 x7 x8 : Option W) : ∃ x2' x3' x4' x5' x6' x7' x8' m', cellB [some (.frz (ns.map W.int)), some (.int (0 + (k : Int))), x2, x3, x4, x5, x6, x7, x8] m = .nx [some (.frz (ns.map W.int)), some (.int (0 + (k : Int))), x2', x3', x4', x5', x6', x7', x8'] m' := by
  obtain ⟨d, c, b, e1⟩ := pile_ok ns (0 + (k : Int)) m (by omega) (by omega)
  have hp : PileAt m.length (m ++ [pileO d c (97 * (0 + (k : Int))) b]) 10000 := ⟨d, c, _, b, last_get, by omega, by omega⟩
  generalize hM1 : m ++ [pileO d c (97 * (0 + (k : Int))) b] = M1 at e1 hp
  obtain ⟨s, M2, z, e2, hs, hp2, hz2, hG2⟩ := any_ok m.length M1 10000 hp (by omega)
  have hlt := hp2.lt
  have ht : s.tup = .tup (ofSt s).list := by cases s <;> rfl
  have hA : Args m.length M2.length (ofSt s) (M2 ++ [.lst (ofSt s).list]) := ⟨last_get, things_ok hs _ _ _, hlt⟩
  obtain ⟨t, x4', x7', x8', M3, e3, hA3⟩ := puts_ok hA hp2.app (by omega) (some (.frz (ns.map W.int))) (some (.int (0 + (k : Int)))) x4 x5 x6 x7 x8
  obtain ⟨nd, M4, e4, E4, g4⟩ := due_ty hA3.at_ (fun w hw => (hA3.th w hw).1.ty)
  have hL4 := E4.get hA3.at_
  obtain ⟨nt, M5, e5, E5, g5⟩ := told_ty t M4 (list_ty hA3 E4)
  obtain ⟨M6, e6⟩ := ask_ok (n := nt) (d := nd) hA3 (E4.trans E5) g5 (E5.get g4) (some (.frz (ns.map W.int))) (some (.int (0 + (k : Int)))) (some (.ref m.length)) (some (.ref M2.length)) x4' x7' x8'
  refine ⟨some (.ref m.length), some (.ref M2.length), x4', some (.ref nd), some (.ref nt), x7', x8', M6, ?_⟩
  rw [cell_eq]
  have s1 : sSet 2 (eCall d__law_pile (aCons (eVar 0) (aCons (eVar 1) (aNil)))) [some (.frz (ns.map W.int)), some (.int (0 + (k : Int))), x2, x3, x4, x5, x6, x7, x8] m = .nx [some (.frz (ns.map W.int)), some (.int (0 + (k : Int))), some (.ref m.length), x3, x4, x5, x6, x7, x8] M1 := by
    simp only [List.length_cons, List.length_nil, Nat.reduceAdd, Nat.reduceEqDiff, if_true, List.map_cons, List.map_nil, Nat.reduceSub, List.replicate, List.cons_append, List.nil_append, R.bind_ok, R.bind_exc, R.bind_bad, R.nox_ok, RS.of_ok, RS.of_exc, List.getElem?_cons_zero, List.getElem?_cons_succ, List.set_cons_zero, List.set_cons_succ, Bool.not_true, Bool.not_false, Bool.false_eq_true, if_false, isNon, gSet, Int.reduceLT, Int.reduceLE, Int.reduceNeg, and_self, Nat.reduceLeDiff, Nat.reduceMul, decide_true, decide_false, Int.reduceEq, eq_self, reduceCtorEq, seq_nx, seq_rt, seq_bad, of_rt, of_nx, trd_rt, trd_nx, r_defn, r_seq, r_try, r_nil, r_expr, r_ret, r_if, r_set, r_asg, r_put, r_attr, r_var, r_c, r_bin, r_un, r_fn, r_fnL, r_call, r_make, made_ok, made_exc, r_eattr, r_ixL, r_new, r_tup, r_disp, r_few, r_eif, r_eand, r_eor, r_enot, r_acons, r_anil, r_astar, r_astarL, r_val, r_tru, r_not, r_and, r_or, r_chain, r_inL, r_m1, r_joinL, r_sl, r_pno, r_pat, v_add, v_sub, v_mod, v_div, v_neg, v_lt, v_le, v_gt, v_ge, v_isN, v_notN, v_intI, v_intB, v_abs, v_strS, v_ixT, v_ixF, v_eqI, v_neI, v_eqS, v_neS, r_lcomp, r_pval, r_pseq, r_plist, r_planT, r_planS, r_tryO, r_tryA, seq_exc, of_exc, tryO_rt, tryO_nx, tryA_rt, tryA_nx, r_raise, r_raise1, r_xattr, r_slS, r_join, r_dget, r_dict0, r_dput, r_mkx, r_app, e1]
  have s2 : sSet 3 (eFn bList (aCons (eCall d__law_any_statement (aCons (eVar 2) (aNil))) (aNil))) [some (.frz (ns.map W.int)), some (.int (0 + (k : Int))), some (.ref m.length), x3, x4, x5, x6, x7, x8] M1 = .nx [some (.frz (ns.map W.int)), some (.int (0 + (k : Int))), some (.ref m.length), some (.ref M2.length), x4, x5, x6, x7, x8] (M2 ++ [.lst (ofSt s).list]) := by
    simp only [List.length_cons, List.length_nil, Nat.reduceAdd, Nat.reduceEqDiff, if_true, List.map_cons, List.map_nil, Nat.reduceSub, List.replicate, List.cons_append, List.nil_append, R.bind_ok, R.bind_exc, R.bind_bad, R.nox_ok, RS.of_ok, RS.of_exc, List.getElem?_cons_zero, List.getElem?_cons_succ, List.set_cons_zero, List.set_cons_succ, Bool.not_true, Bool.not_false, Bool.false_eq_true, if_false, isNon, gSet, Int.reduceLT, Int.reduceLE, Int.reduceNeg, and_self, Nat.reduceLeDiff, Nat.reduceMul, decide_true, decide_false, Int.reduceEq, eq_self, reduceCtorEq, seq_nx, seq_rt, seq_bad, of_rt, of_nx, trd_rt, trd_nx, r_defn, r_seq, r_try, r_nil, r_expr, r_ret, r_if, r_set, r_asg, r_put, r_attr, r_var, r_c, r_bin, r_un, r_fn, r_fnL, r_call, r_make, made_ok, made_exc, r_eattr, r_ixL, r_new, r_tup, r_disp, r_few, r_eif, r_eand, r_eor, r_enot, r_acons, r_anil, r_astar, r_astarL, r_val, r_tru, r_not, r_and, r_or, r_chain, r_inL, r_m1, r_joinL, r_sl, r_pno, r_pat, v_add, v_sub, v_mod, v_div, v_neg, v_lt, v_le, v_gt, v_ge, v_isN, v_notN, v_intI, v_intB, v_abs, v_strS, v_ixT, v_ixF, v_eqI, v_neI, v_eqS, v_neS, r_lcomp, r_pval, r_pseq, r_plist, r_planT, r_planS, r_tryO, r_tryA, seq_exc, of_exc, tryO_rt, tryO_nx, tryA_rt, tryA_nx, r_raise, r_raise1, r_xattr, r_slS, r_join, r_dget, r_dict0, r_dput, r_mkx, r_app, e2, ht, listT]
  have s4 : sSet 5 (eCall d__law_due (aCons (eVar 3) (aNil))) [some (.frz (ns.map W.int)), some (.int (0 + (k : Int))), some (.ref m.length), some (.ref M2.length), x4', x5, x6, x7', x8'] M3 = .nx [some (.frz (ns.map W.int)), some (.int (0 + (k : Int))), some (.ref m.length), some (.ref M2.length), x4', some (.ref nd), x6, x7', x8'] M4 := by
    simp only [List.length_cons, List.length_nil, Nat.reduceAdd, Nat.reduceEqDiff, if_true, List.map_cons, List.map_nil, Nat.reduceSub, List.replicate, List.cons_append, List.nil_append, R.bind_ok, R.bind_exc, R.bind_bad, R.nox_ok, RS.of_ok, RS.of_exc, List.getElem?_cons_zero, List.getElem?_cons_succ, List.set_cons_zero, List.set_cons_succ, Bool.not_true, Bool.not_false, Bool.false_eq_true, if_false, isNon, gSet, Int.reduceLT, Int.reduceLE, Int.reduceNeg, and_self, Nat.reduceLeDiff, Nat.reduceMul, decide_true, decide_false, Int.reduceEq, eq_self, reduceCtorEq, seq_nx, seq_rt, seq_bad, of_rt, of_nx, trd_rt, trd_nx, r_defn, r_seq, r_try, r_nil, r_expr, r_ret, r_if, r_set, r_asg, r_put, r_attr, r_var, r_c, r_bin, r_un, r_fn, r_fnL, r_call, r_make, made_ok, made_exc, r_eattr, r_ixL, r_new, r_tup, r_disp, r_few, r_eif, r_eand, r_eor, r_enot, r_acons, r_anil, r_astar, r_astarL, r_val, r_tru, r_not, r_and, r_or, r_chain, r_inL, r_m1, r_joinL, r_sl, r_pno, r_pat, v_add, v_sub, v_mod, v_div, v_neg, v_lt, v_le, v_gt, v_ge, v_isN, v_notN, v_intI, v_intB, v_abs, v_strS, v_ixT, v_ixF, v_eqI, v_neI, v_eqS, v_neS, r_lcomp, r_pval, r_pseq, r_plist, r_planT, r_planS, r_tryO, r_tryA, seq_exc, of_exc, tryO_rt, tryO_nx, tryA_rt, tryA_nx, r_raise, r_raise1, r_xattr, r_slS, r_join, r_dget, r_dict0, r_dput, r_mkx, r_app, e4]
  have s5 : sSet 6 (eCall d__law_told (aCons (eFn bTup (aCons (eVar 3) (aNil))) (aNil))) [some (.frz (ns.map W.int)), some (.int (0 + (k : Int))), some (.ref m.length), some (.ref M2.length), x4', some (.ref nd), x6, x7', x8'] M4 = .nx [some (.frz (ns.map W.int)), some (.int (0 + (k : Int))), some (.ref m.length), some (.ref M2.length), x4', some (.ref nd), some (.ref nt), x7', x8'] M5 := by
    simp only [List.length_cons, List.length_nil, Nat.reduceAdd, Nat.reduceEqDiff, if_true, List.map_cons, List.map_nil, Nat.reduceSub, List.replicate, List.cons_append, List.nil_append, R.bind_ok, R.bind_exc, R.bind_bad, R.nox_ok, RS.of_ok, RS.of_exc, List.getElem?_cons_zero, List.getElem?_cons_succ, List.set_cons_zero, List.set_cons_succ, Bool.not_true, Bool.not_false, Bool.false_eq_true, if_false, isNon, gSet, Int.reduceLT, Int.reduceLE, Int.reduceNeg, and_self, Nat.reduceLeDiff, Nat.reduceMul, decide_true, decide_false, Int.reduceEq, eq_self, reduceCtorEq, seq_nx, seq_rt, seq_bad, of_rt, of_nx, trd_rt, trd_nx, r_defn, r_seq, r_try, r_nil, r_expr, r_ret, r_if, r_set, r_asg, r_put, r_attr, r_var, r_c, r_bin, r_un, r_fn, r_fnL, r_call, r_make, made_ok, made_exc, r_eattr, r_ixL, r_new, r_tup, r_disp, r_few, r_eif, r_eand, r_eor, r_enot, r_acons, r_anil, r_astar, r_astarL, r_val, r_tru, r_not, r_and, r_or, r_chain, r_inL, r_m1, r_joinL, r_sl, r_pno, r_pat, v_add, v_sub, v_mod, v_div, v_neg, v_lt, v_le, v_gt, v_ge, v_isN, v_notN, v_intI, v_intB, v_abs, v_strS, v_ixT, v_ixF, v_eqI, v_neI, v_eqS, v_neS, r_lcomp, r_pval, r_pseq, r_plist, r_planT, r_planS, r_tryO, r_tryA, seq_exc, of_exc, tryO_rt, tryO_nx, tryA_rt, tryA_nx, r_raise, r_raise1, r_xattr, r_slS, r_join, r_dget, r_dict0, r_dput, r_mkx, r_app, tupR hL4, e5]
  rw [r_seq, s1, seq_nx, r_seq, s2, seq_nx, r_seq, e3, seq_nx, r_seq, s4, seq_nx, r_seq, s5, seq_nx, e6]
/-! ### great numbers -/
def B1 : Int := 10 ^ 50
theorem B1_pos : 1 ≤ B1 := by unfold B1; decide
theorem B1_big : (10 ^ 50 : Int).natAbs < 2 ^ 167 := by decide
theorem pow_ge (i : Nat) : 1 ≤ B1 ^ i := by
  induction i with
  | zero => simp
  | succ i ih =>
    rw [Int.pow_succ]
    have := B1_pos
    calc (1 : Int) = 1 * 1 := by simp
      _ ≤ B1 ^ i * B1 := Int.mul_le_mul ih this (by decide) (by omega)
theorem pow_abs (i : Nat) : (B1 ^ i).natAbs ≤ 2 ^ (167 * i) := by
  have h : (B1).natAbs ≤ 2 ^ 167 := Nat.le_of_lt B1_big
  rw [Int.natAbs_pow, Nat.pow_mul]
  exact Nat.pow_le_pow_left h i
theorem pow_big {i : Nat} (h : i ≤ 100) : (B1 ^ i).natAbs < big := Nat.lt_of_le_of_lt (pow_abs i) (Nat.pow_lt_pow_right (by decide) (by omega))
def G : Int := B1 ^ 60
theorem G_ge : 1000000 ≤ G := by
  have h1 := pow_ge 59
  have h2 : (1000000 : Int) ≤ B1 := by unfold B1; decide
  show (1000000 : Int) ≤ B1 ^ (59 + 1)
  rw [Int.pow_succ]
  calc (1000000 : Int) = 1 * 1000000 := by simp
    _ ≤ B1 ^ 59 * B1 := Int.mul_le_mul h1 h2 (by decide) (by omega)
def mulB : DS := sSet 0 (eBin wMul (eVar 0) (eBin wPow (eC (.int 10)) (eC (.int 50))))
theorem plan60 (σ : Sh.Loc) (m : Mem) : pRange1 (aCons (eC (.int 60)) (aNil)) σ m = .ok ⟨60, srcRange 0 60⟩ m := rfl
theorem muls_ok (x2 x3 : Option W) (m : Mem) : ∃ x1, sFor (pRange1 (aCons (eC (.int 60)) (aNil))) (gSet 1) mulB [some (.int 1), none, x2, x3] m = .nx [some (.int G), x1, x2, x3] m := by
  unfold sFor
  rw [plan60, RS.of_ok]
  obtain ⟨σ', m', e, x1, rfl, rfl⟩ := forLoop_nx (src := srcRange 0 60) (h := gSet 1) (b := mulB) (N := 60)
    (fun i σ' m' => ∃ x1, σ' = [some (.int (B1 ^ i)), x1, x2, x3] ∧ m' = m)
    (fun i σ m1 hi ⟨y1, hσ, hm⟩ => by
      subst hσ; subst hm
      have em : wMul (.int (B1 ^ i)) (.int (10 ^ 50)) m1 = .ok (.int (B1 ^ (i + 1))) m1 := by
        rw [Int.pow_succ]
        unfold wMul
        exact if_pos ⟨pow_big (by omega), Nat.lt_trans B1_big (Nat.pow_lt_pow_right (by decide) (by decide))⟩
      refine ⟨.int (0 + (i : Int)), [some (.int (B1 ^ i)), some (.int (0 + (i : Int))), x2, x3], m1, [some (.int (B1 ^ (i + 1))), some (.int (0 + (i : Int))), x2, x3], m1, ?_, rfl, ?_, some (.int (0 + (i : Int))), rfl, rfl⟩
      · show some (if i < 60 then _ else _) = _
        rw [if_pos hi]
      · unfold mulB
        simp only [List.length_cons, List.length_nil, Nat.reduceAdd, Nat.reduceEqDiff, if_true, List.map_cons, List.map_nil, Nat.reduceSub, List.replicate, List.cons_append, List.nil_append, R.bind_ok, R.bind_exc, R.bind_bad, R.nox_ok, RS.of_ok, RS.of_exc, List.getElem?_cons_zero, List.getElem?_cons_succ, List.set_cons_zero, List.set_cons_succ, Bool.not_true, Bool.not_false, Bool.false_eq_true, if_false, isNon, gSet, Int.reduceLT, Int.reduceLE, Int.reduceNeg, and_self, Nat.reduceLeDiff, Nat.reduceMul, decide_true, decide_false, Int.reduceEq, eq_self, reduceCtorEq, seq_nx, seq_rt, seq_bad, of_rt, of_nx, trd_rt, trd_nx, r_defn, r_seq, r_try, r_nil, r_expr, r_ret, r_if, r_set, r_asg, r_put, r_attr, r_var, r_c, r_bin, r_un, r_fn, r_fnL, r_call, r_make, made_ok, made_exc, r_eattr, r_ixL, r_new, r_tup, r_disp, r_few, r_eif, r_eand, r_eor, r_enot, r_acons, r_anil, r_astar, r_astarL, r_val, r_tru, r_not, r_and, r_or, r_chain, r_inL, r_m1, r_joinL, r_sl, r_pno, r_pat, v_add, v_sub, v_mod, v_div, v_neg, v_lt, v_le, v_gt, v_ge, v_isN, v_notN, v_intI, v_intB, v_abs, v_strS, v_ixT, v_ixF, v_eqI, v_neI, v_eqS, v_neS, r_lcomp, r_pval, r_pseq, r_plist, r_planT, r_planS, r_tryO, r_tryA, seq_exc, of_exc, tryO_rt, tryO_nx, tryA_rt, tryA_nx, r_raise, r_raise1, r_xattr, r_slS, r_join, r_dget, r_dict0, r_dput, r_mkx, r_app, p50, em])
    (fun σ m' _ => rfl) 60 0 [some (.int 1), none, x2, x3] m (by omega) ⟨none, rfl, rfl⟩
  exact ⟨x1, e⟩
def greatB : DS := sSeq (sSet 3 (eCall d__law_told (aCons (eVar 2) (aNil)))) (sIf (tOr (tVal (eInL true (eBin wIx (eVar 3) (eC (.int 0))) (lDisp (aCons (eC (.str [118, 97, 108, 117, 101])) (aCons (eC (.str [110, 97, 109, 101])) (aNil)))))) (tVal (eBin wNe0 (eFn bAbs (aCons (eBin wIx (eVar 3) (eC (.int 1))) (aNil))) (eVar 0)))) (sRet (eC (.bl false))) (sNil))
def greats : List T4 := [.write (.int G), .copy (.str [120]) (.int (0 - G)), .set (.str [120]) (.int G) (.str [97, 100, 100]) (.int 1), .read (.int G)]
theorem great_one {t : T4} {b : Bad} {i : Int} (hf : t.first = some b) (hw : b.w = .int i) (hi : (if i < 0 then -i else i) = G) (hb : b.word = kName ∨ b.word = kValue) (hT : ∀ m : Mem, ∀ w ∈ t.args, Ty m w) (x1 x3 : Option W) (m : Mem) :
    ∃ x3' m', greatB [some (.int G), x1, some (.tup t.list), x3] m = .nx [some (.int G), x1, some (.tup t.list), x3'] m' := by
  obtain ⟨n, m', e, E, g⟩ := told_ty t m (hT m)
  unfold OutW at g
  rw [hf] at g
  simp only [hw] at g
  have i0 : wIx (.ref n) (.int 0) m' = .ok (.str b.word) m' := (v_ixR g).trans at0
  have i1 : wIx (.ref n) (.int 1) m' = .ok (.int i) m' := (v_ixR g).trans at1
  have iD : inD (.str b.word) [.str [118, 97, 108, 117, 101], .str [110, 97, 109, 101]] m' = .ok true m' := by rcases hb with h | h <;> (rw [h]; rfl)
  have ea : decide ((if i < 0 then -i else i) = G) = true := decide_eq_true hi
  refine ⟨some (.ref n), m', ?_⟩
  unfold greatB
  simp only [List.length_cons, List.length_nil, Nat.reduceAdd, Nat.reduceEqDiff, if_true, List.map_cons, List.map_nil, Nat.reduceSub, List.replicate, List.cons_append, List.nil_append, R.bind_ok, R.bind_exc, R.bind_bad, R.nox_ok, RS.of_ok, RS.of_exc, List.getElem?_cons_zero, List.getElem?_cons_succ, List.set_cons_zero, List.set_cons_succ, Bool.not_true, Bool.not_false, Bool.false_eq_true, if_false, isNon, gSet, Int.reduceLT, Int.reduceLE, Int.reduceNeg, and_self, Nat.reduceLeDiff, Nat.reduceMul, decide_true, decide_false, Int.reduceEq, eq_self, reduceCtorEq, seq_nx, seq_rt, seq_bad, of_rt, of_nx, trd_rt, trd_nx, r_defn, r_seq, r_try, r_nil, r_expr, r_ret, r_if, r_set, r_asg, r_put, r_attr, r_var, r_c, r_bin, r_un, r_fn, r_fnL, r_call, r_make, made_ok, made_exc, r_eattr, r_ixL, r_new, r_tup, r_disp, r_few, r_eif, r_eand, r_eor, r_enot, r_acons, r_anil, r_astar, r_astarL, r_val, r_tru, r_not, r_and, r_or, r_chain, r_inL, r_m1, r_joinL, r_sl, r_pno, r_pat, v_add, v_sub, v_mod, v_div, v_neg, v_lt, v_le, v_gt, v_ge, v_isN, v_notN, v_intI, v_intB, v_abs, v_strS, v_ixT, v_ixF, v_eqI, v_neI, v_eqS, v_neS, r_lcomp, r_pval, r_pseq, r_plist, r_planT, r_planS, r_tryO, r_tryA, seq_exc, of_exc, tryO_rt, tryO_nx, tryA_rt, tryA_nx, r_raise, r_raise1, r_xattr, r_slS, r_join, r_dget, r_dict0, r_dput, r_mkx, r_app, e, i0, i1, iD, ea]
theorem greats_ok {t : T4} (ht : t ∈ greats) (x1 x3 : Option W) (m : Mem) : ∃ x3' m', greatB [some (.int G), x1, some (.tup t.list), x3] m = .nx [some (.int G), x1, some (.tup t.list), x3'] m' := by
  have hG := G_ge
  have v0 : ∀ i : Int, ¬ (-999999 ≤ i ∧ i ≤ 999999) → vlW (.int i) = false := fun i h => decide_eq_false h
  have v1 : vlW (.int G) = false := v0 _ (by omega)
  have v2 : vlW (.int (0 - G)) = false := v0 _ (by omega)
  have n1 : nmW (.str [120]) = true := by rfl
  have n2 : nmW (.int G) = false := rfl
  have ty1 : ∀ (m : Mem) (l : List Nat), (decide (l.length ≤ 1000) && l.all (· < 128)) = true → Ty m (.str l) := fun m l h => .str (gd l h)
  simp only [greats, List.mem_cons, List.not_mem_nil, or_false] at ht
  rcases ht with rfl | rfl | rfl | rfl
  · exact great_one (b := bV (.int G)) (i := G) (by simp [T4.first, v1]) rfl (if_neg (by omega)) (.inr rfl) (fun m w hw => by
      simp only [T4.args, List.mem_cons, List.not_mem_nil, or_false] at hw
      subst hw; exact .int _) x1 x3 m
  · exact great_one (b := bV (.int (0 - G))) (i := 0 - G) (by simp only [T4.first, v2, n1]; rfl) rfl (by rw [if_pos (by omega)]; omega) (.inr rfl) (fun m w hw => by
      simp only [T4.args, List.mem_cons, List.not_mem_nil, or_false] at hw
      rcases hw with rfl | rfl
      · exact ty1 _ _ rfl
      · exact .int _) x1 x3 m
  · exact great_one (b := bV (.int G)) (i := G) (by simp [T4.first, v1, n1]) rfl (if_neg (by omega)) (.inr rfl) (fun m w hw => by
      simp only [T4.args, List.mem_cons, List.not_mem_nil, or_false] at hw
      rcases hw with rfl | rfl | rfl | rfl
      · exact ty1 _ _ rfl
      · exact .int _
      · exact ty1 _ _ rfl
      · exact .int _) x1 x3 m
  · exact great_one (b := bN (.int G)) (i := G) (by simp [T4.first, n2]) rfl (if_neg (by omega)) (.inl rfl) (fun m w hw => by
      simp only [T4.args, List.mem_cons, List.not_mem_nil, or_false] at hw
      subst hw; exact .int _) x1 x3 m
def greatP : DP := pList (lDisp (aCons (eTup (aCons (eC (.str [119, 114, 105, 116, 101])) (aCons (eVar 0) (aNil)))) (aCons (eTup (aCons (eC (.str [99, 111, 112, 121])) (aCons (eC (.str [120])) (aCons (eBin wSub (eC (.int 0)) (eVar 0)) (aNil))))) (aCons (eTup (aCons (eC (.str [115, 101, 116])) (aCons (eC (.str [120])) (aCons (eVar 0) (aCons (eC (.str [97, 100, 100])) (aCons (eC (.int 1)) (aNil))))))) (aCons (eTup (aCons (eC (.str [114, 101, 97, 100])) (aCons (eVar 0) (aNil)))) (aNil))))))
theorem great_ok (m : Mem) : ∃ m', d__law_great_refused [] m = .ok (.bl true) m' := by
  have hb : d__law_great_refused = defn 0 4 (sSeq (sSet 0 (eC (.int 1))) (sSeq (sFor (pRange1 (aCons (eC (.int 60)) (aNil))) (gSet 1) mulB) (sSeq (sFor greatP (gSet 2) greatB) (sRet (eC (.bl true)))))) := rfl
  obtain ⟨x1, e1⟩ := muls_ok none none m
  have hp : greatP [some (.int G), x1, none, none] m = .ok ⟨4, srcFix (greats.map fun t => W.tup t.list)⟩ m := by
    unfold greatP
    simp only [List.length_cons, List.length_nil, Nat.reduceAdd, Nat.reduceEqDiff, if_true, List.map_cons, List.map_nil, Nat.reduceSub, List.replicate, List.cons_append, List.nil_append, R.bind_ok, R.bind_exc, R.bind_bad, R.nox_ok, RS.of_ok, RS.of_exc, List.getElem?_cons_zero, List.getElem?_cons_succ, List.set_cons_zero, List.set_cons_succ, Bool.not_true, Bool.not_false, Bool.false_eq_true, if_false, isNon, gSet, Int.reduceLT, Int.reduceLE, Int.reduceNeg, and_self, Nat.reduceLeDiff, Nat.reduceMul, decide_true, decide_false, Int.reduceEq, eq_self, reduceCtorEq, seq_nx, seq_rt, seq_bad, of_rt, of_nx, trd_rt, trd_nx, r_defn, r_seq, r_try, r_nil, r_expr, r_ret, r_if, r_set, r_asg, r_put, r_attr, r_var, r_c, r_bin, r_un, r_fn, r_fnL, r_call, r_make, made_ok, made_exc, r_eattr, r_ixL, r_new, r_tup, r_disp, r_few, r_eif, r_eand, r_eor, r_enot, r_acons, r_anil, r_astar, r_astarL, r_val, r_tru, r_not, r_and, r_or, r_chain, r_inL, r_m1, r_joinL, r_sl, r_pno, r_pat, v_add, v_sub, v_mod, v_div, v_neg, v_lt, v_le, v_gt, v_ge, v_isN, v_notN, v_intI, v_intB, v_abs, v_strS, v_ixT, v_ixF, v_eqI, v_neI, v_eqS, v_neS, r_lcomp, r_pval, r_pseq, r_plist, r_planT, r_planS, r_tryO, r_tryA, seq_exc, of_exc, tryO_rt, tryO_nx, tryA_rt, tryA_nx, r_raise, r_raise1, r_xattr, r_slS, r_join, r_dget, r_dict0, r_dput, r_mkx, r_app]
    rfl
  obtain ⟨σ', m', e2, x2', x3', hσ⟩ := forLoop_nx (src := srcFix (greats.map fun t => W.tup t.list)) (h := gSet 2) (b := greatB) (N := 4)
    (fun i σ' m' => ∃ x2 x3, σ' = [some (.int G), x1, x2, x3])
    (fun i σ m1 hi ⟨y2, y3, hσ⟩ => by
      subst hσ
      have hl : i < greats.length := hi
      obtain ⟨y3', m2, e2⟩ := greats_ok (List.getElem_mem hl) x1 y3 m1
      exact ⟨.tup greats[i].list, _, _, _, m2, by show some (greats.map fun t => W.tup t.list)[i]? = _; simp [hl], rfl, e2, _, y3', rfl⟩)
    (fun σ m' _ => rfl) 4 0 _ m (by omega) ⟨none, none, rfl⟩
  refine ⟨m', ?_⟩
  rw [hb]
  have e3 : sFor greatP (gSet 2) greatB [some (.int G), x1, none, none] m = .nx σ' m' := by
    unfold sFor
    rw [hp, RS.of_ok]
    exact e2
  simp only [r_defn, List.length_nil, if_true, List.map_nil, Nat.reduceSub, List.replicate, List.nil_append]
  rw [r_seq, r_set, r_c, RS.of_ok, seq_nx, r_seq]
  simp only [List.set_cons_zero]
  rw [e1, seq_nx, r_seq, e3, seq_nx]
  rfl
theorem plan40 (σ : Sh.Loc) (m : Mem) : pRange1 (aCons (eC (.int 40)) (aNil)) σ m = .ok ⟨40, srcRange 0 40⟩ m := rfl
theorem law_true : ∀ ns : List Int, ns.length ≤ 63 → ∃ m, K02.d_law [.frz (ns.map W.int)] [] = .ok (.bl true) m := by
  intro ns _
  have hb : d_law = defn 1 9 (sSeq (sFor (pRange1 (aCons (eC (.int 40)) (aNil))) (gSet 1) cellB) (sRet (eCall d__law_great_refused aNil))) := rfl
  obtain ⟨σ', m', e2, hI⟩ := forLoop_nx (src := srcRange 0 40) (h := gSet 1) (b := cellB) (N := 40)
    (fun i σ' m' => ∃ x1 x2 x3 x4 x5 x6 x7 x8, σ' = [some (.frz (ns.map W.int)), x1, x2, x3, x4, x5, x6, x7, x8])
    (fun i σ m1 hi ⟨x1, x2, x3, x4, x5, x6, x7, x8, hσ⟩ => by
      subst hσ
      obtain ⟨x2', x3', x4', x5', x6', x7', x8', m2, e2⟩ := cell_ok ns i hi m1 x2 x3 x4 x5 x6 x7 x8
      exact ⟨.int (0 + (i : Int)), _, _, _, m2, by show some (if i < 40 then _ else _) = _; rw [if_pos hi], rfl, e2, _, x2', x3', x4', x5', x6', x7', x8', rfl⟩)
    (fun σ m' _ => rfl) 40 0 _ [] (by omega) ⟨none, none, none, none, none, none, none, none, rfl⟩
  obtain ⟨m3, e3⟩ := great_ok m'
  refine ⟨m3, ?_⟩
  rw [hb]
  simp only [r_defn, List.length_cons, List.length_nil, Nat.reduceAdd, if_true, List.map_cons, List.map_nil, Nat.reduceSub, List.replicate, List.cons_append, List.nil_append]
  have e4 : sFor (pRange1 (aCons (eC (.int 40)) (aNil))) (gSet 1) cellB [some (.frz (ns.map W.int)), none, none, none, none, none, none, none, none] [] = .nx σ' m' := by
    unfold sFor
    rw [plan40, RS.of_ok]
    exact e2
  rw [r_seq, e4, seq_nx, r_ret, r_call, r_anil, R.bind_ok, e3]
  rfl
end K02

open PySem PySem.W PyProof.Rows
set_option maxRecDepth 100000 in
set_option maxHeartbeats 0 in
theorem PySem.Challenge.cw_placedonce_k02_statements_refused_holds : PySem.Challenge.rw_placedonce_k02_statements_refused.Holds := by
  w_on; o_law; k_head; (case hw => w_witness2)
  k_fill
  refine Sh.walk_sh (l := PySem.Challenge.rw_placedonce_k02_statements_refused) (k := 10) (x := "_law_script") (F := K02.d_law) (by decide +kernel) rfl (by decide) rfl ⟨rfl, by decide, by decide⟩ (fun w h Y => PySem.W.kIn_of Y) ?FO K02.law_true
  case FO =>
    intro w mg fa h KX G hmg
    refine' K02.all_mk (P := PySem.Challenge.pw_placedonce_k02_statements_refused) KX G hmg ?z_range ?z_len ?z_int ?z_abs ?a__law_pile ?l__law_pile ?c__law_pile ?k__law_pile ?z_list ?a__law_mixed ?l__law_mixed ?c__law_mixed ?k__law_mixed ?a__law_take ?l__law_take ?c__law_take ?k__law_take ?a__law_drawn_word ?l__law_drawn_word ?c__law_drawn_word ?k__law_drawn_word ?a__law_drawn_value ?l__law_drawn_value ?c__law_drawn_value ?k__law_drawn_value ?a__law_any_statement ?l__law_any_statement ?c__law_any_statement ?k__law_any_statement ?a__law_odd ?l__law_odd ?c__law_odd ?k__law_odd ?a_NoName ?cd_NoName ?ct_NoName ?eC_NoName ?is_NoneType_NoName ?is_bool_NoName ?is_int_NoName ?is_str_NoName ?is_tuple_NoName ?is_list_NoName ?is_dict_NoName ?a_NoOperator ?cd_NoOperator ?ct_NoOperator ?eC_NoOperator ?is_NoneType_NoOperator ?is_bool_NoOperator ?is_int_NoOperator ?is_str_NoOperator ?is_tuple_NoOperator ?is_list_NoOperator ?is_dict_NoOperator ?a_NoValue ?cd_NoValue ?ct_NoValue ?eC_NoValue ?is_NoneType_NoValue ?is_bool_NoValue ?is_int_NoValue ?is_str_NoValue ?is_tuple_NoValue ?is_list_NoValue ?is_dict_NoValue ?xga_NoName ?xgt_NoName ?ia_NoName ?ig ?it ?im_NoName ?hd_NoName ?is_NoName_NoName ?is_NoName_NoOperator ?is_NoName_NoValue ?xga_NoValue ?xgt_NoValue ?ia_NoValue ?im_NoValue ?hd_NoValue ?is_NoValue_NoValue ?is_NoValue_NoName ?is_NoValue_NoOperator ?a_NoText ?cd_NoText ?ct_NoText ?eC_NoText ?xga_NoText ?xgt_NoText ?ia_NoText ?im_NoText ?hd_NoText ?is_NoText_NoText ?is_NoText_NoName ?is_NoText_NoOperator ?is_NoText_NoValue ?xga_NoOperator ?xgt_NoOperator ?ia_NoOperator ?im_NoOperator ?hd_NoOperator ?is_NoOperator_NoOperator ?is_NoOperator_NoName ?is_NoOperator_NoValue ?a_Statement ?cd_Statement ?ct_Statement ?is_NoneType_Statement ?is_bool_Statement ?is_int_Statement ?is_str_Statement ?is_tuple_Statement ?is_list_Statement ?is_dict_Statement ?a_Set ?pg_Set ?hd_Set ?po_Set ?sa_Set ?ia_Set ?im_Set ?is_Set_bool ?is_Set_dict ?is_Set_int ?is_Set_list ?is_Set_str ?is_Set_Set ?is_Set_Statement ?a_Copy ?pg_Copy ?hd_Copy ?po_Copy ?sa_Copy ?ia_Copy ?im_Copy ?is_Copy_bool ?is_Copy_dict ?is_Copy_int ?is_Copy_list ?is_Copy_str ?is_Copy_Copy ?is_Copy_Statement ?a_Read ?pg_Read ?hd_Read ?po_Read ?sa_Read ?ia_Read ?im_Read ?is_Read_bool ?is_Read_dict ?is_Read_int ?is_Read_list ?is_Read_str ?is_Read_Read ?is_Read_Statement ?a_Write ?pg_Write ?hd_Write ?po_Write ?sa_Write ?ia_Write ?im_Write ?is_Write_bool ?is_Write_dict ?is_Write_int ?is_Write_list ?is_Write_str ?is_Write_Write ?is_Write_Statement ?z_isinstance ?z_str ?a__law_is_name ?l__law_is_name ?c__law_is_name ?k__law_is_name ?z_bool ?a__law_whole ?l__law_whole ?c__law_whole ?k__law_whole ?a__law_is_value ?l__law_is_value ?c__law_is_value ?k__law_is_value ?a__law_due ?l__law_due ?c__law_due ?k__law_due ?v_MOST_LETTERS ?z_all ?v_LETTERS ?a_is_name ?l_is_name ?c_is_name ?k_is_name ?a_PlaceError ?xl_NoName ?xsa_NoName ?kc_NoName ?mi_NoName ?sc8_NoName___init__ ?l_NoName___init__ ?c_NoName___init__ ?sc1_NoName___init__ ?sc2_NoName___init__ ?sc3_NoName___init__ ?sc4_NoName___init__ ?xcm_NoName ?xve_NoName ?xnx_NoName ?z_super ?zst ?ztop ?xno_NoName_value ?a_must_be_name ?l_must_be_name ?c_must_be_name ?k_must_be_name ?n_Set_target ?n_Copy_target ?n_Read_target ?a_is_integer ?l_is_integer ?c_is_integer ?k_is_integer ?v_MOST_VALUE ?a_is_value ?l_is_value ?c_is_value ?k_is_value ?xl_NoValue ?xsa_NoValue ?kc_NoValue ?mi_NoValue ?sc8_NoValue___init__ ?l_NoValue___init__ ?c_NoValue___init__ ?sc1_NoValue___init__ ?sc2_NoValue___init__ ?sc3_NoValue___init__ ?sc4_NoValue___init__ ?xcm_NoValue ?xve_NoValue ?xnx_NoValue ?xno_NoValue_value ?a_must_be_value ?l_must_be_value ?c_must_be_value ?k_must_be_value ?co_Set_OPERATORS ?cg_Statement_OPERATORS ?co_Copy_OPERATORS ?co_Read_OPERATORS ?co_Write_OPERATORS ?xl_NoOperator ?xsa_NoOperator ?kc_NoOperator ?mi_NoOperator ?sc8_NoOperator___init__ ?l_NoOperator___init__ ?c_NoOperator___init__ ?sc1_NoOperator___init__ ?sc2_NoOperator___init__ ?sc3_NoOperator___init__ ?sc4_NoOperator___init__ ?xcm_NoOperator ?xve_NoOperator ?xnx_NoOperator ?xno_NoOperator_value ?n_Set_left ?n_Set_op ?n_Set_right ?mk_Set ?kc_Set ?mi_Set ?mf_Set___init__ ?l_Set___init__ ?c_Set___init__ ?sc1_Set___init__ ?sc2_Set___init__ ?sc3_Set___init__ ?sc4_Set___init__ ?sc5_Set___init__ ?sc6_Set ?sc7_Set ?sc8_Assign___init__ ?sc9_Assign___init__ ?n_Copy_value ?mk_Copy ?kc_Copy ?mi_Copy ?mf_Copy___init__ ?l_Copy___init__ ?c_Copy___init__ ?sc1_Copy___init__ ?sc2_Copy___init__ ?sc3_Copy___init__ ?sc4_Copy___init__ ?sc5_Copy___init__ ?sc6_Copy ?sc7_Copy ?mk_Read ?kc_Read ?mi_Read ?mf_Assign___init__ ?n_Write_value ?mk_Write ?kc_Write ?mi_Write ?mf_Write___init__ ?l_Write___init__ ?c_Write___init__ ?k_Write___init__ ?a__law_made ?l__law_made ?c__law_made ?k__law_made ?cd_PlaceError ?ct_PlaceError ?eC_PlaceError ?is_NoName_PlaceError ?is_NoValue_PlaceError ?is_NoText_PlaceError ?is_NoOperator_PlaceError ?xno_NoText_value ?pa_Set_words ?pg_Set_words ?pt_Set_words ?pr_Set_words_ ?pa_Copy_words ?pg_Copy_words ?pt_Copy_words ?pr_Copy_words_ ?pa_Read_words ?pg_Read_words ?pt_Read_words ?pr_Read_words_ ?pa_Write_words ?pg_Write_words ?pt_Write_words ?pr_Write_words_ ?co_Set_WORD ?cg_Set_WORD ?co_Copy_WORD ?cg_Copy_WORD ?co_Read_WORD ?cg_Read_WORD ?co_Write_WORD ?cg_Write_WORD ?pa_Set_text ?pg_Statement_text ?pt_Statement_text ?pr_Statement_text_ ?pa_Copy_text ?pa_Read_text ?pa_Write_text ?a__law_told ?l__law_told ?c__law_told ?k__law_told ?z_tuple ?z_repr ?a__law_alike ?l__law_alike ?c__law_alike ?k__law_alike ?z_dict ?a__law_held ?l__law_held ?c__law_held ?k__law_held ?a__law_great_refused ?l__law_great_refused ?c__law_great_refused ?k__law_great_refused ?a_law ?l_law ?c_law ?k_law ?tl_Statement_OPERATORS ?l_Assign___init__ ?c_Assign___init__ ?k_Assign___init__ ?l_Set_words ?c_Set_words ?k_Set_words ?l_Copy_words ?c_Copy_words ?k_Copy_words ?l_Read_words ?c_Read_words ?k_Read_words ?l_Write_words ?c_Write_words ?k_Write_words ?l_Statement_text ?c_Statement_text ?k_Statement_text
    (case z_range => k_is)
    (case z_len => k_is)
    (case z_int => k_is)
    (case z_abs => k_is)
    (case a__law_pile => k_is)
    (case l__law_pile => k_is)
    (case c__law_pile => k_is)
    (case k__law_pile => k_is)
    (case z_list => k_is)
    (case a__law_mixed => k_is)
    (case l__law_mixed => k_is)
    (case c__law_mixed => k_is)
    (case k__law_mixed => k_is)
    (case a__law_take => k_is)
    (case l__law_take => k_is)
    (case c__law_take => k_is)
    (case k__law_take => k_is)
    (case a__law_drawn_word => k_is)
    (case l__law_drawn_word => k_is)
    (case c__law_drawn_word => k_is)
    (case k__law_drawn_word => k_is)
    (case a__law_drawn_value => k_is)
    (case l__law_drawn_value => k_is)
    (case c__law_drawn_value => k_is)
    (case k__law_drawn_value => k_is)
    (case a__law_any_statement => k_is)
    (case l__law_any_statement => k_is)
    (case c__law_any_statement => k_is)
    (case k__law_any_statement => k_is)
    (case a__law_odd => k_is)
    (case l__law_odd => k_is)
    (case c__law_odd => k_is)
    (case k__law_odd => k_is)
    (case a_NoName => k_is)
    (case cd_NoName => k_is)
    (case ct_NoName => k_is)
    (case eC_NoName => k_is)
    (case is_NoneType_NoName => k_is)
    (case is_bool_NoName => k_is)
    (case is_int_NoName => k_is)
    (case is_str_NoName => k_is)
    (case is_tuple_NoName => k_is)
    (case is_list_NoName => k_is)
    (case is_dict_NoName => k_is)
    (case a_NoOperator => k_is)
    (case cd_NoOperator => k_is)
    (case ct_NoOperator => k_is)
    (case eC_NoOperator => k_is)
    (case is_NoneType_NoOperator => k_is)
    (case is_bool_NoOperator => k_is)
    (case is_int_NoOperator => k_is)
    (case is_str_NoOperator => k_is)
    (case is_tuple_NoOperator => k_is)
    (case is_list_NoOperator => k_is)
    (case is_dict_NoOperator => k_is)
    (case a_NoValue => k_is)
    (case cd_NoValue => k_is)
    (case ct_NoValue => k_is)
    (case eC_NoValue => k_is)
    (case is_NoneType_NoValue => k_is)
    (case is_bool_NoValue => k_is)
    (case is_int_NoValue => k_is)
    (case is_str_NoValue => k_is)
    (case is_tuple_NoValue => k_is)
    (case is_list_NoValue => k_is)
    (case is_dict_NoValue => k_is)
    (case xga_NoName => k_is)
    (case xgt_NoName => k_is)
    (case ia_NoName => k_is)
    (case ig => k_is)
    (case it => k_is)
    (case im_NoName => k_is)
    (case hd_NoName => k_is)
    (case is_NoName_NoName => k_is)
    (case is_NoName_NoOperator => k_is)
    (case is_NoName_NoValue => k_is)
    (case xga_NoValue => k_is)
    (case xgt_NoValue => k_is)
    (case ia_NoValue => k_is)
    (case im_NoValue => k_is)
    (case hd_NoValue => k_is)
    (case is_NoValue_NoValue => k_is)
    (case is_NoValue_NoName => k_is)
    (case is_NoValue_NoOperator => k_is)
    (case a_NoText => k_is)
    (case cd_NoText => k_is)
    (case ct_NoText => k_is)
    (case eC_NoText => k_is)
    (case xga_NoText => k_is)
    (case xgt_NoText => k_is)
    (case ia_NoText => k_is)
    (case im_NoText => k_is)
    (case hd_NoText => k_is)
    (case is_NoText_NoText => k_is)
    (case is_NoText_NoName => k_is)
    (case is_NoText_NoOperator => k_is)
    (case is_NoText_NoValue => k_is)
    (case xga_NoOperator => k_is)
    (case xgt_NoOperator => k_is)
    (case ia_NoOperator => k_is)
    (case im_NoOperator => k_is)
    (case hd_NoOperator => k_is)
    (case is_NoOperator_NoOperator => k_is)
    (case is_NoOperator_NoName => k_is)
    (case is_NoOperator_NoValue => k_is)
    (case a_Statement => k_is)
    (case cd_Statement => k_is)
    (case ct_Statement => k_is)
    (case is_NoneType_Statement => k_is)
    (case is_bool_Statement => k_is)
    (case is_int_Statement => k_is)
    (case is_str_Statement => k_is)
    (case is_tuple_Statement => k_is)
    (case is_list_Statement => k_is)
    (case is_dict_Statement => k_is)
    (case a_Set => k_is)
    (case pg_Set => k_is)
    (case hd_Set => k_is)
    (case po_Set => k_is)
    (case sa_Set => k_is)
    (case ia_Set => k_is)
    (case im_Set => k_is)
    (case is_Set_bool => k_is)
    (case is_Set_dict => k_is)
    (case is_Set_int => k_is)
    (case is_Set_list => k_is)
    (case is_Set_str => k_is)
    (case is_Set_Set => k_is)
    (case is_Set_Statement => k_is)
    (case a_Copy => k_is)
    (case pg_Copy => k_is)
    (case hd_Copy => k_is)
    (case po_Copy => k_is)
    (case sa_Copy => k_is)
    (case ia_Copy => k_is)
    (case im_Copy => k_is)
    (case is_Copy_bool => k_is)
    (case is_Copy_dict => k_is)
    (case is_Copy_int => k_is)
    (case is_Copy_list => k_is)
    (case is_Copy_str => k_is)
    (case is_Copy_Copy => k_is)
    (case is_Copy_Statement => k_is)
    (case a_Read => k_is)
    (case pg_Read => k_is)
    (case hd_Read => k_is)
    (case po_Read => k_is)
    (case sa_Read => k_is)
    (case ia_Read => k_is)
    (case im_Read => k_is)
    (case is_Read_bool => k_is)
    (case is_Read_dict => k_is)
    (case is_Read_int => k_is)
    (case is_Read_list => k_is)
    (case is_Read_str => k_is)
    (case is_Read_Read => k_is)
    (case is_Read_Statement => k_is)
    (case a_Write => k_is)
    (case pg_Write => k_is)
    (case hd_Write => k_is)
    (case po_Write => k_is)
    (case sa_Write => k_is)
    (case ia_Write => k_is)
    (case im_Write => k_is)
    (case is_Write_bool => k_is)
    (case is_Write_dict => k_is)
    (case is_Write_int => k_is)
    (case is_Write_list => k_is)
    (case is_Write_str => k_is)
    (case is_Write_Write => k_is)
    (case is_Write_Statement => k_is)
    (case z_isinstance => k_is)
    (case z_str => k_is)
    (case a__law_is_name => k_is)
    (case l__law_is_name => k_is)
    (case c__law_is_name => k_is)
    (case k__law_is_name => k_is)
    (case z_bool => k_is)
    (case a__law_whole => k_is)
    (case l__law_whole => k_is)
    (case c__law_whole => k_is)
    (case k__law_whole => k_is)
    (case a__law_is_value => k_is)
    (case l__law_is_value => k_is)
    (case c__law_is_value => k_is)
    (case k__law_is_value => k_is)
    (case a__law_due => k_is)
    (case l__law_due => k_is)
    (case c__law_due => k_is)
    (case k__law_due => k_is)
    (case v_MOST_LETTERS => k_is)
    (case z_all => k_is)
    (case v_LETTERS => k_is)
    (case a_is_name => k_is)
    (case l_is_name => k_is)
    (case c_is_name => k_is)
    (case k_is_name => k_is)
    (case a_PlaceError => k_is)
    (case xl_NoName => k_is)
    (case xsa_NoName => k_is)
    (case kc_NoName => k_is)
    (case mi_NoName => k_is)
    (case sc8_NoName___init__ => k_is)
    (case l_NoName___init__ => k_is)
    (case c_NoName___init__ => k_is)
    (case sc1_NoName___init__ => k_is)
    (case sc2_NoName___init__ => rfl)
    (case sc3_NoName___init__ => rfl)
    (case sc4_NoName___init__ => k_is)
    (case xcm_NoName => k_is)
    (case xve_NoName => k_is)
    (case xnx_NoName => ks_is)
    (case z_super => k_is)
    (case zst => k_is)
    (case ztop => rfl)
    (case xno_NoName_value => k_is)
    (case a_must_be_name => k_is)
    (case l_must_be_name => k_is)
    (case c_must_be_name => k_is)
    (case k_must_be_name => k_is)
    (case n_Set_target => k_is)
    (case n_Copy_target => k_is)
    (case n_Read_target => k_is)
    (case a_is_integer => k_is)
    (case l_is_integer => k_is)
    (case c_is_integer => k_is)
    (case k_is_integer => k_is)
    (case v_MOST_VALUE => k_is)
    (case a_is_value => k_is)
    (case l_is_value => k_is)
    (case c_is_value => k_is)
    (case k_is_value => k_is)
    (case xl_NoValue => k_is)
    (case xsa_NoValue => k_is)
    (case kc_NoValue => k_is)
    (case mi_NoValue => k_is)
    (case sc8_NoValue___init__ => k_is)
    (case l_NoValue___init__ => k_is)
    (case c_NoValue___init__ => k_is)
    (case sc1_NoValue___init__ => k_is)
    (case sc2_NoValue___init__ => rfl)
    (case sc3_NoValue___init__ => rfl)
    (case sc4_NoValue___init__ => k_is)
    (case xcm_NoValue => k_is)
    (case xve_NoValue => k_is)
    (case xnx_NoValue => ks_is)
    (case xno_NoValue_value => k_is)
    (case a_must_be_value => k_is)
    (case l_must_be_value => k_is)
    (case c_must_be_value => k_is)
    (case k_must_be_value => k_is)
    (case co_Set_OPERATORS => k_is)
    (case cg_Statement_OPERATORS => k_is)
    (case co_Copy_OPERATORS => k_is)
    (case co_Read_OPERATORS => k_is)
    (case co_Write_OPERATORS => k_is)
    (case xl_NoOperator => k_is)
    (case xsa_NoOperator => k_is)
    (case kc_NoOperator => k_is)
    (case mi_NoOperator => k_is)
    (case sc8_NoOperator___init__ => k_is)
    (case l_NoOperator___init__ => k_is)
    (case c_NoOperator___init__ => k_is)
    (case sc1_NoOperator___init__ => k_is)
    (case sc2_NoOperator___init__ => rfl)
    (case sc3_NoOperator___init__ => rfl)
    (case sc4_NoOperator___init__ => k_is)
    (case xcm_NoOperator => k_is)
    (case xve_NoOperator => k_is)
    (case xnx_NoOperator => ks_is)
    (case xno_NoOperator_value => k_is)
    (case n_Set_left => k_is)
    (case n_Set_op => k_is)
    (case n_Set_right => k_is)
    (case mk_Set => k_is)
    (case kc_Set => k_is)
    (case mi_Set => k_is)
    (case mf_Set___init__ => k_is)
    (case l_Set___init__ => k_is)
    (case c_Set___init__ => k_is)
    (case sc1_Set___init__ => k_is)
    (case sc2_Set___init__ => rfl)
    (case sc3_Set___init__ => rfl)
    (case sc4_Set___init__ => k_is)
    (case sc5_Set___init__ => k_is)
    (case sc6_Set => k_is)
    (case sc7_Set => ks_is)
    (case sc8_Assign___init__ => k_is)
    (case sc9_Assign___init__ => k_is)
    (case n_Copy_value => k_is)
    (case mk_Copy => k_is)
    (case kc_Copy => k_is)
    (case mi_Copy => k_is)
    (case mf_Copy___init__ => k_is)
    (case l_Copy___init__ => k_is)
    (case c_Copy___init__ => k_is)
    (case sc1_Copy___init__ => k_is)
    (case sc2_Copy___init__ => rfl)
    (case sc3_Copy___init__ => rfl)
    (case sc4_Copy___init__ => k_is)
    (case sc5_Copy___init__ => k_is)
    (case sc6_Copy => k_is)
    (case sc7_Copy => ks_is)
    (case mk_Read => k_is)
    (case kc_Read => k_is)
    (case mi_Read => k_is)
    (case mf_Assign___init__ => k_is)
    (case n_Write_value => k_is)
    (case mk_Write => k_is)
    (case kc_Write => k_is)
    (case mi_Write => k_is)
    (case mf_Write___init__ => k_is)
    (case l_Write___init__ => k_is)
    (case c_Write___init__ => k_is)
    (case k_Write___init__ => k_is)
    (case a__law_made => k_is)
    (case l__law_made => k_is)
    (case c__law_made => k_is)
    (case k__law_made => k_is)
    (case cd_PlaceError => k_is)
    (case ct_PlaceError => k_is)
    (case eC_PlaceError => k_is)
    (case is_NoName_PlaceError => k_is)
    (case is_NoValue_PlaceError => k_is)
    (case is_NoText_PlaceError => k_is)
    (case is_NoOperator_PlaceError => k_is)
    (case xno_NoText_value => k_is)
    (case pa_Set_words => k_is)
    (case pg_Set_words => k_is)
    (case pt_Set_words => k_is)
    (case pr_Set_words_ => k_is)
    (case pa_Copy_words => k_is)
    (case pg_Copy_words => k_is)
    (case pt_Copy_words => k_is)
    (case pr_Copy_words_ => k_is)
    (case pa_Read_words => k_is)
    (case pg_Read_words => k_is)
    (case pt_Read_words => k_is)
    (case pr_Read_words_ => k_is)
    (case pa_Write_words => k_is)
    (case pg_Write_words => k_is)
    (case pt_Write_words => k_is)
    (case pr_Write_words_ => k_is)
    (case co_Set_WORD => k_is)
    (case cg_Set_WORD => k_is)
    (case co_Copy_WORD => k_is)
    (case cg_Copy_WORD => k_is)
    (case co_Read_WORD => k_is)
    (case cg_Read_WORD => k_is)
    (case co_Write_WORD => k_is)
    (case cg_Write_WORD => k_is)
    (case pa_Set_text => k_is)
    (case pg_Statement_text => k_is)
    (case pt_Statement_text => k_is)
    (case pr_Statement_text_ => k_is)
    (case pa_Copy_text => k_is)
    (case pa_Read_text => k_is)
    (case pa_Write_text => k_is)
    (case a__law_told => k_is)
    (case l__law_told => k_is)
    (case c__law_told => k_is)
    (case k__law_told => k_is)
    (case z_tuple => k_is)
    (case z_repr => k_is)
    (case a__law_alike => k_is)
    (case l__law_alike => k_is)
    (case c__law_alike => k_is)
    (case k__law_alike => k_is)
    (case z_dict => k_is)
    (case a__law_held => k_is)
    (case l__law_held => k_is)
    (case c__law_held => k_is)
    (case k__law_held => k_is)
    (case a__law_great_refused => k_is)
    (case l__law_great_refused => k_is)
    (case c__law_great_refused => k_is)
    (case k__law_great_refused => k_is)
    (case a_law => k_is)
    (case l_law => k_is)
    (case c_law => k_is)
    (case k_law => k_is)
    (case tl_Statement_OPERATORS => k_is)
    (case l_Assign___init__ => k_is)
    (case c_Assign___init__ => k_is)
    (case k_Assign___init__ => k_is)
    (case l_Set_words => k_is)
    (case c_Set_words => k_is)
    (case k_Set_words => k_is)
    (case l_Copy_words => k_is)
    (case c_Copy_words => k_is)
    (case k_Copy_words => k_is)
    (case l_Read_words => k_is)
    (case c_Read_words => k_is)
    (case k_Read_words => k_is)
    (case l_Write_words => k_is)
    (case c_Write_words => k_is)
    (case k_Write_words => k_is)
    (case l_Statement_text => k_is)
    (case c_Statement_text => k_is)
    (case k_Statement_text => k_is)
